/- Contracts and laws for the proof, joined by a program. No condition. -/
import Derived.Test.YtgljffachdhigaaGreatDoorM4
set_option linter.all false
section
namespace Go.Proofs.YtgljffachdhigaaGreatDoor
open Go Go.TM Go.Proofs Go.TM.Rv
attribute [local irreducible] T.wp CV FWK
def IntsV (l : List Int) : Array Value := (l.map (Value.int .i64)).toArray
theorem intsV_size (l : List Int) : (IntsV l).size = l.length := by simp [IntsV]
theorem intsV_set (l : List Int) (j : Nat) (v : Int) : (IntsV l).setIfInBounds j (.int .i64 v) = IntsV (l.set j v) := by
 unfold IntsV
 rw [List.setIfInBounds_toArray, List.map_set]
theorem intsV_at {l : List Int} {j : Nat} {v : Int} (h : l[j]? = some v) : (IntsV l)[j]? = some (.int .i64 v) := by simp [IntsV, h]
theorem ints_cell {h : Cells} {r j : Nat} {el : TypeId} {l : List Int} {m : Bool} {v : Int} (hr : h r = some (m, .cells (IntsV l) el (0, 0))) (hv : l[j]? = some v) : h.cell? (Addr.add ⟨r, 0, none⟩ j) = some (.int .i64 v) := by
 rw [add_plain, Nat.zero_add]
 unfold Cells.cell?
 rw [hr]
 exact intsV_at hv
theorem ints_of {cs : Array Value} {n : Nat} (h1 : cs.size = n) (h2 : ∀ j, j < n -> cs[j]? = some (.int .i64 0)) : cs = IntsV (List.replicate n 0) := by
 refine Array.ext_getElem? fun j => ?_
 by_cases e : j < n
 ·rw [h2 j e, intsV_at]
  rw [List.getElem?_replicate, if_pos e]
 ·rw [Array.getElem?_eq_none (by omega), Array.getElem?_eq_none (by rw [intsV_size, List.length_replicate]; omega)]
def encS (s : List Bool) : Value := .agg (BoolsV s)
theorem encS_inj : ∀ a b, encS a = encS b -> a = b := by
 intro a b h
 have h1 : a.map Value.bool = b.map Value.bool := agg_inj.1 h
 have key : ∀ a b : List Bool, a.map Value.bool = b.map Value.bool -> a = b := by
  intro a
  induction a with
  | nil => intro b h; cases b with
   | nil => rfl
   | cons x b => cases h
  | cons x a ih =>
   intro b h
   cases b with
   | nil => cases h
   | cons y b =>
    rw [List.map_cons, List.map_cons] at h
    injection h with h1 h2
    injection h1 with h1
    rw [h1, ih b h2]
 exact key a b h1
theorem und1182 : Tryz.prog.underlying 128 = some (.array 6 4) := by kernel_rfl
theorem undBo : Tryz.prog.underlying 4 = some .bool := by kernel_rfl
theorem und1208 : Tryz.prog.underlying 161 = some (.map 128 3) := by kernel_rfl
theorem infBo : (Tryz.prog.info? 4).map (fun i => (i.size, i.bytes, i.zero)) = some (1, 1, some (.bool false)) := by kernel_rfl
theorem eg1182 : Tryz.prog.eqGuardType Tryz.prog.depth 128 = false := by kernel_rfl
theorem flatS {s : List Bool} (h : s.length = 6) : FlatAgg Tryz.prog 128 (s.map Value.bool) := by
 obtain ⟨inf, g1, g2, _, _⟩ := info_of infBo
 exact .arr 6 4 inf und1182 g1 g2 (by rw [List.length_map, h]) fun v hv => by
  obtain ⟨b, _, rfl⟩ := List.mem_map.1 hv
  exact .inr (.inl ⟨undBo, b, rfl⟩)
theorem keyS6 {s : List Bool} (h : s.length = 6) : FKey Tryz.prog 128 (encS s) := .inr ⟨s.map Value.bool, rfl, flatS h⟩
theorem six_of {s : List Bool} (h : s.length = 6) : ∃ s0 s1 s2 s3 s4 s5, s = [s0, s1, s2, s3, s4, s5] := by
 match s, h with
 | [a, b, c, d, e, f], _ => exact ⟨a, b, c, d, e, f, rfl⟩
theorem say_any {h : LH} (v w : Int) : FW X0 Tryz.prog 95 #[.int .i64 v, .int .i64 w] h fun r h' => h = h' /\ ∃ z, r = .int .i64 z := by
 refine w3176 _ _ X0_ok ?_
 unfold n3176
 refine t_cond (fun _ => t_ret ⟨rfl, _, rfl⟩) (fun _ => ?_)
 exact t_cond (fun _ => t_ret ⟨rfl, _, rfl⟩) (fun _ => t_ret ⟨rfl, _, rfl⟩)
def manyT (L : List RvRun) (k : List Bool) : Int := (L.countP fun x => decide (x.s = k) : Nat)
theorem many_next (L : List RvRun) (x : RvRun) : updK (manyT L) x.s (manyT L x.s + 1) = manyT (L ++ [x]) := by
 funext k
 unfold updK manyT
 rw [List.countP_append, List.countP_cons, List.countP_nil]
 by_cases e : k = x.s
 ·subst e; simp
 ·rw [if_neg e, if_neg (by simpa using fun hh : x.s = k => e hh.symm)]; simp
theorem many_none {L : List RvRun} {ks : List (List Bool)} (h : ∀ x ∈ L, x.s ∈ ks) {k : List Bool} (hk : k ∉ ks) : manyT L k = 0 := by
 unfold manyT
 rw [List.countP_eq_zero.2]
 ·rfl
 ·intro x hx e
  have e : x.s = k := by simpa using e
  exact hk (e ▸ h x hx)
theorem many_le {b : RvBook} (h5 : b.cases.length <= 5) {L1 s : List RvRun} (h : allRuns b = L1 ++ s) : L1.length <= 3125 := by
 have := all_len h5
 rw [h, List.length_append] at this
 omega
structure Went (h : LH) (m rw_ n : Nat) (L1 : List RvRun) (h' : LH) : Prop where
 le : h.le h'
 map : ∃ es c ks, h'.get m = some (true, .map es c) /\ MapK encS es c ks (manyT L1) /\ (∀ k ∈ ks, k.length = 6) /\ ∀ x ∈ L1, x.s ∈ ks
 won : ∃ ws, h'.get rw_ = some (true, .cells (IntsV ws) 3 (0, 0)) /\ ws.length = n
theorem went_put {h h1 : LH} {m r n c1 c2 : Nat} {es1 es2 : Array MapEntry} {L1 : List RvRun} {x : RvRun} {ks ks' : List (List Bool)} (hm0 : h.get m = none) (hmr : r ≠ m) (w : Went h m r n L1 h1) (hks : ∀ y, y ∈ ks' ↔ y = x.s \/ y ∈ ks) (h6 : ∀ k ∈ ks, k.length = 6) (hx6 : x.s.length = 6) (hin : ∀ y ∈ L1, y.s ∈ ks) (M : MapK encS es2 c2 ks' (updK (manyT L1) x.s (manyT L1 x.s + 1))) :
  Went h m r n (L1 ++ [x]) { h1 with get := (h1.get.upd m (true, .map es1 c1)).upd m (true, .map es2 c2) } := by
 have l1 := le_updNew0 (x := (true, .map es1 c1)) w.le hm0
 have l2 := le_updNew0 (x := (true, .map es2 c2)) l1 hm0
 rw [many_next] at M
 refine ⟨l2, ⟨es2, c2, ks', Cells.upd_self _ _ _, M, fun k hk => ?_, fun y hy => ?_⟩, ?_⟩
 ·rcases (hks k).1 hk with rfl | hk
  ·exact hx6
  ·exact h6 k hk
 ·rcases List.mem_append.1 hy with hy | hy
  ·exact (hks _).2 (.inr (hin y hy))
  ·rw [List.mem_singleton] at hy
   subst hy
   exact (hks _).2 (.inl rfl)
 ·obtain ⟨ws, h2, h3⟩ := w.won
  refine ⟨ws, ?_, h3⟩
  show ((h1.get.upd m _).upd m _) r = _
  rw [Cells.upd_ne _ _ hmr, Cells.upd_ne _ _ hmr]
  exact h2
def weigh (r : Nat) (e : MapEntry) : Int := match e.key, e.val with
 | .agg cs, .int _ v => match cs[r]? with | some (.bool true) => v | _ => 0
 | _, _ => 0
theorem weigh_is {r : Nat} {e : MapEntry} {k : List Bool} {v : Int} (hk : e.key = encS k) (hv : e.val = .int .i64 v) : weigh r e = if k.getD r false then v else 0 := by
 unfold weigh
 rw [hk, hv]
 have : (BoolsV k)[r]? = k[r]?.map Value.bool := by
  unfold BoolsV
  rw [List.getElem?_toArray, List.getElem?_map]
 show (match (BoolsV k)[r]? with | some (Value.bool true) => v | _ => 0) = _
 rw [this, List.getD_eq_getElem?_getD]
 cases k[r]? with
 | none => rfl
 | some b => cases b <;> rfl
theorem weigh_sum {r c : Nat} {es : Array MapEntry} {ks : List (List Bool)} {L : List RvRun} (M : MapK encS es c ks (manyT L)) (hin : ∀ x ∈ L, x.s ∈ ks) : (es.toList.map (weigh r)).sum = ((L.countP fun x => x.s.getD r false : Nat) : Int) := by
 have h1 : es.toList.map (weigh r) = ks.map fun k => if k.getD r false then manyT L k else 0 := by
  refine List.ext_getElem? fun i => ?_
  rw [List.getElem?_map, List.getElem?_map]
  cases he : es.toList[i]? with
  | none =>
   cases hk : ks[i]? with
   | none => rfl
   | some k => obtain ⟨e, h2, _⟩ := M.of hk; rw [he] at h2; cases h2
  | some e =>
   obtain ⟨k, h2, h3, h4⟩ := M.at he
   rw [h2]
   simp only [Option.map_some, weigh_is h3 h4]
 rw [h1]
 have h2 := count_sum (fun k : List Bool => k.getD r false) M.nodup (L := L.map (·.s)) fun x hx => by
  obtain ⟨y, hy, rfl⟩ := List.mem_map.1 hx
  exact hin y hy
 have h3 : (L.map (·.s)).countP (fun k => k.getD r false) = L.countP fun x => x.s.getD r false := by rw [List.countP_map]; rfl
 rw [<- h3, <- h2]
 congr 1
 refine List.map_congr_left fun k _ => ?_
 have h4 : manyT L k = ((@List.count _ instBEqOfDecidableEq k (L.map (·.s)) : Nat) : Int) := by
  unfold manyT List.count
  rw [List.countP_map]
  rfl
 rw [h4]
theorem set_same {s : List Bool} {r : Nat} (hr : r < s.length) : s = s.set r true ↔ s.getD r false = true := by
 rw [List.getD_eq_getElem?_getD, List.getElem?_eq_getElem hr]
 constructor
 ·intro h
  have := congrArg (fun l => l[r]?) h
  simp only [List.getElem?_set_self hr, List.getElem?_eq_getElem hr, Option.some.injEq] at this
  simpa using this
 ·intro h
  have h : s[r] = true := by simpa using h
  rw [<- h, List.set_getElem_self]
set_option maxRecDepth 20000 in
theorem c3152 {h : LH} {f : BookC} {b : RvBook} (hr : BookR h.get f b) (o : BookShape b) : Gr Tryz.prog 52 #[bookV f] h fun r h' => ∃ p n c q m k, r = .tuple #[.slice p n c, .slice q m k] /\ Sl IntE 1 h'.get p n (fatesT b) := by
 refine w3152 _ _ _ _ _ _ X0_ok ?_
 unfold n3152
 have hn0 := hr.rights.1
 have hn1 := hr.cases.1
 have h5 := o.cases
 have h6 := o.rights
 refine t_makeMap fun m hm0 => ?_
 refine gZ ?_
 have l1 := LH.upd_le (h := h) (x := (true, .map #[] 0)) hm0
 have e1 : (h.get.upd m (true, .map #[] 0)) m = some (true, .map #[] 0) := Cells.upd_self _ _ _
 generalize hh1 : ({ h with get := h.get.upd m (true, .map #[] 0) } : LH) = h1 at *
 replace e1 : h1.get m = some (true, .map #[] 0) := by rw [<- hh1]; exact e1
 refine t_makeSlice und50 inf3 rfl (by decide) (by omega) fun r cs hr1 hcs hz => ?_
 have hmr : r ≠ m := by rintro rfl; rw [e1] at hr1; cases hr1
 have hr0 : h.get r = none := none_le l1 hr1
 have e2 := ints_of hcs hz
 subst e2
 have l2 := LH.upd_le (h := h1) (x := (true, .cells (IntsV (List.replicate f.n1 0)) 3 (0, 0))) hr1
 have e3 : (h1.get.upd r (true, .cells (IntsV (List.replicate f.n1 0)) 3 (0, 0))) r = some (true, .cells (IntsV (List.replicate f.n1 0)) 3 (0, 0)) := Cells.upd_self _ _ _
 generalize hh2 : ({ h1 with get := h1.get.upd r (true, .cells (IntsV (List.replicate f.n1 0)) 3 (0, 0)) } : LH) = h2 at *
 replace e3 : h2.get r = some (true, .cells (IntsV (List.replicate f.n1 0)) 3 (0, 0)) := by rw [<- hh2]; exact e3
 have l02 := LH.le_trans l1 l2
 have w0 : Went h m r f.n1 [] h2 := ⟨l02, ⟨#[], 0, [], l2.1 _ _ e1, MapK.nil, (by intro k hk; cases hk), (by intro x hx; cases hx)⟩, ⟨_, e3, List.length_replicate⟩⟩
 refine gZ ?_
 refine t_call (FW.top (c3175 f)) ?_
 rintro _ _ ⟨rb, hrb, rfl, rfl⟩
 have hrb0 : h.get rb = none := none_le l02 hrb
 refine t_eachF (fun s => s.length) next_less rfl (disj_oneC hrb) l02 (hands3196 hr o hrb0)
  (fun s vs h' => ∃ L1, allRuns b = L1 ++ s /\ vs = [.int .i64 (L1.length : Int)] /\ Went h m r f.n1 L1 h') ⟨[], rfl, rfl, w0⟩ ?_ ?_
 ·rintro s vs h3 rfl hle ⟨L1, hL, rfl, w⟩
  rw [List.append_nil] at hL
  subst hL
  obtain ⟨es, c0, ks, g1, M, hk6, hin⟩ := w.map
  have hal := all_len h5
  have hnn : ∀ i, ∀ e ∈ es.toList, 0 <= weigh i e := fun i e he => by
   obtain ⟨k, _, h2, h3⟩ := M.mem he
   rw [weigh_is h2 h3]
   unfold manyT
   split <;> omega
  refine gZ ?_
  refine t_loop (fun mm vs h' => h3.le h' /\ ∃ (i : Nat) (p : Option Addr) (n c : Nat), vs = [.slice p n c, .int .i64 i] /\ i <= f.n0 /\ mm = f.n0 - i /\ Growing IntEnc 56 1 h3.get h'.get p n c ((fatesT b).take i))
   ⟨LH.le_refl _, 0, none, 0, 0, rfl, Nat.zero_le _, rfl, Growing.nil⟩ ?_
  rintro Y mm vs h4 hY ⟨le4, i, p, n, c, rfl, hi, rfl, gr⟩
  have hng := gr.count IntEnc.len (by omega)
  rw [List.length_take] at hng
  refine gZ ?_
  refine t_if (fun e1 => ?_) (fun e1 => ?_)
  ·have hi6 : i < 6 := by omega
   have hin6 : 0 <= (i : Int) /\ (i : Int) < ((6 : Nat) : Int) := by omega
   have htot := weigh_sum (r := i) M hin
   have hct := List.countP_le_length (p := fun x : RvRun => x.s.getD i false) (l := allRuns b)
   refine t_range und1208 (le4.1 _ _ g1) fun it hit => ?_
   have l5 := LH.upd_le (h := h4) (x := (true, .mapIter (some m) c0 #[] c0)) hit
   refine gZ ?_
   refine t_loop (fun mm vs h' => h4.le h' /\ ∃ seen, vs = [.int .i64 (sumSeen (weigh i) es seen)] /\ mm = unseen es seen /\ h'.get it = some (true, .mapIter (some m) c0 seen c0)) ⟨l5, #[], by rw [sum_none], rfl, Cells.upd_self _ _ _⟩ ?_
   rintro Y2 mm vs h5' hY2 ⟨le5, seen, rfl, rfl, e5⟩
   refine gZ ?_
   refine t_next e5 (le5.1 _ _ (le4.1 _ _ g1)) M.lt (fun hall => ?_) (fun e he hb => ?_)
   ·refine gZ ?_
    refine t_cond (fun e => by cases e) (fun _ => ?_)
    refine gZ ?_
    rw [sum_all hall, htot]
    refine t_pu (c3176 _ _) ?_
    refine gZ ?_
    refine t_pushS (h₀ := h3) (gr.le le5.1) (LH.le_trans le4 le5) (by omega) fun p' c' h6' le6 gr' => ?_
    have hf : (fatesT b)[i]? = some (fateT b i) := by
     unfold fatesT
     rw [List.getElem?_map, List.getElem?_range (by omega)]; rfl
    refine t_again (hY (f.n0 - (i + 1)) _ _ (by omega) ⟨le6, i + 1, p', n + 1, c', ?_, by omega, rfl, ?_⟩)
    ·rw [wrap_id (by omega) (by omega)]; rfl
    ·rw [List.take_add_one, hf]
     exact gr'
   ·obtain ⟨k, hk, hek, hev⟩ := M.mem he
    have hkl := hk6 k hk
    obtain ⟨k0, k1, k2, k3, k4, k5, hks⟩ := six_of hkl
    have l6 := le_updNew0 (x := (true, .mapIter (some m) c0 (seen.push e.born) c0)) le5 hit
    have e6 : (h5'.get.upd it (true, .mapIter (some m) c0 (seen.push e.born) c0)) it = some (true, .mapIter (some m) c0 (seen.push e.born) c0) := Cells.upd_self _ _ _
    generalize hh6 : ({ h5' with get := h5'.get.upd it (true, .mapIter (some m) c0 (seen.push e.born) c0) } : LH) = h6' at *
    replace e6 : h6'.get it = some (true, .mapIter (some m) c0 (seen.push e.born) c0) := by rw [<- hh6]; exact e6
    have hekv : e.key = .agg #[.bool k0, .bool k1, .bool k2, .bool k3, .bool k4, .bool k5] := by rw [hek, hks]; rfl
    refine gZ ?_
    refine t_cond (fun _ => ?_) (fun e => by cases e)
    refine gZ ?_
    refine t_entry (m := m) (c := c0) e6 (l6.1 _ _ (le4.1 _ _ g1)) he M.born ?_
    rw [hekv, hev]
    refine gZ ?_
    refine t_new fun r2 hr2 => ?_
    have l7 := LH.upd_le (h := h6') (x := (true, .cells #[.bool false, .bool false, .bool false, .bool false, .bool false, .bool false] 128 (0, 0))) hr2
    have z0 : (h6'.get.upd r2 (true, .cells #[.bool false, .bool false, .bool false, .bool false, .bool false, .bool false] 128 (0, 0))) r2 = some (true, .cells #[.bool false, .bool false, .bool false, .bool false, .bool false, .bool false] 128 (0, 0)) := Cells.upd_self _ _ _
    generalize hh7 : ({ h6' with get := h6'.get.upd r2 (true, .cells #[.bool false, .bool false, .bool false, .bool false, .bool false, .bool false] 128 (0, 0)) } : LH) = h7' at *
    replace z0 : h7'.get r2 = some (true, .cells #[.bool false, .bool false, .bool false, .bool false, .bool false, .bool false] 128 (0, 0)) := by rw [<- hh7]; exact z0
    have hri : r2 ≠ it := by rintro rfl; rw [e6] at hr2; cases hr2
    refine t_storeC (j := 0) (by rw [add_plain]) z0 (by show 0 < 6; omega) rfl fun a1 t1 z1 => ?_
    refine t_storeC (j := 1) (by rw [add_plain]) z1 (by show 1 < 6; omega) rfl fun a2 t2 z2 => ?_
    refine t_storeC (j := 2) (by rw [add_plain]) z2 (by show 2 < 6; omega) rfl fun a3 t3 z3 => ?_
    refine t_storeC (j := 3) (by rw [add_plain]) z3 (by show 3 < 6; omega) rfl fun a4 t4 z4 => ?_
    refine t_storeC (j := 4) (by rw [add_plain]) z4 (by show 4 < 6; omega) rfl fun a5 t5 z5 => ?_
    refine t_storeC (j := 5) (by rw [add_plain]) z5 (by show 5 < 6; omega) rfl fun a6 t6 z6 => ?_
    have z6' : a6.get r2 = some (true, .cells (BoolsV k) 128 (0, 0)) := by rw [hks]; exact z6
    refine gZ ?_
    refine t_storeC (j := i) (by rw [add_plain, add_plain]; simp) z6' (by rw [boolsV_size]; omega) rfl fun a7 t7 z7 => ?_
    rw [boolsV_set] at z7
    obtain ⟨u0, u1, u2, u3, u4, u5, hus⟩ := six_of (s := k.set i true) (by rw [List.length_set]; exact hkl)
    have v0 := bools_cell (j := 0) (b := u0) z7 (by rw [hus]; rfl)
    have v1 := bools_cell (j := 1) (b := u1) z7 (by rw [hus]; rfl)
    have v2 := bools_cell (j := 2) (b := u2) z7 (by rw [hus]; rfl)
    have v3 := bools_cell (j := 3) (b := u3) z7 (by rw [hus]; rfl)
    have v4 := bools_cell (j := 4) (b := u4) z7 (by rw [hus]; rfl)
    have v5 := bools_cell (j := 5) (b := u5) z7 (by rw [hus]; rfl)
    have tt := t1.trans (t2.trans (t3.trans (t4.trans (t5.trans (t6.trans t7)))))
    have hr25 : h4.get r2 = none := none_le l6 hr2
    have l8 : h4.le a7 := tt.le (LH.le_trans l6 l7) hr25
    have e8 : a7.get it = some (true, .mapIter (some m) c0 (seen.push e.born) c0) := by
     rw [tt.keep _ hri.symm, <- hh7]
     show h6'.get.upd r2 _ it = _
     rw [Cells.upd_ne _ _ hri.symm]
     exact e6
    refine gZ ?_
    have hstep := sum_step (W := weigh i) M.born he hb
    have hw := weigh_is (r := i) hek hev
    have hS := sum_filter (p := fun x => seen.toList.contains x.born) (hnn i)
    have hS2 := sum_filter (p := fun x => (seen.push e.born).toList.contains x.born) (hnn i)
    have hnext : ∀ v, v = weigh i e -> Y2 [.int .i64 (sumSeen (weigh i) es seen + v)] a7 := fun v hv => by
     refine hY2 _ _ _ (unseen_less he hb) ⟨l8, seen.push e.born, ?_, rfl, e8⟩
     rw [hstep, hv]
    have hset := set_same (s := k) (r := i) (by omega)
    refine t_eqK (ys := [.bool k0, .bool k1, .bool k2, .bool k3, .bool k4, .bool k5]) (bs := [.bool u0, .bool u1, .bool u2, .bool u3, .bool u4, .bool u5]) (flatS (s := [k0, k1, k2, k3, k4, k5]) rfl) (flatS (s := [u0, u1, u2, u3, u4, u5]) rfl) eg1182 fun cb hcb => ?_
    have hcb' : cb = true ↔ k.getD i false = true := by
     rw [hcb, <- hset, hus, hks]
     simp
    refine gZ ?_
    refine t_cond (fun q => ?_) (fun q => ?_)
    ·have := hcb'.1 q
     rw [if_pos this] at hw
     have hsum := hS2.2
     unfold sumSeen at hstep
     rw [hstep, hw, htot] at hsum
     have hfw : IntKind.wrap .i64 (sumSeen (weigh i) es seen + manyT (allRuns b) k) = sumSeen (weigh i) es seen + manyT (allRuns b) k := by
      have h1 := hS.1
      unfold sumSeen
      refine wrap_id ?_ ?_
      ·unfold manyT; omega
      ·omega
     rw [hfw]
     exact t_again (hnext _ hw.symm)
    ·have hne : ¬ k.getD i false = true := fun hh => by rw [hcb'.2 hh] at q; cases q
     rw [if_neg hne] at hw
     have := hnext 0 hw.symm
     rw [Int.add_zero] at this
     exact t_again this
  ·have hT : (fatesT b).take i = fatesT b := List.take_of_length_le (by unfold fatesT; rw [List.length_map, List.length_range]; omega)
   rw [hT] at gr
   have hfl : (fatesT b).length = b.rights.length := by unfold fatesT; rw [List.length_map, List.length_range]
   obtain ⟨ws, g2, hws⟩ := w.won
   refine gZ ?_
   refine t_loop (fun mm vs h' => h4.le h' /\ ∃ (j : Nat) (p : Option Addr) (n c : Nat) (l : List Int), vs = [.slice p n c, .int .i64 j] /\ j <= f.n1 /\ mm = f.n1 - j /\ l.length = j /\ Growing IntEnc 56 1 h4.get h'.get p n c l)
    ⟨LH.le_refl _, 0, none, 0, 0, [], rfl, Nat.zero_le _, rfl, rfl, Growing.nil⟩ ?_
   rintro Y2 mm vs h5' hY2 ⟨le5, j, p2, n2, c2, l, rfl, hj, rfl, hl, gr2⟩
   have hng2 := gr2.count IntEnc.len (by omega)
   refine gZ ?_
   refine t_if (fun e2 => ?_) (fun e2 => ?_)
   ·have hlt : j < ws.length := by omega
    have hv := List.getElem?_eq_getElem hlt
    generalize ws[j] = wv at hv
    have hcell := ints_cell (le5.1 _ _ (le4.1 _ _ g2)) hv
    have hin2 : 0 <= (j : Int) /\ (j : Int) < (f.n1 : Int) := by omega
    have hcell' : h5'.get.cell? (Addr.add { block := r, off := 0 } (Int.toNat (j : Int) * 1)) = some (.int .i64 wv) := by rw [Int.toNat_natCast, Nat.mul_one]; exact hcell
    refine gZ ?_
    refine t_call (FW.top (say_any _ _)) ?_
    rintro _ _ ⟨rfl, z, rfl⟩
    refine gZ ?_
    refine t_pushS (h₀ := h4) gr2 le5 (by omega) fun p' c' h6' le6 gr' => ?_
    refine t_again (hY2 (f.n1 - (j + 1)) _ _ (by omega) ⟨le6, j + 1, p', n2 + 1, c', l ++ [z], ?_, by omega, rfl, by simp [hl], gr'⟩)
    rw [wrap_id (by omega) (by omega)]; rfl
   ·refine gZ ?_
    exact t_ret ⟨LH.le_trans w.le (LH.le_trans le4 le5), p, n, c, p2, n2, c2, rfl, (gr.le le5.1).sl IntEnc.len (by omega) IntEnc.e (by omega)⟩
 ·rintro s xs s' vs h3 ⟨x, p, n, c, rfl, rfl⟩ hle ⟨L1, hL, rfl, w⟩ Y hY
  have hL5 := many_le h5 hL
  have hx6 := all_s b x (by rw [hL]; simp)
  obtain ⟨s0, s1, s2, s3, s4, s5, hs⟩ := six_of hx6
  rw [show runV p n c x.s x.won = .agg #[.slice p n c, .bool s0, .bool s1, .bool s2, .bool s3, .bool s4, .bool s5, .int .i64 (x.won : Int)] by rw [hs]; rfl]
  refine gZ ?_
  obtain ⟨es, c0, ks, g1, M, hk6, hin⟩ := w.map
  have hcnt : 0 <= manyT L1 x.s /\ manyT L1 x.s <= 3125 := by
   unfold manyT
   have := List.countP_le_length (p := fun y : RvRun => decide (y.s = x.s)) (l := L1)
   omega
  have hke : (.agg #[.bool s0, .bool s1, .bool s2, .bool s3, .bool s4, .bool s5] : Value) = encS x.s := by rw [hs]; rfl
  have hkf : ∀ y, y = x.s \/ y ∈ ks -> FKey Tryz.prog 128 (encS y) := fun y hy => keyS6 (by rcases hy with rfl | hy; exact hx6; exact hk6 y hy)
  have hw1 : IntKind.wrap .i64 (manyT L1 x.s + 1) = manyT L1 x.s + 1 := wrap_id (by omega) (by omega)
  refine t_blk (fun vs h' => vs = [] /\ Went h m r f.n1 (L1 ++ [x]) h') ?_ ?_
  ·refine t_both ?_ ?_
   ·refine t_mapGet x.s hke encS_inj und1208 inf3 g1 M hkf (fun _ => ?_) (fun hno => ?_)
    all_goals simp only [Bool.false_eq_true, if_false]
    ·refine gZ ?_
     refine t_mapEntry x.s hke encS_inj und1208 inf3 g1 M hkf (fun hno => many_none hin hno) fun es' c' ks' j e M' hks' he hj => ?_
     refine gZ ?_
     rw [hw1]
     refine t_entryStore rfl ?_ M' he hj fun es2 M2 => ?_
     ·exact Cells.upd_self _ _ _
     exact t_again ⟨rfl, went_put hm0 hmr w hks' hk6 hx6 hin M2⟩
    ·have hz := many_none hin hno
     refine gZ ?_
     refine t_mapEntry x.s hke encS_inj und1208 inf3 g1 M hkf (fun hno => many_none hin hno) fun es' c' ks' j e M' hks' he hj => ?_
     refine gZ ?_
     rw [<- hz, hw1]
     refine t_entryStore rfl ?_ M' he hj fun es2 M2 => ?_
     ·exact Cells.upd_self _ _ _
     exact t_again ⟨rfl, went_put hm0 hmr w hks' hk6 hx6 hin M2⟩
   ·refine t_mapEntry x.s hke encS_inj und1208 inf3 g1 M hkf (fun hno => many_none hin hno) fun es' c' ks' j e M' hks' he hj => ?_
    refine gZ ?_
    refine t_mapGet x.s hke encS_inj und1208 inf3 (by exact Cells.upd_self _ _ _) M' (fun y hy => hkf y (by rcases hy with rfl | hy; exact .inl rfl; exact (hks' y).1 hy)) (fun _ => ?_) (fun hno => absurd ((hks' _).2 (.inl rfl)) hno)
    simp only [Bool.false_eq_true, if_false]
    refine gZ ?_
    rw [hw1]
    refine t_entryStore rfl ?_ M' he hj fun es2 M2 => ?_
    ·exact Cells.upd_self _ _ _
    exact t_again ⟨rfl, went_put hm0 hmr w hks' hk6 hx6 hin M2⟩
  rintro vs h4 ⟨rfl, w4⟩
  refine gZ ?_
  refine t_loop (fun mm vs h' => Went h m r f.n1 (L1 ++ [x]) h' /\ ∃ i : Nat, vs = [.int .i64 i] /\ i <= f.n1 /\ mm = f.n1 - i) ⟨w4, 0, rfl, Nat.zero_le _, rfl⟩ ?_
  rintro Y2 mm vs h5' hY2 ⟨w5, i, rfl, hi, rfl⟩
  refine gZ ?_
  refine t_if (fun e1 => ?_) (fun e1 => ?_)
  ·obtain ⟨ws, g2, hws⟩ := w5.won
   have hlt : i < ws.length := by omega
   have hv := List.getElem?_eq_getElem hlt
   generalize ws[i] = wv at hv
   have hcell := ints_cell g2 hv
   have hin2 : 0 <= (i : Int) /\ (i : Int) < (f.n1 : Int) := by omega
   have hcell' : h5'.get.cell? (Addr.add { block := r, off := 0 } (Int.toNat (i : Int) * 1)) = some (.int .i64 wv) := by rw [Int.toNat_natCast, Nat.mul_one]; exact hcell
   refine gZ ?_
   refine t_storeC (j := i) (by rw [add_plain, add_plain]; simp) g2 (by rw [intsV_size]; omega) rfl fun h6' t6 e6 => ?_
   rw [intsV_set] at e6
   obtain ⟨es', c', ks', q1, q2⟩ := w5.map
   refine t_again (hY2 (f.n1 - (i + 1)) _ _ (by omega) ⟨⟨t6.le w5.le hr0, ⟨es', c', ks', by rw [t6.keep _ hmr.symm]; exact q1, q2⟩, ⟨_, e6, by rw [List.length_set]; exact hws⟩⟩, i + 1, ?_, by omega, rfl⟩)
   rw [wrap_id (by omega) (by omega)]; rfl
  ·refine gZ ?_
   refine t_againE w5.le (hY _ _ w5.le ⟨L1 ++ [x], by rw [hL]; simp, ?_, w5⟩)
   rw [wrap_id (by omega) (by omega), List.length_append]; rfl
end Go.Proofs.YtgljffachdhigaaGreatDoor
end
section
namespace Go.Proofs.YtgljffachdhigaaGreatDoor
open Go Go.TM Go.Proofs
attribute [local irreducible] T.wp CV FWK
theorem t_sliceHigh {P : Program} {X : XP} {Q : Leaf -> LH -> Prop} {h : LH} {K : Value -> T} {t el : TypeId} {s b : Nat} {z : Option Value} {p : Option Addr} {n c i : Nat} (hu : P.underlying t = some (.slice el)) (hi : (P.info? el).map (fun i => (i.size, i.bytes, i.zero)) = some (s, b, z)) (hin : i <= c)
  (hk : (K (.slice p i c)).wp X P Q h) : (T.sem false (Instr.sliceAt t (.slice p n c) none (some (.int .i64 (i : Int))) none) K).wp X P Q h := by
 obtain ⟨inf, g1, g2, _, _⟩ := info_of hi
 refine t_sem (A := fun v h' => v = .slice p i c /\ h' = h.get) ?_ (by rintro v h' ⟨rfl, rfl⟩; exact hk)
 unfold Instr.sliceAt
 simp only [lwp_bind, lwp_underlying hu]
 unfold Instr.slice
 simp only [lwp_bind, lwp_underlying hu]
 unfold Instr.sliceBounds Instr.sliceBound
 simp only [lwp_bind, lwp_pure, asIntOf]
 rw [if_pos (show 0 <= (i : Int) /\ (i : Int) <= (c : Int) by omega)]
 simp only [lwp_pure, lwp_sizeOf g1, Int.toNat_natCast, g2, Nat.zero_mul, Nat.sub_zero]
 have e : (p.map fun x : Addr => x.add 0) = p := by cases p <;> simp [Addr.add]
 rw [e]
 simp
theorem slTake {α : Type} {E : Cells -> Addr -> α -> Prop} {k : Nat} {h : Cells} {p : Option Addr} {n : Nat} {l : List α} (s : Sl E k h p n l) {i : Nat} (hi : i <= n) : Sl E k h p i (l.take i) := by
 have hn := s.1
 refine ⟨by rw [List.length_take]; omega, by rw [List.length_take]; have := s.2.1; omega, fun j x hx => ?_⟩
 rw [List.getElem?_take] at hx
 split at hx
 ·exact s.2.2 j x hx
 ·cases hx
end Go.Proofs.YtgljffachdhigaaGreatDoor
end
section
namespace Go.Proofs.YtgljffachdhigaaGreatDoor
open Go Go.TM Go.Proofs
set_option linter.unusedVariables false
set_option maxRecDepth 100000
variable {X : XP} {h : LH} {A : Value -> LH -> Prop}
noncomputable def n3115 (b_0p : Option Addr) (b_0n b_0c : Nat) (b_1p : Option Addr) (b_1n b_1c : Nat) : T := .blk (bif decide ((↑b_0n : Int) > 40) then .leaf (.retn [.bool true]) else bif decide ((↑b_1n : Int) > 40) then .leaf (.retn [.bool true]) else .leaf (.again [.bool false])) (fun vs => .popB vs fun b vs => .unNil vs (.loop [.int .i64 0, .int .i64 0] (fun vs => .popI .i64 vs fun n vs => .popI .i64 vs fun n_1 vs => .unNil vs (bif decide (n_1 < (↑b_0n : Int)) then .need (0 <= n_1 /\ n_1 < (↑b_0n : Int)) (.someA b_0p fun a => .loadStr (a.add (n_1.toNat * 1)) fun s => .sem false (Builtin.len_ #[9] 3 #[.string s]) fun v => .unI .i64 v fun n_2 => .leaf (.again [.int .i64 (IntKind.wrap .i64 (n + n_2)), .int .i64 (IntKind.wrap .i64 (n_1 + 1))])) else .leaf (.brk [.int .i64 n, .int .i64 n_1]))) (fun vs => .popI .i64 vs fun n vs => .popI .i64 vs fun n_1 vs => .unNil vs (.loop [.bool b, .int .i64 n, .int .i64 0] (fun vs => .popB vs fun b vs => .popI .i64 vs fun n vs => .popI .i64 vs fun n_2 vs => .unNil vs (bif decide (n_2 < (↑b_1n : Int)) then .need (0 <= n_2 /\ n_2 < (↑b_1n : Int)) (.someA b_1p fun a => .loadStr ((a.add (n_2.toNat * 4)).add 0) fun s => .loadI .i64 ((a.add (n_2.toNat * 4)).add 1) fun n_3 => .loadS ((a.add (n_2.toNat * 4)).add 2) fun p n_4 c => .loadS ((a.add (n_2.toNat * 4)).add 3) fun p_1 n_5 c => .blk (bif decide ((↑n_4 : Int) > 40) then .leaf (.retn [.bool true]) else bif decide ((↑n_5 : Int) > 40) then .leaf (.retn [.bool true]) else .leaf (.again [.bool b])) (fun vs => .popB vs fun b vs => .unNil vs (.loop [.bool b, .int .i64 0] (fun vs => .popB vs fun b vs => .popI .i64 vs fun n vs => .unNil vs (bif decide (n < (↑n_4 : Int)) then .need (0 <= n /\ n < (↑n_4 : Int)) (.someA p fun a => .loadS (a.add (n.toNat * 1)) fun p n_6 c => bif decide ((↑n_6 : Int) > 40) then .leaf (.retn [.bool true, .int .i64 n]) else .leaf (.again [.bool b, .int .i64 (IntKind.wrap .i64 (n + 1))])) else .leaf (.brk [.bool b, .int .i64 n]))) (fun vs => .popB vs fun b vs => .popI .i64 vs fun n_6 vs => .unNil vs (.sem false (Builtin.len_ #[9] 3 #[.string s]) fun v => .unI .i64 v fun n_7 => .leaf (.again [.bool b, .int .i64 (IntKind.wrap .i64 (n + n_7)), .int .i64 (IntKind.wrap .i64 (n_2 + 1))]))) (fun vs => .popB vs fun b vs => .popI .i64 vs fun n_6 vs => .unNil vs (.leaf (.retn [.bool b, .int .i64 n, .int .i64 n_2]))) fun x x_1 => .fail)) (fun vs => .popB vs fun b vs => .unNil vs (.leaf (.retn [.bool b, .int .i64 n, .int .i64 n_2]))) fun x x_1 => .fail) else .leaf (.brk [.bool b, .int .i64 n, .int .i64 n_2]))) (fun vs => .popB vs fun b vs => .popI .i64 vs fun n vs => .popI .i64 vs fun n_2 vs => .unNil vs (.leaf (.ret (.bool (decide (n > 1000)))))) (fun vs => .popB vs fun b vs => .popI .i64 vs fun n vs => .popI .i64 vs fun n vs => .unNil vs (.leaf (.ret (.bool b)))) fun x x_1 => .fail)) (fun vs => .popI .i64 vs fun n vs => .popI .i64 vs fun n vs => .unNil vs (.leaf (.ret (.bool b)))) fun x x_1 => .fail)) (fun vs => .popB vs fun b vs => .unNil vs (.leaf (.ret (.bool b)))) fun x x_1 => .fail
theorem w3115 (b_0p : Option Addr) (b_0n b_0c : Nat) (b_1p : Option Addr) (b_1n b_1c : Nat) (hX : XOK X) (hw : (n3115 b_0p b_0n b_0c b_1p b_1n b_1c).wp X Tryz.prog (retQ A) h) : FWK X Tryz.prog .normal 6 #[.agg #[.slice b_0p b_0n b_0c, .slice b_1p b_1n b_1c]] h A := fwk_neat (priv := [1, 6]) (loops := [{ id := 0, slots := [(3, .int .i64), (4, .int .i64)], ro := [1], outs := [] }, { id := 4, slots := [(2, .bool), (7, .int .i64)], ro := [1, 6], outs := [] }, { id := 2, slots := [(2, .bool), (3, .int .i64), (5, .int .i64)], ro := [1], outs := [] }]) (joins := [{ id := 14, slots := [(2, .bool)], ro := [1, 6], outs := [] }, { id := 3, slots := [(2, .bool)], ro := [1], outs := [] }]) (fd := Tryz.f6) (by kernel_rfl) (by simp) (by kernel_rfl) (by kernel_rfl) hX hw
noncomputable def n3116 (b_0p : Option Addr) (b_0n b_0c : Nat) (b_1p : Option Addr) (b_1n b_1c : Nat) : T := bif decide ((↑b_0n : Int) > 6) then .leaf (.ret (.int .i64 2)) else .loop [.int .i64 0, .int .i64 0] (fun vs => .popI .i64 vs fun n vs => .popI .i64 vs fun n_1 vs => .unNil vs (bif decide (n_1 < (↑b_0n : Int)) then .need (0 <= n_1 /\ n_1 < (↑b_0n : Int)) (.someA b_0p fun a => .loadStr (a.add (n_1.toNat * 1)) fun s => .call false 28 #[.string s] fun v => .unB v fun b => bif !b then .leaf (.retn [.int .i64 4, .int .i64 n_1]) else .need (0 <= n_1 /\ n_1 < (↑b_0n : Int)) (.someA b_0p fun a => .loadStr (a.add (n_1.toNat * 1)) fun s => .sem false (Instr.sliceAt 33 (.slice b_0p b_0n b_0c) none (some (.int .i64 n_1)) none) fun w => .unS w fun a_1 n_2 c => .loadStr (a.add (n_1.toNat * 1)) fun s_1 => .need (AV.val (.string s_1) = AV.val (.string s)) (.need (0 <= n_1 /\ n_1 < (↑b_0n : Int)) (.someA b_0p fun a_2 => .need (AV.val (.pointer (some (a_2.add (n_1.toNat * 1)))) = AV.val (.pointer (some (a.add (n_1.toNat * 1))))) (.nd (.int .i64 n_1) (.nd (.slice b_0p b_0n b_0c) (.need (AV.pp 1 0 = AV.pp 1 0) (.need (AV.pp 1 0 = AV.pp 1 0) (.call false 29 #[.slice a_1 n_2 c, .string s] fun v => .unI .i64 v fun n_3 => .need (0 <= n_1 /\ n_1 < (↑b_0n : Int)) (.someA b_0p fun a_3 => .need (AV.val (.pointer (some (a_3.add (n_1.toNat * 1)))) = AV.val (.pointer (some (a.add (n_1.toNat * 1))))) (.nd (.int .i64 n_1) (.nd (.slice b_0p b_0n b_0c) (.need (AV.pp 1 0 = AV.pp 1 0) (.need (AV.pp 1 0 = AV.pp 1 0) (bif decide (n_3 >= 0) then .leaf (.retn [.int .i64 5, .int .i64 n_1]) else .leaf (.again [.int .i64 n, .int .i64 (IntKind.wrap .i64 (n_1 + 1))])))))))))))))))) else .leaf (.brk [.int .i64 n, .int .i64 n_1]))) (fun vs => .popI .i64 vs fun n vs => .popI .i64 vs fun n_1 vs => .unNil vs (bif decide ((↑b_1n : Int) > 5) then .leaf (.ret (.int .i64 2)) else .loop [.int .i64 n, .int .i64 0] (fun vs => .popI .i64 vs fun n vs => .popI .i64 vs fun n_2 vs => .unNil vs (bif decide (n_2 < (↑b_1n : Int)) then .call false 30 #[.agg #[.slice b_0p b_0n b_0c, .slice b_1p b_1n b_1c], .int .i64 n_2] fun v => .unI .i64 v fun n_3 => bif n_3 != 0 then .leaf (.retn [.int .i64 n_3, .int .i64 n_2]) else .leaf (.again [.int .i64 n, .int .i64 (IntKind.wrap .i64 (n_2 + 1))]) else .leaf (.brk [.int .i64 n, .int .i64 n_2]))) (fun vs => .popI .i64 vs fun n vs => .popI .i64 vs fun n vs => .unNil vs (.call false 31 #[.agg #[.slice b_0p b_0n b_0c, .slice b_1p b_1n b_1c]] fun v => .unB v fun b => bif b then .leaf (.ret (.int .i64 8)) else .leaf (.ret (.int .i64 0)))) (fun vs => .popI .i64 vs fun n vs => .popI .i64 vs fun n_2 vs => .unNil vs (.leaf (.ret (.int .i64 n)))) fun x x_1 => .fail)) (fun vs => .popI .i64 vs fun n vs => .popI .i64 vs fun n_1 vs => .unNil vs (.leaf (.ret (.int .i64 n)))) fun x x_1 => .fail
theorem w3116 (b_0p : Option Addr) (b_0n b_0c : Nat) (b_1p : Option Addr) (b_1n b_1c : Nat) (hX : XOK X) (hw : (n3116 b_0p b_0n b_0c b_1p b_1n b_1c).wp X Tryz.prog (retQ A) h) : FWK X Tryz.prog .normal 7 #[.agg #[.slice b_0p b_0n b_0c, .slice b_1p b_1n b_1c]] h A := fwk_neat (priv := [1]) (loops := [{ id := 0, slots := [(2, .int .i64), (3, .int .i64)], ro := [1], outs := [] }, { id := 2, slots := [(2, .int .i64), (4, .int .i64)], ro := [1], outs := [] }]) (joins := []) (fd := Tryz.f7) (by kernel_rfl) (by simp) (by kernel_rfl) (by kernel_rfl) hX hw
noncomputable def n3125 (b_0p : Option Addr) (b_0n b_0c : Nat) (b_1p : Option Addr) (b_1n b_1c : Nat) (orderp : Option Addr) (ordern orderc : Nat) : T := bif (↑ordern : Int) != (↑b_1n : Int) then .leaf (.ret (.int .i64 2)) else .loop [.int .i64 0, .int .i64 0] (fun vs => .popI .i64 vs fun n vs => .popI .i64 vs fun n_1 vs => .unNil vs (bif decide (n_1 < (↑ordern : Int)) then .need (0 <= n_1 /\ n_1 < (↑ordern : Int)) (.someA orderp fun a => .loadI .i64 (a.add (n_1.toNat * 1)) fun n_2 => .call false 55 #[.int .i64 n_2, .int .i64 0, .int .i64 (IntKind.wrap .i64 ((↑b_1n : Int) - 1))] fun v => .unB v fun b => .nd (.int .i64 (↑b_1n : Int)) (.nd (.slice b_1p b_1n b_1c) (.need (AV.pp 2 1 = AV.pp 2 1) (.need (0 <= n_1 /\ n_1 < (↑ordern : Int)) (.someA orderp fun a_1 => .need (AV.val (.pointer (some (a_1.add (n_1.toNat * 1)))) = AV.val (.pointer (some (a.add (n_1.toNat * 1))))) (.nd (.int .i64 n_1) (.nd (.slice orderp ordern orderc) (bif !b then .leaf (.retn [.int .i64 6, .int .i64 n_1]) else .need (0 <= n_1 /\ n_1 < (↑ordern : Int)) (.someA orderp fun a => .loadI .i64 (a.add (n_1.toNat * 1)) fun n_3 => .sem false (Instr.sliceAt 30 (.slice orderp ordern orderc) none (some (.int .i64 n_1)) none) fun w => .unS w fun a_2 n_4 c => .loadI .i64 (a.add (n_1.toNat * 1)) fun n_5 => .need (AV.val (.int .i64 n_5) = AV.val (.int .i64 n_3)) (.need (0 <= n_1 /\ n_1 < (↑ordern : Int)) (.someA orderp fun a_3 => .need (AV.val (.pointer (some (a_3.add (n_1.toNat * 1)))) = AV.val (.pointer (some (a.add (n_1.toNat * 1))))) (.nd (.int .i64 n_1) (.nd (.slice orderp ordern orderc) (.call false 16 #[.slice a_2 n_4 c, .int .i64 n_3] fun v => .unB v fun b => .need (0 <= n_1 /\ n_1 < (↑ordern : Int)) (.someA orderp fun a_4 => .need (AV.val (.pointer (some (a_4.add (n_1.toNat * 1)))) = AV.val (.pointer (some (a.add (n_1.toNat * 1))))) (.nd (.int .i64 n_1) (.nd (.slice orderp ordern orderc) (bif b then .leaf (.retn [.int .i64 5, .int .i64 n_1]) else .need (0 <= n_1 /\ n_1 < (↑ordern : Int)) (.someA orderp fun a => .loadI .i64 (a.add (n_1.toNat * 1)) fun n_6 => .need (0 <= n_6 /\ n_6 < (↑b_1n : Int)) (.someA b_1p fun a_5 => .loadS ((a_5.add (n_6.toNat * 4)).add 3) fun p n_7 c => .sem false (Instr.sliceAt 30 (.slice orderp ordern orderc) none (some (.int .i64 n_1)) none) fun w => .unS w fun a_6 n_8 c_1 => .loadS ((a_5.add (n_6.toNat * 4)).add 3) fun p_1 n_9 c_2 => .need (AV.val (.slice p_1 n_9 c_2) = AV.val (.slice p n_7 c)) (.nd (.pointer (some ((a_5.add (n_6.toNat * 4)).add 3))) (.need (0 <= n_6 /\ n_6 < (↑b_1n : Int)) (.someA b_1p fun a_7 => .need (AV.val (.pointer (some (a_7.add (n_6.toNat * 4)))) = AV.val (.pointer (some (a_5.add (n_6.toNat * 4))))) (.loadI .i64 (a.add (n_1.toNat * 1)) fun n_10 => .need (AV.val (.int .i64 n_10) = AV.val (.int .i64 n_6)) (.need (0 <= n_1 /\ n_1 < (↑ordern : Int)) (.someA orderp fun a_8 => .need (AV.val (.pointer (some (a_8.add (n_1.toNat * 1)))) = AV.val (.pointer (some (a.add (n_1.toNat * 1))))) (.nd (.int .i64 n_1) (.nd (.slice orderp ordern orderc) (.nd (.slice b_1p b_1n b_1c) (.need (AV.pp 2 1 = AV.pp 2 1) (.call false 56 #[.slice p n_7 c, .slice a_6 n_8 c_1] fun v => .unB v fun b => .nd (.pointer (some ((a_5.add (n_6.toNat * 4)).add 3))) (.need (0 <= n_6 /\ n_6 < (↑b_1n : Int)) (.someA b_1p fun a_9 => .need (AV.val (.pointer (some (a_9.add (n_6.toNat * 4)))) = AV.val (.pointer (some (a_5.add (n_6.toNat * 4))))) (.loadI .i64 (a.add (n_1.toNat * 1)) fun n_11 => .need (AV.val (.int .i64 n_11) = AV.val (.int .i64 n_6)) (.need (0 <= n_1 /\ n_1 < (↑ordern : Int)) (.someA orderp fun a_10 => .need (AV.val (.pointer (some (a_10.add (n_1.toNat * 1)))) = AV.val (.pointer (some (a.add (n_1.toNat * 1))))) (.nd (.int .i64 n_1) (.nd (.slice orderp ordern orderc) (.nd (.slice b_1p b_1n b_1c) (.need (AV.pp 2 1 = AV.pp 2 1) (bif !b then .leaf (.retn [.int .i64 7, .int .i64 n_1]) else .leaf (.again [.int .i64 n, .int .i64 (IntKind.wrap .i64 (n_1 + 1))])))))))))))))))))))))))))))))))))))))))))) else .leaf (.brk [.int .i64 n, .int .i64 n_1]))) (fun vs => .popI .i64 vs fun n vs => .popI .i64 vs fun n vs => .unNil vs (.leaf (.ret (.int .i64 0)))) (fun vs => .popI .i64 vs fun n vs => .popI .i64 vs fun n_1 vs => .unNil vs (.leaf (.ret (.int .i64 n)))) fun x x_1 => .fail
theorem w3125 (b_0p : Option Addr) (b_0n b_0c : Nat) (b_1p : Option Addr) (b_1n b_1c : Nat) (orderp : Option Addr) (ordern orderc : Nat) (hX : XOK X) (hw : (n3125 b_0p b_0n b_0c b_1p b_1n b_1c orderp ordern orderc).wp X Tryz.prog (retQ A) h) : FWK X Tryz.prog .normal 19 #[.agg #[.slice b_0p b_0n b_0c, .slice b_1p b_1n b_1c], .slice orderp ordern orderc] h A := fwk_neat (priv := [2]) (loops := [{ id := 0, slots := [(4, .int .i64), (5, .int .i64)], ro := [2], outs := [] }]) (joins := []) (fd := Tryz.f19) (by kernel_rfl) (by simp) (by kernel_rfl) (by kernel_rfl) hX hw
noncomputable def n3142 (b_0p : Option Addr) (b_0n b_0c : Nat) (b_1p : Option Addr) (b_1n b_1c : Nat) (i : Int) : T := .need (0 <= i /\ i < (↑b_1n : Int)) (.someA b_1p fun a => .loadStr ((a.add (i.toNat * 4)).add 0) fun s => .loadI .i64 ((a.add (i.toNat * 4)).add 1) fun n => .loadS ((a.add (i.toNat * 4)).add 2) fun p n_1 c => .loadS ((a.add (i.toNat * 4)).add 3) fun p_1 n_2 c_1 => .call false 28 #[.string s] fun v => .unB v fun b => bif !b then .leaf (.ret (.int .i64 4)) else .loop [.int .i64 0, .int .i64 0] (fun vs => .popI .i64 vs fun n vs => .popI .i64 vs fun n_3 vs => .unNil vs (bif decide (n_3 < i) then .need (0 <= n_3 /\ n_3 < (↑b_1n : Int)) (.someA b_1p fun a => .loadStr ((a.add (n_3.toNat * 4)).add 0) fun s_1 => .sem false (Sem.bind (eqGuard BinOp.eql 9 (Operand.tmp 28) (Operand.tmp 30) (.string s_1) (.string s)) fun __r => binOp BinOp.eql 9 (.string s_1) (.string s)) fun v => .unB v fun b => .need (AV.pp 5 0 = AV.pp 5 0) (.nd (.pointer (some ((a.add (n_3.toNat * 4)).add 0))) (.need (0 <= n_3 /\ n_3 < (↑b_1n : Int)) (.someA b_1p fun a_1 => .need (AV.val (.pointer (some (a_1.add (n_3.toNat * 4)))) = AV.val (.pointer (some (a.add (n_3.toNat * 4))))) (.nd (.int .i64 n_3) (.nd (.slice b_1p b_1n b_1c) (.need (AV.pp 2 1 = AV.pp 2 1) (bif b then .leaf (.retn [.int .i64 5, .int .i64 n_3]) else .leaf (.again [.int .i64 n, .int .i64 (IntKind.wrap .i64 (n_3 + 1))]))))))))) else .leaf (.brk [.int .i64 n, .int .i64 n_3]))) (fun vs => .popI .i64 vs fun n_3 vs => .popI .i64 vs fun n_4 vs => .unNil vs (.call false 55 #[.int .i64 n, .int .i64 0, .int .i64 (IntKind.wrap .i64 ((↑b_0n : Int) - 1))] fun v => .unB v fun b => bif !b then .leaf (.ret (.int .i64 6)) else bif decide ((↑n_1 : Int) > 3) then .leaf (.ret (.int .i64 2)) else .loop [.int .i64 n_3, .int .i64 0] (fun vs => .popI .i64 vs fun n vs => .popI .i64 vs fun n_5 vs => .unNil vs (bif decide (n_5 < (↑n_1 : Int)) then .need (0 <= n_5 /\ n_5 < (↑n_1 : Int)) (.someA p fun a => .loadS (a.add (n_5.toNat * 1)) fun p_2 n_6 c_2 => bif decide ((↑n_6 : Int) > 3) then .leaf (.retn [.int .i64 2, .int .i64 n_5]) else .need (0 <= n_5 /\ n_5 < (↑n_1 : Int)) (.someA p fun a => .loadS (a.add (n_5.toNat * 1)) fun p_3 n_7 c_3 => .call false 76 #[.slice p_3 n_7 c_3, .int .i64 (↑b_0n : Int)] fun v => .unI .i64 v fun n_8 => .nd (.slice b_0p b_0n b_0c) (.need (AV.pp 2 0 = AV.pp 2 0) (.need (0 <= n_5 /\ n_5 < (↑n_1 : Int)) (.someA p fun a_1 => .need (AV.val (.pointer (some (a_1.add (n_5.toNat * 1)))) = AV.val (.pointer (some (a.add (n_5.toNat * 1))))) (.nd (.int .i64 n_5) (.nd (.slice p n_1 c) (.need (AV.pp 5 2 = AV.pp 5 2) (bif n_8 != 0 then .leaf (.retn [.int .i64 n_8, .int .i64 n_5]) else .leaf (.again [.int .i64 n, .int .i64 (IntKind.wrap .i64 (n_5 + 1))])))))))))) else .leaf (.brk [.int .i64 n, .int .i64 n_5]))) (fun vs => .popI .i64 vs fun n vs => .popI .i64 vs fun n vs => .unNil vs (.call false 76 #[.slice p_1 n_2 c_1, .int .i64 (↑b_1n : Int)] fun v => .unI .i64 v fun n => .leaf (.ret (.int .i64 n)))) (fun vs => .popI .i64 vs fun n vs => .popI .i64 vs fun n_5 vs => .unNil vs (.leaf (.ret (.int .i64 n)))) fun x x_1 => .fail)) (fun vs => .popI .i64 vs fun n vs => .popI .i64 vs fun n_3 vs => .unNil vs (.leaf (.ret (.int .i64 n)))) fun x x_1 => .fail)
theorem w3142 (b_0p : Option Addr) (b_0n b_0c : Nat) (b_1p : Option Addr) (b_1n b_1c : Nat) (i : Int) (hX : XOK X) (hw : (n3142 b_0p b_0n b_0c b_1p b_1n b_1c i).wp X Tryz.prog (retQ A) h) : FWK X Tryz.prog .normal 30 #[.agg #[.slice b_0p b_0n b_0c, .slice b_1p b_1n b_1c], .int .i64 i] h A := fwk_neat (priv := [2, 5]) (loops := [{ id := 0, slots := [(4, .int .i64), (6, .int .i64)], ro := [2, 5], outs := [] }, { id := 2, slots := [(4, .int .i64), (7, .int .i64)], ro := [2, 5], outs := [] }]) (joins := []) (fd := Tryz.f30) (by kernel_rfl) (by simp) (by kernel_rfl) (by kernel_rfl) hX hw
noncomputable def n3143 (b_0p : Option Addr) (b_0n b_0c : Nat) (b_1p : Option Addr) (b_1n b_1c : Nat) : T := .loop [.bool false, .int .i64 0] (fun vs => .popB vs fun b vs => .popI .i64 vs fun n vs => .unNil vs (bif decide (n < (↑b_1n : Int)) then .call false 77 #[.agg #[.slice b_0p b_0n b_0c, .slice b_1p b_1n b_1c], .int .i64 n, .int .i64 n, .int .i64 (↑b_1n : Int)] fun v => .unB v fun b_1 => bif b_1 then .leaf (.retn [.bool true, .int .i64 n]) else .leaf (.again [.bool b, .int .i64 (IntKind.wrap .i64 (n + 1))]) else .leaf (.brk [.bool b, .int .i64 n]))) (fun vs => .popB vs fun b vs => .popI .i64 vs fun n vs => .unNil vs (.leaf (.ret (.bool false)))) (fun vs => .popB vs fun b vs => .popI .i64 vs fun n vs => .unNil vs (.leaf (.ret (.bool b)))) fun x x_1 => .fail
theorem w3143 (b_0p : Option Addr) (b_0n b_0c : Nat) (b_1p : Option Addr) (b_1n b_1c : Nat) (hX : XOK X) (hw : (n3143 b_0p b_0n b_0c b_1p b_1n b_1c).wp X Tryz.prog (retQ A) h) : FWK X Tryz.prog .normal 31 #[.agg #[.slice b_0p b_0n b_0c, .slice b_1p b_1n b_1c]] h A := fwk_neat (priv := [1]) (loops := [{ id := 0, slots := [(2, .bool), (3, .int .i64)], ro := [1], outs := [] }]) (joins := []) (fd := Tryz.f31) (by kernel_rfl) (by simp) (by kernel_rfl) (by kernel_rfl) hX hw
noncomputable def n3155 (lp : Option Addr) (ln lc : Nat) (in0p : Option Addr) (in0n in0c : Nat) : T := .loop [.bool false, .int .i64 0] (fun vs => .popB vs fun b vs => .popI .i64 vs fun n vs => .unNil vs (bif decide (n < (↑ln : Int)) then .need (0 <= n /\ n < (↑ln : Int)) (.someA lp fun a => .loadI .i64 (a.add (n.toNat * 1)) fun n_1 => .call false 16 #[.slice in0p in0n in0c, .int .i64 n_1] fun v => .unB v fun b_1 => bif !b_1 then .leaf (.retn [.bool false, .int .i64 n]) else .leaf (.again [.bool b, .int .i64 (IntKind.wrap .i64 (n + 1))])) else .leaf (.brk [.bool b, .int .i64 n]))) (fun vs => .popB vs fun b vs => .popI .i64 vs fun n vs => .unNil vs (.leaf (.ret (.bool true)))) (fun vs => .popB vs fun b vs => .popI .i64 vs fun n vs => .unNil vs (.leaf (.ret (.bool b)))) fun x x_1 => .fail
theorem w3155 (lp : Option Addr) (ln lc : Nat) (in0p : Option Addr) (in0n in0c : Nat) (hX : XOK X) (hw : (n3155 lp ln lc in0p in0n in0c).wp X Tryz.prog (retQ A) h) : FWK X Tryz.prog .normal 56 #[.slice lp ln lc, .slice in0p in0n in0c] h A := fwk_neat (priv := []) (loops := [{ id := 0, slots := [(4, .bool), (5, .int .i64)], ro := [], outs := [] }]) (joins := []) (fd := Tryz.f56) (by kernel_rfl) (by simp) (by kernel_rfl) (by kernel_rfl) hX hw
noncomputable def n3169 (lp : Option Addr) (ln lc : Nat) (below : Int) : T := .loop [.int .i64 0, .int .i64 0] (fun vs => .popI .i64 vs fun n vs => .popI .i64 vs fun n_1 vs => .unNil vs (bif decide (n_1 < (↑ln : Int)) then .need (0 <= n_1 /\ n_1 < (↑ln : Int)) (.someA lp fun a => .loadI .i64 (a.add (n_1.toNat * 1)) fun n_2 => .call false 55 #[.int .i64 n_2, .int .i64 0, .int .i64 (IntKind.wrap .i64 (below - 1))] fun v => .unB v fun b => bif !b then .leaf (.retn [.int .i64 6, .int .i64 n_1]) else bif decide (n_1 > 0) then .need (0 <= n_1 /\ n_1 < (↑ln : Int)) (.someA lp fun a => .loadI .i64 (a.add (n_1.toNat * 1)) fun n_3 => .need (0 <= IntKind.wrap .i64 (n_1 - 1) /\ IntKind.wrap .i64 (n_1 - 1) < (↑ln : Int)) (.someA lp fun a => .loadI .i64 (a.add ((IntKind.wrap .i64 (n_1 - 1)).toNat * 1)) fun n_4 => bif decide (n_3 <= n_4) then .leaf (.retn [.int .i64 7, .int .i64 n_1]) else .leaf (.again [.int .i64 n, .int .i64 (IntKind.wrap .i64 (n_1 + 1))]))) else .nd (.tuple #[]) (.nd (.tuple #[]) (.nd (.tuple #[]) (.nd (.tuple #[]) (.nd (.tuple #[]) (.nd (.bool (decide (n_1 > 0))) (.nd (.int .i64 n_1) (.nd (.tuple #[]) (.nd (.tuple #[]) (.nd (.tuple #[]) (.nd (.tuple #[]) (.nd (.tuple #[]) (.nd (.bool (decide (n_1 > 0))) (.nd (.int .i64 n_1) (.leaf (.again [.int .i64 n, .int .i64 (IntKind.wrap .i64 (n_1 + 1))])))))))))))))))) else .leaf (.brk [.int .i64 n, .int .i64 n_1]))) (fun vs => .popI .i64 vs fun n vs => .popI .i64 vs fun n vs => .unNil vs (.leaf (.ret (.int .i64 0)))) (fun vs => .popI .i64 vs fun n vs => .popI .i64 vs fun n_1 vs => .unNil vs (.leaf (.ret (.int .i64 n)))) fun x x_1 => .fail
theorem w3169 (lp : Option Addr) (ln lc : Nat) (below : Int) (hX : XOK X) (hw : (n3169 lp ln lc below).wp X Tryz.prog (retQ A) h) : FWK X Tryz.prog .normal 76 #[.slice lp ln lc, .int .i64 below] h A := fwk_neat (priv := []) (loops := [{ id := 0, slots := [(4, .int .i64), (5, .int .i64)], ro := [], outs := [] }]) (joins := []) (fd := Tryz.f76) (by kernel_rfl) (by simp) (by kernel_rfl) (by kernel_rfl) hX hw
noncomputable def n3170 (b_0p : Option Addr) (b_0n b_0c : Nat) (b_1p : Option Addr) (b_1n b_1c : Nat) (one two steps : Int) : T := .loop [.bool false, .int .i64 0] (fun vs => .popB vs fun b vs => .popI .i64 vs fun n vs => .unNil vs (.blk (.need (0 <= one /\ one < (↑b_1n : Int)) (.someA b_1p fun a => .loadS ((a.add (one.toNat * 4)).add 3) fun p n_1 c => bif decide (n < (↑n_1 : Int)) then bif decide (steps > 0) then .leaf (.again []) else .leaf (.out 0 []) else .leaf (.out 0 []))) (fun vs => .unNil vs (.need (0 <= one /\ one < (↑b_1n : Int)) (.someA b_1p fun a => .loadS ((a.add (one.toNat * 4)).add 3) fun p n_1 c => .need (0 <= n /\ n < (↑n_1 : Int)) (.someA p fun a => .loadI .i64 (a.add (n.toNat * 1)) fun n_2 => bif n_2 == two then .leaf (.retn [.bool true, .int .i64 n]) else .call false 77 #[.agg #[.slice b_0p b_0n b_0c, .slice b_1p b_1n b_1c], .int .i64 n_2, .int .i64 two, .int .i64 (IntKind.wrap .i64 (steps - 1))] fun v => .unB v fun b_1 => bif b_1 then .leaf (.retn [.bool true, .int .i64 n]) else .leaf (.again [.bool b, .int .i64 (IntKind.wrap .i64 (n + 1))]))))) (fun vs => .unNil vs (.leaf (.retn [.bool b, .int .i64 n]))) fun x x_1 => bif Nat.beq x 0 then .unNil x_1 (.leaf (.brk [.bool b, .int .i64 n])) else .fail)) (fun vs => .popB vs fun b vs => .popI .i64 vs fun n vs => .unNil vs (.leaf (.ret (.bool false)))) (fun vs => .popB vs fun b vs => .popI .i64 vs fun n vs => .unNil vs (.leaf (.ret (.bool b)))) fun x x_1 => .fail
theorem w3170 (b_0p : Option Addr) (b_0n b_0c : Nat) (b_1p : Option Addr) (b_1n b_1c : Nat) (one two steps : Int) (hX : XOK X) (hw : (n3170 b_0p b_0n b_0c b_1p b_1n b_1c one two steps).wp X Tryz.prog (retQ A) h) : FWK X Tryz.prog .normal 77 #[.agg #[.slice b_0p b_0n b_0c, .slice b_1p b_1n b_1c], .int .i64 one, .int .i64 two, .int .i64 steps] h A := fwk_neat (priv := [4]) (loops := [{ id := 0, slots := [(8, .bool), (9, .int .i64)], ro := [4], outs := [] }]) (joins := [{ id := 4, slots := [], ro := [4], outs := [0] }]) (fd := Tryz.f77) (by kernel_rfl) (by simp) (by kernel_rfl) (by kernel_rfl) hX hw
end Go.Proofs.YtgljffachdhigaaGreatDoor
end
section
namespace Go.Proofs.YtgljffachdhigaaGreatDoor
open Go Go.TM Go.Proofs
set_option linter.unusedVariables false
set_option maxRecDepth 100000
variable {X : XP} {h : LH} {A : Value -> LH -> Prop}
noncomputable def n3141 (lp : Option Addr) (ln lc : Nat) (s : ByteArray) : T := .loop [.int .i64 0, .int .i64 0] (fun vs => .popI .i64 vs fun n vs => .popI .i64 vs fun n_1 vs => .unNil vs (bif decide (n_1 < (↑ln : Int)) then .need (0 <= n_1 /\ n_1 < (↑ln : Int)) (.someA lp fun a => .loadStr (a.add (n_1.toNat * 1)) fun s_1 => .sem false (Sem.bind (eqGuard BinOp.eql 9 (Operand.tmp 15) (Operand.tmp 16) (.string s_1) (.string s)) fun __r => binOp BinOp.eql 9 (.string s_1) (.string s)) fun v => .unB v fun b => bif b then .leaf (.retn [.int .i64 n_1, .int .i64 n_1]) else .leaf (.again [.int .i64 n, .int .i64 (IntKind.wrap .i64 (n_1 + 1))])) else .leaf (.brk [.int .i64 n, .int .i64 n_1]))) (fun vs => .popI .i64 vs fun n vs => .popI .i64 vs fun n vs => .unNil vs (.leaf (.ret (.int .i64 (-1))))) (fun vs => .popI .i64 vs fun n vs => .popI .i64 vs fun n_1 vs => .unNil vs (.leaf (.ret (.int .i64 n)))) fun x x_1 => .fail
theorem w3141 (lp : Option Addr) (ln lc : Nat) (s : ByteArray) (hX : XOK X) (hw : (n3141 lp ln lc s).wp X Tryz.prog (retQ A) h) : FWK X Tryz.prog .normal 29 #[.slice lp ln lc, .string s] h A := fwk_neat (priv := []) (loops := [{ id := 0, slots := [(4, .int .i64), (5, .int .i64)], ro := [], outs := [] }]) (joins := []) (fd := Tryz.f29) (by kernel_rfl) (by simp) (by kernel_rfl) (by kernel_rfl) hX hw
end Go.Proofs.YtgljffachdhigaaGreatDoor
end
section
namespace Go.Proofs.YtgljffachdhigaaGreatDoor
open Go Go.TM Go.Proofs Go.TM.Rv
attribute [local irreducible] T.wp CV FWK
theorem pw_snoc {l : List Int} {x : Int} (h : l.Pairwise (· < ·)) (hl : ∀ (i : Nat) y, l[i]? = some y -> i + 1 = l.length -> y < x) : (l ++ [x]).Pairwise (· < ·) := by
 rw [List.pairwise_append]
 refine ⟨h, by simp, fun a ha b hb => ?_⟩
 rw [List.mem_singleton] at hb
 subst hb
 obtain ⟨j, hj⟩ := List.mem_iff_getElem?.1 ha
 have hjl := (List.getElem?_eq_some_iff.1 hj).1
 by_cases e : j + 1 = l.length
 ·exact hl j a hj e
 ·have hlast : l.length - 1 < l.length := by omega
  have h1 := List.pairwise_iff_getElem.1 h j (l.length - 1) hjl hlast (by omega)
  have h2 := hl (l.length - 1) _ (List.getElem?_eq_getElem hlast) (by omega)
  have h3 : l[j] = a := (List.getElem?_eq_some_iff.1 hj).2
  omega
theorem isIn_iff {n a b : Int} : isIn n a b = true ↔ a <= n /\ n <= b := by unfold isIn; simp
theorem und33 : Tryz.prog.underlying 33 = some (.slice 9) := by kernel_rfl
theorem inf9 : (Tryz.prog.info? 9).map (fun i => (i.size, i.bytes, i.zero)) = some (1, 16, some (.string ⟨#[]⟩)) := by kernel_rfl
theorem c3115 {h : LH} {f : BookC} {b : RvBook} (hr : BookR h.get f b) : FW X0 Tryz.prog 6 #[bookV f] h fun r h' => h = h' /\ ∃ b, r = .bool b := by
 refine w3115 _ _ _ _ _ _ X0_ok ?_
 unfold n3115
 have hn0 := hr.rights.1
 have hb0 := hr.rights.2.1
 have hn1 := hr.cases.1
 have hb1 := hr.cases.2.1
 refine t_blk (fun vs h' => vs = [.bool false] /\ h = h') ?_ ?_
 ·refine t_if (fun _ => ?_) (fun _ => ?_)
  ·refine gI ?_
   refine gZ ?_
   exact t_ret ⟨rfl, _, rfl⟩
  refine t_if (fun _ => ?_) (fun _ => ?_)
  ·refine gI ?_
   refine gZ ?_
   exact t_ret ⟨rfl, _, rfl⟩
  exact t_again ⟨rfl, rfl⟩
 rintro vs _ ⟨rfl, rfl⟩
 refine gZ ?_
 refine t_loop (fun mm vs h' => h = h' /\ ∃ (i : Nat) (s : Int), vs = [.int .i64 s, .int .i64 i] /\ i <= f.n0 /\ mm = f.n0 - i) ⟨rfl, 0, 0, rfl, Nat.zero_le _, rfl⟩ ?_
 rintro Y mm vs _ hY ⟨rfl, i, s, rfl, hi, rfl⟩
 refine gZ ?_
 refine t_if (fun e1 => ?_) (fun e1 => ?_)
 ·obtain ⟨x, a, hx, ha, e2⟩ := hr.rights.at (i := i) (by omega)
  unfold StrE at e2
  have hin : 0 <= (i : Int) /\ (i : Int) < (f.n0 : Int) := by omega
  refine gZ ?_
  repeat ((first | refine t_loadStr (by assumption) ?_ | refine t_loadV (by assumption) ?_ | refine gL0 (by assumption) ?_); refine gZ ?_)
  refine t_lenStr und9 ?_
  refine gZ ?_
  refine t_again (hY (f.n0 - (i + 1)) _ _ (by omega) ⟨rfl, i + 1, IntKind.wrap .i64 (s + (x.size : Int)), ?_, by omega, rfl⟩)
  rw [wrap_id (n := (i : Int) + 1) (by omega) (by omega)]; rfl
 refine gZ ?_
 refine t_loop (fun mm vs h' => h = h' /\ ∃ (i : Nat) (s : Int) (q : Bool), vs = [.bool q, .int .i64 s, .int .i64 i] /\ i <= f.n1 /\ mm = f.n1 - i) ⟨rfl, 0, s, false, rfl, Nat.zero_le _, rfl⟩ ?_
 rintro Y2 mm vs _ hY2 ⟨rfl, i, s, q, rfl, hi, rfl⟩
 refine gZ ?_
 refine t_if (fun e1 => ?_) (fun e1 => ?_)
 ·obtain ⟨c, a, hx, ha, e2, e3, ⟨q1, n1, k1, e4, e5⟩, q2, n2, k2, e6, e7⟩ := hr.cases.at (i := i) (by omega)
  have hin : 0 <= (i : Int) /\ (i : Int) < (f.n1 : Int) := by omega
  have hg1 := e5.1
  have hg2 := e5.2.1
  refine gZ ?_
  repeat ((first | refine t_loadStr (by assumption) ?_ | refine t_loadV (by assumption) ?_ | refine gL0 (by assumption) ?_); refine gZ ?_)
  refine t_blk (fun vs h' => vs = [.bool q] /\ h = h') ?_ ?_
  ·refine t_if (fun _ => ?_) (fun _ => ?_)
   ·refine gI ?_
    refine gZ ?_
    exact t_ret ⟨rfl, _, rfl⟩
   refine t_if (fun _ => ?_) (fun _ => ?_)
   ·refine gI ?_
    refine gZ ?_
    exact t_ret ⟨rfl, _, rfl⟩
   exact t_again ⟨rfl, rfl⟩
  rintro vs _ ⟨rfl, rfl⟩
  refine gZ ?_
  refine t_loop (fun mm vs h' => h = h' /\ ∃ (j : Nat), vs = [.bool q, .int .i64 j] /\ j <= n1 /\ mm = n1 - j) ⟨rfl, 0, rfl, Nat.zero_le _, rfl⟩ ?_
  rintro Y3 mm vs _ hY3 ⟨rfl, j, rfl, hj, rfl⟩
  refine gZ ?_
  refine t_if (fun e8 => ?_) (fun e8 => ?_)
  ·obtain ⟨g, a', hx', ha', q3, n3, k3, e9, e10⟩ := e5.at (i := j) (by omega)
   have hin2 : 0 <= (j : Int) /\ (j : Int) < (n1 : Int) := by omega
   refine gZ ?_
   refine t_if (fun _ => ?_) (fun _ => ?_)
   ·refine gI ?_
    refine gZ ?_
    exact t_ret ⟨rfl, _, rfl⟩
   ·refine t_again (hY3 (n1 - (j + 1)) _ _ (by omega) ⟨rfl, j + 1, ?_, by omega, rfl⟩)
    rw [wrap_id (n := (j : Int) + 1) (by omega) (by omega)]; rfl
  ·refine gZ ?_
   refine t_lenStr und9 ?_
   refine gZ ?_
   refine t_again (hY2 (f.n1 - (i + 1)) _ _ (by omega) ⟨rfl, i + 1, IntKind.wrap .i64 (s + (c.name.size : Int)), q, ?_, by omega, rfl⟩)
   rw [wrap_id (n := (i : Int) + 1) (by omega) (by omega)]; rfl
 ·refine gZ ?_
  exact t_ret ⟨rfl, _, rfl⟩
theorem c3169 {h : LH} {p : Option Addr} {n c : Nat} {l : List Int} (hl : Sl IntE 1 h.get p n l) {b : Int} (hb : 0 <= b /\ b < 4611686018427387904) : FW X0 Tryz.prog 76 #[.slice p n c, .int .i64 b] h fun r h' => h = h' /\ ∃ g : Int, r = .int .i64 g /\ (g = 0 -> l.Pairwise (· < ·) /\ ∀ v ∈ l, 0 <= v /\ v < b) := by
 refine w3169 _ _ _ _ X0_ok ?_
 unfold n3169
 have hn := hl.1
 have hbb := hl.2.1
 rw [wrap_id (n := b - 1) (by omega) (by omega)]
 refine t_loop (fun m vs h' => h = h' /\ ∃ i : Nat, vs = [.int .i64 0, .int .i64 i] /\ i <= n /\ m = n - i /\ (l.take i).Pairwise (· < ·) /\ ∀ v ∈ l.take i, 0 <= v /\ v < b) ⟨rfl, 0, rfl, Nat.zero_le _, rfl, List.Pairwise.nil, (by intro v hv; cases hv)⟩ ?_
 rintro Y m vs _ hY ⟨rfl, i, rfl, hi, rfl, hp, hin⟩
 refine gZ ?_
 refine t_if (fun e1 => ?_) (fun e1 => ?_)
 ·obtain ⟨x, a, hx, ha, e2⟩ := hl.at (i := i) (by omega)
  unfold IntE at e2
  refine gZ ?_
  refine t_pu (c49 _ _ _) ?_
  refine gZ ?_
  refine t_cond (fun _ => ?_) (fun g1 => ?_)
  ·refine gI ?_
   refine gZ ?_
   exact t_ret ⟨rfl, 6, rfl, fun e => by cases e⟩
  have hxin : 0 <= x /\ x <= b - 1 := by
   have : isIn x 0 (b - 1) = true := by simpa using g1
   exact isIn_iff.1 this
  have next : (∀ (k : Nat) y, (l.take i)[k]? = some y -> k + 1 = (l.take i).length -> y < x) -> Y [.int .i64 0, .int .i64 (IntKind.wrap .i64 ((i : Int) + 1))] h := fun hlast => by
   refine hY (n - (i + 1)) _ _ (by omega) ⟨rfl, i + 1, by rw [wrap_id (by omega) (by omega)]; rfl, by omega, rfl, ?_, ?_⟩
   ·rw [List.take_add_one, hx]; exact pw_snoc hp hlast
   ·rw [List.take_add_one, hx]
    intro v hv
    rcases List.mem_append.1 hv with hv | hv
    ·exact hin v hv
    ·have : v = x := by simpa using hv
     omega
  refine t_if (fun e3 => ?_) (fun e3 => ?_)
  ·obtain ⟨y, a', hy, ha', e4⟩ := hl.at (i := i - 1) (by omega)
   obtain rfl : a = a' := Option.some.inj (ha.symm.trans ha')
   unfold IntE at e4
   have ew : IntKind.wrap .i64 ((i : Int) - 1) = ((i - 1 : Nat) : Int) := by rw [wrap_id (by omega) (by omega)]; omega
   rw [ew]
   refine gZ ?_
   refine t_if (fun _ => ?_) (fun e5 => ?_)
   ·refine gI ?_
    refine gZ ?_
    exact t_ret ⟨rfl, 7, rfl, fun e => by cases e⟩
   ·refine t_again (next fun k z hk hkl => ?_)
    rw [List.length_take] at hkl
    have : k = i - 1 := by omega
    subst this
    rw [List.getElem?_take_of_lt (by omega), hy] at hk
    cases hk
    omega
  ·refine gZ ?_
   refine t_again (next fun k z hk hkl => ?_)
   rw [List.length_take] at hkl
   omega
 ·refine gZ ?_
  have : l.take i = l := List.take_of_length_le (by omega)
  rw [this] at hp hin
  exact t_ret ⟨rfl, 0, rfl, fun _ => ⟨hp, hin⟩⟩
theorem c3141 {h : LH} {p : Option Addr} {n c : Nat} {l : List ByteArray} (hl : Sl StrE 1 h.get p n l) (s : ByteArray) : FW X0 Tryz.prog 29 #[.slice p n c, .string s] h fun r h' => h = h' /\ ∃ g : Int, r = .int .i64 g /\ (g < 0 -> s ∉ l) := by
 refine w3141 _ _ _ _ X0_ok ?_
 unfold n3141
 have hn := hl.1
 have hbb := hl.2.1
 refine t_loop (fun m vs h' => h = h' /\ ∃ i : Nat, vs = [.int .i64 0, .int .i64 i] /\ i <= n /\ m = n - i /\ s ∉ l.take i) ⟨rfl, 0, rfl, Nat.zero_le _, rfl, (by intro hh; cases hh)⟩ ?_
 rintro Y m vs _ hY ⟨rfl, i, rfl, hi, rfl, hno⟩
 refine gZ ?_
 refine t_if (fun e1 => ?_) (fun e1 => ?_)
 ·obtain ⟨x, a, hx, ha, e2⟩ := hl.at (i := i) (by omega)
  unfold StrE at e2
  have hin : 0 <= (i : Int) /\ (i : Int) < (n : Int) := by omega
  refine gZ ?_
  repeat ((first | refine t_loadStr (by assumption) ?_ | refine t_loadV (by assumption) ?_ | refine gL0 (by assumption) ?_); refine gZ ?_)
  refine t_eqStr und9 fun cb hcb => ?_
  refine gZ ?_
  refine t_cond (fun _ => ?_) (fun g => ?_)
  ·refine gI ?_
   refine gZ ?_
   exact t_ret ⟨rfl, i, rfl, fun e => by omega⟩
  ·refine t_again (hY (n - (i + 1)) _ _ (by omega) ⟨rfl, i + 1, by rw [wrap_id (by omega) (by omega)]; rfl, by omega, rfl, ?_⟩)
   rw [take_snoc hx, List.mem_append, List.mem_singleton]
   rintro (hh | rfl)
   ·exact hno hh
   ·rw [hcb.2 rfl] at g; cases g
 ·refine gZ ?_
  rw [List.take_of_length_le (by omega)] at hno
  exact t_ret ⟨rfl, -1, rfl, fun _ => hno⟩
structure CaseOk (b : RvBook) (i : Nat) (c : RvCase) : Prop where
 name : NameOk c.name
 fresh : ∀ (k : Nat) d, k < i -> b.cases[k]? = some d -> d.name ≠ c.name
 against : 0 <= c.against /\ c.against < (b.rights.length : Int)
 grounds : c.grounds.length <= 3 /\ ∀ g ∈ c.grounds, g.length <= 3 /\ g.Pairwise (· < ·) /\ ∀ v ∈ g, 0 <= v /\ v < (b.rights.length : Int)
 after : c.after.Pairwise (· < ·) /\ ∀ v ∈ c.after, 0 <= v /\ v < (b.cases.length : Int)
set_option maxRecDepth 10000 in
theorem c3142 {h : LH} {f : BookC} {b : RvBook} (hr : BookR h.get f b) {i : Nat} {c : RvCase} (hc : b.cases[i]? = some c) : FW X0 Tryz.prog 30 #[bookV f, .int .i64 i] h fun r h' => h = h' /\ ∃ g : Int, r = .int .i64 g /\ (g = 0 -> CaseOk b i c) := by
 refine w3142 _ _ _ _ _ _ _ X0_ok ?_
 unfold n3142
 have hn0 := hr.rights.1
 have hb0 := hr.rights.2.1
 have hn1 := hr.cases.1
 have hb1 := hr.cases.2.1
 have hil := (List.getElem?_eq_some_iff.1 hc).1
 obtain ⟨a, ha, x0, x1, ⟨q, m, k, x2, x3⟩, q', m', k', x6, x7⟩ := book_at hr hc
 have hin : 0 <= (i : Int) /\ (i : Int) < (f.n1 : Int) := by omega
 have hm := x3.1
 have hmb := x3.2.1
 refine gZ ?_
 repeat ((first | refine t_loadStr (by assumption) ?_ | refine t_loadV (by assumption) ?_ | refine gL0 (by assumption) ?_); refine gZ ?_)
 refine t_call (FW.top (c3140 c.name)) ?_
 rintro _ _ ⟨rfl, bn, rfl, hbn⟩
 refine gZ ?_
 refine t_cond (fun _ => t_ret ⟨rfl, 4, rfl, fun e => by cases e⟩) (fun g1 => ?_)
 have hname := hbn (by simpa using g1)
 refine t_loop (fun mm vs h' => h = h' /\ ∃ j : Nat, vs = [.int .i64 0, .int .i64 j] /\ j <= i /\ mm = i - j /\ ∀ (k : Nat) d, k < j -> b.cases[k]? = some d -> d.name ≠ c.name) ⟨rfl, 0, rfl, Nat.zero_le _, rfl, fun k d hk => absurd hk (Nat.not_lt_zero _)⟩ ?_
 rintro Y mm vs _ hY ⟨rfl, j, rfl, hj, rfl, hfr⟩
 refine gZ ?_
 refine t_if (fun e1 => ?_) (fun e1 => ?_)
 ·obtain ⟨d, a', hd, ha', y0, _⟩ := hr.cases.at (i := j) (by omega)
  have hin2 : 0 <= (j : Int) /\ (j : Int) < (f.n1 : Int) := by omega
  refine gZ ?_
  repeat ((first | refine t_loadStr (by assumption) ?_ | refine t_loadV (by assumption) ?_ | refine gL0 (by assumption) ?_); refine gZ ?_)
  refine t_eqStr und9 fun cb hcb => ?_
  refine gZ ?_
  refine t_cond (fun _ => ?_) (fun g2 => ?_)
  ·refine gI ?_
   refine gZ ?_
   exact t_ret ⟨rfl, 5, rfl, fun e => by cases e⟩
  ·refine t_again (hY (i - (j + 1)) _ _ (by omega) ⟨rfl, j + 1, by rw [wrap_id (by omega) (by omega)]; rfl, by omega, rfl, fun k e hk he => ?_⟩)
   by_cases ek : k = j
   ·subst ek
    rw [hd] at he; cases he
    intro hh
    rw [hcb.2 hh] at g2; cases g2
   ·exact hfr k e (by omega) he
 have hji : j = i := by omega
 subst hji
 refine gZ ?_
 rw [wrap_id (n := (f.n0 : Int) - 1) (by omega) (by omega)]
 refine t_pu (c49 _ _ _) ?_
 refine gZ ?_
 refine t_cond (fun _ => t_ret ⟨rfl, 6, rfl, fun e => by cases e⟩) (fun g2 => ?_)
 have hag : 0 <= c.against /\ c.against <= (f.n0 : Int) - 1 := by
  have : isIn c.against 0 ((f.n0 : Int) - 1) = true := by simpa using g2
  exact isIn_iff.1 this
 refine t_if (fun _ => t_ret ⟨rfl, 2, rfl, fun e => by cases e⟩) (fun g3 => ?_)
 refine t_loop (fun mm vs h' => h = h' /\ ∃ (s : Nat), vs = [.int .i64 0, .int .i64 s] /\ s <= m /\ mm = m - s /\ ∀ g ∈ c.grounds.take s, g.length <= 3 /\ g.Pairwise (· < ·) /\ ∀ v ∈ g, 0 <= v /\ v < (b.rights.length : Int)) ⟨rfl, 0, rfl, Nat.zero_le _, rfl, (by intro g hg; cases hg)⟩ ?_
 rintro Y2 mm vs _ hY2 ⟨rfl, s, rfl, hs, rfl, hgr⟩
 refine gZ ?_
 refine t_if (fun e2 => ?_) (fun e2 => ?_)
 ·obtain ⟨g, a', hx, ha', q3, n3, k3, e9, e10⟩ := x3.at (i := s) (by omega)
  have hin3 : 0 <= (s : Int) /\ (s : Int) < (m : Int) := by omega
  have hn3 := e10.1
  refine gZ ?_
  refine t_if (fun _ => ?_) (fun g4 => ?_)
  ·refine gI ?_
   refine gZ ?_
   exact t_ret ⟨rfl, 2, rfl, fun e => by cases e⟩
  refine gZ ?_
  refine t_call (FW.top (c3169 e10 (b := (f.n0 : Int)) (by omega))) ?_
  rintro _ _ ⟨rfl, z, rfl, hz⟩
  refine gZ ?_
  refine t_cond (fun g5 => ?_) (fun g5 => ?_)
  ·refine gI ?_
   refine gZ ?_
   exact t_ret ⟨rfl, z, rfl, fun e => by rw [e] at g5; cases g5⟩
  ·have hz0 : z = 0 := by simpa using g5
   obtain ⟨p1, p2⟩ := hz hz0
   refine t_again (hY2 (m - (s + 1)) _ _ (by omega) ⟨rfl, s + 1, by rw [wrap_id (by omega) (by omega)]; rfl, by omega, rfl, fun g' hg' => ?_⟩)
   rw [List.take_add_one, hx] at hg'
   rcases List.mem_append.1 hg' with hg' | hg'
   ·exact hgr g' hg'
   ·have : g' = g := by simpa using hg'
    subst this
    exact ⟨by omega, p1, fun v hv => by have := p2 v hv; omega⟩
 ·refine gZ ?_
  rw [List.take_of_length_le (by omega)] at hgr
  refine t_call (FW.top (c3169 x7 (b := (f.n1 : Int)) (by omega))) ?_
  rintro _ _ ⟨rfl, z, rfl, hz⟩
  refine gZ ?_
  exact t_ret ⟨rfl, z, rfl, fun e => ⟨hname, fun k d hk hd => hfr k d hk hd, by omega, ⟨by omega, hgr⟩, (hz e).1, fun v hv => by have := (hz e).2 v hv; omega⟩⟩
theorem c3170 {h : LH} {f : BookC} {b : RvBook} (hr : BookR h.get f b) (o : BookShape b) : ∀ (s one two : Nat), one < b.cases.length -> s <= 100 -> Pu Tryz.prog 77 #[bookV f, .int .i64 one, .int .i64 two, .int .i64 s] h (.bool (mustG (afterN b) s one two)) := by
 intro s
 induction s with
 | zero =>
  intro one two h1 hs
  refine w3170 _ _ _ _ _ _ _ _ _ X0_ok ?_
  unfold n3170
  have hn1 := hr.cases.1
  obtain ⟨a, ha, x0, x1, ⟨q, m, k, x2, x3⟩, q', m', k', x6, x7⟩ := book_at hr (List.getElem?_eq_getElem h1)
  have hin : 0 <= (one : Int) /\ (one : Int) < (f.n1 : Int) := by omega
  refine t_loop (fun mm vs h' => h = h' /\ vs = [.bool false, .int .i64 0] /\ mm = 0) ⟨rfl, rfl, rfl⟩ ?_
  rintro Y mm vs _ hY ⟨rfl, rfl, rfl⟩
  refine gZ ?_
  refine t_blk (fun _ _ => False) ?_ (fun _ _ hh => hh.elim)
  refine gZ ?_
  refine t_if (fun _ => ?_) (fun _ => ?_)
  ·refine t_if (fun e => by omega) (fun _ => ?_)
   refine gZ ?_
   refine gH ?_
   refine gZ ?_
   exact t_ret ⟨rfl, rfl⟩
  ·refine gZ ?_
   refine gH ?_
   refine gZ ?_
   exact t_ret ⟨rfl, rfl⟩
 | succ s ih =>
  intro one two h1 hs
  refine w3170 _ _ _ _ _ _ _ _ _ X0_ok ?_
  unfold n3170
  have hn1 := hr.cases.1
  obtain ⟨a, ha, x0, x1, ⟨q, m, k, x2, x3⟩, q', m', k', x6, x7⟩ := book_at hr (List.getElem?_eq_getElem h1)
  have hin : 0 <= (one : Int) /\ (one : Int) < (f.n1 : Int) := by omega
  have hal : m' = b.cases[one].after.length := x7.1
  have hab := x7.2.1
  have hA : afterN b one = b.cases[one].after.map Int.toNat := by
   unfold afterN; rw [List.getElem?_eq_getElem h1]; rfl
  refine t_loop (fun mm vs h' => h = h' /\ ∃ i : Nat, vs = [.bool false, .int .i64 i] /\ i <= m' /\ mm = m' - i /\ mustG (afterN b) (s + 1) one two = ((afterN b one).drop i).any fun x => x == two || mustG (afterN b) s x two) ⟨rfl, 0, rfl, Nat.zero_le _, rfl, rfl⟩ ?_
  rintro Y mm vs _ hY ⟨rfl, i, rfl, hi, rfl, hm⟩
  refine gZ ?_
  refine t_blk (fun vs h' => vs = [] /\ h = h' /\ i < m') ?_ ?_
  ·refine gZ ?_
   refine t_if (fun e1 => ?_) (fun e1 => ?_)
   ·refine t_if (fun _ => t_again ⟨rfl, rfl, by omega⟩) (fun e => by omega)
   ·refine gZ ?_
    refine gH ?_
    refine gZ ?_
    refine t_ret ⟨?_, rfl⟩
    rw [hm, hA, List.drop_eq_nil_of_le (by rw [List.length_map]; omega)]
    rfl
  rintro vs _ ⟨rfl, rfl, him⟩
  obtain ⟨v, av, hv, hav, e4⟩ := x7.at (i := i) him
  unfold IntE at e4
  have hvin := (o.after _ (List.getElem_mem h1)).2 v (List.mem_of_getElem? hv)
  obtain ⟨x, rfl⟩ : ∃ x : Nat, v = (x : Int) := ⟨v.toNat, by omega⟩
  have hAi : (afterN b one)[i]? = some x := by rw [hA, List.getElem?_map, hv]; simp
  have hin2 : 0 <= (i : Int) /\ (i : Int) < (m' : Int) := by omega
  rw [drop_of hAi, List.any_cons] at hm
  refine gZ ?_
  refine t_cond (fun g1 => ?_) (fun g1 => ?_)
  ·have : x = two := by have := eq_of_beq g1; omega
   subst this
   refine gI ?_
   refine gZ ?_
   refine t_ret ⟨?_, rfl⟩
   rw [hm]; simp
  have hne : (x == two) = false := by
   cases hb : (x == two) with
   | false => rfl
   | true =>
    have := eq_of_beq hb
    subst this
    simp at g1
  have hw : IntKind.wrap .i64 (((s + 1 : Nat) : Int) - 1) = (s : Int) := by rw [wrap_id (by omega) (by omega)]; omega
  rw [hw]
  refine t_pu (ih x two (by omega) (by omega)) ?_
  refine gZ ?_
  rw [hne, Bool.false_or] at hm
  refine t_cond (fun g2 => ?_) (fun g2 => ?_)
  ·refine gI ?_
   refine gZ ?_
   refine t_ret ⟨?_, rfl⟩
   rw [hm, g2]; rfl
  ·refine t_again (hY (m' - (i + 1)) _ _ (by omega) ⟨rfl, i + 1, by rw [wrap_id (by omega) (by omega)]; rfl, by omega, rfl, ?_⟩)
   rw [hm, g2, Bool.false_or]
theorem c3143 {h : LH} {f : BookC} {b : RvBook} (hr : BookR h.get f b) (o : BookShape b) : FW X0 Tryz.prog 31 #[bookV f] h fun r h' => h = h' /\ ∃ g, r = .bool g /\ (g = false -> Acyc b) := by
 refine w3143 _ _ _ _ _ _ X0_ok ?_
 unfold n3143
 have hn1 := hr.cases.1
 have h5 := o.cases
 refine t_loop (fun mm vs h' => h = h' /\ ∃ i : Nat, vs = [.bool false, .int .i64 i] /\ i <= f.n1 /\ mm = f.n1 - i /\ ∀ j, j < i -> mustG (afterN b) b.cases.length j j = false) ⟨rfl, 0, rfl, Nat.zero_le _, rfl, fun j hj => absurd hj (Nat.not_lt_zero _)⟩ ?_
 rintro Y mm vs _ hY ⟨rfl, i, rfl, hi, rfl, hno⟩
 refine gZ ?_
 refine t_if (fun e1 => ?_) (fun e1 => ?_)
 ·rw [show (f.n1 : Int) = ((b.cases.length : Nat) : Int) by omega]
  refine t_pu (c3170 hr o b.cases.length i i (by omega) (by omega)) ?_
  refine gZ ?_
  refine t_cond (fun _ => ?_) (fun g => ?_)
  ·refine gI ?_
   refine gZ ?_
   exact t_ret ⟨rfl, true, rfl, fun e => by cases e⟩
  ·refine t_again (hY (f.n1 - (i + 1)) _ _ (by omega) ⟨rfl, i + 1, by rw [wrap_id (by omega) (by omega)]; rfl, by omega, rfl, fun j hj => ?_⟩)
   by_cases e : j = i
   ·subst e; exact g
   ·exact hno j (by omega)
 ·refine gZ ?_
  exact t_ret ⟨rfl, false, rfl, fun _ => acyc_of o fun i hi => hno i (by omega)⟩
theorem c3116 {h : LH} {f : BookC} {b : RvBook} (hr : BookR h.get f b) : FW X0 Tryz.prog 7 #[bookV f] h fun r h' => h = h' /\ ∃ g : Int, r = .int .i64 g /\ (g = 0 -> BookOk b) := by
 refine w3116 _ _ _ _ _ _ X0_ok ?_
 unfold n3116
 have hn0 := hr.rights.1
 have hb0 := hr.rights.2.1
 have hn1 := hr.cases.1
 have hb1 := hr.cases.2.1
 have hc0 := hr.caps.1
 refine t_if (fun _ => t_ret ⟨rfl, 2, rfl, fun e => by cases e⟩) (fun e0 => ?_)
 refine t_loop (fun mm vs h' => h = h' /\ ∃ i : Nat, vs = [.int .i64 0, .int .i64 i] /\ i <= f.n0 /\ mm = f.n0 - i /\ (∀ s ∈ b.rights.take i, NameOk s) /\ (b.rights.take i).Nodup) ⟨rfl, 0, rfl, Nat.zero_le _, rfl, (by intro s hs; cases hs), List.nodup_nil⟩ ?_
 rintro Y mm vs _ hY ⟨rfl, i, rfl, hi, rfl, hnm, hnd⟩
 refine gZ ?_
 refine t_if (fun e1 => ?_) (fun e1 => ?_)
 ·obtain ⟨s, a, hx, ha, e2⟩ := hr.rights.at (i := i) (by omega)
  unfold StrE at e2
  have hin : 0 <= (i : Int) /\ (i : Int) < (f.n0 : Int) := by omega
  refine gZ ?_
  repeat ((first | refine t_loadStr (by assumption) ?_ | refine t_loadV (by assumption) ?_ | refine gL0 (by assumption) ?_); refine gZ ?_)
  refine t_call (FW.top (c3140 s)) ?_
  rintro _ _ ⟨rfl, bn, rfl, hbn⟩
  refine gZ ?_
  refine t_cond (fun _ => ?_) (fun g1 => ?_)
  ·refine gI ?_
   refine gZ ?_
   exact t_ret ⟨rfl, 4, rfl, fun e => by cases e⟩
  have hname := hbn (by simpa using g1)
  refine gZ ?_
  repeat ((first | refine t_loadStr (by assumption) ?_ | refine t_loadV (by assumption) ?_ | refine gL0 (by assumption) ?_); refine gZ ?_)
  refine t_sliceHigh und33 inf9 (by omega) ?_
  refine gZ ?_
  repeat ((first | refine t_loadStr (by assumption) ?_ | refine t_loadV (by assumption) ?_ | refine gL0 (by assumption) ?_); refine gZ ?_)
  refine t_call (FW.top (c3141 (slTake hr.rights hi) s)) ?_
  rintro _ _ ⟨rfl, z, rfl, hz⟩
  refine gZ ?_
  refine t_if (fun _ => ?_) (fun g2 => ?_)
  ·refine gI ?_
   refine gZ ?_
   exact t_ret ⟨rfl, 5, rfl, fun e => by cases e⟩
  ·have hno := hz (by omega)
   refine t_again (hY (f.n0 - (i + 1)) _ _ (by omega) ⟨rfl, i + 1, by rw [wrap_id (by omega) (by omega)]; rfl, by omega, rfl, fun t ht => ?_, ?_⟩)
   ·rw [take_snoc hx, List.mem_append, List.mem_singleton] at ht
    rcases ht with ht | rfl
    ·exact hnm t ht
    ·exact hname
   ·rw [take_snoc hx, List.nodup_append]
    refine ⟨hnd, by simp, fun x hxm y hy => ?_⟩
    rw [List.mem_singleton] at hy
    subst hy
    exact fun e => hno (e ▸ hxm)
 rw [List.take_of_length_le (by omega)] at hnm hnd
 refine gZ ?_
 refine t_if (fun _ => t_ret ⟨rfl, 2, rfl, fun e => by cases e⟩) (fun e5 => ?_)
 refine t_loop (fun mm vs h' => h = h' /\ ∃ j : Nat, vs = [.int .i64 0, .int .i64 j] /\ j <= f.n1 /\ mm = f.n1 - j /\ ∀ (k : Nat) c, k < j -> b.cases[k]? = some c -> CaseOk b k c) ⟨rfl, 0, rfl, Nat.zero_le _, rfl, fun k c hk => absurd hk (Nat.not_lt_zero _)⟩ ?_
 rintro Y2 mm vs _ hY2 ⟨rfl, j, rfl, hj, rfl, hok⟩
 refine gZ ?_
 refine t_if (fun e2 => ?_) (fun e2 => ?_)
 ·have hcj := List.getElem?_eq_getElem (show j < b.cases.length by omega)
  refine t_call (FW.top (c3142 hr hcj)) ?_
  rintro _ _ ⟨rfl, z, rfl, hz⟩
  refine gZ ?_
  refine t_cond (fun g => ?_) (fun g => ?_)
  ·refine gI ?_
   refine gZ ?_
   exact t_ret ⟨rfl, z, rfl, fun e => by rw [e] at g; cases g⟩
  ·refine t_again (hY2 (f.n1 - (j + 1)) _ _ (by omega) ⟨rfl, j + 1, by rw [wrap_id (by omega) (by omega)]; rfl, by omega, rfl, fun k c hk hc => ?_⟩)
   by_cases e : k = j
   ·subst e
    rw [hcj] at hc; cases hc
    exact hz (by simpa using g)
   ·exact hok k c (by omega) hc
 have hall : ∀ c ∈ b.cases, ∃ k, b.cases[k]? = some c /\ CaseOk b k c := fun c hc => by
  obtain ⟨k, hk⟩ := List.mem_iff_getElem?.1 hc
  exact ⟨k, hk, hok k c (by have := (List.getElem?_eq_some_iff.1 hk).1; omega) hk⟩
 have o : BookShape b := ⟨by omega, by omega, fun c hc => by obtain ⟨k, _, q⟩ := hall c hc; exact q.against, fun c hc => by obtain ⟨k, _, q⟩ := hall c hc; exact q.grounds, fun c hc => by obtain ⟨k, _, q⟩ := hall c hc; exact q.after⟩
 refine gZ ?_
 refine t_call (FW.top (c3143 hr o)) ?_
 rintro _ _ ⟨rfl, g, rfl, hg⟩
 refine gZ ?_
 refine t_cond (fun _ => t_ret ⟨rfl, 8, rfl, fun e => by cases e⟩) (fun g3 => ?_)
 refine t_ret ⟨rfl, 0, rfl, fun _ => { toBookShape := o, names := hnm, fresh := hnd, cnames := fun c hc => by obtain ⟨k, _, q⟩ := hall c hc; exact q.name, cfresh := ?_, acyc := hg g3 }⟩
 refine List.pairwise_iff_getElem.2 fun p q hp hq hpq => ?_
 rw [List.length_map] at hp hq
 rw [List.getElem_map, List.getElem_map]
 exact (hok q _ (by omega) (List.getElem?_eq_getElem hq)).fresh p _ hpq (List.getElem?_eq_getElem hp)
end Go.Proofs.YtgljffachdhigaaGreatDoor
end
section
namespace Go.TM
open Go Go.Conc
variable {P : Program} {X : XP} {Q : Leaf -> LH -> Prop}
theorem t_push {α : Type} {Enc : α -> List Value -> Prop} {h h₀ : LH} {K : Value -> T} {ts : Array TypeId} {ty t el : TypeId} {s by_ : Nat} {z : Value} {parts : Array (Nat × Value)} {p : Option Addr} {n c : Nat} {l : List α} (x : α) (ws : List Value) (h0 : ts[0]? = some t) (h1 : ts[1]? = some t) (hu : P.underlying t = some (.slice el))
  (hi : (P.info? el).map (fun i => (i.size, i.bytes, i.zero)) = some (s, by_, some z)) (hsz : z.cells.size = s) (hb : by_ <= 1024) (hs : 1 * s <= 2 ^ 24 /\ 1 * s ≠ 0) (hf : Instr.fill (fun i => some (i * s, s)) ((Array.range (1 * s)).map (z.cells[· % z.cells.size]!)) parts.toList = some ws.toArray)
  (hl : ws.length = s) (one : ∀ v ∈ ws, isOne v = true) (hn : n + 1 <= 2 ^ 30) (g : Growing Enc el s h₀.get h.get p n c l) (hle : h₀.le h) (he : Enc x ws)
  (hk : ∀ p' c' h', h₀.le h' -> (∀ r y, (∀ a, p = some a -> a.block ≠ r) -> h.get r = some y -> h'.get r = some y) -> Growing Enc el s h₀.get h'.get p' (n + 1) c' (l ++ [x]) -> (K (.slice p' (n + 1) c')).wp X P Q h') :
  (T.sem false (Instr.buildSlice t 1 parts) fun v => T.unS v fun a m mc => T.sem false (Builtin.append_ ts ty #[.slice p n c, .slice a m mc]) K).wp X P Q h := by
 refine t_build hu hi hs.1 hs.2 hf fun r hr => ?_
 have le2 : h.le _ := LH.upd_le (x := (true, .cells ws.toArray el (0, 0))) hr
 refine gG ?_
 refine t_grow (h₀ := h₀) (x := x) (ws := ws) h0 h1 hu hu hi hsz hb hn (g.le le2.1) (LH.le_trans hle le2) he hl ?_ one fun p' c' h' hle' hkept g' => hk p' c' h' hle' (fun b y hb hy => hkept b y hb (le2.1 b y hy)) g'
 intro j w hj
 rw [add_plain, Nat.zero_add]
 exact cell_upd (by simpa using hj)
end Go.TM
namespace Go.TM
open Go Go.Conc
variable {P : Program} {X : XP} {Q : Leaf -> LH -> Prop}
theorem t_buildR {h : LH} {k : Value -> T} {t el : TypeId} {n s b : Nat} {parts : Array (Nat × Value)} {z : Value} (ws : List Value) (hu : P.underlying t = some (.slice el)) (hi : (P.info? el).map (fun i => (i.size, i.bytes, i.zero)) = some (s, b, some z)) (hn : n * s <= 2 ^ 24) (hpos : n * s ≠ 0)
  (hf : Instr.fill (fun i => some (i * s, s)) ((Array.range (n * s)).map (z.cells[· % z.cells.size]!)) parts.toList = some ws.toArray)
  (hk : ∀ r h', h.le h' -> h.get r = none -> (∀ (j : Nat) w, ws[j]? = some w -> h'.get.cell? (Addr.add ⟨r, 0, none⟩ j) = some w) -> (k (.slice (some ⟨r, 0, none⟩) n n)).wp X P Q h') : (T.sem false (Instr.buildSlice t n parts) k).wp X P Q h :=
 t_build hu hi hn hpos hf fun r hr => hk r _ (LH.upd_le hr) hr fun j w hj => by
  rw [add_plain, Nat.zero_add]
  exact cell_upd (by simpa using hj)
theorem t_growR {α : Type} {Enc : α -> List Value -> Prop} {h h₀ : LH} {k : Value -> T} {ts : Array TypeId} {ty t el : TypeId} {s by_ : Nat} {z : Value} {p : Option Addr} {n c mc r : Nat} {l : List α} (x : α) (ws : List Value) (h0 : ts[0]? = some t) (h1 : ts[1]? = some t) (hu : P.underlying t = some (.slice el))
  (hi : (P.info? el).map (fun i => (i.size, i.bytes, i.zero)) = some (s, by_, some z)) (hsz : z.cells.size = s) (hb : by_ <= 1024) (hn : n + 1 <= 2 ^ 30) (g : Growing Enc el s h₀.get h.get p n c l) (hle : h₀.le h) (he : Enc x ws) (hl : ws.length = s) (hc : ∀ (j : Nat) w, ws[j]? = some w -> h.get.cell? (Addr.add ⟨r, 0, none⟩ j) = some w) (one : ∀ v ∈ ws, isOne v = true)
  (hk : ∀ p' c' h', h₀.le h' -> (∀ r y, (∀ a, p = some a -> a.block ≠ r) -> h.get r = some y -> h'.get r = some y) -> Growing Enc el s h₀.get h'.get p' (n + 1) c' (l ++ [x]) -> (k (.slice p' (n + 1) c')).wp X P Q h') : (T.sem false (Builtin.append_ ts ty #[.slice p n c, .slice (some ⟨r, 0, none⟩) 1 mc]) k).wp X P Q h :=
 t_grow (h₀ := h₀) (x := x) (ws := ws) h0 h1 hu hu hi hsz hb hn g hle he hl hc one hk
end Go.TM
namespace Go.TM
open Go Go.Conc
variable {P : Program} {X : XP} {Q : Leaf -> LH -> Prop}
theorem setCell_updU {h : Cells} {r o : Nat} {cs : Array Value} {el : TypeId} {fz : Nat × Nat} {v : Value} : (h.upd r (true, .cells cs el fz)).setCell ⟨r, o, none⟩ v = h.upd r (true, .cells (cs.setIfInBounds o v) el fz) := by
 funext k
 unfold Cells.setCell Cells.upd
 by_cases e : k = r
 ·subst e; simp
 ·simp [e]
theorem frozen_upd {h : Cells} {r o : Nat} {cs : Array Value} {el : TypeId} : (h.upd r (true, .cells cs el (0, 0))).frozen? ⟨r, o, none⟩ = false := by
 unfold Cells.frozen?
 simp [Cells.upd]
theorem t_storeU {h : LH} {r o : Nat} {cs : Array Value} {el : TypeId} {a : Addr} {v : Value} {k : T} (ha : a = ⟨r, o, none⟩) (h1 : isOne v = true) (ho : o < cs.size) (hk : k.wp X P Q { h with get := h.get.upd r (true, .cells (cs.setIfInBounds o v) el (0, 0)) }) :
  (T.store a v k).wp X P Q { h with get := h.get.upd r (true, .cells cs el (0, 0)) } := by
 subst ha
 refine t_store (v₀ := cs[o]) h1 ⟨_, Cells.upd_self _ _ _⟩ (cell_upd (by simp [ho])) frozen_upd ?_
 show k.wp X P Q { h with get := (h.get.upd r (true, .cells cs el (0, 0))).setCell ⟨r, o, none⟩ v }
 rw [setCell_updU]; exact hk
def BoolE (h : Cells) (a : Addr) (b : Bool) : Prop := h.cell? (a.add 0) = some (.bool b)
theorem BoolE.grow : Grow BoolE := fun _ _ _ _ hl h => hl _ _ h
end Go.TM
end
section
namespace Go.Proofs.YtgljffachdhigaaGreatDoor
open Go Go.TM Go.Proofs Go.TM.Rv
attribute [local irreducible] T.wp CV FWK
theorem c3120 {h : LH} (hc : Checks h.get) {f : BookC} {b : RvBook} (hr : BookR h.get f b) (ok : BookOk b) : Gr Tryz.prog 14 #[bookV f] h fun r h' => ∃ p n c q m k, r = .tuple #[.slice p n c, .slice q m k, .int .i64 0] /\ Sl IntE 1 h'.get p n (fatesT b) := by
 refine w3120 _ _ _ _ _ _ X0_ok ?_
 unfold n3120
 refine t_gr (c3151 (f := f) hc hr ok) ?_
 rintro _ h1 le1 rfl
 refine gZ ?_
 refine t_cond (fun e => by cases e) (fun _ => ?_)
 refine t_gr (c3152 (f := f) (hr.le le1.1) ok.toBookShape) ?_
 rintro _ h2 le2 ⟨p, n, c, q, m, k, rfl, s⟩
 refine gZ ?_
 exact t_ret ⟨LH.le_trans le1 le2, p, n, c, q, m, k, rfl, s⟩
theorem c3155 {h : LH} {p q : Option Addr} {n c m k : Nat} {l l' : List Int} (hl : Sl IntE 1 h.get p n l) (hl' : Sl IntE 1 h.get q m l') : Pu Tryz.prog 56 #[.slice p n c, .slice q m k] h (.bool (l.all fun v => l'.contains v)) := by
 refine w3155 _ _ _ _ _ _ X0_ok ?_
 unfold n3155
 have hn := hl.1
 have hb := hl.2.1
 refine t_loop (fun mm vs h' => h = h' /\ ∃ i : Nat, vs = [.bool false, .int .i64 i] /\ i <= n /\ mm = n - i /\ (l.all fun v => l'.contains v) = (l.drop i).all fun v => l'.contains v) ⟨rfl, 0, rfl, Nat.zero_le _, rfl, rfl⟩ ?_
 rintro Y mm vs _ hY ⟨rfl, i, rfl, hi, rfl, hall⟩
 refine gZ ?_
 refine t_if (fun e1 => ?_) (fun e1 => ?_)
 ·obtain ⟨x, a, hx, ha, e2⟩ := hl.at (i := i) (by omega)
  unfold IntE at e2
  have hin : 0 <= (i : Int) /\ (i : Int) < (n : Int) := by omega
  rw [drop_of hx, List.all_cons] at hall
  refine gZ ?_
  refine t_pu (c41 hl' x) ?_
  refine gZ ?_
  refine t_cond (fun g => ?_) (fun g => ?_)
  ·have g' : l'.contains x = false := by simpa using g
   refine gI ?_
   refine gZ ?_
   refine t_ret ⟨?_, rfl⟩
   rw [hall, g']; rfl
  ·have g' : l'.contains x = true := by simpa using g
   refine t_again (hY (n - (i + 1)) _ _ (by omega) ⟨rfl, i + 1, by rw [wrap_id (by omega) (by omega)]; rfl, by omega, rfl, ?_⟩)
   rw [hall, g', Bool.true_and]
 ·refine gZ ?_
  refine t_ret ⟨?_, rfl⟩
  rw [hall, List.drop_eq_nil_of_le (by omega)]; rfl
def OrderOk (b : RvBook) (l : List Int) : Prop := ∀ (i : Nat) v, l[i]? = some v -> ∃ c, 0 <= v /\ b.cases[v.toNat]? = some c /\ canT (l.take i) v.toNat c = true /\ ∀ x ∈ l.take i, 0 <= x
theorem goes_of {b : RvBook} : ∀ (l pre : List Int) (x : RvRun), x.order = pre -> OrderOk b (pre ++ l) -> goesT b x l
 | [], _, _, _, _ => trivial
 | v :: l, pre, x, hx, h => by
  have hat : (pre ++ v :: l)[pre.length]? = some v := by simp
  have htk : (pre ++ v :: l).take pre.length = pre := by simp
  obtain ⟨c, h0, h1, h2, _⟩ := h pre.length v hat
  rw [htk] at h2
  refine ⟨c, h0, h1, by rw [hx]; exact h2, ?_⟩
  refine goes_of l (pre ++ [v]) _ ?_ (by rw [List.append_assoc]; exact h)
  rw [ended_order, hx]
  congr 2
  omega
theorem can_of {b : RvBook} (o : BookShape b) {pre : List Int} (hpre : ∀ x ∈ pre, 0 <= x) {v : Int} (h0 : 0 <= v) {c : RvCase} (hc : c ∈ b.cases) (hv : v ∉ pre) (ha : ∀ x ∈ c.after, x ∈ pre) : canT pre v.toNat c = true := by
 unfold canT
 rw [Bool.and_eq_true, List.all_eq_true]
 constructor
 ·cases e : (bitsT pre).testBit v.toNat with
  | false => rfl
  | true =>
   have := (bits_mem hpre _).1 e
   rw [Int.toNat_of_nonneg h0] at this
   exact absurd this hv
 ·intro x hx
  have h1 := ((o.after c hc).2 x hx).1
  rw [bits_mem hpre, Int.toNat_of_nonneg h1]
  exact ha x hx
set_option maxRecDepth 10000 in
theorem c3125 {h : LH} {f : BookC} {b : RvBook} (hr : BookR h.get f b) (o : BookShape b) {p : Option Addr} {n c : Nat} {l : List Int} (hl : Sl IntE 1 h.get p n l) (hnc : n <= c) : FW X0 Tryz.prog 19 #[bookV f, .slice p n c] h fun r h' => h = h' /\ ∃ g : Int, r = .int .i64 g /\ (g = 0 -> l.length = b.cases.length /\ OrderOk b l) := by
 refine w3125 _ _ _ _ _ _ _ _ _ X0_ok ?_
 unfold n3125
 have hn := hl.1
 have hb := hl.2.1
 have hn1 := hr.cases.1
 have hb1 := hr.cases.2.1
 have h5 := o.cases
 refine t_cond (fun _ => t_ret ⟨rfl, 2, rfl, fun e => by cases e⟩) (fun e0 => ?_)
 have hlen : n = f.n1 := by
  have : ((n : Int) == (f.n1 : Int)) = true := by simpa using e0
  have := eq_of_beq this
  omega
 refine t_loop (fun mm vs h' => h = h' /\ ∃ i : Nat, vs = [.int .i64 0, .int .i64 i] /\ i <= n /\ mm = n - i /\ OrderOk b (l.take i) /\ ∀ x ∈ l.take i, 0 <= x) ⟨rfl, 0, rfl, Nat.zero_le _, rfl, (by intro i v hv; simp at hv), (by intro x hx; cases hx)⟩ ?_
 rintro Y mm vs _ hY ⟨rfl, i, rfl, hi, rfl, hok, hpos⟩
 refine gZ ?_
 refine t_if (fun e1 => ?_) (fun e1 => ?_)
 ·obtain ⟨v, a, hx, ha, e2⟩ := hl.at (i := i) (by omega)
  unfold IntE at e2
  have hin : 0 <= (i : Int) /\ (i : Int) < (n : Int) := by omega
  refine gZ ?_
  rw [wrap_id (n := (f.n1 : Int) - 1) (by omega) (by omega)]
  refine t_pu (c49 _ _ _) ?_
  refine gZ ?_
  refine t_cond (fun _ => ?_) (fun g1 => ?_)
  ·refine gI ?_
   refine gZ ?_
   exact t_ret ⟨rfl, 6, rfl, fun e => by cases e⟩
  have hvin : 0 <= v /\ v <= (f.n1 : Int) - 1 := by
   have : isIn v 0 ((f.n1 : Int) - 1) = true := by simpa using g1
   exact isIn_iff.1 this
  have htk := slTake hl hi
  refine gZ ?_
  refine t_sliceHigh und50 inf3 (by omega) ?_
  refine gZ ?_
  refine t_pu (c41 htk v) ?_
  refine gZ ?_
  refine t_cond (fun _ => ?_) (fun g2 => ?_)
  ·refine gI ?_
   refine gZ ?_
   exact t_ret ⟨rfl, 5, rfl, fun e => by cases e⟩
  have hc := List.getElem?_eq_getElem (show v.toNat < b.cases.length by omega)
  obtain ⟨ad, had, x0, x1, ⟨q, m, k, x2, x3⟩, q', m', k', x6, x7⟩ := book_at hr hc
  have hvin2 : 0 <= v /\ v < (f.n1 : Int) := by omega
  refine gZ ?_
  refine t_sliceHigh und50 inf3 (by omega) ?_
  refine gZ ?_
  refine t_pu (c3155 x7 htk) ?_
  refine gZ ?_
  refine t_cond (fun _ => ?_) (fun g3 => ?_)
  ·refine gI ?_
   refine gZ ?_
   exact t_ret ⟨rfl, 7, rfl, fun e => by cases e⟩
  have g3' : (b.cases[v.toNat].after.all fun x => (l.take i).contains x) = true := by simpa using g3
  have hnv : v ∉ l.take i := by
   intro hm
   have : (l.take i).contains v = true := by simpa using hm
   rw [this] at g2; cases g2
  have hcan := can_of o hpos hvin.1 (List.getElem_mem (show v.toNat < b.cases.length by omega)) hnv fun x hx => by
   have := List.all_eq_true.1 g3' x hx
   simpa using this
  refine t_again (hY (n - (i + 1)) _ _ (by omega) ⟨rfl, i + 1, by rw [wrap_id (by omega) (by omega)]; rfl, by omega, rfl, fun j w hj => ?_, fun x hxm => ?_⟩)
  ·have hjl := (List.getElem?_eq_some_iff.1 hj).1
   rw [List.length_take] at hjl
   rw [List.getElem?_take_of_lt (by omega)] at hj
   have et : (l.take (i + 1)).take j = l.take j := by rw [List.take_take]; congr 1; omega
   rw [et]
   by_cases e : j = i
   ·subst e
    rw [hx] at hj; cases hj
    exact ⟨_, hvin.1, hc, hcan, hpos⟩
   ·have := hok j w (by rw [List.getElem?_take_of_lt (by omega)]; exact hj)
    have et2 : (l.take i).take j = l.take j := by rw [List.take_take]; congr 1; omega
    rw [et2] at this
    exact this
  ·rw [List.take_add_one, hx] at hxm
   rcases List.mem_append.1 hxm with hxm | hxm
   ·exact hpos x hxm
   ·have : x = v := by simpa using hxm
    omega
 ·refine gZ ?_
  rw [List.take_of_length_le (by omega)] at hok
  exact t_ret ⟨rfl, 0, rfl, fun _ => ⟨by omega, hok⟩⟩
end Go.Proofs.YtgljffachdhigaaGreatDoor
end
section
namespace Go.Proofs.YtgljffachdhigaaGreatDoor.Tre
open Go Go.TM Go.Proofs Go.TM.Tr
attribute [local irreducible] T.wp CV FWK
theorem not_and_false {a b : Bool} (h : a = false) : (a && b) = false := by rw [h]; rfl
def numsB (x : TF) : Bool := inB x.items 0 5 && (inB x.lands 1 3 && (dayB x.start && (dayB x.depend && (dayB x.refuse && dayB x.turn))))
theorem nums_ok {x : TF} (h : numsB x = true) : IsI (x.lands - 1) /\ IsI (x.items - 1) := by
 simp [numsB, inB] at h
 unfold IsI
 omega
theorem checkT_nums {x : TF} (h : numsB x = false) : checkT x = 1 := by unfold checkT; exact if_pos h
theorem checkT_many {x : TF} (h : numsB x = true) (h2 : 10 < x.events.length) : checkT x = 2 := by
 unfold checkT
 rw [if_neg (by unfold numsB at h; rw [h]; simp), if_pos h2]
theorem checkT_each {x : TF} (h : numsB x = true) (h2 : ¬ 10 < x.events.length) : checkT x = firstT (fun _ e => eventT x e) 0 x.events := by
 unfold checkT
 rw [if_neg (by unfold numsB at h; rw [h]; simp), if_neg h2]
theorem check_is {x : TF} (h : checkT x = 0) : IsI (x.lands - 1) /\ IsI (x.items - 1) := by
 have := check_numbers h
 unfold IsI; omega
theorem c2021 {h : LH} (hk : Kinds h.get) {f : TC} {x : TF} (hx : TreatyR h.get f x) : Pu Tryz.prog 150 #[treatyV f x] h (.int .i64 (checkT x)) := by
 refine w2021 _ _ _ _ _ _ _ _ _ X0_ok ?_
 unfold n2021
 have hn := hx.2.1
 have hb := hx.2.2.1
 refine t_blk (fun vs h' => vs = [.int .i64 0] /\ numsB x = true /\ h = h') ?_ ?_
 ·refine t_pu (c2052 _ _ _) ?_
  refine gZ ?_
  refine t_cond (fun e => ?_) (fun e0 => ?_)
  ·refine gI ?_
   refine gZ ?_
   exact t_ret ⟨by rw [checkT_nums (not_and_false (by simpa using e))], rfl⟩
  have e0 : inB x.items 0 5 = true := by simpa using e0
  refine t_pu (c2052 _ _ _) ?_
  refine gZ ?_
  refine t_cond (fun e => ?_) (fun e1 => ?_)
  ·refine gI ?_
   refine gZ ?_
   have e : inB x.lands 1 3 = false := by simpa using e
   exact t_ret ⟨by rw [checkT_nums (by simp [numsB, e])], rfl⟩
  have e1 : inB x.lands 1 3 = true := by simpa using e1
  refine t_pu (c2053 _) ?_
  refine gZ ?_
  refine t_cond (fun e => ?_) (fun e2 => ?_)
  ·refine gI ?_
   refine gZ ?_
   have e : dayB x.start = false := by simpa using e
   exact t_ret ⟨by rw [checkT_nums (by simp [numsB, e])], rfl⟩
  have e2 : dayB x.start = true := by simpa using e2
  refine t_pu (c2053 _) ?_
  refine gZ ?_
  refine t_cond (fun e => ?_) (fun e3 => ?_)
  ·refine gI ?_
   refine gZ ?_
   have e : dayB x.depend = false := by simpa using e
   exact t_ret ⟨by rw [checkT_nums (by simp [numsB, e])], rfl⟩
  have e3 : dayB x.depend = true := by simpa using e3
  refine t_pu (c2053 _) ?_
  refine gZ ?_
  refine t_cond (fun e => ?_) (fun e4 => ?_)
  ·refine gI ?_
   refine gZ ?_
   have e : dayB x.refuse = false := by simpa using e
   exact t_ret ⟨by rw [checkT_nums (by simp [numsB, e])], rfl⟩
  have e4 : dayB x.refuse = true := by simpa using e4
  refine t_pu (c2053 _) ?_
  refine gZ ?_
  refine t_cond (fun e => ?_) (fun e5 => ?_)
  ·refine gI ?_
   refine gZ ?_
   have e : dayB x.turn = false := by simpa using e
   exact t_ret ⟨by rw [checkT_nums (by simp [numsB, e])], rfl⟩
  have e5 : dayB x.turn = true := by simpa using e5
  exact t_again ⟨rfl, by simp [numsB, e0, e1, e2, e3, e4, e5], rfl⟩
 rintro vs _ ⟨rfl, hnum, rfl⟩
 refine gZ ?_
 refine t_if (fun e => ?_) (fun e => ?_)
 ·exact t_ret ⟨by rw [checkT_many hnum (by omega)], rfl⟩
 have hck := checkT_each hnum (by omega)
 refine t_loop (fun mm vs h' => h = h' /\ ∃ i : Nat, vs = [.int .i64 0, .int .i64 i] /\ i <= f.n /\ mm = f.n - i /\ checkT x = firstT (fun _ e => eventT x e) i (x.events.drop i)) ⟨rfl, 0, rfl, Nat.zero_le _, rfl, hck⟩ ?_
 rintro Y mm vs _ hY ⟨rfl, i, rfl, hi, rfl, hc⟩
 refine gZ ?_
 refine t_if (fun e1 => ?_) (fun e1 => ?_)
 ·obtain ⟨y, a, hy, ha, g0, g1, g2, ⟨q, m, c, g3, _, g5⟩, g4⟩ := hx.2.at (i := i) (by omega)
  rw [drop_of hy, firstT] at hc
  refine gZ ?_
  refine t_pu (c2054 hk (f := f) (x := x) (e := y) (nums_ok hnum).1 (nums_ok hnum).2 g5) ?_
  refine gZ ?_
  refine t_cond (fun d => ?_) (fun d => ?_)
  ·refine gZ ?_
   rw [if_pos (by simpa using d)] at hc
   exact t_ret ⟨by rw [hc], rfl⟩
  ·rw [if_neg (by simpa using d)] at hc
   refine t_again (hY (f.n - (i + 1)) _ _ (by omega) ⟨rfl, i + 1, ?_, by omega, rfl, hc⟩)
   rw [wrap_id (by omega) (by omega)]; rfl
 ·refine gZ ?_
  rw [List.drop_eq_nil_of_le (by omega), firstT] at hc
  exact t_ret ⟨by rw [hc], rfl⟩
def askedT (x : TF) (land : Int) : Int := if checkT x ≠ 0 then checkT x else if inB land 0 (x.lands - 1) = false then 6 else 0
def askedDayT (x : TF) (land day : Int) : Int := if askedT x land ≠ 0 then askedT x land else if dayB day then 0 else 1
def askedItemT (x : TF) (land item : Int) : Int := if askedT x land ≠ 0 then askedT x land else if inB item 0 (x.items - 1) then 0 else 6
def askedAllT (x : TF) (land item day : Int) : Int := if askedItemT x land item ≠ 0 then askedItemT x land item else if dayB day then 0 else 1
theorem asked_ok {x : TF} {land : Int} (h : askedT x land = 0) : checkT x = 0 /\ inB land 0 (x.lands - 1) = true := by
 unfold askedT at h
 split at h
 ·rename_i h1; exact absurd h h1
 ·rename_i h1
  split at h
  ·cases h
  ·rename_i h2; exact ⟨by simpa using h1, by simpa using h2⟩
theorem askedDay_ok {x : TF} {land day : Int} (h : askedDayT x land day = 0) : askedT x land = 0 /\ dayB day = true := by
 unfold askedDayT at h
 split at h
 ·rename_i h1; exact absurd h h1
 ·rename_i h1
  split at h
  ·rename_i h2; exact ⟨by simpa using h1, h2⟩
  ·cases h
theorem askedItem_ok {x : TF} {land item : Int} (h : askedItemT x land item = 0) : askedT x land = 0 /\ inB item 0 (x.items - 1) = true := by
 unfold askedItemT at h
 split at h
 ·rename_i h1; exact absurd h h1
 ·rename_i h1
  split at h
  ·rename_i h2; exact ⟨by simpa using h1, h2⟩
  ·cases h
theorem askedAll_ok {x : TF} {land item day : Int} (h : askedAllT x land item day = 0) : askedItemT x land item = 0 /\ dayB day = true := by
 unfold askedAllT at h
 split at h
 ·rename_i h1; exact absurd h h1
 ·rename_i h1
  split at h
  ·rename_i h2; exact ⟨by simpa using h1, h2⟩
  ·cases h
theorem c2079 {h : LH} (hk : Kinds h.get) {f : TC} {x : TF} (hx : TreatyR h.get f x) (land : Int) : Pu Tryz.prog 132 #[treatyV f x, .int .i64 land] h (.int .i64 (askedT x land)) := by
 refine w2079 _ _ _ _ _ _ _ _ _ _ X0_ok ?_
 unfold n2079
 refine t_pu (c2021 hk hx) ?_
 refine gZ ?_
 refine t_cond (fun e => ?_) (fun e => ?_)
 ·exact t_ret ⟨by rw [askedT, if_pos (by simpa using e)], rfl⟩
 have e : checkT x = 0 := by simpa using e
 have hi := check_is e
 rw [wrap_id hi.1.1 hi.1.2]
 refine t_pu (c2052 _ _ _) ?_
 refine gZ ?_
 refine t_cond (fun d => ?_) (fun d => ?_)
 ·exact t_ret ⟨by rw [askedT, if_neg (by simp [e]), if_pos (by simpa using d)], rfl⟩
 ·exact t_ret ⟨by rw [askedT, if_neg (by simp [e]), if_neg (by simp at d; simp [d])], rfl⟩
theorem c2063 {h : LH} (hk : Kinds h.get) {f : TC} {x : TF} (hx : TreatyR h.get f x) (land day : Int) : Pu Tryz.prog 98 #[treatyV f x, .int .i64 land, .int .i64 day] h (.int .i64 (askedDayT x land day)) := by
 refine w2063 _ _ _ _ _ _ _ _ _ _ _ X0_ok ?_
 unfold n2063
 refine t_pu (c2079 hk hx land) ?_
 refine gZ ?_
 refine t_cond (fun e => ?_) (fun e => ?_)
 ·exact t_ret ⟨by rw [askedDayT, if_pos (by simpa using e)], rfl⟩
 have e : askedT x land = 0 := by simpa using e
 refine t_pu (c2053 _) ?_
 refine gZ ?_
 refine t_cond (fun d => ?_) (fun d => ?_)
 ·exact t_ret ⟨by rw [askedDayT, if_neg (by simp [e]), if_pos d, e], rfl⟩
 ·exact t_ret ⟨by rw [askedDayT, if_neg (by simp [e]), if_neg (by simp [d])], rfl⟩
theorem c2058 {h : LH} (hk : Kinds h.get) {f : TC} {x : TF} (hx : TreatyR h.get f x) (land item : Int) : Pu Tryz.prog 100 #[treatyV f x, .int .i64 land, .int .i64 item] h (.int .i64 (askedItemT x land item)) := by
 refine w2058 _ _ _ _ _ _ _ _ _ _ _ X0_ok ?_
 unfold n2058
 refine t_pu (c2079 hk hx land) ?_
 refine gZ ?_
 refine t_cond (fun e => ?_) (fun e => ?_)
 ·exact t_ret ⟨by rw [askedItemT, if_pos (by simpa using e)], rfl⟩
 have e : askedT x land = 0 := by simpa using e
 have hi := check_is (asked_ok e).1
 rw [wrap_id hi.2.1 hi.2.2]
 refine t_pu (c2052 _ _ _) ?_
 refine gZ ?_
 refine t_cond (fun d => ?_) (fun d => ?_)
 ·exact t_ret ⟨by rw [askedItemT, if_neg (by simp [e]), if_pos d, e], rfl⟩
 ·exact t_ret ⟨by rw [askedItemT, if_neg (by simp [e]), if_neg (by simp [d])], rfl⟩
theorem c2066 {h : LH} (hk : Kinds h.get) {f : TC} {x : TF} (hx : TreatyR h.get f x) (land item day : Int) : Pu Tryz.prog 103 #[treatyV f x, .int .i64 land, .int .i64 item, .int .i64 day] h (.int .i64 (askedAllT x land item day)) := by
 refine w2066 _ _ _ _ _ _ _ _ _ _ _ _ X0_ok ?_
 unfold n2066
 refine t_pu (c2058 hk hx land item) ?_
 refine gZ ?_
 refine t_cond (fun e => ?_) (fun e => ?_)
 ·exact t_ret ⟨by rw [askedAllT, if_pos (by simpa using e)], rfl⟩
 have e : askedItemT x land item = 0 := by simpa using e
 refine t_pu (c2053 _) ?_
 refine gZ ?_
 refine t_cond (fun d => ?_) (fun d => ?_)
 ·exact t_ret ⟨by rw [askedAllT, if_neg (by simp [e]), if_pos d, e], rfl⟩
 ·exact t_ret ⟨by rw [askedAllT, if_neg (by simp [e]), if_neg (by simp [d])], rfl⟩
end Go.Proofs.YtgljffachdhigaaGreatDoor.Tre
end
section
namespace Go.Proofs.YtgljffachdhigaaGreatDoor.Tre
open Go Go.TM Go.Proofs Go.TM.Tr
attribute [local irreducible] T.wp CV FWK
set_option maxRecDepth 10000 in
theorem c2057 {h : LH} {f : TC} {x : TF} {e : Ev} {q : Option Addr} {m c : Nat} (hl : IsI (x.lands - 1)) (hi : IsI (x.items - 1)) (hs : Sl IntE 1 h.get q m e.items) :
  Pu Tryz.prog 97 #[treatyV f x, .agg #[.int .i64 e.kind, .int .i64 e.day, .int .i64 e.land, .slice q m c, .int .i64 e.since]] h (.int .i64 (eventT x e)) := by
 refine w2057 _ _ _ _ _ _ _ _ _ _ _ _ _ _ _ _ X0_ok ?_
 unfold n2057
 have hm := hs.1
 have hb := hs.2.1
 refine t_blk (fun vs h' => vs = [.int .i64 0] /\ (inB e.kind 0 6 && (dayB e.day && dayB e.since)) = true /\ h = h') ?_ ?_
 ·have bad : (inB e.kind 0 6 && (dayB e.day && dayB e.since)) = false -> eventT x e = 1 := fun hb => by rw [eventT, if_pos hb]
  refine t_if (fun e1 => ?_) (fun e1 => ?_)
  ·refine gI ?_
   refine gZ ?_
   exact t_ret ⟨by rw [bad (by rw [show inB e.kind 0 6 = false by unfold inB; rw [decide_eq_false (by omega), Bool.false_and]]; rfl)], rfl⟩
  refine t_if (fun e2 => ?_) (fun e2 => ?_)
  ·refine gI ?_
   refine gZ ?_
   exact t_ret ⟨by rw [bad (by rw [show inB e.kind 0 6 = false by unfold inB; rw [decide_eq_false (p := e.kind <= 6) (by omega), Bool.and_false]]; rfl)], rfl⟩
  have hk : inB e.kind 0 6 = true := by unfold inB; rw [decide_eq_true (by omega), decide_eq_true (by omega)]; rfl
  refine t_pu (c2056 _) ?_
  refine gZ ?_
  refine t_cond (fun e3 => ?_) (fun e3 => ?_)
  ·refine gI ?_
   refine gZ ?_
   have : dayB e.day = false := by simpa using e3
   exact t_ret ⟨by rw [bad (by rw [this]; simp)], rfl⟩
  have hd : dayB e.day = true := by simpa using e3
  refine t_pu (c2056 _) ?_
  refine gZ ?_
  refine t_cond (fun e3 => ?_) (fun e3 => ?_)
  ·refine gI ?_
   refine gZ ?_
   have : dayB e.since = false := by simpa using e3
   exact t_ret ⟨by rw [bad (by rw [this]; simp)], rfl⟩
  have he : dayB e.since = true := by simpa using e3
  exact t_again ⟨rfl, by rw [hk, hd, he]; rfl, rfl⟩
 rintro vs _ ⟨rfl, b', rfl⟩
 have hev1 : eventT x e = if inB e.land 0 (x.lands - 1) = false then 6 else if itemsT e.items x.items ≠ 0 then itemsT e.items x.items else if (e.kind = 4 /\ e.land ≠ 0) \/ (e.kind ≠ 4 /\ e.kind ≠ 6 /\ e.since ≠ 0) then 1 else if e.since > e.day then 7 else 0 := by
  rw [eventT, if_neg (by rw [b']; simp)]
 refine gZ ?_
 rw [wrap_id hl.1 hl.2]
 refine t_pu (c49 _ _ _) ?_
 refine gZ ?_
 refine t_cond (fun d => ?_) (fun d => ?_)
 ·refine t_ret ⟨?_, rfl⟩
  rw [hev1, if_pos (by simpa using d)]
 have hev2 : eventT x e = if itemsT e.items x.items ≠ 0 then itemsT e.items x.items else if (e.kind = 4 /\ e.land ≠ 0) \/ (e.kind ≠ 4 /\ e.kind ≠ 6 /\ e.since ≠ 0) then 1 else if e.since > e.day then 7 else 0 := by
  rw [hev1, if_neg (by simp at d; simp [d])]
 refine t_loop (fun mm vs h' => h = h' /\ ∃ i : Nat, vs = [.int .i64 0, .int .i64 i] /\ i <= m /\ mm = m - i /\ itemsT e.items x.items = firstT (Tr.stepT e.items x.items) i (e.items.drop i)) ⟨rfl, 0, rfl, Nat.zero_le _, rfl, rfl⟩ ?_
 rintro Y mm vs _ hY ⟨rfl, i, rfl, hi', rfl, hc⟩
 refine gZ ?_
 refine t_if (fun e1 => ?_) (fun e1 => ?_)
 ·obtain ⟨y, a, hy, ha, e2⟩ := hs.at (i := i) (by omega)
  unfold IntE at e2
  rw [drop_of hy, firstT] at hc
  refine gZ ?_
  rw [wrap_id hi.1 hi.2]
  refine t_pu (c49 _ _ _) ?_
  refine gZ ?_
  have next : Tr.stepT e.items x.items i y = 0 -> Y [.int .i64 0, .int .i64 (IntKind.wrap .i64 ((i : Int) + 1))] h := by
   intro hz
   rw [if_neg (by rw [hz]; simp)] at hc
   refine hY (m - (i + 1)) _ _ (by omega) ⟨rfl, i + 1, ?_, by omega, rfl, hc⟩
   rw [wrap_id (by omega) (by omega)]; rfl
  have stop : ∀ z : Int, z ≠ 0 -> Tr.stepT e.items x.items i y = z -> eventT x e = z := by
   intro z hz hr
   rw [hr, if_pos hz] at hc
   rw [hev2, hc, if_pos hz]
  refine t_cond (fun d1 => ?_) (fun d1 => ?_)
  ·refine gZ ?_
   refine t_ret ⟨?_, rfl⟩
   rw [stop 6 (by decide) (by rw [Tr.stepT, if_pos (by simpa using d1)])]
  have d1' : ¬ inB y 0 (x.items - 1) = false := by simp at d1; simp [d1]
  refine t_if (fun d2 => ?_) (fun d2 => ?_)
  ·obtain ⟨z, a2, hz, ha2, e3⟩ := hs.at (i := i - 1) (by omega)
   unfold IntE at e3
   rw [ha] at ha2; cases ha2
   have hwi : IntKind.wrap .i64 ((i : Int) - 1) = ((i - 1 : Nat) : Int) := by rw [wrap_id (by omega) (by omega)]; omega
   have hrun := itemsT_run (b := x.items) hy (fun _ => hz)
   rw [hwi]
   refine gZ ?_
   refine t_if (fun d3 => ?_) (fun d3 => ?_)
   ·refine gZ ?_
    refine t_ret ⟨?_, rfl⟩
    rw [stop 7 (by decide) (by rw [hrun, if_neg d1', if_pos ⟨by omega, d3⟩])]
   ·exact t_again (next (by rw [hrun, if_neg d1', if_neg (by omega)]))
  ·refine gZ ?_
   exact t_again (next (by rw [Tr.stepT, if_neg d1', if_neg (by omega)]))
 ·refine gZ ?_
  rw [List.drop_eq_nil_of_le (by omega), firstT] at hc
  have hev3 : eventT x e = if (e.kind = 4 /\ e.land ≠ 0) \/ (e.kind ≠ 4 /\ e.kind ≠ 6 /\ e.since ≠ 0) then 1 else if e.since > e.day then 7 else 0 := by
   rw [hev2, if_neg (by rw [hc]; simp)]
  rw [hev3]
  repeat' first
   | (refine t_cond (fun _ => ?_) (fun _ => ?_))
   | (refine t_ret ⟨?_, rfl⟩)
  all_goals (congr 1; simp_all; try omega)
theorem c2022 {h : LH} {f : TC} {x : TF} (hx : TreatyR h.get f x) : Pu Tryz.prog 54 #[treatyV f x] h (.int .i64 (checkT x)) := by
 refine w2022 _ _ _ _ _ _ _ _ _ X0_ok ?_
 unfold n2022
 have hn := hx.2.1
 have hb := hx.2.2.1
 refine t_blk (fun vs h' => vs = [.int .i64 0] /\ numsB x = true /\ h = h') ?_ ?_
 ·refine t_pu (c49 _ _ _) ?_
  refine gZ ?_
  refine t_cond (fun e => ?_) (fun e0 => ?_)
  ·refine gI ?_
   refine gZ ?_
   exact t_ret ⟨by rw [checkT_nums (not_and_false (by simpa using e))], rfl⟩
  have e0 : inB x.items 0 5 = true := by simpa using e0
  refine t_pu (c49 _ _ _) ?_
  refine gZ ?_
  refine t_cond (fun e => ?_) (fun e1 => ?_)
  ·refine gI ?_
   refine gZ ?_
   have e : inB x.lands 1 3 = false := by simpa using e
   exact t_ret ⟨by rw [checkT_nums (by simp [numsB, e])], rfl⟩
  have e1 : inB x.lands 1 3 = true := by simpa using e1
  refine t_pu (c2056 _) ?_
  refine gZ ?_
  refine t_cond (fun e => ?_) (fun e2 => ?_)
  ·refine gI ?_
   refine gZ ?_
   have e : dayB x.start = false := by simpa using e
   exact t_ret ⟨by rw [checkT_nums (by simp [numsB, e])], rfl⟩
  have e2 : dayB x.start = true := by simpa using e2
  refine t_pu (c2056 _) ?_
  refine gZ ?_
  refine t_cond (fun e => ?_) (fun e3 => ?_)
  ·refine gI ?_
   refine gZ ?_
   have e : dayB x.depend = false := by simpa using e
   exact t_ret ⟨by rw [checkT_nums (by simp [numsB, e])], rfl⟩
  have e3 : dayB x.depend = true := by simpa using e3
  refine t_pu (c2056 _) ?_
  refine gZ ?_
  refine t_cond (fun e => ?_) (fun e4 => ?_)
  ·refine gI ?_
   refine gZ ?_
   have e : dayB x.refuse = false := by simpa using e
   exact t_ret ⟨by rw [checkT_nums (by simp [numsB, e])], rfl⟩
  have e4 : dayB x.refuse = true := by simpa using e4
  refine t_pu (c2056 _) ?_
  refine gZ ?_
  refine t_cond (fun e => ?_) (fun e5 => ?_)
  ·refine gI ?_
   refine gZ ?_
   have e : dayB x.turn = false := by simpa using e
   exact t_ret ⟨by rw [checkT_nums (by simp [numsB, e])], rfl⟩
  have e5 : dayB x.turn = true := by simpa using e5
  exact t_again ⟨rfl, by simp [numsB, e0, e1, e2, e3, e4, e5], rfl⟩
 rintro vs _ ⟨rfl, hnum, rfl⟩
 refine gZ ?_
 refine t_if (fun e => ?_) (fun e => ?_)
 ·exact t_ret ⟨by rw [checkT_many hnum (by omega)], rfl⟩
 have hck := checkT_each hnum (by omega)
 refine t_loop (fun mm vs h' => h = h' /\ ∃ i : Nat, vs = [.int .i64 0, .int .i64 i] /\ i <= f.n /\ mm = f.n - i /\ checkT x = firstT (fun _ e => eventT x e) i (x.events.drop i)) ⟨rfl, 0, rfl, Nat.zero_le _, rfl, hck⟩ ?_
 rintro Y mm vs _ hY ⟨rfl, i, rfl, hi, rfl, hc⟩
 refine gZ ?_
 refine t_if (fun e1 => ?_) (fun e1 => ?_)
 ·obtain ⟨y, a, hy, ha, g0, g1, g2, ⟨q, m, c, g3, _, g5⟩, g4⟩ := hx.2.at (i := i) (by omega)
  rw [drop_of hy, firstT] at hc
  refine gZ ?_
  refine t_pu (c2057 (h := h) (f := f) (x := x) (e := y) (nums_ok hnum).1 (nums_ok hnum).2 g5) ?_
  refine gZ ?_
  refine t_cond (fun d => ?_) (fun d => ?_)
  ·refine gZ ?_
   rw [if_pos (by simpa using d)] at hc
   exact t_ret ⟨by rw [hc], rfl⟩
  ·rw [if_neg (by simpa using d)] at hc
   refine t_again (hY (f.n - (i + 1)) _ _ (by omega) ⟨rfl, i + 1, ?_, by omega, rfl, hc⟩)
   rw [wrap_id (by omega) (by omega)]; rfl
 ·refine gZ ?_
  rw [List.drop_eq_nil_of_le (by omega), firstT] at hc
  exact t_ret ⟨by rw [hc], rfl⟩
end Go.Proofs.YtgljffachdhigaaGreatDoor.Tre
end
section
namespace Go.Proofs.YtgljffachdhigaaGreatDoor.Tre
open Go Go.TM Go.Proofs Go.TM.Tr
attribute [local irreducible] T.wp CV FWK
def matV (f : TC) (x : TF) (k i : Int) : Value := .agg #[.int .i64 x.items, .int .i64 x.lands, .int .i64 x.start, .int .i64 x.depend, .int .i64 x.refuse, .int .i64 x.turn, .slice f.p f.n f.c, .int .i64 k, .int .i64 i]
structure MatAt (h : Cells) (a : Addr) (f : TC) (x : TF) (k i : Int) : Prop where
 f0 : h.cell? ((a.add 0).add 0) = some (.int .i64 x.items)
 f1 : h.cell? ((a.add 0).add 1) = some (.int .i64 x.lands)
 f2 : h.cell? ((a.add 0).add 2) = some (.int .i64 x.start)
 f3 : h.cell? ((a.add 0).add 3) = some (.int .i64 x.depend)
 f4 : h.cell? ((a.add 0).add 4) = some (.int .i64 x.refuse)
 f5 : h.cell? ((a.add 0).add 5) = some (.int .i64 x.turn)
 f6 : h.cell? ((a.add 0).add 6) = some (.slice f.p f.n f.c)
 f7 : h.cell? ((a.add 0).add 7) = some (.int .i64 k)
 f8 : h.cell? ((a.add 0).add 8) = some (.int .i64 i)
theorem MatAt.rd {h h' : Cells} {a : Addr} {f : TC} {x : TF} {k i : Int} (hl : Rd h h') (m : MatAt h a f x k i) : MatAt h' a f x k i :=
 ⟨hl _ _ m.f0, hl _ _ m.f1, hl _ _ m.f2, hl _ _ m.f3, hl _ _ m.f4, hl _ _ m.f5, hl _ _ m.f6, hl _ _ m.f7, hl _ _ m.f8⟩
theorem MatAt.le {h h' : Cells} {a : Addr} {f : TC} {x : TF} {k i : Int} (hl : h.le h') (m : MatAt h a f x k i) : MatAt h' a f x k i := m.rd (Rd.of_le hl)
theorem add_zero' (a : Addr) : a.add 0 = a := by unfold Addr.add; simp
theorem add_zero2 (a : Addr) (i : Nat) : (a.add 0).add i = a.add i := by rw [add_zero']
theorem MatAt.s7 {h : Cells} {a : Addr} {f : TC} {x : TF} {k i : Int} (m : MatAt h a f x k i) : h.cell? (a.add 7) = some (.int .i64 k) := by have := m.f7; rwa [add_zero2] at this
theorem MatAt.s8 {h : Cells} {a : Addr} {f : TC} {x : TF} {k i : Int} (m : MatAt h a f x k i) : h.cell? (a.add 8) = some (.int .i64 i) := by have := m.f8; rwa [add_zero2] at this
def allB (K : Nat) (k i : Int) (e : Ev) : Bool := (e.kind == (K : Int)) && ((!landK K || (e.land == k)) && e.items.contains i)
theorem allB_about {K : Nat} (hK : K ≠ 4) (k i : Int) (e : Ev) : allB K k i e = about e K k i := by
 unfold allB about landK
 have : Nat.beq K 4 = false := by
  cases hb : Nat.beq K 4 with
  | false => rfl
  | true => exact absurd (Nat.eq_of_beq_eq_true hb) hK
 simp [this]
def handedE {α : Type} (V : Nat -> Value) (s : α -> Bool) : List α -> Nat -> List (List Value)
 | [], _ => []
 | x :: l, i => if s x then [V i] :: handedE V s l (i + 1) else handedE V s l (i + 1)
theorem handedE_len {α : Type} (V : Nat -> Value) (s : α -> Bool) : ∀ (l : List α) (i : Nat), (handedE V s l i).length = (l.filter s).length := by
 intro l
 induction l with
 | nil => intro i; rfl
 | cons x l ih => intro i; rw [handedE, List.filter_cons]; split <;> simp [ih]
theorem handedE_get {α : Type} (V : Nat -> Value) (s : α -> Bool) : ∀ (l : List α) (i k : Nat) xs, (handedE V s l i)[k]? = some xs -> ∃ x j, (l.filter s)[k]? = some x /\ l[j]? = some x /\ xs = [V (i + j)] := by
 intro l
 induction l with
 | nil => intro i k xs h; simp [handedE] at h
 | cons x l ih =>
  intro i k xs h
  rw [handedE] at h
  rw [List.filter_cons]
  split at h
  ·rename_i hs
   rw [if_pos hs]
   cases k with
   | zero => simp at h; exact ⟨x, 0, rfl, rfl, by simp [<- h]⟩
   | succ k =>
    obtain ⟨y, j, h1, h2, h3⟩ := ih (i + 1) k xs (by simpa using h)
    exact ⟨y, j + 1, by simpa using h1, by simpa using h2, by rw [h3, show i + 1 + j = i + (j + 1) by omega]⟩
  ·rename_i hs
   rw [if_neg hs]
   obtain ⟨y, j, h1, h2, h3⟩ := ih (i + 1) k xs h
   exact ⟨y, j + 1, h1, by simpa using h2, by rw [h3, show i + 1 + j = i + (j + 1) by omega]⟩
def evV (e : Ev) (q : Option Addr) (m c : Nat) : Value := .agg #[.int .i64 e.kind, .int .i64 e.day, .int .i64 e.land, .slice q m c, .int .i64 e.since]
theorem hands2095 {X : XP} (hX : XOK X) {h₀ : LH} (hk : Kinds h₀.get) {z0 z1 : Addr} {f : TC} {x : TF} {k i : Int} {K : Nat} (hK : K < 7) (hm : MatAt h₀.get z0 f x k i) (hz1 : h₀.get.cell? z1 = some (.int .i64 (K : Int))) (hx : TreatyR h₀.get f x) :
  ∃ L, L.length = (x.events.filter (allB K k i)).length /\ (∀ (j : Nat) xs, L[j]? = some xs -> ∃ e q m c, (x.events.filter (allB K k i))[j]? = some e /\ xs = [evV e q m c] /\ Sl IntE 1 h₀.get q m e.items) /\
   Hands X Tryz.prog (.func (.func 152) #[] #[.pointer (some z0), .pointer (some z1)]) h₀ L := by
 have hs := hx.2
 let R : Nat -> Value -> Prop := fun j v => ∃ e a q m c, x.events[j]? = some e /\ f.p = some a /\ v = evV e q m c /\ h₀.get.cell? ((a.add (j * 5)).add 0) = some (.int .i64 e.kind) /\ h₀.get.cell? ((a.add (j * 5)).add 1) = some (.int .i64 e.day) /\ h₀.get.cell? ((a.add (j * 5)).add 2) = some (.int .i64 e.land) /\ h₀.get.cell? ((a.add (j * 5)).add 3) = some (.slice q m c) /\ h₀.get.cell? ((a.add (j * 5)).add 4) = some (.int .i64 e.since) /\ Sl IntE 1 h₀.get q m e.items
 have hR : ∀ j e, x.events[j]? = some e -> ∃ v, R j v := by
  intro j e he
  obtain ⟨a, ha, e1, e2, e3, ⟨q, m, c, e4, _, e5⟩, e6⟩ := hs.2.2 j e he
  exact ⟨_, e, a, q, m, c, he, ha, rfl, e1, e2, e3, e4, e6, e5⟩
 let V : Nat -> Value := fun j => Classical.epsilon (R j)
 have hV : ∀ j e, x.events[j]? = some e -> R j (V j) := fun j e he => Classical.epsilon_spec (hR j e he)
 refine ⟨handedE V (allB K k i) x.events 0, handedE_len _ _ _ _, ?_, ?_⟩
 ·intro j xs hj
  obtain ⟨e, j', h1, h2, h3⟩ := handedE_get _ _ _ _ _ _ hj
  rw [Nat.zero_add] at h3
  obtain ⟨e', a, q, m, c, g1, _, g3, _, _, _, _, _, g8⟩ := hV j' e h2
  rw [h2] at g1; cases g1
  exact ⟨e, q, m, c, h1, by rw [h3, g3], g8⟩
 ·intro y J E _ _ hyield h hle hJ
  generalize hL : handedE V (allB K k i) x.events 0 = L at hyield ⊢
  refine cv_fw hX (by rfl) (?_ : FW X Tryz.prog 152 #[y, .pointer (some z0), .pointer (some z1)] h _)
  refine w2095 _ _ _ hX ?_
  unfold n2095
  have hn := hs.1
  have hb := hs.2.1
  have y6 := Cells.cell?_le hle.1 hm.f6
  refine gL1 y6 ?_
  refine t_loop (fun mm vs h' => h₀.le h' /\ ∃ (j cnt : Nat), vs = [.int .i64 j] /\ j <= f.n /\ mm = f.n - j /\ J cnt h' /\ cnt <= L.length /\ L.drop cnt = handedE V (allB K k i) (x.events.drop j) j) (n := f.n) ⟨hle, 0, 0, rfl, Nat.zero_le _, by omega, hJ, Nat.zero_le _, by rw [<- hL]; rfl⟩ ?_
  rintro Y mm vs h₁ hY ⟨le1, j, cnt, rfl, hj, rfl, hJ1, hcl, hdrop⟩
  refine gZ ?_
  refine t_if (fun e1 => ?_) (fun e1 => ?_)
  ·obtain ⟨e, he⟩ : ∃ e, x.events[j]? = some e := ⟨x.events[j]'(by omega), List.getElem?_eq_getElem (by omega)⟩
   obtain ⟨e', a, q, m, c, g1, ha, hVj, c0, c1, c2, c3, c4, hit⟩ := hV j e he
   rw [he] at g1; cases g1
   have d0 := Cells.cell?_le le1.1 c0
   have d1 := Cells.cell?_le le1.1 c1
   have d2 := Cells.cell?_le le1.1 c2
   have d3 := Cells.cell?_le le1.1 c3
   have d4 := Cells.cell?_le le1.1 c4
   have w1 := Cells.cell?_le le1.1 hz1
   have m1 := hm.le le1.1
   have w7 := m1.s7
   have w8 := m1.s8
   have kl := (hk.le le1.1).landAt' hK
   have kl2 := (hk.le le1.1).landAt hK
   rw [drop_of he, handedE] at hdrop
   refine gZ ?_
   have skip : allB K k i e = false -> Y [.int .i64 (IntKind.wrap .i64 ((j : Int) + 1))] h₁ := by
    intro hno
    rw [if_neg (by rw [hno]; simp)] at hdrop
    refine hY (f.n - (j + 1)) _ _ (by omega) ⟨le1, j + 1, cnt, ?_, by omega, rfl, hJ1, hcl, hdrop⟩
    rw [wrap_id (by omega) (by omega)]; rfl
   refine t_blk (fun vs h' => vs = [.bool (!landK K || (e.land == k))] /\ h₁ = h') ?_ ?_
   ·refine gZ ?_
    refine t_cond (fun e2 => ?_) (fun e2 => ?_)
    ·exact t_again ⟨by simp at e2; rw [e2]; rfl, rfl⟩
    ·refine gZ ?_
     exact t_again ⟨by simp at e2; rw [e2]; rfl, rfl⟩
   rintro vs _ ⟨rfl, rfl⟩
   refine gZ ?_
   refine t_cond (fun e2 => ?_) (fun e2 => ?_)
   ·refine t_cond (fun e3 => ?_) (fun e3 => ?_)
    ·refine gZ ?_
     refine t_pu (c100 (hit.le IntE.grow le1.1) i) ?_
     refine gZ ?_
     refine t_cond (fun e4 => ?_) (fun e4 => ?_)
     ·have hsh : allB K k i e = true := by unfold allB; rw [e2, e3, e4]; rfl
      rw [if_pos hsh] at hdrop
      have hget : L[cnt]? = some [V j] := by
       have : (L.drop cnt)[0]? = some [V j] := by rw [hdrop]; rfl
       simpa using this
      have hlt : cnt < L.length := (List.getElem?_eq_some_iff.1 hget).1
      have hcv := hyield cnt h₁ [V j] le1 hget hJ1
      rw [hVj] at hcv
      refine t_callv hcv ?_
      rintro b h₂ ⟨le2, ⟨rfl, hJ2⟩ | ⟨rfl, hE⟩⟩
      ·refine gZ ?_
       refine t_cond (fun e => by cases e) (fun _ => ?_)
       refine t_again (hY (f.n - (j + 1)) _ _ (by omega) ⟨le2, j + 1, cnt + 1, ?_, by omega, rfl, hJ2, by omega, ?_⟩)
       ·rw [wrap_id (by omega) (by omega)]; rfl
       ·rw [<- List.drop_drop, hdrop]; rfl
      ·refine gZ ?_
       refine t_cond (fun _ => ?_) (fun e => by cases e)
       refine gZ ?_
       exact t_ret ⟨le2, .inr hE⟩
     ·exact t_again (skip (by unfold allB; rw [e4]; simp))
    ·exact t_again (skip (by unfold allB; rw [e3]; simp))
   ·exact t_again (skip (by unfold allB; rw [e2]; rfl))
  ·refine gZ ?_
   refine t_ret ⟨le1, .inl ?_⟩
   rw [List.drop_eq_nil_of_le (by omega : x.events.length <= j), handedE] at hdrop
   have : cnt = L.length := by
    have := List.drop_eq_nil_iff.1 hdrop; omega
   rw [<- this]; exact hJ1
theorem c2083 {h : LH} (f : TC) (x : TF) (k i : Int) (K : Int) : Gr Tryz.prog 135 #[matV f x k i, .int .i64 K] h fun r h' => ∃ z0 z1, r = .func (.func 152) #[] #[.pointer (some z0), .pointer (some z1)] /\ MatAt h'.get z0 f x k i /\ h'.get.cell? z1 = some (.int .i64 K) := by
 refine w2083 _ _ _ _ _ _ _ _ _ _ _ _ X0_ok ?_
 unfold n2083
 refine t_new fun r hr => ?_
 refine t_new fun r1 hr1 => ?_
 have l1 : h.le _ := LH.upd_le (x := (true, .cells #[.int .i64 x.items, .int .i64 x.lands, .int .i64 x.start, .int .i64 x.depend, .int .i64 x.refuse, .int .i64 x.turn, .slice f.p f.n f.c, .int .i64 k, .int .i64 i] 170 (0, 0))) hr
 have l2 := LH.upd_le (x := (true, .cells #[.int .i64 K] 61 (0, 0))) hr1
 refine t_ret ⟨LH.le_trans l1 l2, _, _, rfl, ?_, cell_upd rfl⟩
 refine MatAt.le l2.1 ?_
 constructor <;> (rw [add_plain, add_plain]; exact cell_upd rfl)
theorem t_all {X : XP} {Q : Leaf -> LH -> Prop} {h : LH} {kk : Value -> T} (hX : XOK X) (hk : Kinds h.get) {f : TC} {x : TF} (hx : TreatyR h.get f x) (k i : Int) (K : Nat) (hK : K < 7)
  (hw : ∀ v h' L, h.le h' -> L.length = (x.events.filter (allB K k i)).length -> (∀ (j : Nat) xs, L[j]? = some xs -> ∃ e q m c, (x.events.filter (allB K k i))[j]? = some e /\ xs = [evV e q m c] /\ Sl IntE 1 h'.get q m e.items) -> Hands X Tryz.prog v h' L -> (kk v).wp X Tryz.prog Q h') :
  (T.call false 135 #[matV f x k i, .int .i64 (K : Int)] kk).wp X Tryz.prog Q h := by
 refine t_gr (c2083 f x k i K) ?_
 rintro _ h₁ le1 ⟨z0, z1, rfl, hm, hz⟩
 obtain ⟨L, h1, h2, h3⟩ := hands2095 hX (hk.le le1.1) hK hm hz (hx.le le1.1)
 exact hw _ h₁ L le1 h1 h2 h3
def leastFrom (a : Int) : List Int -> Int
 | [] => a
 | y :: l => leastFrom (if y < a then y else a) l
theorem least_nil : least [] = 10000 := rfl
theorem least_cons (y : Int) (l : List Int) : least (y :: l) = if y < least l then y else least l := rfl
theorem leastFrom_min : ∀ (l : List Int) (a : Int), a <= 10000 -> leastFrom a l = (if a < least l then a else least l)
 | [], a, h => by
  rw [leastFrom, least_nil]
  split <;> omega
 | y :: l, a, h => by
  have hc := least_cap l
  rw [leastFrom, leastFrom_min l _ (by split <;> omega), least_cons]
  generalize least l = b at hc ⊢
  by_cases e1 : y < a <;> by_cases e2 : y < b <;> by_cases e3 : a < b <;> by_cases e4 : a < y <;> simp [e1, e2, e3, e4] <;> omega
theorem leastFrom_cap (l : List Int) : leastFrom 10000 l = least l := by
 rw [leastFrom_min l _ (Int.le_refl _)]
 have hc := least_cap l
 split <;> omega
theorem fallsL_all (x : TF) (k i fr : Int) : fallsL x i fr = ((x.events.filter (allB 4 k i)).filter fun e => decide (e.since <= x.start + x.depend) && decide (fr <= e.day)).map (·.day) := by
 unfold fallsL
 rw [List.filter_filter]
 congr 1
 refine List.filter_congr fun e _ => ?_
 unfold Tr.early allB landK
 have h4 : Nat.beq 4 4 = true := rfl
 rw [h4, Bool.not_true, Bool.not_false, Bool.true_or, Bool.true_and]
 show ((e.kind == 4) && decide (e.since <= x.start + x.depend) && (e.items.contains i && decide (fr <= e.day))) = (decide (e.since <= x.start + x.depend) && decide (fr <= e.day) && ((e.kind == 4) && e.items.contains i))
 cases (e.kind == 4) <;> cases decide (e.since <= x.start + x.depend) <;> cases e.items.contains i <;> cases decide (fr <= e.day) <;> rfl
theorem limitsL_all (x : TF) (k i fr : Int) : limitsL x k i fr = ((x.events.filter (allB 3 k i)).filter fun e => decide (fr <= e.day)).map (·.day) := by
 unfold limitsL
 rw [List.filter_filter]
 congr 1
 refine List.filter_congr fun e _ => ?_
 rw [allB_about (by decide)]
 rw [Bool.and_comm]; rfl
theorem c2096 {h : LH} (hk : Kinds h.get) {f : TC} {x : TF} (hx : TreatyR h.get f x) (hsum : IsI (x.start + x.depend)) (k i fr : Int) : Gr Tryz.prog 156 #[matV f x k i, .int .i64 fr] h fun r _ => r = .int .i64 (falls x i fr) := by
 refine w2096 _ _ _ _ _ _ _ _ _ _ _ _ X0_ok ?_
 unfold n2096
 refine t_all X0_ok hk hx k i 4 (by decide) ?_
 intro v h₁ L le1 hL1 hL2 hH
 rw [falls, fallsL_all x k i fr]
 generalize hF : x.events.filter (allB 4 k i) = F at hL1 hL2
 refine t_each (LH.le_refl h₁) hH (fun j vs h' => ∃ d : Int, vs = [.int .i64 d] /\ d <= 10000 /\ least ((F.filter fun e => decide (e.since <= x.start + x.depend) && decide (fr <= e.day)).map (·.day)) = leastFrom d (((F.drop j).filter fun e => decide (e.since <= x.start + x.depend) && decide (fr <= e.day)).map (·.day)))
  ⟨10000, rfl, Int.le_refl _, (leastFrom_cap _).symm⟩ ?_ ?_
 ·rintro vs h' hle ⟨d, rfl, _, hc⟩
  rw [List.drop_eq_nil_of_le (by omega)] at hc
  refine gZ ?_
  exact t_ret ⟨LH.le_trans le1 hle, by rw [hc]; rfl⟩
 ·rintro j xs vs h' hj hle ⟨d, rfl, hd, hc⟩ Y hY
  obtain ⟨e, q, m, c, he, rfl, hit⟩ := hL2 j xs hj
  rw [drop_of he, List.filter_cons] at hc
  unfold evV
  refine gZ ?_
  rw [wrap_id hsum.1 hsum.2]
  refine t_if (fun e1 => ?_) (fun e1 => ?_)
  ·refine t_if (fun e2 => ?_) (fun e2 => ?_)
   ·rw [if_pos (by simp; omega), List.map_cons, leastFrom] at hc
    exact t_againE hle (hY _ _ hle ⟨_, rfl, by split <;> omega, hc⟩)
   ·rw [if_neg (by simp; omega)] at hc
    exact t_againE hle (hY _ _ hle ⟨_, rfl, hd, hc⟩)
  ·rw [if_neg (by simp; omega)] at hc
   exact t_againE hle (hY _ _ hle ⟨_, rfl, hd, hc⟩)
theorem c2094 {h : LH} (hk : Kinds h.get) {f : TC} {x : TF} (hx : TreatyR h.get f x) (k i fr : Int) : Gr Tryz.prog 151 #[matV f x k i, .int .i64 fr] h fun r _ => r = .int .i64 (limits x k i fr) := by
 refine w2094 _ _ _ _ _ _ _ _ _ _ _ _ X0_ok ?_
 unfold n2094
 refine t_all X0_ok hk hx k i 3 (by decide) ?_
 intro v h₁ L le1 hL1 hL2 hH
 rw [limits, limitsL_all x k i fr]
 generalize hF : x.events.filter (allB 3 k i) = F at hL1 hL2
 refine t_each (LH.le_refl h₁) hH (fun j vs h' => ∃ d : Int, vs = [.int .i64 d] /\ d <= 10000 /\ least ((F.filter fun e => decide (fr <= e.day)).map (·.day)) = leastFrom d (((F.drop j).filter fun e => decide (fr <= e.day)).map (·.day)))
  ⟨10000, rfl, Int.le_refl _, (leastFrom_cap _).symm⟩ ?_ ?_
 ·rintro vs h' hle ⟨d, rfl, _, hc⟩
  rw [List.drop_eq_nil_of_le (by omega)] at hc
  refine gZ ?_
  exact t_ret ⟨LH.le_trans le1 hle, by rw [hc]; rfl⟩
 ·rintro j xs vs h' hj hle ⟨d, rfl, hd, hc⟩ Y hY
  obtain ⟨e, q, m, c, he, rfl, hit⟩ := hL2 j xs hj
  rw [drop_of he, List.filter_cons] at hc
  unfold evV
  refine gZ ?_
  refine t_if (fun e2 => ?_) (fun e2 => ?_)
  ·rw [if_pos (by simp; omega), List.map_cons, leastFrom] at hc
   exact t_againE hle (hY _ _ hle ⟨_, rfl, by split <;> omega, hc⟩)
  ·rw [if_neg (by simp; omega)] at hc
   exact t_againE hle (hY _ _ hle ⟨_, rfl, hd, hc⟩)
end Go.Proofs.YtgljffachdhigaaGreatDoor.Tre
end
section
namespace Go.Proofs.YtgljffachdhigaaGreatDoor.Tre
open Go Go.TM Go.Proofs Go.TM.Tr
attribute [local irreducible] T.wp CV FWK
theorem c2097 {h : LH} (hk : Kinds h.get) {f : TC} {x : TF} (hx : TreatyR h.get f x) {z0 z1 : Addr} {k i d : Int} (hm : MatAt h.get z0 f x k i) (hz : h.get.cell? z1 = some (.int .i64 d)) (fr : Int) :
  Gr Tryz.prog 157 #[.int .i64 fr, .pointer (some z0), .pointer (some z1)] h fun r _ => r = .bool (lifted x k i fr d) := by
 refine w2097 _ _ _ X0_ok ?_
 unfold n2097
 obtain ⟨f0, f1, f2, f3, f4, f5, f6, f7, f8⟩ := hm
 refine gZ ?_
 refine t_all X0_ok hk hx k i 2 (by decide) ?_
 intro v h₁ L le1 hL1 hL2 hH
 have hlift : lifted x k i fr d = (x.events.filter (allB 2 k i)).any fun l => decide (fr <= l.day /\ l.day <= d) := by
  unfold Tr.lifted
  rw [List.any_filter]
  refine congrArg (fun q => x.events.any q) (funext fun e => ?_)
  rw [allB_about (by decide)]; rfl
 rw [hlift]
 generalize hF : x.events.filter (allB 2 k i) = F at hL1 hL2
 have hz1 := Cells.cell?_le le1.1 hz
 refine t_each (LH.le_refl h₁) hH (fun j vs h' => vs = [.bool false] /\ (F.any fun l => decide (fr <= l.day /\ l.day <= d)) = (F.drop j).any fun l => decide (fr <= l.day /\ l.day <= d)) ⟨rfl, rfl⟩ ?_ ?_
 ·rintro vs h' hle ⟨rfl, hc⟩
  rw [List.drop_eq_nil_of_le (by omega)] at hc
  refine gZ ?_
  exact t_ret ⟨LH.le_trans le1 hle, by rw [hc]; rfl⟩
 ·rintro j xs vs h' hj hle ⟨rfl, hc⟩ Y hY
  obtain ⟨e, q, m, c, he, rfl, hit⟩ := hL2 j xs hj
  rw [drop_of he, List.any_cons] at hc
  have hz2 := Cells.cell?_le hle.1 hz1
  unfold evV
  refine gZ ?_
  refine t_pu (c2052 _ _ _) ?_
  refine gZ ?_
  refine t_cond (fun e1 => ?_) (fun e1 => ?_)
  ·refine t_retnE hle ?_
   have e1' : decide (fr <= e.day /\ e.day <= d) = true := by simpa [inB] using e1
   rw [e1', Bool.true_or] at hc
   refine gZ ?_
   exact t_ret ⟨LH.le_trans le1 hle, by rw [hc]⟩
  ·have e1' : decide (fr <= e.day /\ e.day <= d) = false := by simpa [inB] using e1
   rw [e1', Bool.false_or] at hc
   exact t_againE hle (hY _ _ hle ⟨rfl, hc⟩)
def askCells (f : TC) (x : TF) (k i a : Int) : List Value := [.int .i64 x.items, .int .i64 x.lands, .int .i64 x.start, .int .i64 x.depend, .int .i64 x.refuse, .int .i64 x.turn, .slice f.p f.n f.c, .int .i64 k, .int .i64 i, .int .i64 a, .int .i64 (askEnd x k i a), .bool (fallen x k i a)]
def askV (f : TC) (x : TF) (k i a : Int) : Value := .agg #[.int .i64 x.items, .int .i64 x.lands, .int .i64 x.start, .int .i64 x.depend, .int .i64 x.refuse, .int .i64 x.turn, .slice f.p f.n f.c, .int .i64 k, .int .i64 i, .int .i64 a, .int .i64 (askEnd x k i a), .bool (fallen x k i a)]
def AskE (f : TC) (x : TF) (k i : Int) (h : Cells) (a : Addr) (d : Int) : Prop := ∀ (j : Nat) w, (askCells f x k i d)[j]? = some w -> h.cell? (a.add j) = some w
def AskEnc (f : TC) (x : TF) (k i : Int) (d : Int) (ws : List Value) : Prop := ws = askCells f x k i d
theorem AskE.grow {f : TC} {x : TF} {k i : Int} : Grow (AskE f x k i) := fun _ _ _ _ hl h j w hj => hl _ _ (h j w hj)
theorem AskEnc.len {f : TC} {x : TF} {k i : Int} : ∀ d ws, AskEnc f x k i d ws -> ws.length = 12 := by rintro d _ rfl; rfl
theorem AskEnc.e {f : TC} {x : TF} {k i : Int} {h' : Cells} : ∀ a d ws, AskEnc f x k i d ws -> (∀ (j : Nat) w, ws[j]? = some w -> h'.cell? (a.add j) = some w) -> AskE f x k i h' a d := by
 rintro a d _ rfl hc; exact hc
theorem refused_any (x : TF) (k i a d : Int) : refused x k i a d = (x.events.filter (allB 1 k i)).any fun r => decide (a <= r.day /\ r.day <= a + x.refuse /\ r.day <= d) && !lifted x k i r.day d := by
 unfold Tr.refused
 rw [List.any_filter]
 refine congrArg (fun q => x.events.any q) (funext fun e => ?_)
 rw [allB_about (by decide)]; rfl
theorem in_min (n a b d : Int) : inB n a (if b < d then b else d) = decide (a <= n /\ n <= b /\ n <= d) := by
 unfold inB
 rw [Bool.eq_iff_iff]
 simp only [Bool.and_eq_true, decide_eq_true_eq]
 split <;> omega
theorem c2085 {h : LH} (hk : Kinds h.get) {f : TC} {x : TF} (hx : TreatyR h.get f x) (k i : Int) {a : Int} (ha : IsI (a + x.refuse)) (e : Int) (fl : Bool) (d : Int) :
  Gr Tryz.prog 140 #[.agg #[.int .i64 x.items, .int .i64 x.lands, .int .i64 x.start, .int .i64 x.depend, .int .i64 x.refuse, .int .i64 x.turn, .slice f.p f.n f.c, .int .i64 k, .int .i64 i, .int .i64 a, .int .i64 e, .bool fl], .int .i64 d] h fun r _ => r = .bool (refused x k i a d) := by
 refine w2085 _ _ _ _ _ _ _ _ _ _ _ _ _ _ _ X0_ok ?_
 unfold n2085
 refine t_new fun r hr => ?_
 refine t_new fun r1 hr1 => ?_
 have l1 : h.le _ := LH.upd_le (x := (true, .cells #[.int .i64 x.items, .int .i64 x.lands, .int .i64 x.start, .int .i64 x.depend, .int .i64 x.refuse, .int .i64 x.turn, .slice f.p f.n f.c, .int .i64 k, .int .i64 i, .int .i64 a, .int .i64 e, .bool fl] 175 (0, 0))) hr
 have l2 := LH.upd_le (x := (true, .cells #[.int .i64 d] 3 (0, 0))) hr1
 have hm : MatAt (h.get.upd r (true, .cells #[.int .i64 x.items, .int .i64 x.lands, .int .i64 x.start, .int .i64 x.depend, .int .i64 x.refuse, .int .i64 x.turn, .slice f.p f.n f.c, .int .i64 k, .int .i64 i, .int .i64 a, .int .i64 e, .bool fl] 175 (0, 0))) ⟨r, 0, none⟩ f x k i := by
  constructor <;> (rw [add_plain, add_plain]; exact cell_upd rfl)
 have h9 : Cells.cell? (h.get.upd r (true, .cells #[.int .i64 x.items, .int .i64 x.lands, .int .i64 x.start, .int .i64 x.depend, .int .i64 x.refuse, .int .i64 x.turn, .slice f.p f.n f.c, .int .i64 k, .int .i64 i, .int .i64 a, .int .i64 e, .bool fl] 175 (0, 0))) (Addr.add ⟨r, 0, none⟩ 9) = some (.int .i64 a) := by rw [add_plain]; exact cell_upd rfl
 have hz := cell_upd (h := h.get.upd r (true, .cells #[.int .i64 x.items, .int .i64 x.lands, .int .i64 x.start, .int .i64 x.depend, .int .i64 x.refuse, .int .i64 x.turn, .slice f.p f.n f.c, .int .i64 k, .int .i64 i, .int .i64 a, .int .i64 e, .bool fl] 175 (0, 0))) (r := r1) (i := 0) (m := true) (cs := #[.int .i64 d]) (el := 3) (f := (0, 0)) (v := .int .i64 d) rfl
 have hm := hm.le l2.1
 have h9 := Cells.cell?_le l2.1 h9
 have l12 := LH.le_trans l1 l2
 generalize hh : ({ h with get := (h.get.upd r (true, .cells #[.int .i64 x.items, .int .i64 x.lands, .int .i64 x.start, .int .i64 x.depend, .int .i64 x.refuse, .int .i64 x.turn, .slice f.p f.n f.c, .int .i64 k, .int .i64 i, .int .i64 a, .int .i64 e, .bool fl] 175 (0, 0))).upd r1 (true, .cells #[.int .i64 d] 3 (0, 0)) } : LH) = h2 at l12 ⊢
 have hm : MatAt h2.get ⟨r, 0, none⟩ f x k i := by rw [<- hh]; exact hm
 have h9 : h2.get.cell? (Addr.add ⟨r, 0, none⟩ 9) = some (.int .i64 a) := by rw [<- hh]; exact h9
 have hz : h2.get.cell? ⟨r1, 0, none⟩ = some (.int .i64 d) := by rw [<- hh]; exact hz
 clear hh l1 l2
 have hm2 := hm
 obtain ⟨f0, f1, f2, f3, f4, f5, f6, f7, f8⟩ := hm
 refine gZ ?_
 refine t_all X0_ok (hk.le l12.1) (hx.le l12.1) k i 1 (by decide) ?_
 intro v h₁ L le1 hL1 hL2 hH
 rw [refused_any]
 generalize hF : x.events.filter (allB 1 k i) = F at hL1 hL2
 have hm3 := hm2.le le1.1
 have h93 := Cells.cell?_le le1.1 h9
 have hz3 := Cells.cell?_le le1.1 hz
 refine t_each (LH.le_refl h₁) hH (fun j vs h' => vs = [.bool false] /\ (F.any fun r => decide (a <= r.day /\ r.day <= a + x.refuse /\ r.day <= d) && !lifted x k i r.day d) = (F.drop j).any fun r => decide (a <= r.day /\ r.day <= a + x.refuse /\ r.day <= d) && !lifted x k i r.day d) ⟨rfl, rfl⟩ ?_ ?_
 ·rintro vs h' hle ⟨rfl, hc⟩
  rw [List.drop_eq_nil_of_le (by omega)] at hc
  refine gZ ?_
  exact t_ret ⟨LH.le_trans l12 (LH.le_trans le1 hle), by rw [hc]; rfl⟩
 ·rintro j xs vs h' hj hle ⟨rfl, hc⟩ Y hY
  obtain ⟨ev, q, m, c, he, rfl, hit⟩ := hL2 j xs hj
  rw [drop_of he, List.any_cons] at hc
  have hm4 := hm3.le hle.1
  have h94 := Cells.cell?_le hle.1 h93
  have hz4 := Cells.cell?_le hle.1 hz3
  have f44 : h'.get.cell? (Addr.add (Addr.add (Addr.add ⟨r, 0, none⟩ 0) 0) 4) = some (.int .i64 x.refuse) := by
   have := hm4.f4
   rwa [show Addr.add (Addr.add (⟨r, 0, none⟩ : Addr) 0) 0 = Addr.add ⟨r, 0, none⟩ 0 by rw [add_zero']]
  unfold evV
  refine gZ ?_
  rw [wrap_id ha.1 ha.2]
  refine t_pu (c2052 _ _ _) ?_
  rw [in_min]
  refine gZ ?_
  refine t_cond (fun e1 => ?_) (fun e1 => ?_)
  ·rw [e1, Bool.true_and] at hc
   have le24 := LH.le_trans le1 hle
   refine t_callv (cv_fw X0_ok (by rfl) (c2097 ((hk.le l12.1).le le24.1) ((hx.le l12.1).le le24.1) hm4 hz4 ev.day)) ?_
   rintro _ h5 ⟨le5, rfl⟩
   refine gZ ?_
   refine t_cond (fun e2 => ?_) (fun e2 => ?_)
   ·refine t_retnE (LH.le_trans hle le5) ?_
    refine gZ ?_
    rw [e2, Bool.true_or] at hc
    exact t_ret ⟨LH.le_trans l12 (LH.le_trans le24 le5), by rw [hc]⟩
   ·rw [e2, Bool.false_or] at hc
    exact t_againE (LH.le_trans hle le5) (hY _ _ (LH.le_trans hle le5) ⟨rfl, hc⟩)
  ·rw [e1, Bool.false_and, Bool.false_or] at hc
   exact t_againE hle (hY _ _ hle ⟨rfl, hc⟩)
theorem c2137 {h : LH} (hk : Kinds h.get) {f : TC} {x : TF} (hx : TreatyR h.get f x) (k i : Int) {a : Int} (ha : IsI (a + x.refuse)) (he : IsI (askEnd x k i a - 1)) (d : Int) :
  Gr Tryz.prog 198 #[askV f x k i a, .int .i64 d] h fun r _ => r = .tuple #[.int .i64 a, .bool (decide (a <= d /\ d < askEnd x k i a) && !refused x k i a d)] := by
 refine w2137 _ _ _ _ _ _ _ _ _ _ _ _ _ _ _ X0_ok ?_
 unfold n2137
 rw [wrap_id he.1 he.2]
 have hin : inB d a (askEnd x k i a - 1) = decide (a <= d /\ d < askEnd x k i a) := by
  unfold inB
  rw [Bool.eq_iff_iff]
  simp only [Bool.and_eq_true, decide_eq_true_eq]
  omega
 refine t_pu (c2052 _ _ _) ?_
 rw [hin]
 refine gZ ?_
 refine t_cond (fun e1 => ?_) (fun e1 => ?_)
 ·refine t_gr (c2085 hk hx k i ha _ _ d) ?_
  rintro _ h1 le1 rfl
  refine gZ ?_
  exact t_ret ⟨le1, by rw [e1, Bool.true_and]⟩
 ·refine gZ ?_
  refine t_both ?_ ?_
  ·refine gZ ?_
   exact t_ret ⟨LH.le_refl _, by rw [e1, Bool.false_and]⟩
  ·refine gZ ?_
   exact t_ret ⟨LH.le_refl _, by rw [e1, Bool.false_and]⟩
theorem askDays_all (x : TF) (k i : Int) : askDays x k i = ((x.events.filter (allB 0 k i)).filter fun e => decide (e.day < falls x i 0)).map (·.day) := by
 unfold askDays
 rw [List.filter_filter]
 congr 1
 refine List.filter_congr fun e _ => ?_
 rw [allB_about (by decide), Bool.and_comm]; rfl
theorem c2084 {h : LH} (hk : Kinds h.get) {f : TC} {x : TF} (hx : TreatyR h.get f x) (hsum : IsI (x.start + x.depend)) (hlen : x.events.length <= 1000) (k i : Int) :
  Gr Tryz.prog 139 #[matV f x k i] h fun r h' => ∃ p n c, r = .slice p n c /\ Sl (AskE f x k i) 12 h'.get p n (askDays x k i) := by
 refine w2084 _ _ _ _ _ _ _ _ _ _ _ X0_ok ?_
 unfold n2084
 refine t_all X0_ok hk hx k i 0 (by decide) ?_
 intro v h₁ L le1 hL1 hL2 hH
 rw [askDays_all]
 have hFl : (x.events.filter (allB 0 k i)).length <= 1000 := Nat.le_trans (List.length_filter_le _ _) hlen
 generalize hF : x.events.filter (allB 0 k i) = F at hL1 hL2 hFl
 refine t_each (LH.le_refl h₁) hH (fun j vs h' => ∃ (p : Option Addr) (n c : Nat), vs = [.slice p n c] /\ Growing (AskEnc f x k i) 175 12 h₁.get h'.get p n c (((F.take j).filter fun e => decide (e.day < falls x i 0)).map (·.day)))
  ⟨none, 0, 0, rfl, Growing.nil⟩ ?_ ?_
 ·rintro vs h' hle ⟨p, n, c, rfl, g⟩
  rw [hL1, List.take_of_length_le (Nat.le_refl _)] at g
  refine gZ ?_
  refine t_ret ⟨LH.le_trans le1 hle, p, n, c, rfl, g.sl AskEnc.len (by omega) AskEnc.e ?_⟩
  rw [List.length_map]
  have := List.length_filter_le (fun e : Ev => decide (e.day < falls x i 0)) F
  omega
 ·rintro j xs vs h' hj hle ⟨p, n, c, rfl, g⟩ Y hY
  obtain ⟨e, q, m, cc, he, rfl, hit⟩ := hL2 j xs hj
  have htake : F.take (j + 1) = F.take j ++ [e] := by rw [List.take_add_one, he]; rfl
  have le2 := LH.le_trans le1 hle
  unfold evV
  refine gZ ?_
  refine t_gr (c2096 (hk.le le2.1) (hx.le le2.1) hsum k i 0) ?_
  rintro _ h3 le3 rfl
  refine gZ ?_
  refine t_if (fun e1 => ?_) (fun e1 => ?_)
  ·refine t_againE (LH.le_trans hle le3) (hY _ _ (LH.le_trans hle le3) ⟨p, n, c, rfl, ?_⟩)
   rw [htake, List.filter_append, List.filter_cons, if_neg (by simp; omega)]
   simpa using g.le le3.1
  have le23 := LH.le_trans le2 le3
  refine t_gr (c2096 (hk.le le23.1) (hx.le le23.1) hsum k i e.day) ?_
  rintro _ h4 le4 rfl
  refine gZ ?_
  have le24 := LH.le_trans le23 le4
  refine t_gr (c2094 (hk.le le24.1) (hx.le le24.1) k i e.day) ?_
  rintro _ h5 le5 rfl
  refine gZ ?_
  have hle5 := LH.le_trans hle (LH.le_trans le3 (LH.le_trans le4 le5))
  have hn : n <= 1000 := by
   rw [g.count AskEnc.len (by omega), List.length_map]
   have h1 := List.length_filter_le (fun e : Ev => decide (e.day < falls x i 0)) (F.take j)
   have h2 : (F.take j).length <= 1000 := by rw [List.length_take]; omega
   omega
  refine t_push e.day (askCells f x k i e.day) rfl rfl undAsks infAsk rfl (by omega) (by decide) (by kernel_rfl) rfl ?_ (by omega) (g.le (LH.le_trans le3 (LH.le_trans le4 le5)).1) hle5 rfl ?_
  ·intro w hw
   simp only [askCells, List.mem_cons, List.not_mem_nil, or_false] at hw
   rcases hw with rfl | rfl | rfl | rfl | rfl | rfl | rfl | rfl | rfl | rfl | rfl | rfl <;> rfl
  ·intro p' c' h6 le6 _ g6
   refine gZ ?_
   refine t_againE le6 (hY _ _ le6 ⟨p', _, c', rfl, ?_⟩)
   rw [htake, List.filter_append, List.filter_cons, if_pos (by simp; omega), List.map_append]
   exact g6
end Go.Proofs.YtgljffachdhigaaGreatDoor.Tre
end
section
namespace Go.Proofs.YtgljffachdhigaaGreatDoor.Tre
open Go Go.TM Go.Proofs Go.TM.Tr
attribute [local irreducible] T.wp CV FWK
structure Right (x : TF) : Prop where
 ok : Ok x
 start : 0 <= x.start /\ x.start <= 9999
 depend : 0 <= x.depend /\ x.depend <= 9999
 refuse : 0 <= x.refuse /\ x.refuse <= 9999
 turn : 0 <= x.turn /\ x.turn <= 9999
 many : x.events.length <= 10
theorem Right.of {x : TF} (h : checkT x = 0) : Right x := by
 have := check_numbers h
 exact ⟨check_ok h, this.2.2.1, this.2.2.2.1, this.2.2.2.2.1, this.2.2.2.2.2.1, this.2.2.2.2.2.2⟩
theorem Right.sum {x : TF} (r : Right x) : IsI (x.start + x.depend) := by have := r.start; have := r.depend; unfold IsI; omega
theorem Right.askDay {x : TF} (r : Right x) {k i a : Int} (h : a ∈ askDays x k i) : 0 <= a /\ a <= 9999 := r.ok.has (mem_asks.1 h).1
theorem falls_low {x : TF} (v : Ok x) (i f : Int) : 0 <= falls x i f /\ falls x i f <= 10000 := by
 refine ⟨?_, least_cap _⟩
 rcases least_mem (l := fallsL x i f) with h | h
 ·unfold falls; omega
 ·obtain ⟨e, h1, _, _, h4⟩ := (mem_falls.1 h).1
  have := v e h1
  unfold falls; omega
theorem limits_low {x : TF} (v : Ok x) (k i f : Int) : 0 <= limits x k i f /\ limits x k i f <= 10000 := by
 refine ⟨?_, least_cap _⟩
 rcases least_mem (l := limitsL x k i f) with h | h
 ·unfold limits; omega
 ·have := v.has (mem_limits.1 h).1
  unfold limits; omega
theorem askEnd_low {x : TF} (v : Ok x) (k i a : Int) : 0 <= askEnd x k i a /\ askEnd x k i a <= 10000 := by
 have h1 := falls_low v i a
 have h2 := limits_low v k i a
 unfold askEnd; split <;> omega
theorem askDays_len (x : TF) (k i : Int) : (askDays x k i).length <= x.events.length := by
 unfold askDays; rw [List.length_map]; exact List.length_filter_le _ _
def bestI : Option Int -> List Int -> Option Int
 | o, [] => o
 | none, a :: l => bestI (some a) l
 | some b, a :: l => bestI (some (if a < b then a else b)) l
theorem bestI_some : ∀ (l : List Int) (b : Int), bestI (some b) l = some (leastFrom b l)
 | [], b => rfl
 | a :: l, b => by rw [bestI, leastFrom, bestI_some l]
theorem bestI_least {l : List Int} (h : ∀ v ∈ l, v < 10000) : leastOr l = match bestI none l with | none => -1 | some n => n := by
 cases l with
 | nil => rfl
 | cons a l =>
  rw [bestI, bestI_some]
  have ha := h a (by simp)
  simp only
  rw [leastFrom_min l a (by omega), leastOr, if_neg (by simp), least_cons]
def zeroAsk : List Value := [.int .i64 0, .int .i64 0, .int .i64 0, .int .i64 0, .int .i64 0, .int .i64 0, .slice none 0 0, .int .i64 0, .int .i64 0, .int .i64 0, .int .i64 0, .bool false]
def bestCells (f : TC) (x : TF) (k i : Int) : Option Int -> List Value
 | none => zeroAsk
 | some a => askCells f x k i a
theorem goodBy_step {x : TF} {k i d a : Int} {l : List Int} : (a :: l).filter (goodBy x k i d) = if goodBy x k i d a = true then a :: l.filter (goodBy x k i d) else l.filter (goodBy x k i d) := List.filter_cons
def turnO (x : TF) (k i d : Int) : Option Int := bestI none (turnedL x k i d)
theorem turnO_turned {x : TF} (v : Ok x) (k i d : Int) : turned x k i d = match turnO x k i d with | none => -1 | some n => n :=
 bestI_least fun n hn => (v.turnedL n hn).2
theorem turnO_some {x : TF} (v : Ok x) {k i d n : Int} (h : turnO x k i d = some n) : 0 <= n /\ n = turned x k i d := by
 have h1 := turnO_turned v k i d
 rw [h] at h1
 simp only at h1
 refine ⟨?_, h1.symm⟩
 rcases turned_vals v k i d with ⟨h2, h3⟩ | ⟨h2, _⟩
 ·unfold turnO at h; rw [h3] at h; cases h
 ·have := (v.turnedL _ h2).1; omega
theorem turnO_none {x : TF} (v : Ok x) {k i d : Int} : turnO x k i d = none ↔ ¬ 0 <= turned x k i d := by
 have h1 := turnO_turned v k i d
 cases h : turnO x k i d with
 | none =>
  rw [h] at h1; simp only at h1; constructor
  ·intro _; omega
  ·intro _; rfl
 | some n =>
  have := turnO_some v h
  constructor
  ·intro e; cases e
  ·intro h2; omega
set_option maxRecDepth 10000 in
theorem c2064 {h : LH} (hk : Kinds h.get) {f : TC} {x : TF} (hx : TreatyR h.get f x) (rt : Right x) (k i d : Int) :
    Gr Tryz.prog 102 #[matV f x k i, .int .i64 d] h fun r _ => r = .tuple #[.agg (bestCells f x k i (turnO x k i d)).toArray, .bool (turnO x k i d).isSome] := by
  refine w2064 _ _ _ _ _ _ _ _ _ _ _ _ X0_ok ?_
  unfold n2064
  refine t_gr (c2084 hk hx rt.sum (Nat.le_trans rt.many (by omega)) k i) ?_
  rintro _ h₁ le1 ⟨p, n, c, rfl, hs⟩
  refine gZ ?_
  have hn := hs.1
  have hb := hs.2.1
  have hlen := askDays_len x k i
  have hmany := rt.many
  refine t_loop (fun mm vs h' => h₁.le h' /\ ∃ (j : Nat) (o : Option Int), vs = .bool o.isSome :: .int .i64 j :: bestCells f x k i o /\ j <= n /\ mm = n - j /\ turnO x k i d = bestI o (((askDays x k i).drop j).filter (goodBy x k i d)))
    ⟨LH.le_refl _, 0, none, rfl, Nat.zero_le _, rfl, rfl⟩ ?_
  rintro Y mm vs h2 hY ⟨le2, j, o, rfl, hj, rfl, hc⟩
  have next : ∀ h' (o' : Option Int), h₁.le h' -> j + 1 <= n -> turnO x k i d = bestI o' (((askDays x k i).drop (j + 1)).filter (goodBy x k i d)) -> Y (.bool o'.isSome :: .int .i64 (IntKind.wrap .i64 ((j : Int) + 1)) :: bestCells f x k i o') h' := by
    intro h' o' hle' hlt hc'
    refine hY (n - (j + 1)) _ _ (by omega) ⟨hle', j + 1, o', ?_, by omega, rfl, hc'⟩
    rw [wrap_id (by omega) (by omega)]; rfl
  rcases o with _ | best
  all_goals
    simp only [Option.isSome, bestCells, zeroAsk, askCells] at next ⊢
    refine gZ ?_
    refine t_if (fun e1 => ?_) (fun e1 => ?_)
    · obtain ⟨a, ad, ha, had, he⟩ := (hs.le AskE.grow le2.1).at (i := j) (by omega)
      have g0 := he 0 _ rfl
      have g1 := he 1 _ rfl
      have g2 := he 2 _ rfl
      have g3 := he 3 _ rfl
      have g4 := he 4 _ rfl
      have g5 := he 5 _ rfl
      have g6 := he 6 _ rfl
      have g7 := he 7 _ rfl
      have g8 := he 8 _ rfl
      have g9 := he 9 _ rfl
      have g10 := he 10 _ rfl
      have g11 := he 11 _ rfl
      have had2 := rt.askDay (List.mem_of_getElem? ha)
      have hend := askEnd_low rt.ok k i a
      have hturn := rt.turn
      have href := rt.refuse
      have le12 := LH.le_trans le1 le2
      rw [drop_of ha, goodBy_step] at hc
      have hgb : goodBy x k i d a = (fallen x k i a && (decide (askEnd x k i a <= d /\ d <= askEnd x k i a + x.turn) && !refused x k i a (askEnd x k i a - 1))) := rfl
      have bad : goodBy x k i d a = false -> ∀ h', h₁.le h' -> Y _ h' := fun hb h' hle' => next h' _ hle' (by omega) (by rw [if_neg (by rw [hb]; simp)] at hc; exact hc)
      refine gZ ?_
      refine t_cond (fun e2 => ?_) (fun e2 => ?_)
      · rw [wrap_id (by omega) (by omega)]
        refine t_pu (c2052 _ _ _) ?_
        have hin : inB d (askEnd x k i a) (askEnd x k i a + x.turn) = decide (askEnd x k i a <= d /\ d <= askEnd x k i a + x.turn) := by
          unfold inB
          rw [Bool.eq_iff_iff]
          simp only [Bool.and_eq_true, decide_eq_true_eq]
        rw [hin]
        refine gZ ?_
        refine t_cond (fun e3 => ?_) (fun e3 => ?_)
        · rw [wrap_id (by omega) (by omega)]
          refine t_gr (c2085 (hk.le le12.1) (hx.le le12.1) k i (a := a) (by unfold IsI; omega) _ _ _) ?_
          rintro _ h3 le3 rfl
          refine gZ ?_
          have le13 := LH.le_trans le2 le3
          refine t_cond (fun e4 => ?_) (fun e4 => ?_)
          · have hg : goodBy x k i d a = true := by rw [hgb, e2, e3, e4]; rfl
            rw [if_pos hg] at hc
            first
              | (refine t_cond (fun _ => ?_) (fun e => by cases e)
                 exact t_again (next h3 (some a) le13 (by omega) hc))
              | (refine t_cond (fun e => by cases e) (fun _ => ?_)
                 refine t_if (fun e5 => ?_) (fun e5 => ?_)
                 · exact t_again (next h3 (some a) le13 (by omega) (by rw [hc, bestI, if_pos e5]))
                 · exact t_again (next h3 (some best) le13 (by omega) (by rw [hc, bestI, if_neg e5])))
          · exact t_again (bad (by rw [hgb, e4]; simp) h3 le13)
        · exact t_again (bad (by rw [hgb, e3]; simp) h2 le2)
      · exact t_again (bad (by rw [hgb, e2]; simp) h2 le2)
    · refine gZ ?_
      rw [List.drop_eq_nil_of_le (by omega)] at hc
      refine t_ret ⟨LH.le_trans le1 le2, ?_⟩
      rw [hc]; rfl
end Go.Proofs.YtgljffachdhigaaGreatDoor.Tre
end
section
namespace Go.Proofs.YtgljffachdhigaaGreatDoor.Tre
open Go Go.TM Go.Proofs Go.TM.Tr
set_option maxRecDepth 100000 in
theorem via_ask_eq {v : Value} {d : Int} {A : Next -> Cells -> Prop} {E : Halt -> Cells -> Prop} {H : Cells} : Sem.lwp Tryz.prog (do let d <- Deferred.ofValue (.func (.func 198) #[] #[]) #[v, .int .i64 d]; invoke d.target d.args) A E H = Sem.lwp Tryz.prog (do let d <- Deferred.ofValue (.func (.method "touchmark/treaty.on") #[.iface 175 v] #[]) #[.int .i64 d]; invoke d.target d.args) A E H := by
 kernel_rfl
set_option maxRecDepth 100000 in
theorem via_ask {X : XP} {v : Value} {d : Int} {h : LH} {Q : Value -> LH -> Prop} (c : CV X Tryz.prog (.func (.func 198) #[] #[]) #[v, .int .i64 d] h Q) : CV X Tryz.prog (.func (.method "touchmark/treaty.on") #[.iface 175 v] #[]) #[.int .i64 d] h Q := by
 intro main R hR fr cs hk
 exact via_ask_eq.mp (c main R hR fr cs hk)
set_option maxRecDepth 100000 in
theorem via_turn_eq {v : Value} {d : Int} {A : Next -> Cells -> Prop} {E : Halt -> Cells -> Prop} {H : Cells} : Sem.lwp Tryz.prog (do let d <- Deferred.ofValue (.func (.func 199) #[] #[]) #[v, .int .i64 d]; invoke d.target d.args) A E H = Sem.lwp Tryz.prog (do let d <- Deferred.ofValue (.func (.method "touchmark/treaty.on") #[.iface 232 v] #[]) #[.int .i64 d]; invoke d.target d.args) A E H := by
 kernel_rfl
set_option maxRecDepth 100000 in
theorem via_turn {X : XP} {v : Value} {d : Int} {h : LH} {Q : Value -> LH -> Prop} (c : CV X Tryz.prog (.func (.func 199) #[] #[]) #[v, .int .i64 d] h Q) : CV X Tryz.prog (.func (.method "touchmark/treaty.on") #[.iface 232 v] #[]) #[.int .i64 d] h Q := by
 intro main R hR fr cs hk
 exact via_turn_eq.mp (c main R hR fr cs hk)
attribute [local irreducible] T.wp CV FWK
inductive Title where
 | ask (a : Int)
 | turn (a b : Int)
def turnV (f : TC) (x : TF) (k i a b : Int) : Value := .agg #[.int .i64 x.items, .int .i64 x.lands, .int .i64 x.start, .int .i64 x.depend, .int .i64 x.refuse, .int .i64 x.turn, .slice f.p f.n f.c, .int .i64 k, .int .i64 i, .int .i64 a, .int .i64 (askEnd x k i a), .bool (fallen x k i a), .int .i64 b, .int .i64 (limits x k i b)]
def titleV (f : TC) (x : TF) (k i : Int) : Title -> Value
 | .ask a => .iface 175 (askV f x k i a)
 | .turn a b => .iface 232 (turnV f x k i a b)
def titleDate : Title -> Int
 | .ask a => a
 | .turn a _ => a
def titleOn (x : TF) (k i d : Int) : Title -> Bool
 | .ask a => decide (a <= d /\ d < askEnd x k i a) && !refused x k i a d
 | .turn _ b => decide (b <= d /\ d < limits x k i b)
def turnsL (x : TF) (k i : Int) (l : List Ev) : List Title := (l.filter fun e => decide (0 <= turned x k i e.day)).map fun e => .turn (turned x k i e.day) e.day
def titlesL (x : TF) (k i : Int) : List Title := (askDays x k i).map .ask ++ turnsL x k i (x.events.filter (allB 5 k i))
theorem titles_held (x : TF) (k i d : Int) : ((titlesL x k i).filter (titleOn x k i d)).map titleDate = held x k i d := by
 unfold titlesL turnsL held askHeld turnHeld
 rw [List.filter_append, List.map_append]
 congr 1
 ·rw [List.filter_map, List.map_map]
  have : titleDate ∘ Title.ask = id := rfl
  rw [this, List.map_id]; rfl
 ·rw [List.filter_map, List.map_map, List.filter_filter, List.filter_filter]
  congr 1
  refine List.filter_congr fun e _ => ?_
  rw [allB_about (by decide)]
  show (decide (e.day <= d /\ d < limits x k i e.day) && decide (0 <= turned x k i e.day) && about e 5 k i) = _
  cases about e 5 k i <;> cases decide (0 <= turned x k i e.day) <;> cases decide (e.day <= d /\ d < limits x k i e.day) <;> rfl
def TitleE (f : TC) (x : TF) (k i : Int) (h : Cells) (a : Addr) (t : Title) : Prop := h.cell? (a.add 0) = some (titleV f x k i t)
def TitleEnc (f : TC) (x : TF) (k i : Int) (t : Title) (ws : List Value) : Prop := ws = [titleV f x k i t]
theorem TitleE.grow {f : TC} {x : TF} {k i : Int} : Grow (TitleE f x k i) := fun _ _ _ _ hl h => hl _ _ h
theorem TitleEnc.len {f : TC} {x : TF} {k i : Int} : ∀ d ws, TitleEnc f x k i d ws -> ws.length = 1 := by rintro d _ rfl; rfl
theorem TitleEnc.e {f : TC} {x : TF} {k i : Int} {h' : Cells} : ∀ a d ws, TitleEnc f x k i d ws -> (∀ (j : Nat) w, ws[j]? = some w -> h'.cell? (a.add j) = some w) -> TitleE f x k i h' a d := by
 rintro a d _ rfl hc; exact hc 0 _ rfl
theorem titleV_one (f : TC) (x : TF) (k i : Int) (t : Title) : isOne (titleV f x k i t) = true := by cases t <;> rfl
theorem c2138 {h : LH} (f : TC) (x : TF) (v : Ok x) (k i a b d : Int) : Pu Tryz.prog 199 #[turnV f x k i a b, .int .i64 d] h (.tuple #[.int .i64 a, .bool (decide (b <= d /\ d < limits x k i b))]) := by
 refine w2138 _ _ _ _ _ _ _ _ _ _ _ _ _ _ _ _ _ X0_ok ?_
 unfold n2138
 have hl := limits_low v k i b
 rw [wrap_id (by omega) (by omega)]
 have hin : inB d b (limits x k i b - 1) = decide (b <= d /\ d < limits x k i b) := by
  unfold inB
  rw [Bool.eq_iff_iff]
  simp only [Bool.and_eq_true, decide_eq_true_eq]
  omega
 refine t_pu (c2052 _ _ _) ?_
 rw [hin]
 refine gZ ?_
 exact t_ret ⟨rfl, rfl⟩
theorem titles_ask {x : TF} {k i : Int} {t : Title} (h : t ∈ titlesL x k i) : (∃ a, t = .ask a /\ a ∈ askDays x k i) \/ ∃ e ∈ x.events, t = .turn (turned x k i e.day) e.day /\ 0 <= turned x k i e.day := by
 unfold titlesL turnsL at h
 rcases List.mem_append.1 h with h | h
 ·obtain ⟨a, ha, rfl⟩ := List.mem_map.1 h
  exact .inl ⟨a, rfl, ha⟩
 ·obtain ⟨e, he, rfl⟩ := List.mem_map.1 h
  have h1 := List.mem_filter.1 he
  exact .inr ⟨e, (List.mem_filter.1 h1.1).1, rfl, by simpa using h1.2⟩
theorem titles_len (x : TF) (k i : Int) : (titlesL x k i).length <= 2 * x.events.length := by
 unfold titlesL turnsL
 rw [List.length_append, List.length_map, List.length_map]
 have h1 := askDays_len x k i
 have h2 := List.length_filter_le (fun e : Ev => decide (0 <= turned x k i e.day)) (x.events.filter (allB 5 k i))
 have h3 := List.length_filter_le (allB 5 k i) x.events
 omega
theorem cv_title {h : LH} (hk : Kinds h.get) {f : TC} {x : TF} (hx : TreatyR h.get f x) (rt : Right x) (k i d : Int) {t : Title} (ht : t ∈ titlesL x k i) :
  CV X0 Tryz.prog (.func (.method "touchmark/treaty.on") #[titleV f x k i t] #[]) #[.int .i64 d] h fun r h' => h.le h' /\ r = .tuple #[.int .i64 (titleDate t), .bool (titleOn x k i d t)] := by
 rcases titles_ask ht with ⟨a, rfl, ha⟩ | ⟨e, _, rfl, _⟩
 ·refine via_ask (cv_fw X0_ok (hargs := #[askV f x k i a, .int .i64 d]) (by rfl) ?_)
  have h1 := rt.askDay ha
  have h2 := rt.refuse
  have h3 := askEnd_low rt.ok k i a
  exact c2137 hk hx k i (by unfold IsI; omega) (by unfold IsI; omega) d
 ·refine via_turn (cv_fw X0_ok (hargs := #[turnV f x k i (turned x k i e.day) e.day, .int .i64 d]) (by rfl) ?_)
  exact pu_gr (c2138 f x rt.ok k i _ _ d)
theorem turns_step {x : TF} {k i : Int} {l : List Ev} {e : Ev} (h : 0 <= turned x k i e.day) : turnsL x k i (l ++ [e]) = turnsL x k i l ++ [.turn (turned x k i e.day) e.day] := by
 unfold turnsL
 rw [List.filter_append, List.map_append, List.filter_cons, if_pos (by simpa using h)]; rfl
theorem turns_skip {x : TF} {k i : Int} {l : List Ev} {e : Ev} (h : ¬ 0 <= turned x k i e.day) : turnsL x k i (l ++ [e]) = turnsL x k i l := by
 unfold turnsL
 rw [List.filter_append, List.map_append, List.filter_cons, if_neg (by simpa using h)]; simp
def butOf (h : Cells) : Option Addr -> Cells
 | none => h
 | some a => fun r => if r = a.block then none else h r
def onlyOf (h : Cells) : Option Addr -> Cells
 | none => fun _ => none
 | some a => fun r => if r = a.block then h r else none
theorem but_only (h : Cells) (p : Option Addr) : h = (butOf h p).add (onlyOf h p) /\ Disj (butOf h p) (onlyOf h p) := by
 cases p with
 | none => exact ⟨by funext r; unfold butOf onlyOf Cells.add; simp only; cases h r <;> rfl, fun r => .inr rfl⟩
 | some a =>
  refine ⟨?_, fun r => ?_⟩
  ·funext r
   unfold butOf onlyOf Cells.add
   by_cases e : r = a.block
   ·simp [e]
   ·simp [e]; cases h r <;> rfl
  ·unfold butOf onlyOf
   by_cases e : r = a.block
   ·simp [e]
   ·simp [e]
theorem but_le {h₁ h : Cells} {p : Option Addr} (hl : h₁.le h) (hp : NewIn h₁ p) : h₁.le (butOf h p) := by
 intro r x hr
 cases p with
 | none => exact hl r x hr
 | some a =>
  unfold butOf
  have hne : r ≠ a.block := by
   rintro rfl
   have := hp a rfl
   rw [this] at hr; cases hr
  simp [hne]; exact hl r x hr
theorem Growing.over {α : Type} {Enc : α -> List Value -> Prop} {el : TypeId} {k : Nat} {h₀ h hb : Cells} {p : Option Addr} {n c : Nat} {l : List α} (g : Growing Enc el k h₀ h p n c l) (d : Disj hb (onlyOf h p)) : Growing Enc el k hb (hb.add (onlyOf h p)) p n c l := by
 obtain ⟨vs, ⟨h1, h2⟩, h3⟩ := g.row
 rcases h2 with h2 | ⟨r, cs, rfl, hr, h4⟩
 ·exact ⟨⟨vs, ⟨h1, .inl h2⟩, h3⟩, fun a ha => by rw [h2.1] at ha; cases ha⟩
 ·have ho : onlyOf h (some ⟨r, 0, none⟩) r = some (true, .cells cs el (0, 0)) := by unfold onlyOf; simp [hr]
  refine ⟨⟨vs, ⟨h1, .inr ⟨r, cs, rfl, Cells.add_right' d ho, h4⟩⟩, h3⟩, fun a ha => ?_⟩
  cases ha
  rcases d r with h5 | h5
  ·exact h5
  ·rw [ho] at h5; cases h5
theorem t_allF {X : XP} {Q : Leaf -> LH -> Prop} {h hb : LH} {kq : Cells} {kk : Value -> T} (hX : XOK X) (hh : h = hb.add kq) (d : Disj hb.get kq) (hk : Kinds hb.get) {f : TC} {x : TF} (hx : TreatyR hb.get f x) (k i : Int) (K : Nat) (hK : K < 7)
  (hw : ∀ v hb' L, hb.le hb' -> Disj hb'.get kq -> L.length = (x.events.filter (allB K k i)).length -> (∀ (j : Nat) xs, L[j]? = some xs -> ∃ e q m c, (x.events.filter (allB K k i))[j]? = some e /\ xs = [evV e q m c] /\ Sl IntE 1 hb'.get q m e.items) -> Hands X Tryz.prog v hb' L -> (kk v).wp X Tryz.prog Q (hb'.add kq)) :
  (T.call false 135 #[matV f x k i, .int .i64 (K : Int)] kk).wp X Tryz.prog Q h := by
 subst hh
 refine t_call (FW.frame hX (FW.top (c2083 (h := hb) f x k i K)) d) ?_
 rintro _ _ ⟨h', d', rfl, le1, z0, z1, rfl, hm, hz⟩
 obtain ⟨L, h1, h2, h3⟩ := hands2095 hX (hk.le le1.1) hK hm hz (hx.le le1.1)
 exact hw _ h' L le1 d' h1 h2 h3
set_option maxRecDepth 10000 in
theorem c2082 {h : LH} (hk : Kinds h.get) {f : TC} {x : TF} (hx : TreatyR h.get f x) (rt : Right x) (k i : Int) :
  Gr Tryz.prog 134 #[matV f x k i] h fun r h' => ∃ p n c, r = .slice p n c /\ Sl (TitleE f x k i) 1 h'.get p n (titlesL x k i) := by
 refine w2082 _ _ _ _ _ _ _ _ _ _ _ X0_ok ?_
 unfold n2082
 refine t_gr (c2084 hk hx rt.sum (Nat.le_trans rt.many (by omega)) k i) ?_
 rintro _ h₁ le1 ⟨p, n, c, rfl, hs⟩
 refine gZ ?_
 have hn := hs.1
 have hb := hs.2.1
 have hlen := askDays_len x k i
 have hmany := rt.many
 have htl := titles_len x k i
 refine t_loop (fun mm vs h' => h₁.le h' /\ ∃ (j : Nat) (q : Option Addr) (m cc : Nat), vs = [.int .i64 j, .slice q m cc] /\ j <= n /\ mm = n - j /\ Growing (TitleEnc f x k i) 207 1 h₁.get h'.get q m cc (((askDays x k i).take j).map .ask))
  ⟨LH.le_refl _, 0, none, 0, 0, rfl, Nat.zero_le _, rfl, Growing.nil⟩ ?_
 rintro Y mm vs h2 hY ⟨le2, j, q, m, cc, rfl, hj, rfl, g⟩
 refine gZ ?_
 refine t_if (fun e1 => ?_) (fun e1 => ?_)
 ·obtain ⟨a, ad, ha, had, he⟩ := (hs.le AskE.grow le2.1).at (i := j) (by omega)
  have g0 := he 0 _ rfl
  have g1 := he 1 _ rfl
  have g2 := he 2 _ rfl
  have g3 := he 3 _ rfl
  have g4 := he 4 _ rfl
  have g5 := he 5 _ rfl
  have g6 := he 6 _ rfl
  have g7 := he 7 _ rfl
  have g8 := he 8 _ rfl
  have g9 := he 9 _ rfl
  have g10 := he 10 _ rfl
  have g11 := he 11 _ rfl
  have hm : m <= 100 := by
   rw [g.count TitleEnc.len (by omega), List.length_map, List.length_take]; omega
  refine gZ ?_
  refine t_push (Title.ask a) [titleV f x k i (.ask a)] rfl rfl undTitles infTitle rfl (by omega) (by decide) (by kernel_rfl) rfl (by simp [titleV_one]) (by omega) g le2 rfl ?_
  intro p' c' h3 le3 _ g3'
  refine gZ ?_
  refine t_again (hY (n - (j + 1)) _ _ (by omega) ⟨le3, j + 1, p', m + 1, c', ?_, by omega, rfl, ?_⟩)
  ·rw [wrap_id (by omega) (by omega)]; rfl
  ·rw [List.take_add_one, ha, List.map_append]
   exact g3'
 ·refine gZ ?_
  have hjn : j = (askDays x k i).length := by omega
  subst hjn
  rw [List.take_of_length_le (Nat.le_refl _)] at g
  have hbo := but_only h2.get q
  have lebut : h₁.get.le (butOf h2.get q) := but_le le2.1 g.new
  refine t_allF (hb := { h2 with get := butOf h2.get q }) (kq := onlyOf h2.get q) X0_ok (by unfold LH.add; simp only; rw [<- hbo.1]) hbo.2 ((hk.le le1.1).le lebut) ((hx.le le1.1).le lebut) k i 5 (by decide) ?_
  intro v h3 L leb3 d3 hL1 hL2 hH
  have le3 : h₁.le h3 := ⟨Cells.le_trans lebut leb3.1, leb3.2.1.trans le2.2.1, leb3.2.2.1.trans le2.2.2.1, leb3.2.2.2.trans le2.2.2.2⟩
  have le03 := LH.le_trans le1 le3
  have hFl := List.length_filter_le (allB 5 k i) x.events
  have htit : titlesL x k i = (askDays x k i).map .ask ++ turnsL x k i (x.events.filter (allB 5 k i)) := rfl
  rw [htit]
  generalize hF : x.events.filter (allB 5 k i) = F at hL1 hL2 hFl
  have leA : h3.le (h3.add (onlyOf h2.get q)) := ⟨Cells.le_add _ _, rfl, rfl, rfl⟩
  refine t_each leA hH (fun j vs h' => ∃ (q : Option Addr) (m cc : Nat), vs = [.slice q m cc] /\ Growing (TitleEnc f x k i) 207 1 h3.get h'.get q m cc ((askDays x k i).map .ask ++ turnsL x k i (F.take j)))
   ⟨q, m, cc, rfl, by simpa [turnsL, LH.add] using Growing.over g d3⟩ ?_ ?_
  ·rintro vs h' hle ⟨q, m, cc, rfl, g⟩
   rw [hL1, List.take_of_length_le (Nat.le_refl _)] at g
   refine gZ ?_
   refine t_ret ⟨LH.le_trans le03 hle, q, m, cc, rfl, g.sl TitleEnc.len (by omega) TitleEnc.e ?_⟩
   rw [htit, hF] at htl; omega
  ·rintro j xs vs h' hj2 hle ⟨q, m, cc, rfl, g⟩ Y2 hY2
   obtain ⟨e, qe, me, ce, he, rfl, hit⟩ := hL2 j xs hj2
   have htake : F.take (j + 1) = F.take j ++ [e] := by rw [List.take_add_one, he]; rfl
   have le13 := LH.le_trans le03 hle
   unfold evV
   refine gZ ?_
   refine t_gr (c2064 (hk.le le13.1) (hx.le le13.1) rt k i e.day) ?_
   rintro _ h4 le4 rfl
   have le14 := LH.le_trans le13 le4
   cases ho : turnO x k i e.day with
   | none =>
    have hno := (turnO_none rt.ok).1 ho
    simp only [Option.isSome, bestCells, zeroAsk]
    refine gZ ?_
    refine t_cond (fun e => by cases e) (fun _ => ?_)
    refine gZ ?_
    refine t_againE (LH.le_trans hle le4) (hY2 _ _ (LH.le_trans hle le4) ⟨q, m, cc, rfl, ?_⟩)
    rw [htake, turns_skip hno]
    exact g.le le4.1
   | some a =>
    obtain ⟨ha0, hae⟩ := turnO_some rt.ok ho
    simp only [Option.isSome, bestCells, askCells]
    refine gZ ?_
    refine t_cond (fun _ => ?_) (fun e => by cases e)
    refine gZ ?_
    refine t_gr (c2094 (hk.le le14.1) (hx.le le14.1) k i e.day) ?_
    rintro _ h5 le5 rfl
    refine gZ ?_
    have hm : m <= 100 := by
     rw [g.count TitleEnc.len (by omega), List.length_append, List.length_map]
     unfold turnsL
     rw [List.length_map]
     have h1 := List.length_filter_le (fun e : Ev => decide (0 <= turned x k i e.day)) (F.take j)
     have h2 : (F.take j).length <= F.length := by rw [List.length_take]; omega
     omega
    refine t_buildR [titleV f x k i (.turn a e.day)] undTitles infTitle (by decide) (by decide) (by kernel_rfl) ?_
    intro r h6 le6 _ hr6
    refine gZ ?_
    refine t_growR (h₀ := h3) (Enc := TitleEnc f x k i) (Title.turn a e.day) [titleV f x k i (.turn a e.day)] rfl rfl undTitles infTitle rfl (by omega) (by omega) (g.le (LH.le_trans le4 (LH.le_trans le5 le6)).1) (LH.le_trans hle (LH.le_trans le4 (LH.le_trans le5 le6))) rfl rfl hr6 (by simp [titleV_one]) ?_
    intro p' c' h7 le7 kp7 g7
    refine gZ ?_
    refine t_againE le7 (hY2 _ _ le7 ⟨p', _, c', rfl, ?_⟩)
    rw [htake, turns_step (by rw [<- hae]; exact ha0), <- List.append_assoc, <- hae]
    exact g7
end Go.Proofs.YtgljffachdhigaaGreatDoor.Tre
end
section
namespace Go.Proofs.YtgljffachdhigaaGreatDoor.Tre
open Go Go.TM Go.Proofs Go.TM.Tr
attribute [local irreducible] T.wp CV FWK
theorem dated_all (x : TF) (k i d a : Int) (ha : a <= 10000) : dated x k i d a = leastFrom a (((x.events.filter (allB 6 k i)).filter fun e => decide (e.day <= d) && decide (e.since <= a)).map (·.since)) := by
 unfold dated oldL
 rw [leastFrom_min _ _ ha, List.filter_filter, least_cons]
 have : (x.events.filter fun e => about e 6 k i && (decide (e.day <= d) && decide (e.since <= a))) = x.events.filter fun e => (decide (e.day <= d) && decide (e.since <= a)) && allB 6 k i e := by
  refine List.filter_congr fun e _ => ?_
  rw [allB_about (by decide), Bool.and_comm]; rfl
 rw [this]
theorem dateOn_least {x : TF} (v : Ok x) (k i d : Int) : dateOn x k i d = if least ((held x k i d).map (dated x k i d)) = 10000 then -1 else least ((held x k i d).map (dated x k i d)) := by
 unfold dateOn
 rcases leastOr_mem (date_vals v (k := k) (i := i) (d := d)) with ⟨h1, h2⟩ | ⟨h1, h2⟩
 ·rw [h1, h2]; rfl
 ·rw [h2]
  have := date_vals v (k := k) (i := i) (d := d) _ h1
  rw [h2] at this
  rw [if_neg (by omega)]
theorem title_low {x : TF} (rt : Right x) {k i : Int} {t : Title} (h : t ∈ titlesL x k i) : titleDate t <= 10000 := by
 rcases titles_ask h with ⟨a, rfl, ha⟩ | ⟨e, _, rfl, _⟩
 ·have := rt.askDay ha
  show a <= 10000
  omega
 ·show turned x k i e.day <= 10000
  rcases turned_vals rt.ok k i e.day with ⟨h1, _⟩ | ⟨h1, _⟩
  ·omega
  ·have := rt.ok.turnedL _ h1; omega
set_option maxRecDepth 10000 in
theorem c2060 {h : LH} (hk : Kinds h.get) {f : TC} {x : TF} (hx : TreatyR h.get f x) (rt : Right x) (k i d : Int) :
  Gr Tryz.prog 99 #[matV f x k i, .int .i64 d] h fun r _ => r = .int .i64 (dateOn x k i d) := by
 refine w2060 _ _ _ _ _ _ _ _ _ _ _ _ X0_ok ?_
 unfold n2060
 refine t_gr (c2082 hk hx rt k i) ?_
 rintro _ h₁ le1 ⟨p, n, c, rfl, hs⟩
 refine gZ ?_
 have hn := hs.1
 have hb := hs.2.1
 have htl := titles_len x k i
 have hmany := rt.many
 refine t_loop (fun mm vs h' => h₁.le h' /\ ∃ (j : Nat) (b : Int), vs = [.int .i64 b, .int .i64 j, .int .i64 x.items, .int .i64 x.lands, .int .i64 x.start, .int .i64 x.depend, .int .i64 x.refuse, .int .i64 x.turn, .slice f.p f.n f.c, .int .i64 k, .int .i64 i, .int .i64 d] /\ j <= n /\ mm = n - j /\ b <= 10000 /\
   least ((held x k i d).map (dated x k i d)) = leastFrom b (((((titlesL x k i).drop j).filter (titleOn x k i d)).map titleDate).map (dated x k i d)))
  ⟨LH.le_refl _, 0, 10000, rfl, Nat.zero_le _, rfl, Int.le_refl _, by rw [List.drop_zero, titles_held, leastFrom_cap]⟩ ?_
 rintro Y mm vs h2 hY ⟨le2, j, b, rfl, hj, rfl, hb1, hc⟩
 have le12 := LH.le_trans le1 le2
 have next : ∀ h' (b' : Int), h₁.le h' -> j + 1 <= n -> b' <= 10000 -> least ((held x k i d).map (dated x k i d)) = leastFrom b' (((((titlesL x k i).drop (j + 1)).filter (titleOn x k i d)).map titleDate).map (dated x k i d)) ->
   Y [.int .i64 b', .int .i64 (IntKind.wrap .i64 ((j : Int) + 1)), .int .i64 x.items, .int .i64 x.lands, .int .i64 x.start, .int .i64 x.depend, .int .i64 x.refuse, .int .i64 x.turn, .slice f.p f.n f.c, .int .i64 k, .int .i64 i, .int .i64 d] h' := by
  intro h' b' hle' hlt hb' hc'
  refine hY (n - (j + 1)) _ _ (by omega) ⟨hle', j + 1, b', ?_, by omega, rfl, hb', hc'⟩
  rw [wrap_id (by omega) (by omega)]; rfl
 refine gZ ?_
 refine t_if (fun e1 => ?_) (fun e1 => ?_)
 ·obtain ⟨t, ad, ht, had, he⟩ := (hs.le TitleE.grow le2.1).at (i := j) (by omega)
  unfold TitleE at he
  rw [add_zero'] at he
  have htm := List.mem_of_getElem? ht
  rw [drop_of ht, List.filter_cons] at hc
  subst had
  refine gT (by omega) (gS2 rfl (t_loadV he ?_))
  refine t_callv (cv_title (hk.le le12.1) (hx.le le12.1) rt k i d htm) ?_
  rintro _ h3 ⟨le3, rfl⟩
  have le13 := LH.le_trans le12 le3
  have le23 := LH.le_trans le2 le3
  refine gZ ?_
  refine t_cond (fun e2 => ?_) (fun e2 => ?_)
  ·have e2 : titleOn x k i d t = false := by simpa using e2
   rw [e2, if_neg (by simp)] at hc
   exact t_again (next h3 b le23 (by omega) hb1 hc)
  ·have e2 : titleOn x k i d t = true := by simpa using e2
   rw [e2, if_pos rfl, List.map_cons, List.map_cons, leastFrom] at hc
   have hlow := title_low rt htm
   refine t_all X0_ok (hk.le le13.1) (hx.le le13.1) k i 6 (by decide) ?_
   intro v h4 L le4 hL1 hL2 hH
   have hdt := dated_all x k i d (titleDate t) hlow
   generalize hF : x.events.filter (allB 6 k i) = F at hL1 hL2 hdt
   have le24 := LH.le_trans le23 le4
   refine t_each (LH.le_refl h4) hH (fun j vs h' => ∃ a : Int, vs = [.int .i64 a] /\ a <= 10000 /\ dated x k i d (titleDate t) = leastFrom a (((F.drop j).filter fun e => decide (e.day <= d) && decide (e.since <= titleDate t)).map (·.since)))
    ⟨_, rfl, hlow, hdt⟩ ?_ ?_
   ·rintro vs h' hle ⟨a, rfl, hal, hda⟩
    rw [List.drop_eq_nil_of_le (by omega)] at hda
    simp only [List.filter_nil, List.map_nil, leastFrom] at hda
    rw [hda] at hc
    refine gZ ?_
    exact t_again (next h' _ (LH.le_trans le24 hle) (by omega) (by split <;> omega) hc)
   ·rintro j2 xs vs h' hj2 hle ⟨a, rfl, hal, hda⟩ Y2 hY2
    obtain ⟨e, q, m, cc, hev, rfl, hit⟩ := hL2 j2 xs hj2
    rw [drop_of hev, List.filter_cons] at hda
    unfold evV
    refine gZ ?_
    refine t_if (fun e3 => ?_) (fun e3 => ?_)
    ·refine t_if (fun e4 => ?_) (fun e4 => ?_)
     ·rw [if_pos (by simp; omega), List.map_cons, leastFrom] at hda
      exact t_againE hle (hY2 _ _ hle ⟨_, rfl, by split <;> omega, hda⟩)
     ·rw [if_neg (by simp; omega)] at hda
      exact t_againE hle (hY2 _ _ hle ⟨_, rfl, hal, hda⟩)
    ·rw [if_neg (by simp; omega)] at hda
     exact t_againE hle (hY2 _ _ hle ⟨_, rfl, hal, hda⟩)
 ·refine gZ ?_
  rw [List.drop_eq_nil_of_le (by omega)] at hc
  simp only [List.filter_nil, List.map_nil, leastFrom] at hc
  have hd := dateOn_least rt.ok k i d
  rw [hc] at hd
  refine t_cond (fun e2 => ?_) (fun e2 => ?_)
  ·exact t_ret ⟨le12, by rw [hd, if_pos (by simpa using e2)]⟩
  ·exact t_ret ⟨le12, by rw [hd, if_neg (by simpa using e2)]⟩
def datesT (x : TF) (k d : Int) : List Int := (List.range x.items.toNat).map fun i : Nat => dateOn x k (i : Int) d
def DatesR (h : Cells) (x : TF) (k d : Int) (r : Value) : Prop :=
 (askedDayT x k d ≠ 0 /\ r = .tuple #[.slice none 0 0, .int .i64 (askedDayT x k d)]) \/
 (askedDayT x k d = 0 /\ ∃ p n c, r = .tuple #[.slice p n c, .int .i64 0] /\ Sl IntE 1 h p n (datesT x k d) /\ n <= c)
theorem c2026 {h : LH} (hk : Kinds h.get) {f : TC} {x : TF} (hx : TreatyR h.get f x) (k d : Int) : Gr Tryz.prog 59 #[treatyV f x, .int .i64 k, .int .i64 d] h fun r h' => DatesR h'.get x k d r := by
 refine w2026 _ _ _ _ _ _ _ _ _ _ _ X0_ok ?_
 unfold n2026
 refine t_pu (c2063 hk hx k d) ?_
 refine gZ ?_
 refine t_cond (fun e => ?_) (fun e => ?_)
 ·exact t_ret ⟨LH.le_refl _, .inl ⟨by simpa using e, rfl⟩⟩
 have e0 : askedDayT x k d = 0 := by simpa using e
 have hck := (asked_ok (askedDay_ok e0).1).1
 have rt := Right.of hck
 have hit := (check_numbers hck).1
 refine t_loop (fun mm vs h' => h.le h' /\ ∃ (j : Nat) (p : Option Addr) (n c : Nat), vs = [.slice p n c, .int .i64 j] /\ (j : Int) <= x.items /\ mm = x.items.toNat - j /\ Growing IntEnc 3 1 h.get h'.get p n c ((List.range j).map fun i : Nat => dateOn x k (i : Int) d))
  ⟨LH.le_refl _, 0, none, 0, 0, rfl, by omega, rfl, Growing.nil⟩ ?_
 rintro Y mm vs h₁ hY ⟨le1, j, p, n, c, rfl, hj, rfl, g⟩
 refine gZ ?_
 refine t_if (fun e1 => ?_) (fun e1 => ?_)
 ·refine t_gr (c2060 (hk.le le1.1) (hx.le le1.1) rt k j d) ?_
  rintro _ h2 le2 rfl
  refine gZ ?_
  have hnn : n = j := by rw [g.count IntEnc.len (by omega)]; simp
  refine t_push (dateOn x k j d) [.int .i64 (dateOn x k j d)] rfl rfl und50 inf3 rfl (by omega) (by decide) (by kernel_rfl) rfl (by simp; rfl) (by omega) (g.le le2.1) (LH.le_trans le1 le2) rfl ?_
  intro p' c' h3 le3 _ g3
  refine gZ ?_
  refine t_again (hY (x.items.toNat - (j + 1)) _ _ (by omega) ⟨le3, j + 1, p', n + 1, c', ?_, by omega, rfl, ?_⟩)
  ·rw [wrap_id (by omega) (by omega)]; rfl
  ·rw [List.range_succ, List.map_append]; exact g3
 ·refine gZ ?_
  have hjn : x.items.toNat = j := by omega
  refine t_ret ⟨le1, .inr ⟨e0, p, n, c, rfl, ?_, ?_⟩⟩
  ·unfold datesT
   rw [hjn]
   exact g.sl IntEnc.len (by omega) IntEnc.e (by simp; omega)
  ·obtain ⟨vs, o, _⟩ := g.row
   exact o.le_cap
end Go.Proofs.YtgljffachdhigaaGreatDoor.Tre
end
section
namespace Go.Proofs.YtgljffachdhigaaGreatDoor.Tre
open Go Go.TM Go.Proofs Go.TM.Tr
attribute [local irreducible] T.wp CV FWK
def protT (x : TF) (k d : Int) : List Bool := (datesT x k d).map fun d => decide (d >= 0)
def ProtR (h : Cells) (x : TF) (k d : Int) (r : Value) : Prop :=
 ∃ p n c, r = .tuple #[.slice p n c, .int .i64 (askedDayT x k d)] /\ Sl BoolE 1 h p n (if askedDayT x k d = 0 then protT x k d else []) /\ n <= c
theorem dates_len (x : TF) (k d : Int) : (datesT x k d).length = x.items.toNat := by unfold datesT; simp
set_option maxRecDepth 10000 in
theorem c2018 {h : LH} (hk : Kinds h.get) {f : TC} {x : TF} (hx : TreatyR h.get f x) (k d : Int) : Gr Tryz.prog 58 #[treatyV f x, .int .i64 k, .int .i64 d] h fun r h' => ProtR h'.get x k d r := by
 refine w2018 _ _ _ _ _ _ _ _ _ _ _ X0_ok ?_
 unfold n2018
 refine t_gr (c2026 hk hx k d) ?_
 intro r h₁ le1 hr
 obtain ⟨p, n, c, g, l, rfl, hs, hg, hl, hl5⟩ : ∃ p n c g l, r = .tuple #[.slice p n c, .int .i64 g] /\ Sl IntE 1 h₁.get p n l /\ g = askedDayT x k d /\ (if askedDayT x k d = 0 then protT x k d else []) = l.map (fun d => decide (d >= 0)) /\ l.length <= 5 := by
  rcases hr with ⟨h1, rfl⟩ | ⟨h1, p, n, c, rfl, h2, h3⟩
  ·exact ⟨none, 0, 0, _, [], rfl, Sl.nil, rfl, by rw [if_neg h1]; rfl, by simp⟩
  ·refine ⟨p, n, c, 0, _, rfl, h2, h1.symm, by rw [if_pos h1]; rfl, ?_⟩
   have := (check_numbers (asked_ok (askedDay_ok h1).1).1).1
   rw [dates_len]; omega
 refine gZ ?_
 have hn := hs.1
 refine t_new fun r hr => ?_
 have le2 : ∀ cs, h₁.le { h₁ with get := h₁.get.upd r (true, .cells cs 167 (0, 0)) } := fun cs => LH.upd_le hr
 refine t_loop (fun mm vs h' => ∃ (j : Nat) (cs : Array Value), vs = [.int .i64 j] /\ j <= n /\ mm = n - j /\ h' = { h₁ with get := h₁.get.upd r (true, .cells cs 167 (0, 0)) } /\ cs.size = 5 /\ (∀ (i : Nat) y, i < j -> l[i]? = some y -> cs[i]? = some (.bool (decide (y >= 0)))) /\ ∀ i : Nat, j <= i -> i < 5 -> cs[i]? = some (.bool false))
  ⟨0, #[.bool false, .bool false, .bool false, .bool false, .bool false], rfl, Nat.zero_le _, rfl, rfl, rfl, fun i y hi => absurd hi (Nat.not_lt_zero _), fun i _ hi => by match i, hi with | 0, _ | 1, _ | 2, _ | 3, _ | 4, _ => rfl⟩ ?_
 rintro Y mm vs _ hY ⟨j, cs, rfl, hj, rfl, rfl, hsz, hlow, hhigh⟩
 refine gZ ?_
 refine t_if (fun e1 => ?_) (fun e1 => ?_)
 ·obtain ⟨y, a, hy, ha, e2⟩ := (hs.le IntE.grow (le2 cs).1).at (i := j) (by omega)
  unfold IntE at e2
  refine gZ ?_
  refine t_storeU (o := j) (by rw [add_plain, add_plain]; simp) rfl (by omega) ?_
  refine t_again (hY (n - (j + 1)) _ _ (by omega) ⟨j + 1, _, ?_, by omega, rfl, rfl, by simp [hsz], fun i z hi hz => ?_, fun i hi h5 => ?_⟩)
  ·rw [wrap_id (by omega) (by omega)]; rfl
  ·by_cases e : i = j
   ·subst e
    rw [hy] at hz; cases hz
    rw [Array.getElem?_setIfInBounds_self_of_lt (by omega)]
   ·rw [Array.getElem?_setIfInBounds_ne (Ne.symm e)]
    exact hlow i z (by omega) hz
  ·rw [Array.getElem?_setIfInBounds_ne (by omega)]
   exact hhigh i (by omega) h5
 ·refine gZ ?_
  have hjn : j = n := by omega
  subst hjn
  obtain ⟨bs, hbs5, hbs⟩ : ∃ bs : List Bool, bs.length = 5 /\ ∀ (i : Nat) b, bs[i]? = some b -> cs[i]? = some (.bool b) := by
   refine ⟨(List.range 5).map fun i : Nat => match (l[i]? : Option Int) with | some y => decide (y >= 0) | none => false, by simp, fun i b hb => ?_⟩
   rw [List.getElem?_map] at hb
   by_cases h5 : i < 5
   ·rw [List.getElem?_range h5] at hb
    simp only [Option.map_some, Option.some.injEq] at hb
    cases hly : l[i]? with
    | none =>
     rw [hly] at hb; subst hb
     exact hhigh i (by rw [hn]; exact List.getElem?_eq_none_iff.1 hly) h5
    | some y =>
     rw [hly] at hb; subst hb
     exact hlow i y (by rw [hn]; exact (List.getElem?_eq_some_iff.1 hly).1) hly
   ·rw [List.getElem?_eq_none (by simp; omega)] at hb; cases hb
  match bs, hbs5 with
  | [b0, b1, b2, b3, b4], _ =>
   have c0 : Cells.cell? (h₁.get.upd r (true, .cells cs 167 (0, 0))) (Addr.add ⟨r, 0, none⟩ 0) = some (.bool b0) := by rw [add_plain]; exact cell_upd (hbs 0 _ rfl)
   have c1 : Cells.cell? (h₁.get.upd r (true, .cells cs 167 (0, 0))) (Addr.add ⟨r, 0, none⟩ 1) = some (.bool b1) := by rw [add_plain]; exact cell_upd (hbs 1 _ rfl)
   have c2 : Cells.cell? (h₁.get.upd r (true, .cells cs 167 (0, 0))) (Addr.add ⟨r, 0, none⟩ 2) = some (.bool b2) := by rw [add_plain]; exact cell_upd (hbs 2 _ rfl)
   have c3 : Cells.cell? (h₁.get.upd r (true, .cells cs 167 (0, 0))) (Addr.add ⟨r, 0, none⟩ 3) = some (.bool b3) := by rw [add_plain]; exact cell_upd (hbs 3 _ rfl)
   have c4 : Cells.cell? (h₁.get.upd r (true, .cells cs 167 (0, 0))) (Addr.add ⟨r, 0, none⟩ 4) = some (.bool b4) := by rw [add_plain]; exact cell_upd (hbs 4 _ rfl)
   refine gL2 c0 (gL2 c1 (gL2 c2 (gL2 c3 (gL2 c4 ?_))))
   refine t_eqA5 undItems bo4 inf4 gItems ?_
   refine gZ ?_
   refine t_cond (fun e => ?_) (fun e => ?_)
   ·have e : [b0, b1, b2, b3, b4] = [false, false, false, false, false] := by simpa only [decide_eq_true_eq] using e
    refine t_makeSlice undBs inf4 rfl (by decide) (by omega) fun r2 cs2 hr2 hsz2 hcs2 => ?_
    refine gZ ?_
    refine t_ret ⟨LH.le_trans (LH.le_trans le1 (le2 cs)) (LH.upd_le hr2), _, _, _, by rw [hg], ?_, Nat.le_refl _⟩
    rw [hl]
    refine ⟨by rw [List.length_map]; exact hn, by rw [List.length_map]; omega, fun i b hb => ⟨_, rfl, ?_⟩⟩
    unfold BoolE
    rw [add_plain, add_plain]
    rw [List.getElem?_map] at hb
    cases hly : l[i]? with
    | none => rw [hly] at hb; cases hb
    | some y =>
     rw [hly] at hb
     simp only [Option.map_some, Option.some.injEq] at hb
     have hi := (List.getElem?_eq_some_iff.1 hly).1
     have h1 := hlow i y (by omega) hly
     have hcell := hcs2 i (by omega)
     have hb' : b = false := by
      have h2 := hbs i
      match i, hi with
      | 0, _ => have := h2 b0 rfl; cases e; rw [this] at h1; simp only [Option.some.injEq, Value.bool.injEq] at h1; rw [<- hb, <- h1]
      | 1, _ => have := h2 b1 rfl; cases e; rw [this] at h1; simp only [Option.some.injEq, Value.bool.injEq] at h1; rw [<- hb, <- h1]
      | 2, _ => have := h2 b2 rfl; cases e; rw [this] at h1; simp only [Option.some.injEq, Value.bool.injEq] at h1; rw [<- hb, <- h1]
      | 3, _ => have := h2 b3 rfl; cases e; rw [this] at h1; simp only [Option.some.injEq, Value.bool.injEq] at h1; rw [<- hb, <- h1]
      | 4, _ => have := h2 b4 rfl; cases e; rw [this] at h1; simp only [Option.some.injEq, Value.bool.injEq] at h1; rw [<- hb, <- h1]
      | i + 5, hi => omega
     rw [hb']
     have hz : 0 + i * 1 + 0 = i := by omega
     rw [hz]
     exact cell_upd hcell
   ·refine t_sliceArr undItems inf4 (by omega) fun a' ha0 ha1 => ?_
    refine gZ ?_
    refine t_ret ⟨LH.le_trans le1 (le2 cs), _, _, _, by rw [hg], ?_, Nat.le_refl _⟩
    rw [hl]
    have haa : a' = ⟨r, 0, none⟩ := by
     by_cases e0 : j = 0
     ·exact ha0 e0
     ·rw [ha1 e0, add_plain]
    subst haa
    refine ⟨by rw [List.length_map]; exact hn, by rw [List.length_map]; omega, fun i b hb => ⟨_, rfl, ?_⟩⟩
    unfold BoolE
    rw [add_plain, add_plain]
    rw [List.getElem?_map] at hb
    cases hly : l[i]? with
    | none => rw [hly] at hb; cases hb
    | some y =>
     rw [hly] at hb
     simp only [Option.map_some, Option.some.injEq] at hb
     have hi := (List.getElem?_eq_some_iff.1 hly).1
     have h1 := hlow i y (by omega) hly
     have hz : 0 + i * 1 + 0 = i := by omega
     rw [hz, <- hb]
     exact cell_upd h1
def turnsT (x : TF) (k d : Int) : List Int := ((List.range x.items.toNat).filter fun i : Nat => decide (0 <= turned x k (i : Int) d)).map fun i : Nat => (i : Int)
def TurnsR (h : Cells) (x : TF) (k d : Int) (r : Value) : Prop :=
 (askedDayT x k d ≠ 0 /\ r = .tuple #[.slice none 0 0, .int .i64 (askedDayT x k d)]) \/
 (askedDayT x k d = 0 /\ ∃ p n c, r = .tuple #[.slice p n c, .int .i64 0] /\ Sl IntE 1 h p n (turnsT x k d) /\ n <= c)
set_option maxRecDepth 10000 in
theorem c2029 {h : LH} (hk : Kinds h.get) {f : TC} {x : TF} (hx : TreatyR h.get f x) (k d : Int) : Gr Tryz.prog 61 #[treatyV f x, .int .i64 k, .int .i64 d] h fun r h' => TurnsR h'.get x k d r := by
 refine w2029 _ _ _ _ _ _ _ _ _ _ _ X0_ok ?_
 unfold n2029
 refine t_pu (c2063 hk hx k d) ?_
 refine gZ ?_
 refine t_cond (fun e => ?_) (fun e => ?_)
 ·exact t_ret ⟨LH.le_refl _, .inl ⟨by simpa using e, rfl⟩⟩
 have e0 : askedDayT x k d = 0 := by simpa using e
 have hck := (asked_ok (askedDay_ok e0).1).1
 have rt := Right.of hck
 have hit := (check_numbers hck).1
 refine t_loop (fun mm vs h' => h.le h' /\ ∃ (j : Nat) (p : Option Addr) (n c : Nat), vs = [.slice p n c, .int .i64 j] /\ (j : Int) <= x.items /\ mm = x.items.toNat - j /\ Growing IntEnc 3 1 h.get h'.get p n c (((List.range j).filter fun i : Nat => decide (0 <= turned x k (i : Int) d)).map fun i : Nat => (i : Int)))
  ⟨LH.le_refl _, 0, none, 0, 0, rfl, by omega, rfl, Growing.nil⟩ ?_
 rintro Y mm vs h₁ hY ⟨le1, j, p, n, c, rfl, hj, rfl, g⟩
 have hnn : n <= j := by
  rw [g.count IntEnc.len (by omega), List.length_map]
  have := List.length_filter_le (fun i : Nat => decide (0 <= turned x k (i : Int) d)) (List.range j)
  rw [List.length_range] at this; exact this
 refine gZ ?_
 refine t_if (fun e1 => ?_) (fun e1 => ?_)
 ·refine t_gr (c2064 (hk.le le1.1) (hx.le le1.1) rt k j d) ?_
  rintro _ h2 le2 rfl
  cases ho : turnO x k (j : Int) d with
  | none =>
   have hno := (turnO_none rt.ok).1 ho
   simp only [Option.isSome, bestCells, zeroAsk]
   refine gZ ?_
   refine t_cond (fun e => by cases e) (fun _ => ?_)
   refine t_again (hY (x.items.toNat - (j + 1)) _ _ (by omega) ⟨LH.le_trans le1 le2, j + 1, p, n, c, ?_, by omega, rfl, ?_⟩)
   ·rw [wrap_id (by omega) (by omega)]; rfl
   ·rw [List.range_succ, List.filter_append, List.filter_cons, if_neg (by simpa using hno)]
    simpa using g.le le2.1
  | some a =>
   obtain ⟨ha0, hae⟩ := turnO_some rt.ok ho
   simp only [Option.isSome, bestCells, askCells]
   refine gZ ?_
   refine t_cond (fun _ => ?_) (fun e => by cases e)
   refine t_push (j : Int) [.int .i64 (j : Int)] rfl rfl und50 inf3 rfl (by omega) (by decide) (by kernel_rfl) rfl (by simp; rfl) (by omega) (g.le le2.1) (LH.le_trans le1 le2) rfl ?_
   intro p' c' h3 le3 _ g3
   refine gZ ?_
   refine t_again (hY (x.items.toNat - (j + 1)) _ _ (by omega) ⟨le3, j + 1, p', n + 1, c', ?_, by omega, rfl, ?_⟩)
   ·rw [wrap_id (by omega) (by omega)]; rfl
   ·rw [List.range_succ, List.filter_append, List.filter_cons, if_pos (by rw [<- hae]; simpa using ha0), List.map_append]; exact g3
 ·refine gZ ?_
  have hjn : x.items.toNat = j := by omega
  refine t_ret ⟨le1, .inr ⟨e0, p, n, c, rfl, ?_, ?_⟩⟩
  ·unfold turnsT
   rw [hjn]
   refine g.sl IntEnc.len (by omega) IntEnc.e ?_
   rw [<- g.count IntEnc.len (by omega)]; omega
  ·obtain ⟨vs, o, _⟩ := g.row
   exact o.le_cap
end Go.Proofs.YtgljffachdhigaaGreatDoor.Tre
end
section
namespace Go.Proofs.YtgljffachdhigaaGreatDoor.Tre
open Go Go.TM Go.Proofs Go.TM.Tr
attribute [local irreducible] T.wp CV FWK
def KindsOk (x : TF) : Prop := ∀ e ∈ x.events, 0 <= e.kind /\ e.kind <= 6
theorem KindsOk.of {x : TF} (h : checkT x = 0) : KindsOk x := fun e he => (event_ok.1 (check_event h e he)).kind
theorem KindsOk.nat {x : TF} (h : KindsOk x) {e : Ev} (he : e ∈ x.events) : ∃ n : Nat, e.kind = n /\ n < 7 := by
 have := h e he
 exact ⟨e.kind.toNat, by omega, by omega⟩
theorem gives_int {n : Nat} (hn : n < 7) {e : Ev} (he : e.kind = n) : givesK n = givesB e := by
 unfold givesB
 rw [he]
 match n, hn with
 | 0, _ | 1, _ | 2, _ | 3, _ | 4, _ | 5, _ | 6, _ => rfl
theorem cv_gives {h : LH} (n : Nat) : CV X0 Tryz.prog (.func (.func (if givesK n then 211 else 212)) #[] #[]) #[] h fun r h' => r = .bool (givesK n) /\ h = h' := by
 cases hg : givesK n with
 | true => exact cv_fw X0_ok (by rfl) (FW.mono c2140 fun _ _ h => ⟨h.1, h.2.symm⟩)
 | false => exact cv_fw X0_ok (by rfl) (FW.mono c2141 fun _ _ h => ⟨h.1, h.2.symm⟩)
theorem giving_snoc {e : Ev} : ∀ (l : List Ev) (n : Int), givingGo (l ++ [e]) n = givingGo l n ++ if givesB e then [n + (l.length : Int)] else []
 | [], n => by simp [givingGo]
 | c :: l, n => by
  rw [List.cons_append, givingGo, givingGo, giving_snoc l (n + 1)]
  have : n + 1 + (l.length : Int) = n + ((c :: l).length : Int) := by simp; omega
  rw [this]
  split <;> simp
theorem with_snoc {L : List Int} {e : Ev} : ∀ (l : List Ev) (n : Int), withGo L (l ++ [e]) n = withGo L l n ++ if (!givesB e || L.contains (n + (l.length : Int))) then [e] else []
 | [], n => by simp [withGo]
 | c :: l, n => by
  rw [List.cons_append, withGo, withGo, with_snoc l (n + 1)]
  have : n + 1 + (l.length : Int) = n + ((c :: l).length : Int) := by simp; omega
  rw [this]
  split <;> simp
theorem giving_len : ∀ (l : List Ev) (n : Int), (givingGo l n).length <= l.length
 | [], _ => Nat.le_refl _
 | c :: l, n => by
  have := giving_len l (n + 1)
  rw [givingGo]
  split <;> simp <;> omega
theorem with_len (L : List Int) : ∀ (l : List Ev) (n : Int), (withGo L l n).length <= l.length
 | [], _ => Nat.le_refl _
 | c :: l, n => by
  have := with_len L l (n + 1)
  rw [withGo]
  split <;> simp <;> omega
theorem Right.with {x : TF} (r : Right x) (L : List Int) : Right (withE x L) :=
 ⟨ok_with r.ok L, r.start, r.depend, r.refuse, r.turn, Nat.le_trans (with_len L x.events 0) r.many⟩
theorem c2067 {h : LH} (hk : Kinds h.get) {f : TC} {x : TF} (hx : TreatyR h.get f x) (hkd : KindsOk x) (hmany : x.events.length <= 10) :
  Gr Tryz.prog 104 #[treatyV f x] h fun r h' => ∃ p n c, r = .slice p n c /\ Sl IntE 1 h'.get p n (giving x) /\ n <= c := by
 refine w2067 _ _ _ _ _ _ _ _ _ X0_ok ?_
 unfold n2067
 have hs := hx.2
 have hn := hs.1
 refine t_loop (fun mm vs h' => h.le h' /\ ∃ (j : Nat) (p : Option Addr) (n c : Nat), vs = [.slice p n c, .int .i64 j] /\ j <= f.n /\ mm = f.n - j /\ Growing IntEnc 3 1 h.get h'.get p n c (givingGo (x.events.take j) 0))
  ⟨LH.le_refl _, 0, none, 0, 0, rfl, Nat.zero_le _, rfl, Growing.nil⟩ ?_
 rintro Y mm vs h₁ hY ⟨le1, j, p, n, c, rfl, hj, rfl, g⟩
 have hnn : n <= 10 := by
  rw [g.count IntEnc.len (by omega)]
  have := giving_len (x.events.take j) 0
  rw [List.length_take] at this; omega
 refine gZ ?_
 refine t_if (fun e1 => ?_) (fun e1 => ?_)
 ·obtain ⟨e, a, he, ha, g0, g1, g2, ⟨q, m, cc, g3, _, g5⟩, g4⟩ := (hs.le EventE.grow le1.1).at (i := j) (by omega)
  obtain ⟨kn, hkn, hk7⟩ := hkd.nat (List.mem_of_getElem? he)
  have htake : x.events.take (j + 1) = x.events.take j ++ [e] := by rw [List.take_add_one, he]; rfl
  have hlen : (x.events.take j).length = j := by rw [List.length_take]; omega
  have hg := (hk.le le1.1).givesAt hk7
  rw [hkn] at g0
  refine gZ ?_
  refine t_loadV hg ?_
  refine t_callv (cv_gives kn) ?_
  rintro _ _ ⟨rfl, rfl⟩
  rw [gives_int hk7 hkn]
  refine gZ ?_
  refine t_cond (fun e2 => ?_) (fun e2 => ?_)
  ·refine t_push (j : Int) [.int .i64 (j : Int)] rfl rfl und50 inf3 rfl (by omega) (by decide) (by kernel_rfl) rfl (by simp; rfl) (by omega) g le1 rfl ?_
   intro p' c' h3 le3 _ g3
   refine gZ ?_
   refine t_again (hY (f.n - (j + 1)) _ _ (by omega) ⟨le3, j + 1, p', n + 1, c', ?_, by omega, rfl, ?_⟩)
   ·rw [wrap_id (by omega) (by omega)]; rfl
   ·rw [htake, giving_snoc, if_pos e2, hlen, Int.zero_add]; exact g3
  ·refine t_again (hY (f.n - (j + 1)) _ _ (by omega) ⟨le1, j + 1, p, n, c, ?_, by omega, rfl, ?_⟩)
   ·rw [wrap_id (by omega) (by omega)]; rfl
   ·rw [htake, giving_snoc, if_neg (by rw [e2]; simp), List.append_nil]; exact g
 ·refine gZ ?_
  rw [List.take_of_length_le (by omega)] at g
  refine t_ret ⟨le1, p, n, c, rfl, g.sl IntEnc.len (by omega) IntEnc.e ?_, ?_⟩
  ·show (givingGo x.events 0).length < _
   rw [<- g.count IntEnc.len (by omega)]; omega
  ·obtain ⟨vs, o, _⟩ := g.row
   exact o.le_cap
set_option maxRecDepth 10000 in
theorem c2069 {h : LH} (hk : Kinds h.get) {f : TC} {x : TF} (hx : TreatyR h.get f x) (rt : Right x) (hkd : KindsOk x) (k i d : Int) {ep : Option Addr} {en ec : Nat} {L : List Int} (hL : Sl IntE 1 h.get ep en L) :
  Gr Tryz.prog 106 #[treatyV f x, .int .i64 k, .int .i64 i, .int .i64 d, .slice ep en ec] h fun r _ => r = .bool (holdsB x k i d L) := by
 refine w2069 _ _ _ _ _ _ _ _ _ _ _ _ _ _ _ X0_ok ?_
 unfold n2069
 have hs := hx.2
 have hn := hs.1
 have hmany := rt.many
 refine t_loop (fun mm vs h' => h.le h' /\ ∃ (j : Nat) (p : Option Addr) (n c : Nat), vs = [.int .i64 j, .int .i64 x.items, .int .i64 x.lands, .int .i64 x.start, .int .i64 x.depend, .int .i64 x.refuse, .int .i64 x.turn, .slice p n c] /\ j <= f.n /\ mm = f.n - j /\ Growing (EventEnc h.get) 63 5 h.get h'.get p n c (withGo L (x.events.take j) 0))
  ⟨LH.le_refl _, 0, none, 0, 0, rfl, Nat.zero_le _, rfl, Growing.nil⟩ ?_
 rintro Y mm vs h₁ hY ⟨le1, j, p, n, c, rfl, hj, rfl, g⟩
 have hnn : n <= 10 := by
  rw [g.count EventEnc.len (by omega)]
  have := with_len L (x.events.take j) 0
  rw [List.length_take] at this; omega
 refine gZ ?_
 refine t_if (fun e1 => ?_) (fun e1 => ?_)
 ·obtain ⟨e, a, he, ha, g0, g1, g2, ⟨q, m, cc, g3, g6, g5⟩, g4⟩ := hs.at (i := j) (by omega)
  have hws : EventEnc h.get e [.int .i64 e.kind, .int .i64 e.day, .int .i64 e.land, .slice q m cc, .int .i64 e.since] := ⟨q, m, cc, rfl, g6, g5⟩
  obtain ⟨kn, hkn, hk7⟩ := hkd.nat (List.mem_of_getElem? he)
  have htake : x.events.take (j + 1) = x.events.take j ++ [e] := by rw [List.take_add_one, he]; rfl
  have hlen : (x.events.take j).length = j := by rw [List.length_take]; omega
  have hg := (hk.le le1.1).givesAt hk7
  rw [hkn] at g0 hws
  have g0 := Cells.cell?_le le1.1 g0
  have g1 := Cells.cell?_le le1.1 g1
  have g2 := Cells.cell?_le le1.1 g2
  have g3 := Cells.cell?_le le1.1 g3
  have g4 := Cells.cell?_le le1.1 g4
  refine gZ ?_
  refine t_loadV hg ?_
  refine t_callv (cv_gives kn) ?_
  rintro _ _ ⟨rfl, rfl⟩
  rw [gives_int hk7 hkn]
  have keep : (!givesB e || L.contains (j : Int)) = true -> ∀ {K : Value -> T} {Q : Leaf -> LH -> Prop}, (∀ p' c' h', h.le h' -> Growing (EventEnc h.get) 63 5 h.get h'.get p' (n + 1) c' (withGo L (x.events.take (j + 1)) 0) -> (K (.slice p' (n + 1) c')).wp X0 Tryz.prog Q h') ->
    (T.sem false (Instr.buildSlice 58 1 #[(0, .agg #[.int .i64 (kn : Int), .int .i64 e.day, .int .i64 e.land, .slice q m cc, .int .i64 e.since])]) fun v => T.unS v fun a m mc => T.sem false (Builtin.append_ #[58, 58] 58 #[.slice p n c, .slice a m mc]) K).wp X0 Tryz.prog Q h₁ := by
   intro hkeep K Q hK
   refine t_push e [.int .i64 (kn : Int), .int .i64 e.day, .int .i64 e.land, .slice q m cc, .int .i64 e.since] rfl rfl undEvs infEv rfl (by omega) (by decide) (by kernel_rfl) rfl ?_ (by omega) g le1 hws ?_
   ·intro w hw
    simp only [List.mem_cons, List.not_mem_nil, or_false] at hw
    rcases hw with rfl | rfl | rfl | rfl | rfl <;> rfl
   ·intro p' c' h3 le3 _ g3
    refine hK p' c' h3 le3 ?_
    rw [htake, with_snoc, hlen, Int.zero_add, if_pos hkeep]; exact g3
  have next : ∀ h' p' n' c', h.le h' -> Growing (EventEnc h.get) 63 5 h.get h'.get p' n' c' (withGo L (x.events.take (j + 1)) 0) -> Y [.int .i64 (IntKind.wrap .i64 ((j : Int) + 1)), .int .i64 x.items, .int .i64 x.lands, .int .i64 x.start, .int .i64 x.depend, .int .i64 x.refuse, .int .i64 x.turn, .slice p' n' c'] h' := by
   intro h' p' n' c' hle' g'
   refine hY (f.n - (j + 1)) _ _ (by omega) ⟨hle', j + 1, p', n', c', ?_, by omega, rfl, g'⟩
   rw [wrap_id (by omega) (by omega)]; rfl
  refine gZ ?_
  refine t_cond (fun e2 => ?_) (fun e2 => ?_)
  ·refine keep (by rw [e2, Bool.true_or]) fun p' c' h' hle' g' => ?_
   refine gZ ?_
   exact t_again (next h' p' _ c' hle' g')
  ·refine t_pu (c100 (hL.le IntE.grow le1.1) (j : Int)) ?_
   refine gZ ?_
   refine t_cond (fun e3 => ?_) (fun e3 => ?_)
   ·refine keep (by rw [e3, Bool.or_true]) fun p' c' h' hle' g' => ?_
    refine gZ ?_
    exact t_again (next h' p' _ c' hle' g')
   ·refine t_again (next h₁ p n c le1 ?_)
    rw [htake, with_snoc, hlen, Int.zero_add, if_neg (by rw [e2, e3]; simp), List.append_nil]; exact g
 ·refine gZ ?_
  rw [List.take_of_length_le (by omega)] at g
  have hx' : TreatyR h₁.get ⟨p, n, c⟩ (withE x L) := by
   refine ⟨?_, g.sl EventEnc.len (by omega) (EventEnc.e (Rd.of_le le1.1)) ?_⟩
   ·obtain ⟨vs, o, _⟩ := g.row
    exact o.le_cap
   ·show (withGo L x.events 0).length < _
    rw [<- g.count EventEnc.len (by omega)]; omega
  refine t_gr (c2060 (hk.le le1.1) hx' (rt.with L) k i d) ?_
  rintro _ h2 le2 rfl
  refine gZ ?_
  exact t_ret ⟨LH.le_trans le1 le2, rfl⟩
end Go.Proofs.YtgljffachdhigaaGreatDoor.Tre
end
section
namespace Go.TM
open Go Go.Conc
variable {P : Program} {X : XP} {Q : Leaf -> LH -> Prop}
theorem t_indexStr {h : LH} {K : Value -> T} {t : TypeId} {s : ByteArray} {i : Nat} (hu : P.underlying t = some .string) (hs : s.size = 256) (hi : i < 256) (hk : ∀ b : Nat, (K (.int .u8 (b : Int))).wp X P Q h) : (T.sem false (Instr.index t (.string s) (.int .u8 (i : Int))) K).wp X P Q h := by
 refine t_sem (A := fun w h' => h' = h.get /\ ∃ b : Nat, w = .int .u8 (b : Int)) ?_ (by rintro w h' ⟨rfl, b, rfl⟩; exact hk b)
 unfold Instr.index
 simp only [asIntOf, lwp_bind, lwp_pure, lwp_underlying hu]
 have h1 : s[(i : Int).toNat]? = some (s[i]'(by omega)) := by
  rw [Int.toNat_natCast]; exact getElem?_pos s i (by omega)
 rw [if_pos (by omega), h1]
 exact ⟨rfl, _, rfl⟩
def Reads (cs : Array Value) (l : List Int) : Prop := ∀ (i : Nat) y, l[i]? = some y -> cs[i]? = some (.int .i64 y)
theorem swap_perm : ∀ (m : List Int) (j : Nat) (x y : Int), m[j]? = some y -> m[j + 1]? = some x -> ((m.set (j + 1) y).set j x).Perm m
 | [], j, x, y, h, _ => by simp at h
 | [a], j, x, y, _, h => by simp at h
 | a :: b :: r, 0, x, y, h1, h2 => by
  simp at h1 h2; subst h1; subst h2
  simp only [List.set_cons_succ, List.set_cons_zero]
  exact List.Perm.swap _ _ _
 | a :: b :: r, j + 1, x, y, h1, h2 => by
  simp only [List.set_cons_succ]
  exact (swap_perm (b :: r) j x y (by simpa using h1) (by simpa using h2)).cons a
structure Ins (m : List Int) (i j : Nat) : Prop where
 rest : ∀ a b u v, a < b -> b <= i -> a ≠ j -> b ≠ j -> m[a]? = some u -> m[b]? = some v -> u <= v
 small : ∀ b u v, j < b -> b <= i -> m[j]? = some u -> m[b]? = some v -> u <= v
theorem Ins.swap {m : List Int} {i j : Nat} {x y : Int} (h : Ins m i (j + 1)) (hj : j + 1 <= i) (hy : m[j]? = some y) (hx : m[j + 1]? = some x) (hlt : x < y) : Ins ((m.set (j + 1) y).set j x) i j := by
 have len : j + 1 < m.length := (List.getElem?_eq_some_iff.1 hx).1
 have get : ∀ a, ((m.set (j + 1) y).set j x)[a]? = if a = j then some x else if a = j + 1 then some y else m[a]? := by
  intro a
  rw [List.getElem?_set, List.getElem?_set]
  by_cases e1 : a = j
  ·subst e1; simp; omega
  ·by_cases e2 : a = j + 1
   ·subst e2; simp; omega
   ·rw [if_neg (Ne.symm e1), if_neg (Ne.symm e2), if_neg e1, if_neg e2]
 refine ⟨fun a b u v hab hbi ha hb hu hv => ?_, fun b u v hjb hbi hu hv => ?_⟩
 ·rw [get, if_neg ha] at hu
  rw [get, if_neg hb] at hv
  by_cases e1 : a = j + 1
  ·rw [if_pos e1] at hu; cases hu
   rw [if_neg (by omega)] at hv
   exact h.rest j b y v (by omega) hbi (by omega) (by omega) hy hv
  ·rw [if_neg e1] at hu
   by_cases e2 : b = j + 1
   ·rw [if_pos e2] at hv; cases hv
    exact h.rest a j u y (by omega) (by omega) (by omega) (by omega) hu hy
   ·rw [if_neg e2] at hv
    exact h.rest a b u v hab hbi e1 e2 hu hv
 ·rw [get, if_pos rfl] at hu; cases hu
  rw [get, if_neg (by omega)] at hv
  by_cases e2 : b = j + 1
  ·rw [if_pos e2] at hv; cases hv; omega
  ·rw [if_neg e2] at hv
   exact h.small b x v (by omega) hbi hx hv
theorem Ins.done {m : List Int} {i j : Nat} (h : Ins m i j) (hj : j = 0 \/ ∃ x y, m[j - 1]? = some y /\ m[j]? = some x /\ y <= x) : ∀ a b u v, a < b -> b <= i -> m[a]? = some u -> m[b]? = some v -> u <= v := by
 intro a b u v hab hbi hu hv
 by_cases ea : a = j
 ·subst ea; exact h.small b u v hab hbi hu hv
 ·by_cases eb : b = j
  ·subst eb
   rcases hj with h0 | ⟨x, y, h1, h2, h3⟩
   ·omega
   ·rw [hv] at h2; cases h2
    by_cases e : a = b - 1
    ·subst e; rw [hu] at h1; cases h1; exact h3
    ·exact Int.le_trans (h.rest a (b - 1) u y (by omega) (by omega) ea (by omega) hu h1) h3
  ·exact h.rest a b u v hab hbi ea eb hu hv
theorem sorted_of {m : List Int} {n : Nat} (hn : m.length <= n) (h : ∀ a b u v, a < b -> b < n -> m[a]? = some u -> m[b]? = some v -> u <= v) : m.Pairwise (· <= ·) := by
 rw [List.pairwise_iff_getElem]
 intro a b ha hb hab
 exact h a b _ _ hab (by omega) (List.getElem?_eq_getElem ha) (List.getElem?_eq_getElem hb)
end Go.TM
namespace Go.Proofs.YtgljffachdhigaaGreatDoor.Tre
open Go Go.TM Go.Proofs Go.TM.Tr
attribute [local irreducible] T.wp CV FWK
theorem c2111 {h : LH} (x y : Int) : Pu Tryz.prog 172 #[.int .i64 x, .int .i64 y] h (.bool (decide (x < y))) := by
 refine w2111 _ _ X0_ok ?_
 unfold n2111
 refine t_pu (c109 _) ?_
 refine gZ ?_
 refine t_cond (fun e => by cases e) (fun _ => ?_)
 exact t_ret ⟨rfl, rfl⟩
set_option maxRecDepth 10000 in
theorem c2105 {h : LH} {r c : Nat} {el : TypeId} : ∀ {cs : Array Value} {l : List Int}, Reads cs l -> l.length <= 12 ->
  FW X0 Tryz.prog 166 #[.slice (some ⟨r, 0, none⟩) l.length c, .int .i64 0, .int .i64 (l.length : Int)] { h with get := h.get.upd r (true, .cells cs el (0, 0)) } fun v h' => v = .tuple #[] /\
   ∃ cs' l', cs'.size = cs.size /\ Reads cs' l' /\ l'.Perm l /\ l'.Pairwise (· <= ·) /\ h' = { h with get := h.get.upd r (true, .cells cs' el (0, 0)) } := by
 intro cs l hr hl
 have hcell : ∀ {cs : Array Value} {m : List Int} {j : Nat} {y : Int}, Reads cs m -> m[j]? = some y -> Cells.cell? (h.get.upd r (true, .cells cs el (0, 0))) (Addr.add ⟨r, 0, none⟩ ((j : Int).toNat * 1)) = some (.int .i64 y) := by
  intro cs m j y hm hy
  rw [add_plain]
  have e : 0 + (j : Int).toNat * 1 = j := by simp
  rw [e]
  exact cell_upd (hm j y hy)
 refine w2105 _ _ _ _ _ X0_ok ?_
 unfold n2105
 have hw0 : IntKind.wrap .i64 ((0 : Int) + 1) = ((1 : Nat) : Int) := by rw [wrap_id (by omega) (by omega)]; rfl
 rw [hw0]
 refine t_loop (fun mm vs h' => ∃ (i : Nat) (cs' : Array Value) (m : List Int), vs = [.int .i64 i] /\ mm = l.length + 1 - i /\ 1 <= i /\ i <= l.length + 1 /\ h' = { h with get := h.get.upd r (true, .cells cs' el (0, 0)) } /\ cs'.size = cs.size /\ Reads cs' m /\ m.Perm l /\ ∀ a b u v, a < b -> b < i -> m[a]? = some u -> m[b]? = some v -> u <= v)
  ⟨1, cs, l, rfl, rfl, Nat.le_refl _, by omega, rfl, rfl, hr, List.Perm.refl _, fun a b u v hab hb => by omega⟩ ?_
 rintro Y mm vs _ hY ⟨i, cs1, m1, rfl, rfl, hi1, hi2, rfl, hsz1, hr1, hp1, hso1⟩
 refine gZ ?_
 refine t_if (fun e1 => ?_) (fun e1 => ?_)
 ·have hlen1 := hp1.length_eq
  refine t_loop (fun mm vs h' => ∃ (j : Nat) (cs' : Array Value) (m : List Int), vs = [.int .i64 j] /\ j = mm /\ j <= i /\ h' = { h with get := h.get.upd r (true, .cells cs' el (0, 0)) } /\ cs'.size = cs.size /\ Reads cs' m /\ m.Perm l /\ Ins m i j)
   ⟨i, cs1, m1, rfl, rfl, Nat.le_refl _, rfl, hsz1, hr1, hp1, fun a b u v hab hbi ha hb hu hv => hso1 a b u v hab (by omega) hu hv, fun b u v h1 h2 => by omega⟩ ?_
  rintro Y2 mm vs _ hY2 ⟨j, cs2, m2, rfl, rfl, hj, rfl, hsz2, hr2, hp2, hins⟩
  have hlen2 := hp2.length_eq
  have fin : (∀ a b u v, a < b -> b <= i -> m2[a]? = some u -> m2[b]? = some v -> u <= v) -> Y [.int .i64 (IntKind.wrap .i64 ((i : Int) + 1))] { h with get := h.get.upd r (true, .cells cs2 el (0, 0)) } := by
   intro hso
   refine hY (l.length + 1 - (i + 1)) _ _ (by omega) ⟨i + 1, cs2, m2, ?_, rfl, by omega, by omega, rfl, hsz2, hr2, hp2, fun a b u v hab hb => hso a b u v hab (by omega)⟩
   rw [wrap_id (by omega) (by omega)]; rfl
  refine gZ ?_
  refine t_blk (fun vs h' => vs = [] /\ h' = { h with get := h.get.upd r (true, .cells cs2 el (0, 0)) } /\ ∃ (j' : Nat) (x y : Int), j = j' + 1 /\ m2[j']? = some y /\ m2[j' + 1]? = some x /\ x < y) ?_ ?_
  ·refine t_if (fun e2 => ?_) (fun e2 => ?_)
   ·obtain ⟨j', rfl⟩ : ∃ j', j = j' + 1 := ⟨j - 1, by omega⟩
    obtain ⟨y, hy⟩ : ∃ y, m2[j']? = some y := ⟨m2[j']'(by omega), List.getElem?_eq_getElem (by omega)⟩
    obtain ⟨x, hx⟩ : ∃ x, m2[j' + 1]? = some x := ⟨m2[j' + 1]'(by omega), List.getElem?_eq_getElem (by omega)⟩
    have hw : IntKind.wrap .i64 (((j' + 1 : Nat) : Int) - 1) = (j' : Int) := by rw [wrap_id (by omega) (by omega)]; omega
    rw [hw]
    have g1 := hcell hr2 hx
    have g2 := hcell hr2 hy
    refine gT (by omega) (gS2 rfl (gL0 g1 (gT (by omega) (gS2 rfl (gL0 g2 ?_)))))
    refine t_pu (c2111 _ _) ?_
    refine gZ ?_
    refine t_cond (fun e3 => ?_) (fun e3 => ?_)
    ·exact t_again ⟨rfl, rfl, j', x, y, rfl, hy, hx, by simpa using e3⟩
    ·refine gR ?_
     refine t_cond (fun _ => ?_) (fun e => by cases e)
     refine gZ ?_
     have e3 : ¬ x < y := by simpa using e3
     exact t_again (fin (hins.done (.inr ⟨x, y, by simpa using hy, hx, by omega⟩)))
   ·refine gZ ?_
    refine t_cond (fun _ => ?_) (fun e => by cases e)
    refine gZ ?_
    exact t_again (fin (hins.done (.inl (by omega))))
  ·rintro vs _ ⟨rfl, rfl, j', x, y, rfl, hy, hx, hlt⟩
   have hw : IntKind.wrap .i64 (((j' + 1 : Nat) : Int) - 1) = (j' : Int) := by rw [wrap_id (by omega) (by omega)]; omega
   have g1 := hcell hr2 hx
   have g2 := hcell hr2 hy
   have hjs : j' + 1 < cs2.size := (Array.getElem?_eq_some_iff.1 (hr2 _ _ hx)).1
   rw [hw]
   refine gZ ?_
   refine t_storeU (o := j' + 1) (by rw [add_plain, add_plain]; simp) rfl hjs ?_
   refine gZ ?_
   refine t_storeU (o := j') (by rw [add_plain, add_plain]; simp) rfl (by simp; omega) ?_
   refine t_again (hY2 j' _ _ (by omega) ⟨j', _, (m2.set (j' + 1) y).set j' x, rfl, rfl, by omega, rfl, by simp [hsz2], ?_, (swap_perm m2 j' x y hy hx).trans hp2, hins.swap (by omega) hy hx hlt⟩)
   intro a z hz
   rw [List.getElem?_set, List.getElem?_set] at hz
   by_cases e4 : a = j'
   ·subst e4
    rw [Array.getElem?_setIfInBounds_self_of_lt (by simp; omega)]
    simp at hz
    rw [hz.2]
   ·rw [Array.getElem?_setIfInBounds_ne (Ne.symm e4)]
    rw [if_neg (Ne.symm e4)] at hz
    by_cases e5 : a = j' + 1
    ·subst e5
     rw [Array.getElem?_setIfInBounds_self_of_lt (by omega)]
     simp at hz
     rw [hz.2]
    ·rw [Array.getElem?_setIfInBounds_ne (Ne.symm e5)]
     rw [if_neg (Ne.symm e5)] at hz
     exact hr2 a z hz
 ·refine gZ ?_
  refine t_ret ⟨rfl, cs1, m1, hsz1, hr1, hp1, sorted_of (n := i) (by rw [hp1.length_eq]; omega) hso1, rfl⟩
theorem c2101 {h : LH} {r c : Nat} {el : TypeId} {cs : Array Value} {l : List Int} (hr : Reads cs l) (hl : l.length <= 12) (lim : Int) :
  FW X0 Tryz.prog 164 #[.slice (some ⟨r, 0, none⟩) l.length c, .int .i64 0, .int .i64 (l.length : Int), .int .i64 lim] { h with get := h.get.upd r (true, .cells cs el (0, 0)) } fun v h' => v = .tuple #[] /\
   ∃ cs' l', cs'.size = cs.size /\ Reads cs' l' /\ l'.Perm l /\ l'.Pairwise (· <= ·) /\ h' = { h with get := h.get.upd r (true, .cells cs' el (0, 0)) } := by
 refine w2101 _ _ _ _ _ _ X0_ok ?_
 unfold n2101
 refine t_loop (fun mm vs h' => mm = 0 /\ vs = [.int .i64 0, .int .i64 (l.length : Int), .int .i64 lim, .bool true, .bool true] /\ h' = { h with get := h.get.upd r (true, .cells cs el (0, 0)) }) ⟨rfl, rfl, rfl⟩ ?_
 rintro Y mm vs _ hY ⟨rfl, rfl, rfl⟩
 refine gZ ?_
 have hw : IntKind.wrap .i64 ((l.length : Int) - 0) = (l.length : Int) := by rw [wrap_id (by omega) (by omega)]; omega
 rw [hw]
 refine t_if (fun e => ?_) (fun e => absurd (by omega) e)
 refine t_call (c2105 hr hl) ?_
 rintro _ h2 ⟨rfl, hq⟩
 refine gZ ?_
 exact t_ret ⟨rfl, hq⟩
set_option maxRecDepth 100000 in
theorem c2115 {h : LH} {x : Nat} (hx : x < 256) : FW X0 Tryz.prog 176 #[.int .u64 (x : Int)] h fun v h' => h' = h /\ ∃ z, v = .int .i64 z := by
 refine w2115 _ X0_ok ?_
 unfold n2115
 refine t_blk (fun vs h' => vs = [.int .u64 (x : Int), .int .i64 0] /\ h = h') ?_ ?_
 ·refine t_if (fun e => by omega) (fun e => ?_)
  exact t_again ⟨rfl, rfl⟩
 rintro vs _ ⟨rfl, rfl⟩
 refine gZ ?_
 refine t_blk (fun vs h' => vs = [.int .u64 (x : Int), .int .i64 0] /\ h = h') ?_ ?_
 ·refine t_if (fun e => by omega) (fun e => ?_)
  exact t_again ⟨rfl, rfl⟩
 rintro vs _ ⟨rfl, rfl⟩
 refine gZ ?_
 refine t_if (fun e => by omega) (fun e => ?_)
 have hw : IntKind.wrap .u8 (x : Int) = (x : Int) := by
  have e1 : (2 ^ IntKind.u8.bits : Int) = 256 := rfl
  simp only [IntKind.wrap, e1, show IntKind.u8.signed = false from rfl, Bool.false_and, Bool.false_eq_true, if_false]
  omega
 rw [hw]
 refine t_indexStr (by kernel_rfl) (by kernel_rfl) hx fun b => ?_
 refine gZ ?_
 exact t_ret ⟨rfl, _, rfl⟩
theorem c2102 {h : LH} {x : Nat} (hx : x < 256) : FW X0 Tryz.prog 165 #[.int .u64 (x : Int)] h fun v h' => h' = h /\ ∃ z, v = .int .i64 z := by
 refine w2102 _ X0_ok ?_
 unfold n2102
 refine t_call (c2115 hx) ?_
 rintro _ _ ⟨rfl, z, rfl⟩
 refine gZ ?_
 exact t_ret ⟨rfl, _, rfl⟩
theorem c2092 {h : LH} {r c : Nat} {el : TypeId} {cs : Array Value} {l : List Int} (hr : Reads cs l) (hl : l.length <= 12) :
  FW X0 Tryz.prog 154 #[.slice (some ⟨r, 0, none⟩) l.length c] { h with get := h.get.upd r (true, .cells cs el (0, 0)) } fun v h' => v = .tuple #[] /\
   ∃ cs' l', cs'.size = cs.size /\ Reads cs' l' /\ l'.Perm l /\ l'.Pairwise (· <= ·) /\ h' = { h with get := h.get.upd r (true, .cells cs' el (0, 0)) } := by
 refine w2092 _ _ _ X0_ok ?_
 unfold n2092
 have hw : IntKind.wrap .u64 (l.length : Int) = (l.length : Int) := by
  have e1 : (2 ^ IntKind.u64.bits : Int) = 18446744073709551616 := rfl
  simp only [IntKind.wrap, e1, show IntKind.u64.signed = false from rfl, Bool.false_and, Bool.false_eq_true, if_false]
  omega
 rw [hw]
 refine t_call (c2102 (by omega)) ?_
 rintro _ _ ⟨rfl, z, rfl⟩
 refine gZ ?_
 refine t_call (c2101 hr hl z) ?_
 rintro _ h2 ⟨rfl, hq⟩
 refine gZ ?_
 exact t_ret ⟨rfl, hq⟩
end Go.Proofs.YtgljffachdhigaaGreatDoor.Tre
end
section
namespace Go.TM
open Go Go.Conc
variable {P : Program} {X : XP} {Q : Leaf -> LH -> Prop}
inductive Chain {S : Type} (nx : S -> List Value -> S -> Prop) (s₀ : S) : List Int -> S -> Prop
 | nil : Chain nx s₀ [] s₀
 | snoc {l : List Int} {s s' : S} {v : Int} : Chain nx s₀ l s -> nx s [.int .i64 v] s' -> Chain nx s₀ (l ++ [v]) s'
theorem chain_keys {es : Array MapEntry} {c : Nat} {l : List Int} (k : Keys es c l) {acc : List Int} {seen : Array Nat} (h : Chain (NextKey es) #[] acc seen) :
  ∃ E : List MapEntry, (∀ e ∈ E, e ∈ es.toList) /\ acc.map (Value.int .i64) = E.map (·.key) /\ seen.toList = E.map (·.born) /\ (E.map (·.born)).Nodup := by
 induction h with
 | nil => exact ⟨[], by simp, rfl, rfl, List.nodup_nil⟩
 | snoc h hn ih =>
  obtain ⟨E, h1, h2, h3, h4⟩ := ih
  obtain ⟨e, he, hb, hx, rfl⟩ := hn
  refine ⟨E ++ [e], fun a ha => ?_, ?_, ?_, ?_⟩
  ·rcases List.mem_append.1 ha with ha | ha
   ·exact h1 a ha
   ·simp at ha; subst ha; exact he
  ·simp only [List.cons.injEq, and_true] at hx
   rw [List.map_append, List.map_append, h2]
   simp [hx]
  ·simp [h3]
  ·rw [List.map_append]
   refine List.nodup_append.2 ⟨h4, by simp, fun a ha b hb' e' => ?_⟩
   simp at hb'; subst hb'; subst e'
   rw [h3] at hb
   exact hb ha
theorem nodup_key {es : Array MapEntry} {c : Nat} {l : List Int} (k : Keys es c l) : ∀ e ∈ es.toList, ∀ e' ∈ es.toList, e.key = e'.key -> e.born = e'.born := by
 have hk : (es.toList.map (·.key)).Nodup := by
  rw [k.keys]
  rw [List.nodup_iff_pairwise_ne, List.pairwise_map]
  exact (List.nodup_iff_pairwise_ne.1 k.nodup).imp fun hne he => hne (by cases he; rfl)
 intro e he e' he' heq
 obtain ⟨i, hi, hie⟩ := List.getElem_of_mem he
 obtain ⟨j, hj, hje⟩ := List.getElem_of_mem he'
 have := (List.getElem_inj (xs := es.toList.map (·.key)) (i := i) (j := j) (h₀ := by simpa using hi) (h₁ := by simpa using hj) hk).1 (by simp [hie, hje, heq])
 subst this
 rw [hie] at hje; rw [hje]
theorem chain_done {es : Array MapEntry} {c : Nat} {l : List Int} (k : Keys es c l) {acc : List Int} {seen : Array Nat} (h : Chain (NextKey es) #[] acc seen) (hf : AllSeen es seen) : acc.Nodup /\ ∀ v, v ∈ acc ↔ v ∈ l := by
 obtain ⟨E, h1, h2, h3, h4⟩ := chain_keys k h
 refine ⟨?_, fun v => ?_⟩
 ·have h5 : (acc.map (Value.int .i64)).Nodup := by
   rw [h2, List.nodup_iff_pairwise_ne, List.pairwise_map]
   rw [List.nodup_iff_pairwise_ne, List.pairwise_map] at h4
   exact (List.Pairwise.and_mem.1 h4).imp fun ⟨ha, hb, hne⟩ hk => hne (nodup_key k _ (h1 _ ha) _ (h1 _ hb) hk)
  rw [List.nodup_iff_pairwise_ne, List.pairwise_map] at h5
  rw [List.nodup_iff_pairwise_ne]
  exact h5.imp fun hne e => hne (by rw [e])
 ·constructor
  ·intro hv
   have : Value.int .i64 v ∈ acc.map (Value.int .i64) := List.mem_map.2 ⟨v, hv, rfl⟩
   rw [h2] at this
   obtain ⟨e, he, hk⟩ := List.mem_map.1 this
   have h6 : e.key ∈ es.toList.map (·.key) := List.mem_map.2 ⟨e, h1 e he, rfl⟩
   rw [k.keys, hk] at h6
   obtain ⟨w, hw, e'⟩ := List.mem_map.1 h6
   cases e'; exact hw
  ·intro hv
   have : Value.int .i64 v ∈ l.map (Value.int .i64) := List.mem_map.2 ⟨v, hv, rfl⟩
   rw [<- k.keys] at this
   obtain ⟨e, he, hk⟩ := List.mem_map.1 this
   have h6 := hf e he
   rw [h3] at h6
   obtain ⟨e', he', hb⟩ := List.mem_map.1 h6
   have hee : e' = e := by
    obtain ⟨i, hi, hie⟩ := List.getElem_of_mem (h1 e' he')
    obtain ⟨j, hj, hje⟩ := List.getElem_of_mem he
    have := (List.getElem_inj (xs := es.toList.map (·.born)) (i := i) (j := j) (h₀ := by simpa using hi) (h₁ := by simpa using hj) k.born).1 (by simp [hie, hje, hb])
    subst this
    rw [<- hie, <- hje]
   subst hee
   have : e'.key ∈ E.map (·.key) := List.mem_map.2 ⟨e', he', rfl⟩
   rw [<- h2, hk] at this
   obtain ⟨w, hw, e2⟩ := List.mem_map.1 this
   cases e2; exact hw
def toCome (es : Array MapEntry) (seen : Array Nat) : Nat := (es.toList.filter fun e => !seen.toList.contains e.born).length
theorem filter_less {α : Type} {p q : α -> Bool} : ∀ {l : List α}, (∀ x ∈ l, q x = true -> p x = true) -> (∃ x ∈ l, p x = true /\ q x = false) -> (l.filter q).length < (l.filter p).length
 | [], _, ⟨x, hx, _⟩ => by simp at hx
 | a :: l, h1, ⟨x, hx, h2, h3⟩ => by
  have hle : ∀ (l : List α), (∀ x ∈ l, q x = true -> p x = true) -> (l.filter q).length <= (l.filter p).length := by
   intro l
   induction l with
   | nil => intro _; simp
   | cons b l ih =>
    intro h
    have := ih fun x hx => h x (by simp [hx])
    rw [List.filter_cons, List.filter_cons]
    cases hb : q b with
    | true => rw [h b (by simp) hb]; simpa using this
    | false => cases p b <;> simp <;> omega
  rw [List.filter_cons, List.filter_cons]
  rcases List.mem_cons.1 hx with rfl | hx
  ·rw [h2, h3]
   have := hle l fun x hx => h1 x (by simp [hx])
   simp; omega
  ·have := filter_less (l := l) (fun y hy => h1 y (by simp [hy])) ⟨x, hx, h2, h3⟩
   cases hb : q a with
   | true => rw [h1 a (by simp) hb]; simpa using this
   | false => cases p a <;> simp <;> omega
theorem toCome_less {es : Array MapEntry} {seen : Array Nat} {xs : List Value} {seen' : Array Nat} (h : NextKey es seen xs seen') : toCome es seen' < toCome es seen := by
 obtain ⟨e, he, hb, _, rfl⟩ := h
 refine filter_less (fun x _ hx => ?_) ⟨e, he, ?_, ?_⟩
 ·simp at hx ⊢; exact hx.1
 ·simpa using hb
 ·simp
end Go.TM
namespace Go.Proofs.YtgljffachdhigaaGreatDoor.Tre
open Go Go.TM Go.Proofs Go.TM.Tr
attribute [local irreducible] T.wp CV FWK
theorem c2081 {h : LH} (m : Nat) : Gr Tryz.prog 138 #[.map (some m)] h fun r h' => ∃ z0, r = .func (.func 155) #[] #[.pointer (some z0)] /\ h'.get.cell? z0 = some (.map (some m)) := by
 refine w2081 _ X0_ok ?_
 unfold n2081
 refine t_new fun r hr => ?_
 exact t_ret ⟨LH.upd_le hr, _, rfl, cell_upd rfl⟩
theorem hands2093 {X : XP} (hX : XOK X) {h₀ : LH} {z0 : Addr} {m c : Nat} {es : Array MapEntry} {b : Bool} {l : List Int} (hz : h₀.get.cell? z0 = some (.map (some m))) (hm : h₀.get m = some (b, .map es c)) (k : Keys es c l) :
  HandsG X Tryz.prog (.func (.func 155) #[] #[.pointer (some z0)]) h₀ (NextKey es) (AllSeen es) #[] := by
 intro y J E hJ hE hcall h hle hJ0
 refine cv_fw hX (by rfl) (?_ : FW X Tryz.prog 155 #[y, .pointer (some z0)] h _)
 refine w2093 _ _ hX ?_
 unfold n2093
 have hz1 := Cells.cell?_le hle.1 hz
 refine gL4 hz1 ?_
 refine t_range undMap (hle.1 _ _ hm) fun r hr => ?_
 refine gZ ?_
 have hst : ({ h with get := h.get.upd r (true, .mapIter (some m) c #[] c) } : LH) = { h with get := h.get.add (oneC r (.mapIter (some m) c #[] c)) } := by
  have : h.get.upd r (true, .mapIter (some m) c #[] c) = h.get.add (oneC r (.mapIter (some m) c #[] c)) := by
   funext a
   unfold Cells.upd Cells.add oneC
   by_cases e : a = r
   ·subst e; simp [hr]
   ·simp [e]; cases h.get a <;> rfl
  rw [this]
 rw [hst]
 refine t_loop (fun mm vs h' => ∃ (seen : Array Nat) (hb : LH), vs = [] /\ mm = toCome es seen /\ h' = { hb with get := hb.get.add (oneC r (.mapIter (some m) c seen c)) } /\ Disj hb.get (oneC r (.mapIter (some m) c seen c)) /\ h₀.le hb /\ J seen hb)
  ⟨#[], h, rfl, rfl, rfl, disj_oneC hr, hle, hJ0⟩ ?_
 rintro Y mm vs _ hY ⟨seen, hb, rfl, rfl, rfl, dj, leb, hJs⟩
 have hbr := oneC_none dj
 refine gZ ?_
 refine t_next (m := m) (r := r) (c := c) (es := es) (seen := seen) (b := b) (add_oneC_get hbr) (Cells.add_left (leb.1 _ _ hm)) k.lt (fun hall => ?_) fun e he hnb => ?_
 ·refine gZ ?_
  refine t_cond (fun e => by cases e) (fun _ => ?_)
  refine gZ ?_
  refine t_ret ⟨⟨fun a x ha => Cells.add_left (leb.1 a x ha), leb.2⟩, .inl ⟨seen, hall, ?_⟩⟩
  exact hJ seen hb _ hJs dj
 ·rw [add_oneC_upd hbr]
  have dj2 : Disj hb.get (oneC r (.mapIter (some m) c (seen.push e.born) c)) := disj_oneC hbr
  refine gZ ?_
  refine t_cond (fun _ => ?_) (fun e => by cases e)
  refine gZ ?_
  refine t_entry (m := m) (r := r) (c := c) (es := es) (seen := seen) (e := e) (b := b) (add_oneC_get hbr) (Cells.add_left (leb.1 _ _ hm)) he k.born ?_
  obtain ⟨kn, hkn⟩ : ∃ n : Int, e.key = .int .i64 n := by
   have hm2 : e.key ∈ es.toList.map (·.key) := List.mem_map.2 ⟨e, he, rfl⟩
   rw [k.keys] at hm2
   obtain ⟨n, _, hn⟩ := List.mem_map.1 hm2
   exact ⟨n, hn.symm⟩
  rw [hkn]
  refine gZ ?_
  have hnk : NextKey es seen [.int .i64 kn] (seen.push e.born) := ⟨e, he, hnb, by rw [hkn], rfl⟩
  have hcv := CV.frame hX (hcall seen hb [.int .i64 kn] (seen.push e.born) leb hnk hJs) dj2
  refine t_callv hcv ?_
  rintro bv _ ⟨h3, d3, rfl, le3, ⟨rfl, hJ3⟩ | ⟨rfl, hE3⟩⟩
  ·refine gZ ?_
   refine t_cond (fun e => by cases e) (fun _ => ?_)
   exact t_again (hY _ _ _ (toCome_less hnk) ⟨_, h3, rfl, rfl, rfl, d3, le3, hJ3⟩)
  ·refine gZ ?_
   refine t_cond (fun _ => ?_) (fun e => by cases e)
   refine gZ ?_
   exact t_ret ⟨⟨fun a x ha => Cells.add_left (le3.1 a x ha), le3.2⟩, .inr (hE h3 _ hE3 d3)⟩
theorem c2100 {h : LH} {S : Type} {nx : S -> List Value -> S -> Prop} {fin : S -> Prop} {s₀ : S} {seq : Value} (μ : S -> Nat) (hμ : ∀ s xs s', nx s xs s' -> μ s' < μ s) (hint : ∀ s xs s', nx s xs s' -> ∃ v, xs = [.int .i64 v]) (hm : μ s₀ <= 1000) (hH : HandsG X0 Tryz.prog seq h nx fin s₀) :
  Gr Tryz.prog 163 #[.slice none 0 0, seq] h fun r h' => ∃ p n c s acc, fin s /\ Chain nx s₀ acc s /\ r = .slice p n c /\ acc.length <= μ s₀ /\ Growing IntEnc 3 1 h.get h'.get p n c acc := by
 refine w2100 _ _ _ _ X0_ok ?_
 unfold n2100
 refine t_eachG μ hμ (LH.le_refl h) hH (fun s vs h' => ∃ p n c acc, vs = [.slice p n c] /\ Chain nx s₀ acc s /\ acc.length + μ s <= μ s₀ /\ Growing IntEnc 3 1 h.get h'.get p n c acc)
  ⟨none, 0, 0, [], rfl, .nil, by simp, Growing.nil⟩ ?_ ?_
 ·rintro s vs h' hf hle ⟨p, n, c, acc, rfl, hch, hlen, g⟩
  refine gZ ?_
  exact t_ret ⟨hle, p, n, c, s, acc, hf, hch, rfl, by omega, g⟩
 ·rintro s xs s' vs h' hn hle ⟨p, n, c, acc, rfl, hch, hlen, g⟩ Y hY
  obtain ⟨v, rfl⟩ := hint s xs s' hn
  have hlt := hμ _ _ _ hn
  have hnn := g.count IntEnc.len (by omega)
  refine gZ ?_
  refine t_push v [.int .i64 v] rfl rfl und50 inf3 rfl (by omega) (by decide) (by kernel_rfl) rfl (by simp; rfl) (by omega) g hle rfl ?_
  intro p' c' h3 le3 _ g3
  refine gZ ?_
  exact t_againE le3 (hY _ _ le3 ⟨p', n + 1, c', acc ++ [v], rfl, hch.snoc hn, by simp; omega, g3⟩)
theorem c2091 {h : LH} {S : Type} {nx : S -> List Value -> S -> Prop} {fin : S -> Prop} {s₀ : S} {seq : Value} (μ : S -> Nat) (hμ : ∀ s xs s', nx s xs s' -> μ s' < μ s) (hint : ∀ s xs s', nx s xs s' -> ∃ v, xs = [.int .i64 v]) (hm : μ s₀ <= 1000) (hH : HandsG X0 Tryz.prog seq h nx fin s₀) :
  Gr Tryz.prog 153 #[seq] h fun r h' => ∃ p n c s acc, fin s /\ Chain nx s₀ acc s /\ r = .slice p n c /\ acc.length <= μ s₀ /\ Growing IntEnc 3 1 h.get h'.get p n c acc := by
 refine w2091 _ X0_ok ?_
 unfold n2091
 refine t_gr (c2100 μ hμ hint hm hH) ?_
 rintro _ h1 le1 ⟨p, n, c, s, acc, h2, h3, rfl, h4, h5⟩
 refine gZ ?_
 exact t_ret ⟨le1, p, n, c, s, acc, h2, h3, rfl, h4, h5⟩
theorem rows_reads {vs : List Value} {l : List Int} (r : Go.TM.Rows IntEnc vs l) : vs = l.map (Value.int .i64) := by
 induction r with
 | nil => rfl
 | snoc r he ih => rw [he, ih]; simp
theorem grown {h₀ h : Cells} {p : Option Addr} {n c : Nat} {l : List Int} (g : Growing IntEnc 3 1 h₀ h p n c l) (hne : l ≠ []) : ∃ r cs, p = some ⟨r, 0, none⟩ /\ h = h.upd r (true, .cells cs 3 (0, 0)) /\ h₀ r = none /\ n = l.length /\ n <= c /\ cs.size = c * 1 /\ Reads cs l /\
  ∀ cs' l', cs'.size = cs.size -> Reads cs' l' -> l'.length = l.length -> Growing IntEnc 3 1 h₀ (h.upd r (true, .cells cs' 3 (0, 0))) p n c l' := by
 have hn := g.count IntEnc.len (by omega)
 obtain ⟨vs, ⟨h1, h2⟩, h3⟩ := g.row
 have hvs := rows_reads h3
 rcases h2 with ⟨_, h2, _⟩ | ⟨r, cs, rfl, hr, hcs, hnc, hv⟩
 ·exfalso; apply hne; exact List.eq_nil_of_length_eq_zero (by omega)
 ·refine ⟨r, cs, rfl, ?_, g.new _ rfl, hn, hnc, hcs, ?_, ?_⟩
  ·funext a
   unfold Cells.upd
   by_cases e : a = r
   ·subst e; simp [hr]
   ·simp [e]
  ·intro i y hy
   refine hv i _ ?_
   rw [hvs, List.getElem?_map, hy]; rfl
  ·intro cs' l' hsz hrd hlen
   have rows : ∀ l : List Int, Go.TM.Rows IntEnc (l.map (Value.int .i64)) l := by
    intro l
    have : ∀ (k : Nat) (l : List Int), l.length = k -> Go.TM.Rows IntEnc (l.map (Value.int .i64)) l := by
     intro k
     induction k with
     | zero => intro l hl; rw [List.eq_nil_of_length_eq_zero hl]; exact .nil
     | succ k ih =>
      intro l hl
      obtain ⟨a, b, rfl⟩ : ∃ a b, l = a ++ [b] := ⟨l.dropLast, l.getLast (by intro e; subst e; simp at hl), (List.dropLast_concat_getLast _).symm⟩
      rw [List.map_append]
      exact Go.TM.Rows.snoc (ih a (by simp at hl; exact hl)) rfl
    exact this _ l rfl
   refine ⟨⟨l'.map (Value.int .i64), ⟨by rw [List.length_map]; omega, .inr ⟨r, cs', rfl, Cells.upd_self _ _ _, by rw [hsz]; exact hcs, hnc, fun j v hj => ?_⟩⟩, rows l'⟩, g.new⟩
   rw [List.getElem?_map] at hj
   cases hy : l'[j]? with
   | none => rw [hy] at hj; cases hj
   | some y => rw [hy] at hj; cases hj; exact hrd j y hy
theorem c2059 {h : LH} {m c : Nat} {es : Array MapEntry} {b : Bool} {l : List Int} (hm : h.get m = some (b, .map es c)) (k : Keys es c l) (hne : l ≠ []) (hl : l.length <= 12) :
  Gr Tryz.prog 101 #[.map (some m)] h fun r h' => ∃ p n c acc, r = .slice p n c /\ Sl IntE 1 h'.get p n acc /\ n <= c /\ acc.Pairwise (· < ·) /\ ∀ v, v ∈ acc ↔ v ∈ l := by
 refine w2059 _ X0_ok ?_
 unfold n2059
 refine t_gr (c2081 m) ?_
 rintro _ h1 le1 ⟨z0, rfl, hz⟩
 have hlen : es.toList.length = l.length := by
  have := congrArg List.length k.keys
  simpa using this
 have hu : toCome es #[] <= 12 := by
  unfold toCome
  have := List.length_filter_le (fun e : MapEntry => !(#[] : Array Nat).toList.contains e.born) es.toList
  omega
 have sorted : Gr Tryz.prog 137 #[.func (.func 155) #[] #[.pointer (some z0)]] h1 fun r h' => ∃ p n c acc, r = .slice p n c /\ Sl IntE 1 h'.get p n acc /\ n <= c /\ acc.Pairwise (· < ·) /\ ∀ v, v ∈ acc ↔ v ∈ l := by
  refine w2080 _ X0_ok ?_
  unfold n2080
  refine t_gr (c2091 (toCome es) (fun s xs s' h => toCome_less h) ?_ (by omega) (hands2093 X0_ok hz (le1.1 _ _ hm) k)) ?_
  ·rintro s xs s' ⟨e, he, _, rfl, _⟩
   have : e.key ∈ es.toList.map (·.key) := List.mem_map.2 ⟨e, he, rfl⟩
   rw [k.keys] at this
   obtain ⟨v, _, hv⟩ := List.mem_map.1 this
   exact ⟨v, by rw [hv]⟩
  ·rintro _ h2 le2 ⟨p, n, c, s, acc, hf, hch, rfl, hal, g⟩
   obtain ⟨hnd, hmem⟩ := chain_done k hch hf
   have hane : acc ≠ [] := by
    rintro rfl
    apply hne
    exact List.eq_nil_iff_forall_not_mem.2 fun v hv => by simpa using (hmem v).2 hv
   obtain ⟨r, cs, rfl, hup, hr0, rfl, hnc, hcs, hrd, hback⟩ := grown g hane
   refine gZ ?_
   have hst : h2 = { h2 with get := h2.get.upd r (true, .cells cs 3 (0, 0)) } := by
    obtain ⟨g2, a2, b2, d2⟩ := h2
    simp only [LH.mk.injEq, and_self, and_true]
    exact hup
   rw [hst]
   refine t_call (c2092 hrd (by omega)) ?_
   rintro _ _ ⟨rfl, cs', l', hsz, hrd', hperm, hso, rfl⟩
   refine gZ ?_
   have g' := hback cs' l' hsz hrd' hperm.length_eq
   refine t_ret ⟨?_, _, _, c, l', rfl, g'.sl IntEnc.len (by omega) IntEnc.e (by rw [hperm.length_eq]; omega), hnc, ?_, fun v => by rw [hperm.mem_iff, hmem]⟩
   ·refine ⟨fun a x ha => ?_, le2.2⟩
    have hne' : a ≠ r := by rintro rfl; rw [hr0] at ha; cases ha
    show Cells.upd _ _ _ a = _
    rw [Cells.upd_ne _ _ hne']
    exact le2.1 a x ha
   ·have hnd' : l'.Nodup := hperm.nodup_iff.2 hnd
    rw [List.nodup_iff_pairwise_ne] at hnd'
    exact (hso.and hnd').imp fun ⟨h1, h2⟩ => by omega
 refine t_gr sorted ?_
 rintro _ h2 le2 ⟨p, n, c', acc, rfl, h3, h4, h5, h6⟩
 refine gZ ?_
 exact t_ret ⟨LH.le_trans le1 le2, p, n, c', acc, rfl, h3, h4, h5, h6⟩
end Go.Proofs.YtgljffachdhigaaGreatDoor.Tre
end
section
namespace Go.TM
open Go Go.Conc
theorem nodup_len : ∀ {l m : List Int}, l.Nodup -> (∀ v ∈ l, v ∈ m) -> l.length <= m.length
 | [], m, _, _ => Nat.zero_le _
 | a :: l, m, hn, hs => by
  have ha := hs a (by simp)
  have hn' := List.nodup_cons.1 hn
  have := nodup_len (l := l) (m := m.erase a) hn'.2 fun v hv => by
   rw [List.mem_erase_of_ne]
   ·exact hs v (by simp [hv])
   ·rintro rfl; exact hn'.1 hv
  have h2 := List.length_erase_of_mem ha
  have h3 := List.length_pos_of_mem ha
  simp only [List.length_cons]
  omega
def SpE (h : Cells) (a : Addr) (s : Tr.Sp) : Prop := h.cell? (a.add 0) = some (.int .i64 s.first) /\ h.cell? (a.add 1) = some (.int .i64 s.last)
def SpEnc (s : Tr.Sp) (ws : List Value) : Prop := ws = [.int .i64 s.first, .int .i64 s.last]
theorem SpE.grow : Grow SpE := fun _ _ _ _ hl h => ⟨hl _ _ h.1, hl _ _ h.2⟩
theorem SpEnc.len : ∀ d ws, SpEnc d ws -> ws.length = 2 := by rintro d _ rfl; rfl
theorem SpEnc.e {h' : Cells} : ∀ a d ws, SpEnc d ws -> (∀ (j : Nat) w, ws[j]? = some w -> h'.cell? (a.add j) = some w) -> SpE h' a d := by
 rintro a d _ rfl hc; exact ⟨hc 0 _ rfl, hc 1 _ rfl⟩
theorem Rows.last {α : Type} {Enc : α -> List Value -> Prop} {vs : List Value} {l : List α} {x : α} (r : Rows Enc vs (l ++ [x])) : ∃ us ws, vs = us ++ ws /\ Rows Enc us l /\ Enc x ws := by
 generalize he : l ++ [x] = m at r
 cases r with
 | nil => simp at he
 | snoc r hx =>
  rename_i us l' y ws
  have := List.append_inj' he rfl
  obtain ⟨rfl, h2⟩ := this
  simp at h2; subst h2
  exact ⟨us, ws, rfl, r, hx⟩
theorem Growing.lastSp {el : TypeId} {h₀ h : Cells} {p : Option Addr} {n c : Nat} {out : List Tr.Sp} {s : Tr.Sp} (g : Growing SpEnc el 2 h₀ h p n c (out ++ [s])) :
  ∃ r cs, p = some ⟨r, 0, none⟩ /\ h r = some (true, .cells cs el (0, 0)) /\ h₀ r = none /\ n = out.length + 1 /\ 2 * out.length + 1 < cs.size /\ cs[2 * out.length + 1]? = some (.int .i64 s.last) /\
   ∀ v : Int, Growing SpEnc el 2 h₀ (h.upd r (true, .cells (cs.setIfInBounds (2 * out.length + 1) (.int .i64 v)) el (0, 0))) p n c (out ++ [⟨s.first, v⟩]) := by
 have hn := g.count SpEnc.len (by omega)
 obtain ⟨vs, ⟨h1, h2⟩, h3⟩ := g.row
 obtain ⟨us, ws, rfl, h4, rfl⟩ := h3.last
 have hus := h4.len SpEnc.len
 rcases h2 with ⟨_, h2, _⟩ | ⟨r, cs, rfl, hr, hcs, hnc, hv⟩
 ·simp at hn; omega
 ·have hn' : n = out.length + 1 := by simpa using hn
  have hc1 : cs[2 * out.length + 1]? = some (.int .i64 s.last) := by
   refine hv _ _ ?_
   rw [List.getElem?_append_right (by omega)]
   rw [show 2 * out.length + 1 - us.length = 1 by omega]; rfl
  refine ⟨r, cs, rfl, hr, g.new _ rfl, hn', (Array.getElem?_eq_some_iff.1 hc1).1, hc1, fun v => ?_⟩
  refine ⟨⟨us ++ [.int .i64 s.first, .int .i64 v], ⟨by rw [List.length_append, hus, hn']; simp; omega, .inr ⟨r, _, rfl, Cells.upd_self _ _ _, by simp; exact hcs, hnc, fun j w hj => ?_⟩⟩, Rows.snoc (x := (⟨s.first, v⟩ : Tr.Sp)) (ws := [.int .i64 s.first, .int .i64 v]) h4 rfl⟩, g.new⟩
  by_cases e : j = 2 * out.length + 1
  ·subst e
   rw [Array.getElem?_setIfInBounds_self_of_lt (Array.getElem?_eq_some_iff.1 hc1).1]
   rw [List.getElem?_append_right (by omega), show 2 * out.length + 1 - us.length = 1 by omega] at hj
   exact hj
  ·rw [Array.getElem?_setIfInBounds_ne (Ne.symm e)]
   refine hv j w ?_
   by_cases e2 : j < us.length
   ·rw [List.getElem?_append_left e2] at hj ⊢; exact hj
   ·rw [List.getElem?_append_right (by omega)] at hj ⊢
    match hq : j - us.length, hj with
    | 0, hj => exact hj
    | 1, hj => omega
    | q + 2, hj => simp at hj
end Go.TM
namespace Go.Proofs.YtgljffachdhigaaGreatDoor.Tre
open Go Go.TM Go.Proofs Go.TM.Tr
attribute [local irreducible] T.wp CV FWK
def SpansR (h : Cells) (x : TF) (k i : Int) (r : Value) : Prop :=
 (askedItemT x k i ≠ 0 /\ r = .tuple #[.slice none 0 0, .int .i64 (askedItemT x k i)]) \/
 (askedItemT x k i = 0 /\ ∃ p n c l, r = .tuple #[.slice p n c, .int .i64 0] /\ IsDays x l /\ Sl SpE 2 h p n (spansT x k i l) /\ n <= c)
theorem join_none {d e : Int} : join [] d e = [⟨d, e - 1⟩] := rfl
theorem join_last {out : List Sp} {s : Sp} {d e : Int} : join (out ++ [s]) d e = if s.last = d - 1 then out ++ [⟨s.first, e - 1⟩] else (out ++ [s]) ++ [⟨d, e - 1⟩] := by
 unfold join
 simp
set_option maxRecDepth 10000 in
theorem c2023 {h : LH} (hk : Kinds h.get) {f : TC} {x : TF} (hx : TreatyR h.get f x) (k i : Int) : Gr Tryz.prog 60 #[treatyV f x, .int .i64 k, .int .i64 i] h fun r h' => SpansR h'.get x k i r := by
 refine w2023 _ _ _ _ _ _ _ _ _ _ _ X0_ok ?_
 unfold n2023
 refine t_pu (c2058 hk hx k i) ?_
 refine gZ ?_
 refine t_cond (fun e => ?_) (fun e => ?_)
 ·exact t_ret ⟨LH.le_refl _, .inl ⟨by simpa using e, rfl⟩⟩
 have e0 : askedItemT x k i = 0 := by simpa using e
 have hck := (asked_ok (askedItem_ok e0).1).1
 have rt := Right.of hck
 have hmany := rt.many
 have hn := hx.2.1
 refine t_makeMap fun m hm0 => ?_
 have lem : ∀ {h' : LH} {o : Obj}, h.le h' -> h.le { h' with get := h'.get.upd m (true, o) } := by
  intro h' o hl
  refine ⟨fun a y ha => ?_, hl.2⟩
  have : a ≠ m := by rintro rfl; rw [hm0] at ha; cases ha
  show Cells.upd _ _ _ a = _
  rw [Cells.upd_ne _ _ this]; exact hl.1 a y ha
 refine gZ ?_
 refine t_putKey (l := []) undMap i64_3 ⟨#[], 0, Cells.upd_self _ _ _, Keys.nil⟩ fun es1 c1 l1 hm1 k1 hl1 => ?_
 refine t_putKey (l := l1) undMap i64_3 ⟨es1, c1, hm1, k1⟩ fun es2 c2 l2 hm2 k2 hl2 => ?_
 have le2 := lem (o := .map es2 c2) (lem (o := .map es1 c1) (lem (o := .map #[] 0) (LH.le_refl h)))
 refine t_loop (fun mm vs h' => h.le h' /\ ∃ (j : Nat) (es : Array MapEntry) (c : Nat) (l : List Int), vs = [.int .i64 j] /\ j <= f.n /\ mm = f.n - j /\ h'.get m = some (true, .map es c) /\ Keys es c l /\ ∀ v, v ∈ l ↔ v = 0 \/ v = 10000 \/ ∃ e ∈ x.events.take j, e.day = v)
  ⟨le2, 0, es2, c2, l2, rfl, Nat.zero_le _, rfl, hm2, k2, fun v => by rw [hl2, hl1]; simp; omega⟩ ?_
 rintro Y mm vs h3 hY ⟨le3, j, es, c, l, rfl, hj, rfl, hm3, k3, hl3⟩
 refine gZ ?_
 refine t_if (fun e1 => ?_) (fun e1 => ?_)
 ·obtain ⟨e, a, he, ha, g0, g1, g2, ⟨q, mq, cq, g3, g6, g5⟩, g4⟩ := (hx.2.le EventE.grow le3.1).at (i := j) (by omega)
  refine gZ ?_
  refine t_putKey (l := l) undMap i64_3 ⟨es, c, hm3, k3⟩ fun es' c' l' hm' k' hl' => ?_
  refine t_again (hY (f.n - (j + 1)) _ _ (by omega) ⟨lem le3, j + 1, es', c', l', ?_, by omega, rfl, hm', k', fun v => ?_⟩)
  ·rw [wrap_id (by omega) (by omega)]; rfl
  ·rw [hl', hl3, List.take_add_one, he]
   simp only [List.mem_append, Option.toList, List.mem_singleton]
   constructor
   ·rintro (rfl | h1 | h1 | ⟨e', h1, h2⟩)
    ·exact .inr (.inr ⟨e, .inr rfl, rfl⟩)
    ·exact .inl h1
    ·exact .inr (.inl h1)
    ·exact .inr (.inr ⟨e', .inl h1, h2⟩)
   ·rintro (h1 | h1 | ⟨e', h1 | rfl, h2⟩)
    ·exact .inr (.inl h1)
    ·exact .inr (.inr (.inl h1))
    ·exact .inr (.inr (.inr ⟨e', h1, h2⟩))
    ·exact .inl h2.symm
 ·refine gZ ?_
  rw [List.take_of_length_le (by omega)] at hl3
  have hl12 : l.length <= 12 := by
   have := nodup_len (m := 0 :: 10000 :: x.events.map (·.day)) k3.nodup fun v hv => by
    rcases (hl3 v).1 hv with rfl | rfl | ⟨e, he, rfl⟩
    ·simp
    ·simp
    ·simp only [List.mem_cons, List.mem_map]; exact .inr (.inr ⟨e, he, rfl⟩)
   simp at this; omega
  have hlne : l ≠ [] := by
   rintro rfl
   have := (hl3 0).2 (.inl rfl)
   simp at this
  refine t_gr (c2059 hm3 k3 hlne hl12) ?_
  rintro _ h4 le4 ⟨p, n, c', days, rfl, hs, hnc, hup, hmem⟩
  have isd : IsDays x days := ⟨hup, fun v => by rw [hmem, hl3]⟩
  have hdn := hs.1
  have hd2 : 2 <= days.length := by
   have h0 : (0 : Int) ∈ days := (isd.mem 0).2 (.inl rfl)
   have h1 : (10000 : Int) ∈ days := (isd.mem 10000).2 (.inr (.inl rfl))
   match days, h0, h1 with
   | [], h0, _ => simp at h0
   | [a], h0, h1 => simp at h0 h1; omega
   | a :: b :: l, _, _ => simp
  have hd12 : days.length <= 12 := by
   have := nodup_len (m := l) (hup.imp fun h => by omega) fun v hv => (hmem v).1 hv
   omega
  have hbound : ∀ v ∈ days, 0 <= v /\ v <= 10000 := by
   intro v hv
   rcases (isd.mem v).1 hv with rfl | rfl | ⟨e, he, rfl⟩
   ·omega
   ·omega
   ·have := rt.ok e he; omega
  have le04 := LH.le_trans le3 le4
  refine gZ ?_
  have hw : IntKind.wrap .i64 ((n : Int) - 1) = ((n - 1 : Nat) : Int) := by rw [wrap_id (by omega) (by omega)]; omega
  rw [hw]
  refine t_sliceHigh und50 inf3 (by omega) ?_
  refine gZ ?_
  refine t_loop (fun mm vs h' => h4.le h' /\ ∃ (j : Nat) (q : Option Addr) (m cc : Nat) (out : List Sp), vs = [.slice q m cc, .int .i64 j] /\ j <= n - 1 /\ mm = n - 1 - j /\ out.length <= j /\ Growing SpEnc 29 2 h4.get h'.get q m cc out /\ spansT x k i days = spansGo (fun d => decide (0 <= dateOn x k i d)) (days.drop j) out)
   ⟨LH.le_refl _, 0, none, 0, 0, [], rfl, Nat.zero_le _, rfl, Nat.le_refl _, Growing.nil, rfl⟩ ?_
  clear hY e1 hj
  rintro Y mm vs h5 hY ⟨le5, j, q, mq, cc, out, rfl, hj, rfl, hol, g, hc⟩
  have le05 := LH.le_trans le04 le5
  have hmq := g.count SpEnc.len (by omega)
  have next : ∀ h' q' m' c' out', h4.le h' -> j + 1 <= n - 1 -> out'.length <= j + 1 -> Growing SpEnc 29 2 h4.get h'.get q' m' c' out' -> spansT x k i days = spansGo (fun d => decide (0 <= dateOn x k i d)) (days.drop (j + 1)) out' -> Y [.slice q' m' c', .int .i64 (IntKind.wrap .i64 ((j : Int) + 1))] h' := by
   intro h' q' m' c' out' hle' hlt hol' g' hc'
   refine hY (n - 1 - (j + 1)) _ _ (by omega) ⟨hle', j + 1, q', m', c', out', ?_, by omega, rfl, hol', g', hc'⟩
   rw [wrap_id (by omega) (by omega)]; rfl
  refine gZ ?_
  refine t_if (fun e2 => ?_) (fun e2 => ?_)
  ·obtain ⟨d, a, hd, ha, e3⟩ := (hs.le IntE.grow le5.1).at (i := j) (by omega)
   obtain ⟨d2, a2, hd2', ha2, e4⟩ := (hs.le IntE.grow le5.1).at (i := j + 1) (by omega)
   unfold IntE at e3 e4
   rw [ha] at ha2; cases ha2
   have hwj : IntKind.wrap .i64 ((j : Int) + 1) = ((j + 1 : Nat) : Int) := by rw [wrap_id (by omega) (by omega)]; rfl
   rw [drop_of hd, drop_of hd2', spansGo] at hc
   rw [<- drop_of hd2'] at hc
   have hdb := hbound d (List.mem_of_getElem? hd)
   have hdb2 := hbound d2 (List.mem_of_getElem? hd2')
   rw [hwj] at next ⊢
   refine gZ ?_
   refine t_gr (c2060 (hk.le le05.1) (hx.le le05.1) rt k i d) ?_
   rintro _ h6 le6 rfl
   have le46 := LH.le_trans le5 le6
   have g6 := g.le le6.1
   refine gZ ?_
   refine t_if (fun e5 => ?_) (fun e5 => ?_)
   ·rw [if_neg (by simp; omega)] at hc
    exact t_again (next h6 q mq cc out le46 (by omega) (by omega) g6 hc)
   ·rw [if_pos (by simp; omega)] at hc
    have hwd : IntKind.wrap .i64 (d2 - 1) = d2 - 1 := wrap_id (by omega) (by omega)
    have hwd1 : IntKind.wrap .i64 (d - 1) = d - 1 := wrap_id (by omega) (by omega)
    rw [hwd, hwd1]
    have push : spansT x k i days = spansGo (fun d => decide (0 <= dateOn x k i d)) (days.drop (j + 1)) (out ++ [⟨d, d2 - 1⟩]) -> ∀ {K : Value -> T} {Q : Leaf -> LH -> Prop}, (∀ p' c' h', h4.le h' -> Growing SpEnc 29 2 h4.get h'.get p' (mq + 1) c' (out ++ [⟨d, d2 - 1⟩]) -> (K (.slice p' (mq + 1) c')).wp X0 Tryz.prog Q h') ->
      (T.sem false (Instr.buildSlice 22 1 #[(0, .agg #[.int .i64 d, .int .i64 (d2 - 1)])]) fun v => T.unS v fun a m mc => T.sem false (Builtin.append_ #[22, 22] 22 #[.slice q mq cc, .slice a m mc]) K).wp X0 Tryz.prog Q h6 := by
     intro _ K Q hK
     refine t_push (⟨d, d2 - 1⟩ : Sp) [.int .i64 d, .int .i64 (d2 - 1)] rfl rfl und22 inf30 rfl (by omega) (by decide) (by kernel_rfl) rfl (by simp; exact ⟨rfl, rfl⟩) (by omega) g6 le46 rfl ?_
     intro p' c' h7 le7 _ g7
     exact hK p' c' h7 le7 g7
    refine t_if (fun e6 => ?_) (fun e6 => ?_)
    ·obtain ⟨out', s, rfl⟩ : ∃ out' s, out = out' ++ [s] := ⟨out.dropLast, out.getLast (by rintro rfl; simp at hmq; omega), (List.dropLast_concat_getLast _).symm⟩
     obtain ⟨r, cs, rfl, hr6, hr0, hmq', hlt, hcs, hset⟩ := g6.lastSp
     have hwm : IntKind.wrap .i64 ((mq : Int) - 1) = (out'.length : Int) := by rw [wrap_id (by omega) (by omega)]; omega
     have hcell : h6.get.cell? ((Addr.add ⟨r, 0, none⟩ ((out'.length : Int).toNat * 2)).add 1) = some (.int .i64 s.last) := by
      rw [add_plain, add_plain]
      have : 0 + (out'.length : Int).toNat * 2 + 1 = 2 * out'.length + 1 := by simp; omega
      rw [this]
      simp only [Cells.cell?, hr6, Option.isSome_none, Bool.false_eq_true, if_false]
      exact hcs
     rw [join_last] at hc
     rw [hwm]
     refine gT (by omega) (gS2 rfl (gL0 hcell ?_))
     refine t_cond (fun e7 => ?_) (fun e7 => ?_)
     ·rw [if_pos (by simpa using e7)] at hc
      refine gT (by omega) (gS2 rfl ?_)
      have haddr : ((Addr.add ⟨r, 0, none⟩ ((out'.length : Int).toNat * 2)).add 1).add 0 = ⟨r, 2 * out'.length + 1, none⟩ := by
       rw [add_plain, add_plain, add_plain]
       have : 0 + (out'.length : Int).toNat * 2 + 1 + 0 = 2 * out'.length + 1 := by simp; omega
       rw [this]
      rw [haddr]
      have hcell2 : h6.get.cell? ⟨r, 2 * out'.length + 1, none⟩ = some (.int .i64 s.last) := by
       simp only [Cells.cell?, hr6, Option.isSome_none, Bool.false_eq_true, if_false]
       exact hcs
      refine t_store rfl ⟨_, hr6⟩ hcell2 (by simp [Cells.frozen?, hr6]) ?_
      have hupd : h6.get.setCell ⟨r, 2 * out'.length + 1, none⟩ (.int .i64 (d2 - 1)) = h6.get.upd r (true, .cells (cs.setIfInBounds (2 * out'.length + 1) (.int .i64 (d2 - 1))) 29 (0, 0)) := by
       funext b
       unfold Cells.setCell Cells.upd
       by_cases e : b = r
       ·subst e; simp [hr6]
       ·simp [e]
      rw [hupd]
      refine t_again (next _ _ _ _ (out' ++ [⟨s.first, d2 - 1⟩]) ?_ (by omega) (by simp at hol ⊢; omega) (hset (d2 - 1)) hc)
      refine ⟨fun b y hb => ?_, le46.2⟩
      have hne : b ≠ r := by rintro rfl; rw [hr0] at hb; cases hb
      show Cells.upd _ _ _ b = _
      rw [Cells.upd_ne _ _ hne]; exact le46.1 b y hb
     ·rw [if_neg (by simpa using e7)] at hc
      refine push hc fun p' c' h7 le7 g7 => ?_
      refine gZ ?_
      exact t_again (next h7 p' _ c' _ le7 (by omega) (by simp at hol ⊢; omega) g7 hc)
    ·have hout : out = [] := List.eq_nil_of_length_eq_zero (by omega)
     subst hout
     rw [join_none] at hc
     refine push hc fun p' c' h7 le7 g7 => ?_
     refine gZ ?_
     exact t_again (next h7 p' _ c' _ le7 (by omega) (by simp) g7 hc)
  ·refine gZ ?_
   have hjn : j = n - 1 := by omega
   have hfin : spansT x k i days = out := by
    rw [hc]
    have hlen1 : (days.drop j).length = 1 := by rw [List.length_drop]; omega
    match hd : days.drop j, hlen1 with
    | [d], _ => rfl
   refine t_ret ⟨le05, .inr ⟨e0, q, mq, cc, days, rfl, isd, ?_, ?_⟩⟩
   ·rw [hfin]
    exact g.sl SpEnc.len (by omega) SpEnc.e (by omega)
   ·obtain ⟨vs, o, _⟩ := g.row
    exact o.le_cap
end Go.Proofs.YtgljffachdhigaaGreatDoor.Tre
end
section
namespace Go.Proofs.YtgljffachdhigaaGreatDoor.Tre
open Go Go.TM Go.Proofs Go.TM.Tr
attribute [local irreducible] T.wp CV FWK
def BoolEnc (b : Bool) (ws : List Value) : Prop := ws = [.bool b]
theorem BoolEnc.len : ∀ d ws, BoolEnc d ws -> ws.length = 1 := by rintro d _ rfl; rfl
theorem BoolEnc.e {h' : Cells} : ∀ a d ws, BoolEnc d ws -> (∀ (j : Nat) w, ws[j]? = some w -> h'.cell? (a.add j) = some w) -> BoolE h' a d := by
 rintro a d _ rfl hc; exact hc 0 _ rfl
end Go.Proofs.YtgljffachdhigaaGreatDoor.Tre
end
section
namespace Go.TM.Rv
open Go Go.Conc Go.TM
theorem t_sliceArr1 {P : Program} {X : XP} {Q : Leaf -> LH -> Prop} {h : LH} {K : Value -> T} {t el : TypeId} {n i s b : Nat} {z : Option Value} {a : Addr} (hu : P.underlying t = some (.array n el)) (hi : (P.info? el).map (fun i => (i.size, i.bytes, i.zero)) = some (s, b, z)) (hin : i <= n)
  (hk : ∀ a', (a' = a \/ a' = a.add 0) -> (K (.slice (some a') i n)).wp X P Q h) : (T.sem false (Instr.sliceAt t (.pointer (some a)) none (some (.int .i64 (i : Int))) none) K).wp X P Q h := by
 obtain ⟨inf, g1, g2, _, _⟩ := info_of hi
 refine t_sem (A := fun v h' => h' = h.get /\ (K v).wp X P Q h) ?_ (by rintro v h' ⟨rfl, hw⟩; exact hw)
 unfold Instr.sliceAt
 simp only [lwp_bind, lwp_underlying hu, Instr.sureAddr]
 unfold Instr.sliceBounds Instr.sliceBound
 simp only [lwp_bind, lwp_pure, asIntOf]
 rw [if_pos (show 0 <= (i : Int) /\ (i : Int) <= (n : Int) by omega)]
 simp only [lwp_pure, lwp_bind, Int.toNat_natCast, lwp_sizeOf g1, Nat.zero_mul, Nat.sub_zero]
 refine ⟨trivial, hk _ ?_⟩
 split
 ·exact .inl rfl
 ·exact .inr rfl
theorem out_fold {b : RvBook} : ∀ (l : List Int) (x : RvRun), (∀ v ∈ l, ∃ c, b.cases[v.toNat]? = some c) -> outT b x l = l.foldl (fun x v => match b.cases[v.toNat]? with | some c => endedT x v.toNat c | none => x) x
 | [], _, _ => rfl
 | v :: l, x, h => by
  obtain ⟨c, hc⟩ := h v (by simp)
  rw [List.foldl_cons]
  unfold outT
  simp only [hc]
  exact out_fold l _ fun w hw => h w (by simp [hw])
theorem out_snoc {b : RvBook} {l : List Int} {x : RvRun} (h : ∀ v ∈ l, ∃ c, b.cases[v.toNat]? = some c) {i : Nat} {v : Int} {c : RvCase} (hv : l[i]? = some v) (hc : b.cases[v.toNat]? = some c) : outT b x (l.take (i + 1)) = endedT (outT b x (l.take i)) v.toNat c := by
 rw [out_fold _ _ fun w hw => h w (List.mem_of_mem_take hw), out_fold _ _ fun w hw => h w (List.mem_of_mem_take hw), List.take_add_one, hv, List.foldl_append]
 simp [hc]
end Go.TM.Rv
namespace Go.Proofs.YtgljffachdhigaaGreatDoor
open Go Go.TM Go.Proofs Go.TM.Rv
attribute [local irreducible] T.wp CV FWK
theorem t_store8 {X : XP} {P : Program} {Q : Leaf -> LH -> Prop} {h : LH} {r : Nat} {el : TypeId} {cs : Array Value} {p : Option Addr} {n c : Nat} {s0 s1 s2 s3 s4 s5 : Bool} {w : Int} {k : T} (hr : h.get r = some (true, .cells cs el (0, 0))) (hs : cs.size = 8)
  (hk : ∀ h', Tn r h h' -> h'.get r = some (true, .cells (runCells p n c s0 s1 s2 s3 s4 s5 w) el (0, 0)) -> k.wp X P Q h') :
  (T.store (Addr.add { block := r, off := 0 } 0) (.slice p n c) (T.store (Addr.add { block := r, off := 0 } 1) (.bool s0) (T.store (Addr.add { block := r, off := 0 } 2) (.bool s1) (T.store (Addr.add { block := r, off := 0 } 3) (.bool s2) (T.store (Addr.add { block := r, off := 0 } 4) (.bool s3) (T.store (Addr.add { block := r, off := 0 } 5) (.bool s4) (T.store (Addr.add { block := r, off := 0 } 6) (.bool s5) (T.store (Addr.add { block := r, off := 0 } 7) (.int .i64 w) k)))))))).wp X P Q h := by
 obtain ⟨l⟩ := cs
 match l, hs with
 | [a0, a1, a2, a3, a4, a5, a6, a7], _ =>
  refine t_storeC (j := 0) (by rw [add_plain]) hr (by show 0 < 8; omega) rfl fun h1 t1 z1 => ?_
  replace z1 : h1.get r = some (true, .cells #[.slice p n c, a1, a2, a3, a4, a5, a6, a7] el (0, 0)) := z1
  refine t_storeC (j := 1) (by rw [add_plain]) z1 (by show 1 < 8; omega) rfl fun h2 t2 z2 => ?_
  replace z2 : h2.get r = some (true, .cells #[.slice p n c, .bool s0, a2, a3, a4, a5, a6, a7] el (0, 0)) := z2
  refine t_storeC (j := 2) (by rw [add_plain]) z2 (by show 2 < 8; omega) rfl fun h3 t3 z3 => ?_
  replace z3 : h3.get r = some (true, .cells #[.slice p n c, .bool s0, .bool s1, a3, a4, a5, a6, a7] el (0, 0)) := z3
  refine t_storeC (j := 3) (by rw [add_plain]) z3 (by show 3 < 8; omega) rfl fun h4 t4 z4 => ?_
  replace z4 : h4.get r = some (true, .cells #[.slice p n c, .bool s0, .bool s1, .bool s2, a4, a5, a6, a7] el (0, 0)) := z4
  refine t_storeC (j := 4) (by rw [add_plain]) z4 (by show 4 < 8; omega) rfl fun h5 t5 z5 => ?_
  replace z5 : h5.get r = some (true, .cells #[.slice p n c, .bool s0, .bool s1, .bool s2, .bool s3, a5, a6, a7] el (0, 0)) := z5
  refine t_storeC (j := 5) (by rw [add_plain]) z5 (by show 5 < 8; omega) rfl fun h6 t6 z6 => ?_
  replace z6 : h6.get r = some (true, .cells #[.slice p n c, .bool s0, .bool s1, .bool s2, .bool s3, .bool s4, a6, a7] el (0, 0)) := z6
  refine t_storeC (j := 6) (by rw [add_plain]) z6 (by show 6 < 8; omega) rfl fun h7 t7 z7 => ?_
  replace z7 : h7.get r = some (true, .cells #[.slice p n c, .bool s0, .bool s1, .bool s2, .bool s3, .bool s4, .bool s5, a7] el (0, 0)) := z7
  refine t_storeC (j := 7) (by rw [add_plain]) z7 (by show 7 < 8; omega) rfl fun h8 t8 z8 => ?_
  exact hk h8 (t1.trans (t2.trans (t3.trans (t4.trans (t5.trans (t6.trans (t7.trans t8))))))) z8
open Tre in
theorem boolTold {h : Cells} : ToldE BoolE BoolEnc 1 h := by
 rintro a x h1
 refine ⟨_, rfl, rfl, fun j w hj => ?_, fun w hw => by simp at hw; subst hw; rfl⟩
 match j, hj with
 | 0, hj => cases hj; exact h1
 | j + 1, hj => simp at hj
open Tre in
theorem c3159 {h : LH} (set : Int) {n : Nat} (hn : n <= 100) : Gr Tryz.prog 70 #[.int .i64 set, .int .i64 n] h fun r h' => ∃ p m c, r = .slice p m c := by
 refine w3159 _ _ X0_ok ?_
 unfold n3159
 refine t_loop (fun mm vs h' => h.le h' /\ ∃ (j : Nat) (p : Option Addr) (m c : Nat) (l : List Bool), vs = [.slice p m c, .int .i64 j] /\ j <= n /\ mm = n - j /\ l.length = j /\ Growing BoolEnc 4 1 h.get h'.get p m c l)
  ⟨LH.le_refl _, 0, none, 0, 0, [], rfl, Nat.zero_le _, rfl, rfl, Growing.nil⟩ ?_
 rintro Y mm vs h1 hY ⟨le1, j, p, m, c, l, rfl, hj, rfl, hl, g⟩
 have hm := g.count BoolEnc.len (by omega)
 refine gZ ?_
 refine t_if (fun e1 => ?_) (fun e1 => ?_)
 ·refine gZ ?_
  generalize (IntKind.wrap .i64 (((BitVec.ofInt 64 (Int.fdiv set (2 ^ (min ((j : Int)).toNat 64)))) &&& (BitVec.ofInt 64 1)).toNat : Int) == 1) = q
  refine t_push (h₀ := h) (Enc := BoolEnc) q [.bool q] rfl rfl undBs inf4 rfl (by omega) (by decide) (by kernel_rfl) rfl (by simp; rfl) (by omega) g le1 rfl ?_
  intro p' c' h3 le3 _ g3
  refine gZ ?_
  refine t_again (hY (n - (j + 1)) _ _ (by omega) ⟨le3, j + 1, p', m + 1, c', l ++ [q], ?_, by omega, rfl, ?_, g3⟩)
  ·rw [wrap_id (by omega) (by omega)]; rfl
  ·simp [hl]
 ·refine gZ ?_
  exact t_ret ⟨le1, p, m, c, rfl⟩
theorem run_eta {x : RvRun} {s : List Bool} {l : List Int} (h1 : x.s = s) (h2 : x.order = l) : (⟨l, s, x.won⟩ : RvRun) = x := by
 subst h1; subst h2; rfl
theorem start_s (b : RvBook) : (startT b).s = [decide (0 < b.rights.length), decide (1 < b.rights.length), decide (2 < b.rights.length), decide (3 < b.rights.length), decide (4 < b.rights.length), decide (5 < b.rights.length)] := rfl
theorem outWon {b : RvBook} (h5 : b.cases.length <= 5) : ∀ (l : List Int) (x : RvRun), x.won < 64 -> (outT b x l).won < 64
 | [], _, h => h
 | v :: l, x, h => by
  unfold Rv.outT
  cases hc : b.cases[v.toNat]? with
  | none => exact h
  | some c =>
   have := (List.getElem?_eq_some_iff.1 hc).1
   exact outWon h5 l _ (ended_won h (by omega))
open Tre in
set_option maxRecDepth 20000 in
theorem c3126 {h : LH} (hck : Checks h.get) {f : BookC} {b : RvBook} (hr : BookR h.get f b) (ok : BookOk b) {p : Option Addr} {n c : Nat} {l : List Int} (hl : Sl IntE 1 h.get p n l) (hlen : l.length = b.cases.length) (hord : OrderOk b l) :
  Gr Tryz.prog 22 #[bookV f, .slice p n c] h fun r h' => ∃ p n c q m k, r = .tuple #[.slice p n c, .slice q m k, .int .i64 0] /\ Sl BoolE 1 h'.get p n ((outT b (startT b) l).s.take b.rights.length) := by
 refine w3126 _ _ _ _ _ _ _ _ _ X0_ok ?_
 unfold n3126
 have hn := hl.1
 have hn0 := hr.rights.1
 have hn1 := hr.cases.1
 have h5 := ok.cases
 have h6 := ok.rights
 have hall : ∀ v ∈ l, ∃ c, b.cases[v.toNat]? = some c := fun v hv => by
  obtain ⟨i, hi⟩ := List.mem_iff_getElem?.1 hv
  obtain ⟨c, _, h1, _⟩ := hord i v hi
  exact ⟨c, h1⟩
 have hrange : ∀ v ∈ l, 0 <= v /\ v < 6 := fun v hv => by
  obtain ⟨i, hi⟩ := List.mem_iff_getElem?.1 hv
  obtain ⟨c, h0, h1, _⟩ := hord i v hi
  have := (List.getElem?_eq_some_iff.1 h1).1
  omega
 refine t_gr (c3151 (f := f) hck hr ok) ?_
 rintro _ h1 le1 rfl
 refine gZ ?_
 refine t_cond (fun e => by cases e) (fun _ => ?_)
 refine t_cond (fun e => ?_) (fun _ => ?_)
 ·exfalso
  have : ((n : Int) == (f.n1 : Int)) = true := by rw [beq_iff_eq]; omega
  rw [bne, this] at e; cases e
 refine t_gr (c3156 (f := f) (hr.le le1.1) h6) ?_
 rintro _ h2 le2 rfl
 have le02 := LH.le_trans le1 le2
 refine gZ ?_
 refine t_new fun r hr2 => ?_
 have le3 := LH.upd_le (h := h2) (x := (true, .cells #[.slice none 0 0, .bool false, .bool false, .bool false, .bool false, .bool false, .bool false, .int .i64 0] 131 (0, 0))) hr2
 refine t_store8 (Cells.upd_self _ _ _) rfl fun h3 t3 e3 => ?_
 have le23 := t3.le le3 hr2
 have le03 := LH.le_trans le02 le23
 refine t_loop (fun mm vs h' => h2.le h' /\ ∃ (i : Nat) (p' : Option Addr) (n' k' : Nat) (s0 s1 s2 s3 s4 s5 : Bool), vs = [.slice none 0 0, .slice none 0 0, .int .i64 0, .int .i64 i] /\ i <= n /\ mm = n - i /\ n' <= k' /\ (outT b (startT b) (l.take i)).s = [s0, s1, s2, s3, s4, s5] /\
   h'.get r = some (true, .cells (runCells p' n' k' s0 s1 s2 s3 s4 s5 ((outT b (startT b) (l.take i)).won : Nat)) 131 (0, 0)) /\ Sl IntE 1 h'.get p' n' (l.take i) /\ (outT b (startT b) (l.take i)).order = l.take i)
  ⟨le23, 0, none, 0, 0, _, _, _, _, _, _, rfl, Nat.zero_le _, rfl, Nat.le_refl _, start_s b, e3, Sl.nil, rfl⟩ ?_
 rintro Y mm vs h4 hY ⟨le4, i, p', n', k', s0, s1, s2, s3, s4, s5, rfl, hi, rfl, hnk, hs, e4, sl4, ho⟩
 have le04 := LH.le_trans le02 le4
 have m0 := run_cell e4 (j := 0) rfl
 have m1 := run_cell e4 (j := 1) rfl
 have m2 := run_cell e4 (j := 2) rfl
 have m3 := run_cell e4 (j := 3) rfl
 have m4 := run_cell e4 (j := 4) rfl
 have m5 := run_cell e4 (j := 5) rfl
 have m6 := run_cell e4 (j := 6) rfl
 have m7 := run_cell e4 (j := 7) rfl
 have hwon : (outT b (startT b) (l.take i)).won < 64 := outWon h5 _ _ (by show 0 < 64; omega)
 refine gZ ?_
 refine t_if (fun e1 => ?_) (fun e1 => ?_)
 ·obtain ⟨v, a, hv, ha, e2⟩ := (hl.le IntE.grow le04.1).at (i := i) (by omega)
  unfold IntE at e2
  have hin : 0 <= (i : Int) /\ (i : Int) < (n : Int) := by omega
  obtain ⟨cs, h0, hc, hcan, hpre⟩ := hord i v hv
  have hvl := (List.getElem?_eq_some_iff.1 hc).1
  have hcm := List.mem_of_getElem? hc
  obtain ⟨vn, rfl⟩ : ∃ k : Nat, v = (k : Int) := ⟨v.toNat, by omega⟩
  rw [Int.toNat_natCast] at hc hcan hvl
  have hcb := hcan
  rw [can_bits, Bool.and_eq_true] at hcb
  have hbl : bitsT (l.take i) < 64 := bits_lt (k := 6) fun w hw => by have := hrange w (List.mem_of_mem_take hw); omega
  refine gZ ?_
  rw [wrap_id (n := (f.n1 : Int) - 1) (by omega) (by omega)]
  refine t_pu (c3157 _ _ _) ?_
  rw [isIn_true (by omega)]
  refine gZ ?_
  refine t_cond (fun e => by cases e) (fun _ => ?_)
  refine gZ ?_
  refine t_pu (c100 sl4 _) ?_
  have hnot : (l.take i).contains (vn : Int) = false := by
   cases hh : (l.take i).contains (vn : Int) with
   | false => rfl
   | true =>
    have hm : (vn : Int) ∈ l.take i := by simpa using hh
    have := (bits_mem hpre vn).2 hm
    rw [this] at hcb
    exact absurd hcb.1 (by simp)
  rw [hnot]
  refine gZ ?_
  refine t_cond (fun e => by cases e) (fun _ => ?_)
  obtain ⟨ad, had, x0, x1, ⟨q, mq, kq, x2, x3⟩, q', mq', kq', x6, x7⟩ := book_at (hr.le le04.1) hc
  have hin2 : 0 <= (vn : Int) /\ (vn : Int) < (f.n1 : Int) := by omega
  refine gZ ?_
  refine t_pu (c3150 x7 (after_in ok.toBookShape hcm)) ?_
  refine gZ ?_
  refine t_pu (c3150 sl4 (fun w hw => hrange w (List.mem_of_mem_take hw))) ?_
  have hsub := sub_at (bits_after ok.toBookShape hcm) hbl
  rw [hcb.2] at hsub
  refine gZ ?_
  rw [hsub]
  refine t_cond (fun e => by cases e) (fun _ => ?_)
  refine gZ ?_
  refine t_gr (c3158 (f := f) (hr.le le04.1) ok.toBookShape hc hnk sl4 (by rw [List.length_take]; omega) hwon s0 s1 s2 s3 s4 s5) ?_
  have hxe : (⟨l.take i, [s0, s1, s2, s3, s4, s5], (outT b (startT b) (l.take i)).won⟩ : RvRun) = outT b (startT b) (l.take i) := run_eta hs ho
  rintro _ h5' le5 ⟨p2, n2, k2, t0, t1, t2, t3', t4, t5, rfl, hs2, hnk2, sl2, r2, rfl, hr2'⟩
  rw [hxe] at hs2 sl2 ⊢
  have hsn := out_snoc (x := startT b) hall hv (by rw [Int.toNat_natCast]; exact hc)
  rw [Int.toNat_natCast] at hsn
  rw [<- hsn] at hs2 sl2 ⊢
  refine gZ ?_
  refine t_store8 (le5.1 _ _ e4) rfl fun h6' t6 e6 => ?_
  have hord2 : (outT b (startT b) (l.take (i + 1))).order = l.take (i + 1) := by
   rw [hsn, ended_order, ho, List.take_add_one, hv]; rfl
  have hne : r2 ≠ r := by rintro rfl; rw [e4] at hr2'; cases hr2'
  rw [hord2] at sl2
  refine t_again (hY (n - (i + 1)) _ _ (by omega) ⟨t6.le (LH.le_trans le4 le5) hr2, i + 1, _, n2, k2, t0, t1, t2, t3', t4, t5, ?_, by omega, rfl, hnk2, hs2, e6, sl_tn t6 hne sl2, hord2⟩)
  rw [wrap_id (by omega) (by omega)]; rfl
 ·rw [List.take_of_length_le (show l.length <= i by omega)] at hs ho e4
  refine gZ ?_
  have hsrc : Sl BoolE 1 h4.get (some (Addr.add { block := r, off := 0 } 1)) f.n0 ((outT b (startT b) l).s.take b.rights.length) := by
   rw [hs]
   refine ⟨by rw [List.length_take]; show f.n0 = min _ 6; omega, by rw [List.length_take]; show min _ 6 < _; omega, fun j x hx => ⟨_, rfl, ?_⟩⟩
   have hjl := (List.getElem?_eq_some_iff.1 hx).1
   rw [List.length_take] at hjl
   rw [List.getElem?_take_of_lt (by omega)] at hx
   unfold BoolE
   rw [add_plain, add_plain, add_plain]
   have := run_cell e4 (j := 1 + j) (v := .bool x) (by
    match j, hx with
    | 0, hx => cases hx; rfl
    | 1, hx => cases hx; rfl
    | 2, hx => cases hx; rfl
    | 3, hx => cases hx; rfl
    | 4, hx => cases hx; rfl
    | 5, hx => cases hx; rfl)
   rw [add_plain] at this
   rw [Nat.mul_one, Nat.zero_add, Nat.add_zero]
   rw [Nat.zero_add] at this
   exact this
  refine t_sliceArr1 und1182 infBo (by omega) fun a' ha' => ?_
  have hsrc' : Sl BoolE 1 h4.get (some a') f.n0 ((outT b (startT b) l).s.take b.rights.length) := by
   rcases ha' with rfl | rfl
   ·exact hsrc
   ·rw [add_plain] at hsrc ⊢
    rw [add_plain]
    exact hsrc
  refine gZ ?_
  refine t_copy (h₀ := h4) (E := BoolE) (Enc := BoolEnc) rfl rfl undBs undBs infBo rfl (by omega) (by omega) Growing.nil (LH.le_refl _) hsrc' boolTold fun p4 k4 h5' le5 _ g5 => ?_
  have sb := g5.sl BoolEnc.len (by omega) BoolEnc.e (by rw [List.nil_append, List.length_take]; omega)
  have m7' := Cells.cell?_le le5.1 m7
  refine gZ ?_
  refine t_gr (c3159 _ (n := f.n1) (by omega)) ?_
  rintro _ h6' le6 ⟨p6, n6, k6, rfl⟩
  refine gZ ?_
  exact t_ret ⟨LH.le_trans le04 (LH.le_trans le5 le6), p4, _, k4, p6, n6, k6, rfl, sb.le BoolE.grow le6.1⟩
end Go.Proofs.YtgljffachdhigaaGreatDoor
end
section
namespace Go.Proofs.YtgljffachdhigaaGreatDoor
open Go Go.TM Go.Proofs Go.ChangeShapes Go.WideShapes Go.RowKit
set_option maxRecDepth 100000
theorem RT : RivalTy Tryz.prog 3 9 30 75 77 34 33 36 where
 int := by kernel_rfl
 int1 := by kernel_rfl
 str := by kernel_rfl
 str1 := by kernel_rfl
 bytes := ⟨of_decide_eq_true (by kernel_rfl), of_decide_eq_true (by kernel_rfl), of_decide_eq_true (by kernel_rfl), of_decide_eq_true (by kernel_rfl)⟩
 ints := by kernel_rfl
 ints1 := by kernel_rfl
 lists := by kernel_rfl
 lists1 := by kernel_rfl
 case := ⟨_, Tryz.underlying77, rfl⟩
 case4 := by kernel_rfl
 cases := by kernel_rfl
 cases1 := by kernel_rfl
 strs := by kernel_rfl
 strs1 := by kernel_rfl
 book := ⟨_, Tryz.underlying36, rfl⟩
 book2 := by kernel_rfl
def checksN : String := "touchmark/rival.checks"
theorem gChecks : Tryz.prog.globalNamed checksN = some 0 := by kernel_rfl
theorem tChecks : (Tryz.prog.globals[0]?).map (·.type) = some 160 := by kernel_rfl
theorem cells1207 : Tryz.prog.cellsOf 160 = 3 := by kernel_rfl
theorem array3 {α : Type} : ∀ {l : List α}, l.length = 3 -> ∃ a b c, l = [a, b, c]
 | [a, b, c], _ => ⟨a, b, c, rfl⟩
theorem checks_of_laid {l : List (String × DataW Unit)} {W : World} (h : laidMetH Tryz.prog l W) (hm : (checksN, Rows.laid_touchmark_rival_checks) ∈ l) : Checks (getW W) := by
 obtain ⟨g, t, cs, fuel, p, hg, ht, hv, hd⟩ := laidMetH.funcs h (n := checksN) hm
 obtain rfl := Option.some.inj (gChecks.symm.trans hg)
 obtain rfl := Option.some.inj (tChecks.symm.trans ht)
 obtain ⟨xs, m, _, hx, hl, hn, hel⟩ := DataW.trod_array Tryz.underlying160 hd
 rw [cells1207] at hl
 have hcell : ∀ j : Nat, W.cell? ⟨0, j, none⟩ = cs[j]? := World.var?_cell gChecks hv
 obtain ⟨x0, x1, x2, rfl⟩ := array3 hn
 obtain ⟨v0, v1, v2, hc⟩ := array3 hl
 have e1 : Tryz.prog.cellsOf 159 = 1 := by kernel_rfl
 have ec : ∀ j : Nat, cs[j]? = [v0, v1, v2][j]? := fun j => by rw [<- hc]; simp
 simp only [Prod.mk.injEq] at hx
 obtain ⟨hx, _⟩ := hx
 simp only [DataW.funcsOut, DataW.funcsOutAll, List.map_cons, List.map_nil, DataW.agg.injEq, List.cons.injEq, beq_self_eq_true, if_true, and_true] at hx
 obtain ⟨h0, h1, h2⟩ := hx
 have k0 := hel 0 (by decide)
 have k1 := hel 1 (by decide)
 have k2 := hel 2 (by decide)
 rw [hc, e1] at k0 k1 k2
 obtain ⟨d0, q0⟩ := x0; obtain ⟨d1, q1⟩ := x1; obtain ⟨d2, q2⟩ := x2
 simp only at h0 h1 h2
 subst h0; subst h1; subst h2
 have r0 : v0 = .func (.func 201) #[] #[] := func_of_trod (P := Tryz.prog) Tryz.underlying159 (by kernel_rfl) k0
 have r1 : v1 = .func (.func 202) #[] #[] := func_of_trod (P := Tryz.prog) Tryz.underlying159 (by kernel_rfl) k1
 have r2 : v2 = .func (.func 203) #[] #[] := func_of_trod (P := Tryz.prog) Tryz.underlying159 (by kernel_rfl) k2
 refine ⟨getW_cell ?_, getW_cell ?_, getW_cell ?_⟩
 ·rw [hcell, ec]; simp [r0]
 ·rw [hcell, ec]; simp [r1]
 ·rw [hcell, ec]; simp [r2]
end Go.Proofs.YtgljffachdhigaaGreatDoor
end
section
namespace Go.TM
open Go Go.Conc
variable {P : Program}
theorem setCell_at {h : Cells} {r i : Nat} {m : Bool} {cs : Array Value} {el : TypeId} {v : Value} (hr : h r = some (m, .cells cs el (0, 0))) : h.setCell ⟨r, i, none⟩ v = h.upd r (m, .cells (cs.setIfInBounds i v) el (0, 0)) := by
 funext b
 unfold Cells.setCell Cells.upd
 by_cases e : b = r
 ·subst e; simp [hr]
 ·simp [e]
theorem t_newSt2 {X : XP} {Q : Leaf -> LH -> Prop} {h : LH} {e : TypeId} {v₀ v : Value} {k : Nat -> T} (h1 : isOne v = true) (hk : ∀ r h', h.le h' -> h.get r = none -> h'.get = h.get.upd r (true, .cells #[v] e (0, 0)) -> h'.get.cell? ⟨r, 0, none⟩ = some v -> (k r).wp X P Q h') :
  (T.new e #[v₀] fun r => T.store (Addr.add ⟨r, 0, none⟩ 0) v (k r)).wp X P Q h := by
 refine t_new fun r hr => ?_
 have ha : Addr.add (⟨r, 0, none⟩ : Addr) 0 = ⟨r, 0, none⟩ := by rw [add_plain]
 rw [ha]
 refine t_storeU (o := 0) rfl h1 (by simp) ?_
 have : (#[v₀] : Array Value).setIfInBounds 0 v = #[v] := rfl
 rw [this]
 exact hk r _ (LH.upd_le hr) hr rfl (cell_upd rfl)
theorem cell_freeze2 (F : Nat -> Bool) (h : Cells) (a : Addr) : (freezeC F h).cell? a = h.cell? a := by
 unfold Cells.cell? freezeC
 cases h a.block with
 | none => rfl
 | some x => obtain ⟨m, o⟩ := x; cases o <;> rfl
theorem rd_freeze2 (F : Nat -> Bool) (h : Cells) : Rd h (freezeC F h) := fun a v hc => by rw [cell_freeze2]; exact hc
theorem rd_drop2 {h : Cells} {c s : Nat} (hs : h c = some (true, .chan 0 #[] false s s false)) : Rd h (dropC h c) := by
 intro a v hc
 unfold Cells.cell? dropC at *
 by_cases e : a.block = c
 ·rw [e, hs] at hc; cases hc
 ·rw [if_neg e]; exact hc
def Hand2 (q1 q2 : Nat) (h : LH) : Prop := (h.chans = [] /\ q1 ≠ q2 /\ (∃ s, h.get q1 = some (true, .chan 0 #[] false s s false)) /\ ∃ s, h.get q2 = some (true, .chan 0 #[] false s s false)) \/ h.chans = [q2, q1]
theorem Hand2.le {q1 q2 : Nat} {h h' : LH} (hl : h.le h') (hd : Hand2 q1 q2 h) : Hand2 q1 q2 h' := by
 rcases hd with ⟨a, b, ⟨s, c⟩, t, d⟩ | a
 ·exact .inl ⟨by rw [hl.2.1, a], b, ⟨s, hl.1 _ _ c⟩, t, hl.1 _ _ d⟩
 ·exact .inr (by rw [hl.2.1, a])
theorem spawnW_two {f : FuncId} {cap : Array Value} {h : LH} {Q : LH -> Prop} {s : Script} (q1 q2 : Nat) (hst : Hand2 q1 q2 h) (hne : s ≠ []) (hs : ∀ y ∈ s, y.1 = q1 \/ y.1 = q2) (c : ∀ hc, Rd h.get hc -> FWK XW P .deferred f cap ⟨hc, [], [], s⟩ fun _ _ => False)
  (hQ : ∀ h', Rd h.get h'.get -> h'.chans = [q2, q1] -> h'.todo = h.todo -> h'.pend = h.pend ++ [s] -> Q h') : SpawnW XT P (.func (.func f) #[] cap) #[] h Q := by
 have key : ∀ h1 : LH, Rd h.get h1.get -> h1.chans = [q2, q1] -> h1.todo = h.todo -> h1.pend = h.pend -> SpawnW XT P (.func (.func f) #[] cap) #[] h1 Q := by
  intro h1 r1 c1 t1 p1
  refine spawnW (fun _ => true) (freezeC (fun _ => true) h1.get) s hne (hargs := cap) (by simp) ?_ ?_ (c _ (r1.trans (rd_freeze2 _ _))) ?_
  ·intro r x hx
   refine ⟨?_, hx⟩
   unfold freezeC at hx
   cases hy : h1.get r with
   | none => rw [hy] at hx; cases hx
   | some y => rw [hy] at hx; simp at hx; rw [<- hx]
  ·intro y hy
   rw [c1]
   rcases hs y hy with e | e <;> simp [e]
  ·exact hQ _ (r1.trans (rd_freeze2 _ _)) c1 t1 (by show h1.pend ++ _ = _; rw [p1])
 rcases hst with ⟨h1, hq, ⟨s1, h2⟩, s2, h3⟩ | h1
 ·refine SpawnW.opened q1 s1 h2 ?_
  have h3' : dropC h.get q1 q2 = some (true, .chan 0 #[] false s2 s2 false) := by unfold dropC; rw [if_neg (Ne.symm hq)]; exact h3
  refine SpawnW.opened q2 s2 h3' (key _ ((rd_drop2 h2).trans (rd_drop2 h3')) ?_ rfl rfl)
  show q2 :: q1 :: h.chans = _
  rw [h1]
 ·exact key h (Rd.refl _) h1 rfl rfl
def scr (q1 q2 : Nat) (φ : Nat -> Value -> Cells -> Prop) (ψ : Value -> Cells -> Prop) (x : Nat × Bool) : Script := if x.2 then [(q1, φ x.1), (q2, ψ)] else [(q2, ψ)]
theorem commW_sel {last : Bool} {q1 q2 : Nat} {z1 z2 : Value} {φ : Nat -> Value -> Cells -> Prop} {ψ : Value -> Cells -> Prop} {rem : List (Nat × Bool)} {h : LH} {Q : Value -> LH -> Prop} (hp : h.pend = rem.map (scr q1 q2 φ ψ)) (hc : h.chans = [q2, q1]) (hq : q1 ≠ q2) (hne : rem ≠ [])
  (hQ1 : ∀ l1 i l2 v h₂, rem = l1 ++ (i, true) :: l2 -> h₂.todo = h.todo -> h₂.pend = (l1 ++ (i, false) :: l2).map (scr q1 q2 φ ψ) -> h₂.chans = [q2, q1] -> (∃ hv, φ i v hv /\ hv.le h₂.get) -> h.get.le h₂.get -> Q (commResult #[rcase q1 z1, rcase q2 z2] .select (0 : Nat) v true) h₂)
  (hQ2 : ∀ l1 i l2 v h₂, rem = l1 ++ (i, false) :: l2 -> h₂.todo = h.todo -> h₂.pend = (l1 ++ l2).map (scr q1 q2 φ ψ) -> ((l1 ++ l2 ≠ [] /\ h₂.chans = [q2, q1]) \/ (l1 ++ l2 = [] /\ h₂.chans = [])) -> (∃ hv, ψ v hv) -> h.get.le h₂.get -> Q (commResult #[rcase q1 z1, rcase q2 z2] .select (1 : Nat) v true) h₂) : CommW XT P last #[rcase q1 z1, rcase q2 z2] .select h Q := by
 refine CommW.closed (CommW.closed (commW_recv ?_ (by rw [hp]; simpa using hne) ?_ ?_))
 ·intro k cc hk
  match k, hk with
  | 0, hk => simp at hk; subst hk; exact ⟨q1, z1, rfl, by rw [hc]; simp⟩
  | 1, hk => simp at hk; subst hk; exact ⟨q2, z2, rfl, by rw [hc]; simp⟩
  | k + 2, hk => simp at hk
 ·intro s hs
  rw [hp] at hs
  obtain ⟨⟨i, b⟩, hi, rfl⟩ := List.mem_map.1 hs
  cases b with
  | true => exact ⟨q1, φ i, [(q2, ψ)], 0, z1, rfl, rfl⟩
  | false => exact ⟨q2, ψ, [], 1, z2, rfl, rfl⟩
 ·intro pre χ s post k c v hv z' hpe hcase hd hown hφ
  rw [hp] at hpe
  obtain ⟨l1, l2, rfl, hl1, hl2⟩ := List.map_eq_append_iff.1 hpe
  obtain ⟨⟨i, b⟩, l3, rfl, hi, hl3⟩ := List.map_eq_cons_iff.1 hl2
  have le1 : h.get.le (h.get.add hv) := Cells.le_add _ _
  have le2 : hv.le (h.get.add hv) := fun r x hr => Cells.add_right' hd hr
  cases b with
  | true =>
   simp only [scr, if_true, List.cons.injEq, Prod.mk.injEq] at hi
   obtain ⟨⟨rfl, rfl⟩, rfl⟩ := hi
   have hk0 : k = 0 := by
    match k, hcase with
    | 0, _ => rfl
    | 1, hcase => simp [rcase] at hcase; exact absurd hcase.1.symm hq
    | k + 2, hcase => simp at hcase
   subst hk0
   refine .inl (.inl (hQ1 l1 i l3 v _ rfl rfl ?_ hc ⟨hv, hφ, le2⟩ le1))
   show pre ++ cons' [(q2, ψ)] post = _
   rw [<- hl1, <- hl3, List.map_append, List.map_cons]
   rfl
  | false =>
   simp only [scr, Bool.false_eq_true, if_false, List.cons.injEq, Prod.mk.injEq] at hi
   obtain ⟨⟨rfl, rfl⟩, rfl⟩ := hi
   have hk1 : k = 1 := by
    match k, hcase with
    | 0, hcase => simp [rcase] at hcase; exact absurd hcase.1 hq
    | 1, _ => rfl
    | k + 2, hcase => simp at hcase
   subst hk1
   have hpend : pre ++ cons' [] post = (l1 ++ l3).map (scr q1 q2 φ ψ) := by
    show pre ++ post = _
    rw [<- hl1, <- hl3, List.map_append]
   by_cases hn : l1 ++ l3 = []
   ·right
    refine ⟨q2, by show q2 ∈ h.chans; rw [hc]; simp, by show pre ++ cons' [] post = []; rw [hpend, hn]; rfl, fun s hs => ?_⟩
    right
    refine ⟨q1, ?_, by show pre ++ cons' [] post = []; rw [hpend, hn]; rfl, fun s' hs' => ?_⟩
    ·show q1 ∈ h.chans.filter _
     rw [hc]; simp [hq]
    ·refine hQ2 l1 i l3 v _ rfl rfl hpend (.inr ⟨hn, ?_⟩) ⟨hv, hφ⟩ ?_
     ·show (h.chans.filter _).filter _ = []
      rw [hc]
      simp [hq]
     ·exact Cells.le_trans le1 (Cells.le_trans (Cells.le_upd _ hs) (Cells.le_upd _ hs'))
   ·exact .inl (.inl (hQ2 l1 i l3 v _ rfl rfl hpend (.inl ⟨hn, hc⟩) ⟨hv, hφ⟩ le1))
/-! ### Two channels and their boxes, made in any order -/
structure Opening (t1 t2 : TypeId) (h₀ h : LH) (c1 c2 : Option Nat) (b1 b2 : Option (Nat × Bool)) : Prop where
 le : h₀.le h
 hc1 : ∀ q, c1 = some q -> h.get q = some (true, .chan 0 #[] false 0 0 false)
 hc2 : ∀ q, c2 = some q -> h.get q = some (true, .chan 0 #[] false 0 0 false)
 ne : ∀ q q', c1 = some q -> c2 = some q' -> q ≠ q'
 hb1 : ∀ r s, b1 = some (r, s) -> h₀.get r = none /\ h.get r = some (true, .cells #[.chan (if s then c1 else none)] t1 (0, 0))
 hb2 : ∀ r s, b2 = some (r, s) -> h₀.get r = none /\ h.get r = some (true, .cells #[.chan (if s then c2 else none)] t2 (0, 0))
 bne : ∀ r s r' s', b1 = some (r, s) -> b2 = some (r', s') -> r ≠ r'
section
variable {X : XP} {Q : Leaf -> LH -> Prop} {h₀ h : LH} {c1 c2 : Option Nat} {b1 b2 : Option (Nat × Bool)} {t1 t2 : TypeId}
theorem Opening.start : Opening t1 t2 h₀ h₀ none none none none := ⟨LH.le_refl _, fun _ h => (by cases h), fun _ h => (by cases h), fun _ _ h => (by cases h), fun _ _ h => (by cases h), fun _ _ h => (by cases h), fun _ _ _ _ h => (by cases h)⟩
theorem ne_of_get {h : Cells} {a b : Nat} {x : Bool × Obj} (ha : h a = none) (hb : h b = some x) : b ≠ a := by rintro rfl; rw [ha] at hb; cases hb
theorem op_chan1 {k : Value -> T} {el : TypeId} {d : ChanDir} {s b : Nat} {z : Option Value} (hu : P.underlying t1 = some (.chan d el)) (hi : (P.info? el).map (fun i => (i.size, i.bytes, i.zero)) = some (s, b, z)) (O : Opening t1 t2 h₀ h none c2 b1 b2)
  (hk : ∀ q h', Opening t1 t2 h₀ h' (some q) c2 (b1.map fun x => (x.1, false)) b2 -> (k (.chan (some q))).wp X P Q h') : (T.sem false (Instr.makeChan t1 (.int .i64 0)) k).wp X P Q h := by
 refine t_makeChan hu hi fun q hq => hk q _ ?_
 have hle := LH.upd_le (x := (true, .chan 0 #[] false 0 0 false)) hq
 refine ⟨LH.le_trans O.le hle, fun q' e => by cases e; exact Cells.upd_self _ _ _, fun q' e => hle.1 _ _ (O.hc2 q' e), fun a b ha hb => by cases ha; exact (ne_of_get hq (O.hc2 b hb)).symm, fun r s hr => ?_, fun r s hr => ⟨(O.hb2 r s hr).1, hle.1 _ _ (O.hb2 r s hr).2⟩, fun r s r' s' h1 h2 => ?_⟩
 ·cases hb : b1 with
  | none => rw [hb] at hr; cases hr
  | some x =>
   rw [hb] at hr; cases hr
   have := O.hb1 x.1 x.2 hb
   refine ⟨this.1, ?_⟩
   have h3 := hle.1 _ _ this.2
   rw [h3]; cases x.2 <;> rfl
 ·cases hb : b1 with
  | none => rw [hb] at h1; cases h1
  | some x => rw [hb] at h1; cases h1; exact O.bne x.1 x.2 r' s' hb h2
theorem op_chan2 {k : Value -> T} {el : TypeId} {d : ChanDir} {s b : Nat} {z : Option Value} (hu : P.underlying t2 = some (.chan d el)) (hi : (P.info? el).map (fun i => (i.size, i.bytes, i.zero)) = some (s, b, z)) (O : Opening t1 t2 h₀ h c1 none b1 b2)
  (hk : ∀ q h', Opening t1 t2 h₀ h' c1 (some q) b1 (b2.map fun x => (x.1, false)) -> (k (.chan (some q))).wp X P Q h') : (T.sem false (Instr.makeChan t2 (.int .i64 0)) k).wp X P Q h := by
 refine t_makeChan hu hi fun q hq => hk q _ ?_
 have hle := LH.upd_le (x := (true, .chan 0 #[] false 0 0 false)) hq
 refine ⟨LH.le_trans O.le hle, fun q' e => hle.1 _ _ (O.hc1 q' e), fun q' e => by cases e; exact Cells.upd_self _ _ _, fun a b ha hb => by cases hb; exact ne_of_get hq (O.hc1 a ha), fun r s hr => ⟨(O.hb1 r s hr).1, hle.1 _ _ (O.hb1 r s hr).2⟩, fun r s hr => ?_, fun r s r' s' h1 h2 => ?_⟩
 ·cases hb : b2 with
  | none => rw [hb] at hr; cases hr
  | some x =>
   rw [hb] at hr; cases hr
   have := O.hb2 x.1 x.2 hb
   refine ⟨this.1, ?_⟩
   have h3 := hle.1 _ _ this.2
   rw [h3]; cases x.2 <;> rfl
 ·cases hb : b2 with
  | none => rw [hb] at h2; cases h2
  | some x => rw [hb] at h2; cases h2; exact O.bne r s x.1 x.2 h1 hb
theorem op_new1 {k : Nat -> T} (O : Opening t1 t2 h₀ h c1 c2 none b2) (hk : ∀ r h', Opening t1 t2 h₀ h' c1 c2 (some (r, false)) b2 -> (k r).wp X P Q h') : (T.new t1 #[.chan none] k).wp X P Q h := by
 refine t_new fun q hq => hk q _ ?_
 have hle := LH.upd_le (x := (true, .cells #[.chan none] t1 (0, 0))) hq
 have h0 : h₀.get q = none := by
  cases hx : h₀.get q with
  | none => rfl
  | some x => rw [O.le.1 _ _ hx] at hq; cases hq
 exact ⟨LH.le_trans O.le hle, fun q' e => hle.1 _ _ (O.hc1 q' e), fun q' e => hle.1 _ _ (O.hc2 q' e), O.ne, fun r s hr => by cases hr; exact ⟨h0, Cells.upd_self _ _ _⟩, fun r s hr => ⟨(O.hb2 r s hr).1, hle.1 _ _ (O.hb2 r s hr).2⟩, fun r s r' s' h1 h2 => by cases h1; exact (ne_of_get hq (O.hb2 r' s' h2).2).symm⟩
theorem op_new2 {k : Nat -> T} (O : Opening t1 t2 h₀ h c1 c2 b1 none) (hk : ∀ r h', Opening t1 t2 h₀ h' c1 c2 b1 (some (r, false)) -> (k r).wp X P Q h') : (T.new t2 #[.chan none] k).wp X P Q h := by
 refine t_new fun q hq => hk q _ ?_
 have hle := LH.upd_le (x := (true, .cells #[.chan none] t2 (0, 0))) hq
 have h0 : h₀.get q = none := by
  cases hx : h₀.get q with
  | none => rfl
  | some x => rw [O.le.1 _ _ hx] at hq; cases hq
 exact ⟨LH.le_trans O.le hle, fun q' e => hle.1 _ _ (O.hc1 q' e), fun q' e => hle.1 _ _ (O.hc2 q' e), O.ne, fun r s hr => ⟨(O.hb1 r s hr).1, hle.1 _ _ (O.hb1 r s hr).2⟩, fun r s hr => by cases hr; exact ⟨h0, Cells.upd_self _ _ _⟩, fun r s r' s' h1 h2 => by cases h2; exact ne_of_get hq (O.hb1 r s h1).2⟩
theorem op_store1 {k : T} {q r : Nat} (O : Opening t1 t2 h₀ h (some q) c2 (some (r, false)) b2) (hk : ∀ h', Opening t1 t2 h₀ h' (some q) c2 (some (r, true)) b2 -> k.wp X P Q h') : (T.store (Addr.add ⟨r, 0, none⟩ 0) (.chan (some q)) k).wp X P Q h := by
 have hr := (O.hb1 r false rfl).2
 have ha : Addr.add (⟨r, 0, none⟩ : Addr) 0 = ⟨r, 0, none⟩ := by rw [add_plain]
 rw [ha]
 refine t_store rfl ⟨_, hr⟩ (v₀ := .chan none) (by simp [Cells.cell?, hr]) (by simp [Cells.frozen?, hr]) ?_
 rw [setCell_at hr]
 refine hk _ ?_
 have keep : ∀ b x, h.get b = some x -> b ≠ r -> (h.get.upd r (true, .cells ((#[.chan (if false = true then some q else none)] : Array Value).setIfInBounds 0 (.chan (some q))) t1 (0, 0))) b = some x := fun b x hb hne => by rw [Cells.upd_ne _ _ hne]; exact hb
 have cne : ∀ b, h.get b = some (true, .chan 0 #[] false 0 0 false) -> b ≠ r := fun b hb e => by rw [e, hr] at hb; cases hb
 refine ⟨⟨fun b x hb => keep b x (O.le.1 b x hb) (ne_of_get (O.hb1 r false rfl).1 hb), O.le.2⟩, fun q' e => keep _ _ (O.hc1 q' e) (cne _ (O.hc1 q' e)), fun q' e => keep _ _ (O.hc2 q' e) (cne _ (O.hc2 q' e)), O.ne, fun r' s hr' => ?_, fun r' s hr' => ⟨(O.hb2 r' s hr').1, keep _ _ (O.hb2 r' s hr').2 (O.bne r false r' s rfl hr').symm⟩, fun a s r' s' h1 h2 => by cases h1; exact O.bne r false r' s' rfl h2⟩
 cases hr'
 exact ⟨(O.hb1 r false rfl).1, Cells.upd_self _ _ _⟩
theorem op_store2 {k : T} {q r : Nat} (O : Opening t1 t2 h₀ h c1 (some q) b1 (some (r, false))) (hk : ∀ h', Opening t1 t2 h₀ h' c1 (some q) b1 (some (r, true)) -> k.wp X P Q h') : (T.store (Addr.add ⟨r, 0, none⟩ 0) (.chan (some q)) k).wp X P Q h := by
 have hr := (O.hb2 r false rfl).2
 have ha : Addr.add (⟨r, 0, none⟩ : Addr) 0 = ⟨r, 0, none⟩ := by rw [add_plain]
 rw [ha]
 refine t_store rfl ⟨_, hr⟩ (v₀ := .chan none) (by simp [Cells.cell?, hr]) (by simp [Cells.frozen?, hr]) ?_
 rw [setCell_at hr]
 refine hk _ ?_
 have keep : ∀ b x, h.get b = some x -> b ≠ r -> (h.get.upd r (true, .cells ((#[.chan (if false = true then some q else none)] : Array Value).setIfInBounds 0 (.chan (some q))) t2 (0, 0))) b = some x := fun b x hb hne => by rw [Cells.upd_ne _ _ hne]; exact hb
 have cne : ∀ b, h.get b = some (true, .chan 0 #[] false 0 0 false) -> b ≠ r := fun b hb e => by rw [e, hr] at hb; cases hb
 refine ⟨⟨fun b x hb => keep b x (O.le.1 b x hb) (ne_of_get (O.hb2 r false rfl).1 hb), O.le.2⟩, fun q' e => keep _ _ (O.hc1 q' e) (cne _ (O.hc1 q' e)), fun q' e => keep _ _ (O.hc2 q' e) (cne _ (O.hc2 q' e)), O.ne, fun r' s hr' => ⟨(O.hb1 r' s hr').1, keep _ _ (O.hb1 r' s hr').2 (O.bne r' s r false hr' rfl)⟩, fun r' s hr' => ?_, fun a s r' s' h1 h2 => by cases h2; exact O.bne a s r false h1 rfl⟩
 cases hr'
 exact ⟨(O.hb2 r false rfl).1, Cells.upd_self _ _ _⟩
end
end Go.TM
end

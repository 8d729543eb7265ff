/- The law TreatyCentral: what it needs of the road, of its contracts, and its row. -/
import Derived.Test.YtbmfimaomcnkfaaDoorM5
set_option linter.all false
section
namespace Go.Proofs.YtbmfimaomcnkfaaDoor
open Go Go.TM Go.Proofs
set_option linter.unusedVariables false
set_option maxRecDepth 100000
noncomputable def n2006 (x_0 : Int) (x_1 : Int) (x_2 : Int) (x_3 : Int) (x_4 : Int) (x_5 : Int) (x_6p : Option Addr) (x_6n x_6c : Nat) (e_0 : Int) (e_1 : Int) (e_2 : Int) (e_3p : Option Addr) (e_3n e_3c : Nat) (e_4 : Int) (land : Int) (day : Int) : T := .call false 35 #[.agg #[.int .i64 x_0, .int .i64 x_1, .int .i64 x_2, .int .i64 x_3, .int .i64 x_4, .int .i64 x_5, .slice x_6p x_6n x_6c], .agg #[.int .i64 4, .int .i64 e_1, .int .i64 0, .slice e_3p e_3n e_3c, .int .i64 e_4]] fun v => .unTup v fun l => .unCons l fun v vs => .unAgg v fun l => .popI .i64 l fun n vs_1 => .popI .i64 vs_1 fun n_1 vs_2 => .popI .i64 vs_2 fun n_2 vs_3 => .popI .i64 vs_3 fun n_3 vs_4 => .popI .i64 vs_4 fun n_4 vs_5 => .popI .i64 vs_5 fun n_5 vs_6 => .popS vs_6 fun a n_6 c vs_7 => .unNil vs_7 (.unCons vs fun v vs => .unB v fun b => .unNil vs (.blk (.call false 16 #[.agg #[.int .i64 x_0, .int .i64 x_1, .int .i64 x_2, .int .i64 x_3, .int .i64 x_4, .int .i64 x_5, .slice x_6p x_6n x_6c]] fun v => .unB v fun b_1 => bif b_1 then .call false 17 #[] fun v => .unB v fun b => .leaf (.retn [.bool b]) else bif !b then .call false 17 #[] fun v => .unB v fun b => .leaf (.retn [.bool b]) else .leaf (.again [.bool false])) (fun vs => .popB vs fun b vs => .unNil vs (.need (x_1 ≠ 0) (.call false 32 #[.int .u16 day] fun v => .unI .i64 v fun n_7 => .need (x_1 ≠ 0) (.nd (.int .i64 (Int.tmod (IntKind.wrap .i64 land) x_1)) (.nd (.int .i64 x_1) (.need (AV.pp 4 1 = AV.pp 4 1) (.nd (.int .i64 (IntKind.wrap .i64 land)) (.nd (.int .u8 land) (bif decide (e_4 > IntKind.wrap .i64 (x_2 + x_3)) then .call false 34 #[.agg #[.int .i64 x_0, .int .i64 x_1, .int .i64 x_2, .int .i64 x_3, .int .i64 x_4, .int .i64 x_5, .slice x_6p x_6n x_6c], .agg #[.int .i64 n, .int .i64 n_1, .int .i64 n_2, .int .i64 n_3, .int .i64 n_4, .int .i64 n_5, .slice a n_6 c], .int .i64 (Int.tmod (IntKind.wrap .i64 land) x_1), .int .i64 n_7] fun v => .unB v fun b => bif b then .call false 17 #[] fun v => .unB v fun b => .leaf (.ret (.bool b)) else .leaf (.ret (.bool false)) else .call false 36 #[.agg #[.int .i64 n, .int .i64 n_1, .int .i64 n_2, .int .i64 n_3, .int .i64 n_4, .int .i64 n_5, .slice a n_6 c]] fun v => .unAgg v fun l => .popI .i64 l fun n vs => .popI .i64 vs fun n_8 vs => .popI .i64 vs fun n_9 vs => .popI .i64 vs fun n_10 vs => .popI .i64 vs fun n_11 vs => .popI .i64 vs fun n_12 vs => .popS vs fun a n_13 c vs => .unNil vs (.nd (.int .i64 (if e_1 > n_7 then e_1 else n_7)) (.nd (.int .i64 e_1) (.need (AV.pp 5 1 = AV.pp 5 1) (.nd (.int .i64 n_7) (.nd (.int .i64 (Int.tmod (IntKind.wrap .i64 land) x_1)) (.call false 18 #[.agg #[.int .i64 n, .int .i64 n_8, .int .i64 n_9, .int .i64 n_10, .int .i64 n_11, .int .i64 n_12, .slice a n_13 c], .int .i64 (Int.tmod (IntKind.wrap .i64 land) x_1), .int .i64 (if e_1 > n_7 then e_1 else n_7)] fun v => .unTup v fun l => .unCons l fun v vs => .unS v fun a n c => .unCons vs fun v vs => .unI .i64 v fun n_14 => .unNil vs (.nd (.int .i64 e_1) (.need (AV.pp 5 1 = AV.pp 5 1) (.nd (.int .i64 n_7) (.nd (.int .i64 n_14) (.blk (bif n_14 != 0 then .leaf (.retn [.bool false]) else bif (↑n : Int) != x_0 then .leaf (.retn [.bool false]) else .leaf (.again [.bool b])) (fun vs => .popB vs fun b vs => .unNil vs (.loop [.bool b, .int .i64 0] (fun vs => .popB vs fun b vs => .popI .i64 vs fun n_15 vs => .unNil vs (bif decide (n_15 < (↑e_3n : Int)) then .need (0 ≤ n_15 ∧ n_15 < (↑e_3n : Int)) (.someA e_3p fun a_1 => .loadI .i64 (Addr.add a_1 (Int.toNat n_15 * 1)) fun n_16 => .need (0 ≤ n_16 ∧ n_16 < (↑n : Int)) (.someA a fun a => .loadB (Addr.add a (Int.toNat n_16 * 1)) fun b_1 => bif b_1 then .leaf (.retn [.bool false, .int .i64 n_15]) else .leaf (.again [.bool b, .int .i64 (IntKind.wrap .i64 (n_15 + 1))]))) else .leaf (.brk [.bool b, .int .i64 n_15]))) (fun vs => .popB vs fun b vs => .popI .i64 vs fun n vs => .unNil vs (.call false 17 #[] fun v => .unB v fun b => .leaf (.ret (.bool b)))) (fun vs => .popB vs fun b vs => .popI .i64 vs fun n vs => .unNil vs (.leaf (.ret (.bool b)))) fun x x_6 => .fail)) (fun vs => .popB vs fun b vs => .unNil vs (.leaf (.ret (.bool b)))) fun x x_6 => .fail)))))))))))))))))))) (fun vs => .popB vs fun b vs => .unNil vs (.leaf (.ret (.bool b)))) fun x x_6 => .fail))
theorem t2006 (x_0 : Int) (x_1 : Int) (x_2 : Int) (x_3 : Int) (x_4 : Int) (x_5 : Int) (x_6p : Option Addr) (x_6n x_6c : Nat) (e_0 : Int) (e_1 : Int) (e_2 : Int) (e_3p : Option Addr) (e_3n e_3c : Nat) (e_4 : Int) (land : Int) (day : Int) : ftree ({ P := Tryd.prog, priv := [4, 5, 9], loops := [{ id := 0, slots := [(8, .bool), (15, .int .i64)], ro := [4, 5, 9], outs := [] }], joins := [{ id := 11, slots := [(8, .bool)], ro := [4, 5, 9], outs := [] }, { id := 5, slots := [(8, .bool)], ro := [4, 5, 9], outs := [] }] }) Tryd.f6 [.agg #[.int .i64 x_0, .int .i64 x_1, .int .i64 x_2, .int .i64 x_3, .int .i64 x_4, .int .i64 x_5, .slice x_6p x_6n x_6c], .agg #[.int .i64 e_0, .int .i64 e_1, .int .i64 e_2, .slice e_3p e_3n e_3c, .int .i64 e_4], .int .u8 land, .int .u16 day] = n2006 x_0 x_1 x_2 x_3 x_4 x_5 x_6p x_6n x_6c e_0 e_1 e_2 e_3p e_3n e_3c e_4 land day := by kernel_rfl
theorem w2006 (x_0 : Int) (x_1 : Int) (x_2 : Int) (x_3 : Int) (x_4 : Int) (x_5 : Int) (x_6p : Option Addr) (x_6n x_6c : Nat) (e_0 : Int) (e_1 : Int) (e_2 : Int) (e_3p : Option Addr) (e_3n e_3c : Nat) (e_4 : Int) (land : Int) (day : Int) {X : XP} (hX : XOK X) {h : LH} {A : Value → LH → Prop} (hw : (n2006 x_0 x_1 x_2 x_3 x_4 x_5 x_6p x_6n x_6c e_0 e_1 e_2 e_3p e_3n e_3c e_4 land day).wp X Tryd.prog (retQ A) h) : FWK X Tryd.prog .normal 6 #[.agg #[.int .i64 x_0, .int .i64 x_1, .int .i64 x_2, .int .i64 x_3, .int .i64 x_4, .int .i64 x_5, .slice x_6p x_6n x_6c], .agg #[.int .i64 e_0, .int .i64 e_1, .int .i64 e_2, .slice e_3p e_3n e_3c, .int .i64 e_4], .int .u8 land, .int .u16 day] h A := fwk_neat (t2006 x_0 x_1 x_2 x_3 x_4 x_5 x_6p x_6n x_6c e_0 e_1 e_2 e_3p e_3n e_3c e_4 land day) (by simp) (by kernel_rfl) (by kernel_rfl) hX hw
end Go.Proofs.YtbmfimaomcnkfaaDoor
end
section
namespace Go.Proofs.YtbmfimaomcnkfaaDoor
open Go Go.TM Go.Proofs Go.TM.Tr
attribute [local irreducible] T.wp CV FWK
theorem check_less {x : TF} (h : checkT x = 0) {l : List Ev} (h1 : l.length ≤ x.events.length) (h2 : ∀ e ∈ l, e ∈ x.events) : checkT { x with events := l } = 0 :=
  check_events h (Nat.le_trans h1 (check_numbers h).2.2.2.2.2.2) fun e he => event_ok.1 (check_event h e (h2 e he))
theorem check_add {x : TF} {e : Ev} (h : checkT (add x e) = 0) : checkT x = 0 := by
  have := check_less h (l := x.events) (by show _ ≤ (x.events ++ [e]).length; simp) fun c hc => by show c ∈ x.events ++ [e]; simp [hc]
  exact this
theorem check_unturned {x : TF} (h : checkT x = 0) : checkT (unturned x) = 0 :=
  check_less h (List.length_filter_le _ _) fun e he => (List.mem_filter.1 he).1
theorem added_ok {x : TF} {e : Ev} (h : checkT (add x e) = 0) : EventOk (add x e) e := event_ok.1 (check_event h e (by show e ∈ x.events ++ [e]; simp))
theorem same_on {x y : TF} {k d : Int} (hi : y.items = x.items) (hd : d < 10000) (hf : ∀ i : Int, Facts x y k i d) : SameOn x y k d := ⟨hi, fun i _ => (hf i).dateOn hd⟩
set_option maxRecDepth 10000 in
theorem c2006 {h : LH} (hch : h.chans = []) (hpe : h.pend = []) (hk : Kinds h.get) {f : TC} {x : TF} (hx : TreatyR h.get f x) (hbig : x.events.length * 56 ≤ 2 ^ 47) {e : Ev} {q : Option Addr} {m c : Nat} (hm : m ≤ c) (he : Sl IntE 1 h.get q m e.items) (land : Int) (hl : 0 ≤ land ∧ land ≤ 255) (day : Int) (hd : 0 ≤ day ∧ day ≤ 65535) :
    FW XT Tryd.prog 6 #[treatyV f x, eventV e q m c, .int .u8 land, .int .u16 day] h (Fin h) := by
  refine w2006 _ _ _ _ _ _ _ _ _ _ _ _ _ _ _ _ _ _ XT_ok ?_
  unfold n2006
  refine t_gr (c2035 (e := ⟨4, e.day, 0, e.items, e.since⟩) hx hbig hm he) ?_
  have hitems : e.items = (⟨4, e.day, 0, e.items, e.since⟩ : Ev).items := rfl
  generalize hev : (⟨4, e.day, 0, e.items, e.since⟩ : Ev) = v
  have hvk : v.kind = 4 := by rw [← hev]
  have hvl : v.land = 0 := by rw [← hev]
  have hvd : e.day = v.day := by rw [← hev]
  have hvi : e.items = v.items := by rw [← hev]
  have hvs : e.since = v.since := by rw [← hev]
  rintro _ h1 le1 ⟨g, b, rfl, hy, hb⟩
  have ey : treatyV g (add x v) = .agg #[.int .i64 x.items, .int .i64 x.lands, .int .i64 x.start, .int .i64 x.depend, .int .i64 x.refuse, .int .i64 x.turn, .slice g.p g.n g.c] := rfl
  rw [ey]
  (repeat (first | (with_reducible first | apply gA | apply gB | apply gC | apply gD | apply gE | apply gF | apply gG | apply gH | apply gI | apply gJ | apply gK | apply gL | apply gM | apply gN | apply gO | apply gP | apply gQ | apply gR | apply gP2 | apply gP3) | ((with_reducible first | apply gT | apply gS2); first | exact rfl | assumption | omega | exact ⟨⟩) | ((with_reducible first | apply gL0 | apply gL1 | apply gL2 | apply gL3 | apply gL4); assumption)))
  have hk1 := hk.le le1.1
  have hx1 := hx.le le1.1
  refine t_blk (fun vs h' => vs = [.bool false] ∧ h1 = h' ∧ b = true) ?_ ?_
  · refine t_pu (c2016 hx1) ?_
    (repeat (first | (with_reducible first | apply gA | apply gB | apply gC | apply gD | apply gE | apply gF | apply gG | apply gH | apply gI | apply gJ | apply gK | apply gL | apply gM | apply gN | apply gO | apply gP | apply gQ | apply gR | apply gP2 | apply gP3) | ((with_reducible first | apply gT | apply gS2); first | exact rfl | assumption | omega | exact ⟨⟩) | ((with_reducible first | apply gL0 | apply gL1 | apply gL2 | apply gL3 | apply gL4); assumption)))
    refine t_cond (fun _ => ?_) (fun _ => ?_)
    · refine t_shown hk (.of hch hpe le1) fun h' hh => ?_
      refine gI ?_
      (repeat (first | (with_reducible first | apply gA | apply gB | apply gC | apply gD | apply gE | apply gF | apply gG | apply gH | apply gI | apply gJ | apply gK | apply gL | apply gM | apply gN | apply gO | apply gP | apply gQ | apply gR | apply gP2 | apply gP3) | ((with_reducible first | apply gT | apply gS2); first | exact rfl | assumption | omega | exact ⟨⟩) | ((with_reducible first | apply gL0 | apply gL1 | apply gL2 | apply gL3 | apply gL4); assumption)))
      exact t_ret hh.fin
    refine t_cond (fun _ => ?_) (fun e1 => ?_)
    · refine t_shown hk (.of hch hpe le1) fun h' hh => ?_
      refine gI ?_
      (repeat (first | (with_reducible first | apply gA | apply gB | apply gC | apply gD | apply gE | apply gF | apply gG | apply gH | apply gI | apply gJ | apply gK | apply gL | apply gM | apply gN | apply gO | apply gP | apply gQ | apply gR | apply gP2 | apply gP3) | ((with_reducible first | apply gT | apply gS2); first | exact rfl | assumption | omega | exact ⟨⟩) | ((with_reducible first | apply gL0 | apply gL1 | apply gL2 | apply gL3 | apply gL4); assumption)))
      exact t_ret hh.fin
    exact t_again ⟨rfl, rfl, by simpa using e1⟩
  rintro vs _ ⟨rfl, rfl, rfl⟩
  have hcy := hb rfl
  have hcx := check_add hcy
  have hnum := check_numbers hcx
  have rt := Right.of hcx
  have hsum := rt.sum
  have hvok := added_ok hcy
  have hday := hvok.day
  obtain ⟨ek, hk0, hk1'⟩ := mod_in (m := x.lands) (n := land) (by omega) (by omega)
  have hd9 := day_mod day
  have hl0 : x.lands ≠ 0 := by omega
  rw [ek]
  generalize land % x.lands = k at hk0 hk1'
  (repeat (first | (with_reducible first | apply gA | apply gB | apply gC | apply gD | apply gE | apply gF | apply gG | apply gH | apply gI | apply gJ | apply gK | apply gL | apply gM | apply gN | apply gO | apply gP | apply gQ | apply gR | apply gP2 | apply gP3) | ((with_reducible first | apply gT | apply gS2); first | exact rfl | assumption | omega | exact ⟨⟩) | ((with_reducible first | apply gL0 | apply gL1 | apply gL2 | apply gL3 | apply gL4); assumption)))
  refine t_pu (c2032 hd) ?_
  generalize day % 10000 = d at hd9
  (repeat (first | (with_reducible first | apply gA | apply gB | apply gC | apply gD | apply gE | apply gF | apply gG | apply gH | apply gI | apply gJ | apply gK | apply gL | apply gM | apply gN | apply gO | apply gP | apply gQ | apply gR | apply gP2 | apply gP3) | ((with_reducible first | apply gT | apply gS2); first | exact rfl | assumption | omega | exact ⟨⟩) | ((with_reducible first | apply gL0 | apply gL1 | apply gL2 | apply gL3 | apply gL4); assumption)))
  rw [wrap_id hsum.1 hsum.2, hvd, hvs]
  have ax := asked_fit hcx ⟨hk0, hk1'⟩ hd9
  have ay := asked_fit hcy ⟨hk0, hk1'⟩ hd9
  refine t_if (fun e1 => ?_) (fun e1 => ?_)
  · refine t_gr (c2034 (y := add x v) hk1 hx1 hy ax ay (same_on rfl (by omega) fun i => add_late_fall hvk e1)) ?_
    rintro _ h2 le2 rfl
    (repeat (first | (with_reducible first | apply gA | apply gB | apply gC | apply gD | apply gE | apply gF | apply gG | apply gH | apply gI | apply gJ | apply gK | apply gL | apply gM | apply gN | apply gO | apply gP | apply gQ | apply gR | apply gP2 | apply gP3) | ((with_reducible first | apply gT | apply gS2); first | exact rfl | assumption | omega | exact ⟨⟩) | ((with_reducible first | apply gL0 | apply gL1 | apply gL2 | apply gL3 | apply gL4); assumption)))
    refine t_cond (fun _ => ?_) (fun e => by cases e)
    exact t_shown hk (.of hch hpe (LH.le_trans le1 le2)) fun h' hh => t_ret hh.fin
  refine t_gr (c2036 (x := add x v) hy (check_numbers hcy).2.2.2.2.2.2) ?_
  rintro _ h2 le2 ⟨g', rfl, hu⟩
  have eu : treatyV g' (unturned (add x v)) = .agg #[.int .i64 x.items, .int .i64 x.lands, .int .i64 x.start, .int .i64 x.depend, .int .i64 x.refuse, .int .i64 x.turn, .slice g'.p g'.n g'.c] := rfl
  rw [eu]
  (repeat (first | (with_reducible first | apply gA | apply gB | apply gC | apply gD | apply gE | apply gF | apply gG | apply gH | apply gI | apply gJ | apply gK | apply gL | apply gM | apply gN | apply gO | apply gP | apply gQ | apply gR | apply gP2 | apply gP3) | ((with_reducible first | apply gT | apply gS2); first | exact rfl | assumption | omega | exact ⟨⟩) | ((with_reducible first | apply gL0 | apply gL1 | apply gL2 | apply gL3 | apply gL4); assumption)))
  have hcu := check_unturned hcy
  generalize ht : (if v.day > d then v.day else d) = t
  have ht9 : 0 ≤ t ∧ t ≤ 9999 ∧ v.day ≤ t := by rw [← ht]; split <;> omega
  have au := asked_fit hcu (k := k) ⟨hk0, hk1'⟩ ⟨ht9.1, ht9.2.1⟩
  refine t_gr (c2018 (x := unturned (add x v)) (hk1.le le2.1) hu k t) ?_
  intro r3 h3 le3 hr
  obtain ⟨p3, n3, k3, rfl, s3, _⟩ := hr.form
  rw [au]; rw [protA, if_pos au] at s3
  (repeat (first | (with_reducible first | apply gA | apply gB | apply gC | apply gD | apply gE | apply gF | apply gG | apply gH | apply gI | apply gJ | apply gK | apply gL | apply gM | apply gN | apply gO | apply gP | apply gQ | apply gR | apply gP2 | apply gP3) | ((with_reducible first | apply gT | apply gS2); first | exact rfl | assumption | omega | exact ⟨⟩) | ((with_reducible first | apply gL0 | apply gL1 | apply gL2 | apply gL3 | apply gL4); assumption)))
  have m3 := s3.1
  rw [prot_len] at m3
  have m3' : n3 = x.items.toNat := m3
  have le13 := LH.le_trans le2 le3
  have le03 := LH.le_trans le1 le13
  have hse := he.le IntE.grow le03.1
  rw [hvi] at hse
  have hmn := hse.1
  have hmb := hse.2.1
  have hin := (items_ok hvok.items).1
  have hgone : ∀ i ∈ v.items, ¬ 0 ≤ dateOn (unturned (add x v)) k i t := by
    intro i hi
    refine fallen_gone (ok_unturned (check_ok hcy)) (e := v.day) ?_ (by omega) (fun s hs => (has_unturned.1 hs).2 rfl) ht9.2.2
    refine fell_unturned.2 (fell_add.2 (.inr ⟨?_, by simpa using hi, rfl⟩))
    unfold Tr.early
    rw [hvk, decide_eq_true (by omega)]; rfl
  refine t_blk (fun vs h' => vs = [.bool false] ∧ h3 = h') ?_ ?_
  · refine t_cond (fun e => absurd e (by simp)) (fun _ => ?_)
    refine t_cond (fun e => absurd e (by simp; omega)) (fun _ => ?_)
    exact t_again ⟨rfl, rfl⟩
  rintro vs _ ⟨rfl, rfl⟩
  (repeat (first | (with_reducible first | apply gA | apply gB | apply gC | apply gD | apply gE | apply gF | apply gG | apply gH | apply gI | apply gJ | apply gK | apply gL | apply gM | apply gN | apply gO | apply gP | apply gQ | apply gR | apply gP2 | apply gP3) | ((with_reducible first | apply gT | apply gS2); first | exact rfl | assumption | omega | exact ⟨⟩) | ((with_reducible first | apply gL0 | apply gL1 | apply gL2 | apply gL3 | apply gL4); assumption)))
  refine t_loop (fun mm vs h' => h3 = h' ∧ ∃ j : Nat, vs = [.bool false, .int .i64 j] ∧ j ≤ m ∧ mm = m - j) ⟨rfl, 0, rfl, Nat.zero_le _, rfl⟩ ?_
  rintro Y mm vs _ hY ⟨rfl, j, rfl, hj, rfl⟩
  (repeat (first | (with_reducible first | apply gA | apply gB | apply gC | apply gD | apply gE | apply gF | apply gG | apply gH | apply gI | apply gJ | apply gK | apply gL | apply gM | apply gN | apply gO | apply gP | apply gQ | apply gR | apply gP2 | apply gP3) | ((with_reducible first | apply gT | apply gS2); first | exact rfl | assumption | omega | exact ⟨⟩) | ((with_reducible first | apply gL0 | apply gL1 | apply gL2 | apply gL3 | apply gL4); assumption)))
  refine t_if (fun e2 => ?_) (fun e2 => ?_)
  · obtain ⟨i, a, hi, ha, e3⟩ := hse.at (i := j) (by omega)
    unfold IntE at e3
    have him := List.mem_of_getElem? hi
    have hib := hin i him
    have hib' : i < x.items := hib.2
    obtain ⟨a2, ha2, g2⟩ := bool_at s3 (prot_at (x := unturned (add x v)) (k := k) (d := t) (j := i.toNat) (by show i.toNat < x.items.toNat; omega))
    have hci : ((i.toNat : Nat) : Int) = i := by omega
    rw [hci, decide_eq_false (hgone i him)] at g2
    (repeat (first | (with_reducible first | apply gA | apply gB | apply gC | apply gD | apply gE | apply gF | apply gG | apply gH | apply gI | apply gJ | apply gK | apply gL | apply gM | apply gN | apply gO | apply gP | apply gQ | apply gR | apply gP2 | apply gP3) | ((with_reducible first | apply gT | apply gS2); first | exact rfl | assumption | omega | exact ⟨⟩) | ((with_reducible first | apply gL0 | apply gL1 | apply gL2 | apply gL3 | apply gL4); assumption)))
    refine t_cond (fun e => by cases e) (fun _ => ?_)
    refine t_again (hY (m - (j + 1)) _ _ (by omega) ⟨rfl, j + 1, ?_, by omega, rfl⟩)
    rw [wrap_id (by omega) (by omega)]; rfl
  · (repeat (first | (with_reducible first | apply gA | apply gB | apply gC | apply gD | apply gE | apply gF | apply gG | apply gH | apply gI | apply gJ | apply gK | apply gL | apply gM | apply gN | apply gO | apply gP | apply gQ | apply gR | apply gP2 | apply gP3) | ((with_reducible first | apply gT | apply gS2); first | exact rfl | assumption | omega | exact ⟨⟩) | ((with_reducible first | apply gL0 | apply gL1 | apply gL2 | apply gL3 | apply gL4); assumption)))
    exact t_shown hk (.of hch hpe le03) fun h' hh => t_ret hh.fin
end Go.Proofs.YtbmfimaomcnkfaaDoor
end
section
namespace Go.Proofs.YtbmfimaomcnkfaaDoor
open Go Go.TM Go.Proofs Go.ChangeShapes Go.WideShapes Go.RowKit
set_option maxRecDepth 100000
theorem treatyCentral_lifted (os : Os) (started : os.Started) (H : Type) (enc : TypeId × Value → H) :
    ReturnsInLeavingWide {} Tryd.checked os 6 .any (fun w args => (Rows.treatyCentralSpec.pre enc Tryd.prog Tryd.f6 [] false w args ∧ laidMetH Tryd.prog Rows.treatyStatesRow.laid w) ∧ sizedMet enc Tryd.prog Tryd.f6 (OpenSpec.ofChange Rows.treatyCentralSpec) false w args)
      (Rows.treatyCentralSpec.post enc Tryd.prog Tryd.f6 false true false false) := by
  refine row_leaving (C := Tryd.checked) (tb := 4) own started Tryd.func6 (by kernel_rfl) rfl lo ?_ (by kernel_rfl) Tryd.underlying4 ?_
    (ChangeSpec.witness_shaped (enc := enc) (C := Tryd.checked) (os := os) (X := fun w _ => laidMetH Tryd.prog Rows.treatyStatesRow.laid w) false (World.doorLaid Tryd.prog 200 os) #[noFile, .agg #[.int .i64 0, .int .i64 0, .int .i64 0, .slice none 0 0, .int .i64 0], .int .u8 0, .int .u16 0] 8 rfl (door_shaped os _) (by kernel_rfl) (by kernel_rfl) (by kernel_rfl) (door_met os _)) ?_
  · exact fun t ht => of_decide_eq_true (List.all_eq_true.1 (show (Tryd.f6.params.toList.all fun t => decide (Tryd.prog.readableRec t = true ∧ t < Tryd.prog.types.size)) = true by kernel_rfl) t ht)
  · intro ds hd
    match ds, (show ds.length = 4 from hd) with
    | [d0, d1, d2, d3], _ => rfl
  · intro W base args ds ps hval0 hA0 hz0 hL
    have hval : ∀ (j : Nat) t v, Tryd.f6.params[j]? = some t → args[j]? = some v → Value.okWide Tryd.prog W .any base t v := hval0
    have hz : ∀ (j : Nat) t d, Tryd.f6.params.toList[j]? = some t → ds[j]? = some d → Light Tryd.prog t d := hz0
    have hA : DataW.TrodAll enc Tryd.prog W 0 (fun _ => true) true Tryd.f6.params.toList args.toList ds ps := hA0
    rw [Tryd.params6] at hval hz hA
    obtain ⟨v0, v1, v2, v3, d0, d1, d2, d3, q00, q01, q02, q03, rfl, rfl, rfl, h0, h1, h2, h3⟩ := trodAll_four hA
    obtain ⟨f0, u0, rfl, hu0, hb0⟩ := treaty_argB (hval 0 24 v0 rfl rfl) (hz 0 24 d0 rfl rfl) h0
    obtain ⟨q1, m1, k1, e1, rfl, hm1, s1⟩ := event_arg TT (hval 1 50 v1 rfl rfl) (hz 1 50 d1 rfl rfl) h1
    obtain ⟨x2, rfl, _, _, w2⟩ := open_int und5 (hval 2 5 v2 rfl rfl) h2
    obtain ⟨x3, rfl, _, _, w3⟩ := open_int und57 (hval 3 43 v3 rfl rfl) h3
    exact FW.mono (c2006 (h := ⟨getW W, [], [], []⟩) rfl rfl (kinds_of_laid hL) hu0 hb0 hm1 s1 x2 (wf_u8 w2) x3 (wf_u16 w3)) fun r h' hq => ⟨hq.1, hq.2.2.1⟩
theorem treatyCentral_row : Rows.TreatyCentralSaid :=
  OpenClaim.holds_of_wide_leaving 6 Tryd.f6 rfl rfl rfl rfl rfl rfl rfl ⟨rfl, rfl, rfl, rfl, rfl⟩ rfl rfl rfl rfl rfl (by kernel_rfl) Tryd.func6 (by kernel_rfl)
    (of_decide_eq_true (by kernel_rfl)) (by unfold Func.isWrapper; first | (rw [if_pos (by decide +kernel)]; kernel_rfl) | (rw [if_neg (by decide +kernel)]; exact ⟨rfl, rfl⟩))
    (fun os started H enc _ => treatyCentral_lifted os started H enc)
theorem treatyCentral_holds : Rows.TreatyCentralCardSaid :=
  card_goes [.data, .funcsDeep] true Rows.treatyCentralCard.stood.harness false treatyCentral_row (by kernel_rfl) treatyCentral_row_tie rfl ⟨rfl, rfl⟩ (by kernel_rfl) rfl
    (fun f fn hf hfn => by
      obtain rfl : f = 6 := Option.some.inj ((show Tryd.prog.funcNamed Rows.treatyCentralRow.func = some 6 by kernel_rfl).symm.trans hf) |>.symm
      obtain rfl : fn = Tryd.f6 := (Option.some.inj (Tryd.func6.symm.trans hfn)).symm
      exact ⟨by kernel_rfl, fun j t ht => by
        have hm := Array.mem_of_getElem? ht
        have := of_decide_eq_true (List.all_eq_true.1 (show (Tryd.f6.params.toList.all fun t => decide (Tryd.prog.wantsStandIn t = false)) = true by kernel_rfl) t (Array.mem_toList_iff.2 hm))
        exact this⟩)
    (by kernel_rfl)
end Go.Proofs.YtbmfimaomcnkfaaDoor
end
#print axioms Go.Proofs.YtbmfimaomcnkfaaDoor.treatyCentral_holds

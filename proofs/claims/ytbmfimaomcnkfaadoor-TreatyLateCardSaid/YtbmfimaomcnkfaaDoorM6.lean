/- The law TreatyLate: what it needs of the road, of its contracts, and its row. -/
import Derived.Test.YtbmfimaomcnkfaaDoorM5
set_option linter.all false
section
namespace Go.Proofs.YtbmfimaomcnkfaaDoor
open Go Go.TM Go.Proofs Go.TM.Tr
attribute [local irreducible] T.wp CV FWK
def busyB (x : TF) (e o : Ev) : Bool := (e.kind == 1 && (o.kind == 0 && (o.land == e.land && (decide (o.day ≤ e.day) && decide (e.day ≤ o.day + x.refuse))))) || (e.kind == 2 && (o.kind == 1 && o.land == e.land))
set_option maxRecDepth 10000 in
theorem c2012 {h : LH} (hch : h.chans = []) (hpe : h.pend = []) (hk : Kinds h.get) {f : TC} {x : TF} (hx : TreatyR h.get f x) (hbig : x.events.length * 56 ≤ 2 ^ 47) {e : Ev} {q : Option Addr} {m c : Nat} (hm : m ≤ c) (he : Sl IntE 1 h.get q m e.items) (land : Int) (hl : 0 ≤ land ∧ land ≤ 255) (day : Int) (hd : 0 ≤ day ∧ day ≤ 65535) :
    FW XT Tryd.prog 12 #[treatyV f x, eventV e q m c, .int .u8 land, .int .u16 day] h (Fin h) := by
  refine w2012 _ _ _ _ _ _ _ _ _ _ _ _ _ _ _ _ _ _ XT_ok ?_
  unfold n2012
  refine t_gr (c2035 hx hbig hm he) ?_
  rintro _ h1 le1 ⟨g, b, rfl, hy, hb⟩
  have ey : treatyV g (add x e) = .agg #[.int .i64 x.items, .int .i64 x.lands, .int .i64 x.start, .int .i64 x.depend, .int .i64 x.refuse, .int .i64 x.turn, .slice g.p g.n g.c] := rfl
  rw [ey]
  (repeat (first | (with_reducible first | apply gA | apply gB | apply gC | apply gD | apply gE | apply gF | apply gG | apply gH | apply gI | apply gJ | apply gK | apply gL | apply gM | apply gN | apply gO | apply gP | apply gQ | apply gR | apply gP2 | apply gP3) | ((with_reducible first | apply gT | apply gS2); first | exact rfl | assumption | omega | exact ⟨⟩) | ((with_reducible first | apply gL0 | apply gL1 | apply gL2 | apply gL3 | apply gL4); assumption)))
  have hk1 := hk.le le1.1
  have hx1 := hx.le le1.1
  refine t_blk (fun vs h' => vs = [.bool false] ∧ h1 = h' ∧ b = true ∧ (e.kind = 1 ∨ e.kind = 2)) ?_ ?_
  · refine t_pu (c2016 hx1) ?_
    (repeat (first | (with_reducible first | apply gA | apply gB | apply gC | apply gD | apply gE | apply gF | apply gG | apply gH | apply gI | apply gJ | apply gK | apply gL | apply gM | apply gN | apply gO | apply gP | apply gQ | apply gR | apply gP2 | apply gP3) | ((with_reducible first | apply gT | apply gS2); first | exact rfl | assumption | omega | exact ⟨⟩) | ((with_reducible first | apply gL0 | apply gL1 | apply gL2 | apply gL3 | apply gL4); assumption)))
    refine t_cond (fun _ => ?_) (fun _ => ?_)
    · refine t_shown hk (.of hch hpe le1) fun h' hh => ?_
      refine gI ?_
      (repeat (first | (with_reducible first | apply gA | apply gB | apply gC | apply gD | apply gE | apply gF | apply gG | apply gH | apply gI | apply gJ | apply gK | apply gL | apply gM | apply gN | apply gO | apply gP | apply gQ | apply gR | apply gP2 | apply gP3) | ((with_reducible first | apply gT | apply gS2); first | exact rfl | assumption | omega | exact ⟨⟩) | ((with_reducible first | apply gL0 | apply gL1 | apply gL2 | apply gL3 | apply gL4); assumption)))
      exact t_ret hh.fin
    refine t_cond (fun _ => ?_) (fun e1 => ?_)
    · refine t_shown hk (.of hch hpe le1) fun h' hh => ?_
      refine gI ?_
      (repeat (first | (with_reducible first | apply gA | apply gB | apply gC | apply gD | apply gE | apply gF | apply gG | apply gH | apply gI | apply gJ | apply gK | apply gL | apply gM | apply gN | apply gO | apply gP | apply gQ | apply gR | apply gP2 | apply gP3) | ((with_reducible first | apply gT | apply gS2); first | exact rfl | assumption | omega | exact ⟨⟩) | ((with_reducible first | apply gL0 | apply gL1 | apply gL2 | apply gL3 | apply gL4); assumption)))
      exact t_ret hh.fin
    refine t_cond (fun _ => ?_) (fun e2 => ?_)
    · refine t_cond (fun _ => ?_) (fun e3 => ?_)
      · refine t_shown hk (.of hch hpe le1) fun h' hh => ?_
        refine gI ?_
        (repeat (first | (with_reducible first | apply gA | apply gB | apply gC | apply gD | apply gE | apply gF | apply gG | apply gH | apply gI | apply gJ | apply gK | apply gL | apply gM | apply gN | apply gO | apply gP | apply gQ | apply gR | apply gP2 | apply gP3) | ((with_reducible first | apply gT | apply gS2); first | exact rfl | assumption | omega | exact ⟨⟩) | ((with_reducible first | apply gL0 | apply gL1 | apply gL2 | apply gL3 | apply gL4); assumption)))
        exact t_ret hh.fin
      · exact t_again ⟨rfl, rfl, by simpa using e1, .inr (by simpa using e3)⟩
    exact t_again ⟨rfl, rfl, by simpa using e1, .inl (by simpa using e2)⟩
  rintro vs _ ⟨rfl, rfl, rfl, hK⟩
  have hcy := hb rfl
  have hcx := check_add hcy
  have hnum := check_numbers hcx
  have rt := Right.of hcx
  obtain ⟨ek, hk0, hk1'⟩ := mod_in (m := x.lands) (n := land) (by omega) (by omega)
  have hd9 := day_mod day
  have hl0 : x.lands ≠ 0 := by omega
  have hs := hx1.2
  have hn := hs.1
  have hnb := hs.2.1
  (repeat (first | (with_reducible first | apply gA | apply gB | apply gC | apply gD | apply gE | apply gF | apply gG | apply gH | apply gI | apply gJ | apply gK | apply gL | apply gM | apply gN | apply gO | apply gP | apply gQ | apply gR | apply gP2 | apply gP3) | ((with_reducible first | apply gT | apply gS2); first | exact rfl | assumption | omega | exact ⟨⟩) | ((with_reducible first | apply gL0 | apply gL1 | apply gL2 | apply gL3 | apply gL4); assumption)))
  refine t_loop (fun mm vs h' => h1 = h' ∧ ∃ j : Nat, vs = [.bool (!((x.events.take j).any (busyB x e))), .int .i64 j] ∧ j ≤ f.n ∧ mm = f.n - j) ⟨rfl, 0, rfl, Nat.zero_le _, rfl⟩ ?_
  rintro Y mm vs _ hY ⟨rfl, j, rfl, hj, rfl⟩
  (repeat (first | (with_reducible first | apply gA | apply gB | apply gC | apply gD | apply gE | apply gF | apply gG | apply gH | apply gI | apply gJ | apply gK | apply gL | apply gM | apply gN | apply gO | apply gP | apply gQ | apply gR | apply gP2 | apply gP3) | ((with_reducible first | apply gT | apply gS2); first | exact rfl | assumption | omega | exact ⟨⟩) | ((with_reducible first | apply gL0 | apply gL1 | apply gL2 | apply gL3 | apply gL4); assumption)))
  refine t_if (fun e2 => ?_) (fun e2 => ?_)
  · obtain ⟨o, a, ho, ha, g0, g2, g3, ⟨q', mq, cq, g4, _, g5⟩, g6⟩ := hs.at (i := j) (by omega)
    have hst : (x.events.take (j + 1)).any (busyB x e) = ((x.events.take j).any (busyB x e) || busyB x e o) := by
      rw [List.take_add_one, ho, List.any_append]; simp
    have next : ∀ b', b' = (!((x.events.take (j + 1)).any (busyB x e))) → Y [.bool b', .int .i64 (IntKind.wrap .i64 ((j : Int) + 1))] h1 := by
      rintro b' rfl
      refine hY (f.n - (j + 1)) _ _ (by omega) ⟨rfl, j + 1, ?_, by omega, rfl⟩
      rw [wrap_id (by omega) (by omega)]; rfl
    have hoday := rt.ok o (List.mem_of_getElem? ho)
    have href := rt.refuse
    rw [hst] at next
    generalize (x.events.take j).any (busyB x e) = bb at next ⊢
    (repeat (first | (with_reducible first | apply gA | apply gB | apply gC | apply gD | apply gE | apply gF | apply gG | apply gH | apply gI | apply gJ | apply gK | apply gL | apply gM | apply gN | apply gO | apply gP | apply gQ | apply gR | apply gP2 | apply gP3) | ((with_reducible first | apply gT | apply gS2); first | exact rfl | assumption | omega | exact ⟨⟩) | ((with_reducible first | apply gL0 | apply gL1 | apply gL2 | apply gL3 | apply gL4); assumption)))
    rw [wrap_id (by omega) (by omega)]
    refine t_blk (fun vs h' => vs = [.bool (!(bb || (e.kind == 1 && (o.kind == 0 && (o.land == e.land && (decide (o.day ≤ e.day) && decide (e.day ≤ o.day + x.refuse)))))))] ∧ h1 = h') ?_ ?_
    · refine t_cond (fun d1 => ?_) (fun d1 => ?_)
      · refine t_cond (fun d2 => ?_) (fun d2 => ?_)
        · refine t_cond (fun d3 => ?_) (fun d3 => ?_)
          · refine t_cond (fun d4 => ?_) (fun d4 => ?_)
            · refine t_cond (fun d5 => ?_) (fun d5 => ?_)
              · exact t_again ⟨by rw [d1, d2, d3, d4, d5]; simp, rfl⟩
              · exact t_again ⟨by rw [d5]; simp, rfl⟩
            · exact t_again ⟨by rw [d4]; simp, rfl⟩
          · exact t_again ⟨by rw [d3]; simp, rfl⟩
        · exact t_again ⟨by rw [d2]; simp, rfl⟩
      · exact t_again ⟨by rw [d1]; simp, rfl⟩
    rintro vs _ ⟨rfl, rfl⟩
    have hbo : busyB x e o = ((e.kind == 1 && (o.kind == 0 && (o.land == e.land && (decide (o.day ≤ e.day) && decide (e.day ≤ o.day + x.refuse))))) || (e.kind == 2 && (o.kind == 1 && o.land == e.land))) := rfl
    generalize (e.kind == 1 && (o.kind == 0 && (o.land == e.land && (decide (o.day ≤ e.day) && decide (e.day ≤ o.day + x.refuse))))) = b1 at hbo ⊢
    (repeat (first | (with_reducible first | apply gA | apply gB | apply gC | apply gD | apply gE | apply gF | apply gG | apply gH | apply gI | apply gJ | apply gK | apply gL | apply gM | apply gN | apply gO | apply gP | apply gQ | apply gR | apply gP2 | apply gP3) | ((with_reducible first | apply gT | apply gS2); first | exact rfl | assumption | omega | exact ⟨⟩) | ((with_reducible first | apply gL0 | apply gL1 | apply gL2 | apply gL3 | apply gL4); assumption)))
    refine t_cond (fun d1 => ?_) (fun d1 => ?_)
    · refine t_cond (fun d2 => ?_) (fun d2 => ?_)
      · refine t_cond (fun d3 => ?_) (fun d3 => ?_)
        · exact t_again (next _ (by rw [hbo, d1, d2, d3]; simp))
        · exact t_again (next _ (by rw [hbo, d3]; simp))
      · exact t_again (next _ (by rw [hbo, d2]; simp))
    · exact t_again (next _ (by rw [hbo, d1]; simp))
  · (repeat (first | (with_reducible first | apply gA | apply gB | apply gC | apply gD | apply gE | apply gF | apply gG | apply gH | apply gI | apply gJ | apply gK | apply gL | apply gM | apply gN | apply gO | apply gP | apply gQ | apply gR | apply gP2 | apply gP3) | ((with_reducible first | apply gT | apply gS2); first | exact rfl | assumption | omega | exact ⟨⟩) | ((with_reducible first | apply gL0 | apply gL1 | apply gL2 | apply gL3 | apply gL4); assumption)))
    rw [List.take_of_length_le (by omega)]
    refine t_cond (fun _ => ?_) (fun e3 => ?_)
    · (repeat (first | (with_reducible first | apply gA | apply gB | apply gC | apply gD | apply gE | apply gF | apply gG | apply gH | apply gI | apply gJ | apply gK | apply gL | apply gM | apply gN | apply gO | apply gP | apply gQ | apply gR | apply gP2 | apply gP3) | ((with_reducible first | apply gT | apply gS2); first | exact rfl | assumption | omega | exact ⟨⟩) | ((with_reducible first | apply gL0 | apply gL1 | apply gL2 | apply gL3 | apply gL4); assumption)))
      refine t_both ?_ ?_
      · (repeat (first | (with_reducible first | apply gA | apply gB | apply gC | apply gD | apply gE | apply gF | apply gG | apply gH | apply gI | apply gJ | apply gK | apply gL | apply gM | apply gN | apply gO | apply gP | apply gQ | apply gR | apply gP2 | apply gP3) | ((with_reducible first | apply gT | apply gS2); first | exact rfl | assumption | omega | exact ⟨⟩) | ((with_reducible first | apply gL0 | apply gL1 | apply gL2 | apply gL3 | apply gL4); assumption)))
        refine t_both ?_ ?_
        · (repeat (first | (with_reducible first | apply gA | apply gB | apply gC | apply gD | apply gE | apply gF | apply gG | apply gH | apply gI | apply gJ | apply gK | apply gL | apply gM | apply gN | apply gO | apply gP | apply gQ | apply gR | apply gP2 | apply gP3) | ((with_reducible first | apply gT | apply gS2); first | exact rfl | assumption | omega | exact ⟨⟩) | ((with_reducible first | apply gL0 | apply gL1 | apply gL2 | apply gL3 | apply gL4); assumption)))
          exact t_shown hk (.of hch hpe le1) fun h' hh => (by (repeat (first | (with_reducible first | apply gA | apply gB | apply gC | apply gD | apply gE | apply gF | apply gG | apply gH | apply gI | apply gJ | apply gK | apply gL | apply gM | apply gN | apply gO | apply gP | apply gQ | apply gR | apply gP2 | apply gP3) | ((with_reducible first | apply gT | apply gS2); first | exact rfl | assumption | omega | exact ⟨⟩) | ((with_reducible first | apply gL0 | apply gL1 | apply gL2 | apply gL3 | apply gL4); assumption))); exact t_ret hh.fin)
        · (repeat (first | (with_reducible first | apply gA | apply gB | apply gC | apply gD | apply gE | apply gF | apply gG | apply gH | apply gI | apply gJ | apply gK | apply gL | apply gM | apply gN | apply gO | apply gP | apply gQ | apply gR | apply gP2 | apply gP3) | ((with_reducible first | apply gT | apply gS2); first | exact rfl | assumption | omega | exact ⟨⟩) | ((with_reducible first | apply gL0 | apply gL1 | apply gL2 | apply gL3 | apply gL4); assumption)))
          exact t_shown hk (.of hch hpe le1) fun h' hh => (by (repeat (first | (with_reducible first | apply gA | apply gB | apply gC | apply gD | apply gE | apply gF | apply gG | apply gH | apply gI | apply gJ | apply gK | apply gL | apply gM | apply gN | apply gO | apply gP | apply gQ | apply gR | apply gP2 | apply gP3) | ((with_reducible first | apply gT | apply gS2); first | exact rfl | assumption | omega | exact ⟨⟩) | ((with_reducible first | apply gL0 | apply gL1 | apply gL2 | apply gL3 | apply gL4); assumption))); exact t_ret hh.fin)
      · (repeat (first | (with_reducible first | apply gA | apply gB | apply gC | apply gD | apply gE | apply gF | apply gG | apply gH | apply gI | apply gJ | apply gK | apply gL | apply gM | apply gN | apply gO | apply gP | apply gQ | apply gR | apply gP2 | apply gP3) | ((with_reducible first | apply gT | apply gS2); first | exact rfl | assumption | omega | exact ⟨⟩) | ((with_reducible first | apply gL0 | apply gL1 | apply gL2 | apply gL3 | apply gL4); assumption)))
        exact t_shown hk (.of hch hpe le1) fun h' hh => (by (repeat (first | (with_reducible first | apply gA | apply gB | apply gC | apply gD | apply gE | apply gF | apply gG | apply gH | apply gI | apply gJ | apply gK | apply gL | apply gM | apply gN | apply gO | apply gP | apply gQ | apply gR | apply gP2 | apply gP3) | ((with_reducible first | apply gT | apply gS2); first | exact rfl | assumption | omega | exact ⟨⟩) | ((with_reducible first | apply gL0 | apply gL1 | apply gL2 | apply gL3 | apply gL4); assumption))); exact t_ret hh.fin)
    have hidle : ∀ o ∈ x.events, busyB x e o = false := by
      have : x.events.any (busyB x e) = false := by simpa using e3
      intro o ho
      have := List.any_eq_false.1 this o ho
      simpa using this
    rw [ek]
    generalize land % x.lands = k at hk0 hk1'
    (repeat (first | (with_reducible first | apply gA | apply gB | apply gC | apply gD | apply gE | apply gF | apply gG | apply gH | apply gI | apply gJ | apply gK | apply gL | apply gM | apply gN | apply gO | apply gP | apply gQ | apply gR | apply gP2 | apply gP3) | ((with_reducible first | apply gT | apply gS2); first | exact rfl | assumption | omega | exact ⟨⟩) | ((with_reducible first | apply gL0 | apply gL1 | apply gL2 | apply gL3 | apply gL4); assumption)))
    refine t_pu (c2032 hd) ?_
    generalize day % 10000 = d at hd9
    (repeat (first | (with_reducible first | apply gA | apply gB | apply gC | apply gD | apply gE | apply gF | apply gG | apply gH | apply gI | apply gJ | apply gK | apply gL | apply gM | apply gN | apply gO | apply gP | apply gQ | apply gR | apply gP2 | apply gP3) | ((with_reducible first | apply gT | apply gS2); first | exact rfl | assumption | omega | exact ⟨⟩) | ((with_reducible first | apply gL0 | apply gL1 | apply gL2 | apply gL3 | apply gL4); assumption)))
    have ax := asked_fit hcx ⟨hk0, hk1'⟩ hd9
    have ay := asked_fit hcy ⟨hk0, hk1'⟩ hd9
    have hso : SameOn x (add x e) k d := ⟨rfl, fun i _ => by
      refine add_idle k i d ?_
      rcases hK with h1 | h2
      · refine .inl ⟨h1, fun o ho hok hol hday => ?_⟩
        have := hidle o ho
        unfold busyB at this
        rw [h1, hok, hol] at this
        simp at this
        have := this hday.1
        omega
      · refine .inr ⟨h2, fun o ho hok hol => ?_⟩
        have := hidle o ho
        unfold busyB at this
        rw [h2, hok, hol] at this
        simp at this⟩
    refine t_gr (c2034 (y := add x e) hk1 hx1 hy ax ay hso) ?_
    rintro _ h2 le2 rfl
    (repeat (first | (with_reducible first | apply gA | apply gB | apply gC | apply gD | apply gE | apply gF | apply gG | apply gH | apply gI | apply gJ | apply gK | apply gL | apply gM | apply gN | apply gO | apply gP | apply gQ | apply gR | apply gP2 | apply gP3) | ((with_reducible first | apply gT | apply gS2); first | exact rfl | assumption | omega | exact ⟨⟩) | ((with_reducible first | apply gL0 | apply gL1 | apply gL2 | apply gL3 | apply gL4); assumption)))
    refine t_cond (fun _ => ?_) (fun e => by cases e)
    exact t_shown hk (.of hch hpe (LH.le_trans le1 le2)) fun h' hh => (by (repeat (first | (with_reducible first | apply gA | apply gB | apply gC | apply gD | apply gE | apply gF | apply gG | apply gH | apply gI | apply gJ | apply gK | apply gL | apply gM | apply gN | apply gO | apply gP | apply gQ | apply gR | apply gP2 | apply gP3) | ((with_reducible first | apply gT | apply gS2); first | exact rfl | assumption | omega | exact ⟨⟩) | ((with_reducible first | apply gL0 | apply gL1 | apply gL2 | apply gL3 | apply gL4); assumption))); exact t_ret hh.fin)
end Go.Proofs.YtbmfimaomcnkfaaDoor
end
section
namespace Go.Proofs.YtbmfimaomcnkfaaDoor
open Go Go.TM Go.Proofs Go.ChangeShapes Go.WideShapes Go.RowKit
set_option maxRecDepth 100000
theorem treatyLate_lifted (os : Os) (started : os.Started) (H : Type) (enc : TypeId × Value → H) :
    ReturnsInLeavingWide {} Tryd.checked os 12 .any (fun w args => (Rows.treatyLateSpec.pre enc Tryd.prog Tryd.f12 [] false w args ∧ laidMetH Tryd.prog Rows.treatyStatesRow.laid w) ∧ sizedMet enc Tryd.prog Tryd.f12 (OpenSpec.ofChange Rows.treatyLateSpec) false w args)
      (Rows.treatyLateSpec.post enc Tryd.prog Tryd.f12 false true false false) := by
  refine row_leaving (C := Tryd.checked) (tb := 4) own started Tryd.func12 (by kernel_rfl) rfl lo ?_ (by kernel_rfl) Tryd.underlying4 ?_
    (ChangeSpec.witness_shaped (enc := enc) (C := Tryd.checked) (os := os) (X := fun w _ => laidMetH Tryd.prog Rows.treatyStatesRow.laid w) false (World.doorLaid Tryd.prog 200 os) #[noFile, .agg #[.int .i64 0, .int .i64 0, .int .i64 0, .slice none 0 0, .int .i64 0], .int .u8 0, .int .u16 0] 8 rfl (door_shaped os _) (by kernel_rfl) (by kernel_rfl) (by kernel_rfl) (door_met os _)) ?_
  · exact fun t ht => of_decide_eq_true (List.all_eq_true.1 (show (Tryd.f12.params.toList.all fun t => decide (Tryd.prog.readableRec t = true ∧ t < Tryd.prog.types.size)) = true by kernel_rfl) t ht)
  · intro ds hd
    match ds, (show ds.length = 4 from hd) with
    | [d0, d1, d2, d3], _ => rfl
  · intro W base args ds ps hval0 hA0 hz0 hL
    have hval : ∀ (j : Nat) t v, Tryd.f12.params[j]? = some t → args[j]? = some v → Value.okWide Tryd.prog W .any base t v := hval0
    have hz : ∀ (j : Nat) t d, Tryd.f12.params.toList[j]? = some t → ds[j]? = some d → Light Tryd.prog t d := hz0
    have hA : DataW.TrodAll enc Tryd.prog W 0 (fun _ => true) true Tryd.f12.params.toList args.toList ds ps := hA0
    rw [Tryd.params12] at hval hz hA
    obtain ⟨v0, v1, v2, v3, d0, d1, d2, d3, q00, q01, q02, q03, rfl, rfl, rfl, h0, h1, h2, h3⟩ := trodAll_four hA
    obtain ⟨f0, u0, rfl, hu0, hb0⟩ := treaty_argB (hval 0 24 v0 rfl rfl) (hz 0 24 d0 rfl rfl) h0
    obtain ⟨q1, m1, k1, e1, rfl, hm1, s1⟩ := event_arg TT (hval 1 50 v1 rfl rfl) (hz 1 50 d1 rfl rfl) h1
    obtain ⟨x2, rfl, _, _, w2⟩ := open_int und5 (hval 2 5 v2 rfl rfl) h2
    obtain ⟨x3, rfl, _, _, w3⟩ := open_int und57 (hval 3 43 v3 rfl rfl) h3
    exact FW.mono (c2012 (h := ⟨getW W, [], [], []⟩) rfl rfl (kinds_of_laid hL) hu0 hb0 hm1 s1 x2 (wf_u8 w2) x3 (wf_u16 w3)) fun r h' hq => ⟨hq.1, hq.2.2.1⟩
theorem treatyLate_row : Rows.TreatyLateSaid :=
  OpenClaim.holds_of_wide_leaving 12 Tryd.f12 rfl rfl rfl rfl rfl rfl rfl ⟨rfl, rfl, rfl, rfl, rfl⟩ rfl rfl rfl rfl rfl (by kernel_rfl) Tryd.func12 (by kernel_rfl)
    (of_decide_eq_true (by kernel_rfl)) (by unfold Func.isWrapper; first | (rw [if_pos (by decide +kernel)]; kernel_rfl) | (rw [if_neg (by decide +kernel)]; exact ⟨rfl, rfl⟩))
    (fun os started H enc _ => treatyLate_lifted os started H enc)
theorem treatyLate_holds : Rows.TreatyLateCardSaid :=
  card_goes [.data, .funcsDeep] true Rows.treatyLateCard.stood.harness false treatyLate_row (by kernel_rfl) treatyLate_row_tie rfl ⟨rfl, rfl⟩ (by kernel_rfl) rfl
    (fun f fn hf hfn => by
      obtain rfl : f = 12 := Option.some.inj ((show Tryd.prog.funcNamed Rows.treatyLateRow.func = some 12 by kernel_rfl).symm.trans hf) |>.symm
      obtain rfl : fn = Tryd.f12 := (Option.some.inj (Tryd.func12.symm.trans hfn)).symm
      exact ⟨by kernel_rfl, fun j t ht => by
        have hm := Array.mem_of_getElem? ht
        have := of_decide_eq_true (List.all_eq_true.1 (show (Tryd.f12.params.toList.all fun t => decide (Tryd.prog.wantsStandIn t = false)) = true by kernel_rfl) t (Array.mem_toList_iff.2 hm))
        exact this⟩)
    (by kernel_rfl)
end Go.Proofs.YtbmfimaomcnkfaaDoor
end
#print axioms Go.Proofs.YtbmfimaomcnkfaaDoor.treatyLate_holds

/- The law TreatyAnyOrder: what it needs of the road, of its contracts, and its row. -/
import Derived.Test.YtbmfimaomcnkfaaDoorM5
set_option linter.all false
section
namespace Go.Proofs.YtbmfimaomcnkfaaDoor
open Go Go.TM Go.Proofs Go.ChangeShapes Go.WideShapes Go.RowKit
set_option maxRecDepth 100000
theorem treatyAnyOrder_lifted (os : Os) (started : os.Started) (H : Type) (enc : TypeId × Value → H) :
    ReturnsInLeavingWide {} Tryd.checked os 5 .any (fun w args => (Rows.treatyAnyOrderSpec.pre enc Tryd.prog Tryd.f5 [] false w args ∧ laidMetH Tryd.prog Rows.treatyStatesRow.laid w) ∧ sizedMet enc Tryd.prog Tryd.f5 (OpenSpec.ofChange Rows.treatyAnyOrderSpec) false w args)
      (Rows.treatyAnyOrderSpec.post enc Tryd.prog Tryd.f5 false true false false) := by
  refine row_leaving (C := Tryd.checked) (tb := 4) own started Tryd.func5 (by kernel_rfl) rfl lo ?_ (by kernel_rfl) Tryd.underlying4 ?_
    (ChangeSpec.witness_shaped (enc := enc) (C := Tryd.checked) (os := os) (X := fun w _ => laidMetH Tryd.prog Rows.treatyStatesRow.laid w) false (World.doorLaid Tryd.prog 200 os) #[noFile, .int .u8 0, .int .u8 0, .int .u8 0, .int .u16 0] 8 rfl (door_shaped os _) (by kernel_rfl) (by kernel_rfl) (by kernel_rfl) (door_met os _)) ?_
  · exact fun t ht => of_decide_eq_true (List.all_eq_true.1 (show (Tryd.f5.params.toList.all fun t => decide (Tryd.prog.readableRec t = true ∧ t < Tryd.prog.types.size)) = true by kernel_rfl) t ht)
  · intro ds hd
    match ds, (show ds.length = 5 from hd) with
    | [d0, d1, d2, d3, d4], _ => rfl
  · intro W base args ds ps hval0 hA0 hz0 hL
    have hval : ∀ (j : Nat) t v, Tryd.f5.params[j]? = some t → args[j]? = some v → Value.okWide Tryd.prog W .any base t v := hval0
    have hz : ∀ (j : Nat) t d, Tryd.f5.params.toList[j]? = some t → ds[j]? = some d → Light Tryd.prog t d := hz0
    have hA : DataW.TrodAll enc Tryd.prog W 0 (fun _ => true) true Tryd.f5.params.toList args.toList ds ps := hA0
    rw [Tryd.params5] at hval hz hA
    obtain ⟨v0, v1, v2, v3, v4, d0, d1, d2, d3, d4, q00, q01, q02, q03, q04, rfl, rfl, rfl, h0, h1, h2, h3, h4⟩ := trodAll_five hA
    obtain ⟨f0, u0, rfl, hu0⟩ := treaty_arg TT (hval 0 24 v0 rfl rfl) (hz 0 24 d0 rfl rfl) h0
    obtain ⟨x1, rfl, _, _, w1⟩ := open_int und5 (hval 1 5 v1 rfl rfl) h1
    obtain ⟨x2, rfl, _, _, w2⟩ := open_int und5 (hval 2 5 v2 rfl rfl) h2
    obtain ⟨x3, rfl, _, _, w3⟩ := open_int und5 (hval 3 5 v3 rfl rfl) h3
    obtain ⟨x4, rfl, _, _, w4⟩ := open_int und57 (hval 4 43 v4 rfl rfl) h4
    exact FW.mono (c2005 (h := ⟨getW W, [], [], []⟩) rfl rfl (kinds_of_laid hL) hu0 x1 (wf_u8 w1) x2 (wf_u8 w2) x3 (wf_u8 w3) x4 (wf_u16 w4)) fun r h' hq => ⟨hq.1, hq.2.2.1⟩
theorem treatyAnyOrder_row : Rows.TreatyAnyOrderSaid :=
  OpenClaim.holds_of_wide_leaving 5 Tryd.f5 rfl rfl rfl rfl rfl rfl rfl ⟨rfl, rfl, rfl, rfl, rfl⟩ rfl rfl rfl rfl rfl (by kernel_rfl) Tryd.func5 (by kernel_rfl)
    (of_decide_eq_true (by kernel_rfl)) (by unfold Func.isWrapper; first | (rw [if_pos (by decide +kernel)]; kernel_rfl) | (rw [if_neg (by decide +kernel)]; exact ⟨rfl, rfl⟩))
    (fun os started H enc _ => treatyAnyOrder_lifted os started H enc)
theorem treatyAnyOrder_holds : Rows.TreatyAnyOrderCardSaid :=
  card_goes [.data, .funcsDeep] true Rows.treatyAnyOrderCard.stood.harness false treatyAnyOrder_row (by kernel_rfl) treatyAnyOrder_row_tie rfl ⟨rfl, rfl⟩ (by kernel_rfl) rfl
    (fun f fn hf hfn => by
      obtain rfl : f = 5 := Option.some.inj ((show Tryd.prog.funcNamed Rows.treatyAnyOrderRow.func = some 5 by kernel_rfl).symm.trans hf) |>.symm
      obtain rfl : fn = Tryd.f5 := (Option.some.inj (Tryd.func5.symm.trans hfn)).symm
      exact ⟨by kernel_rfl, fun j t ht => by
        have hm := Array.mem_of_getElem? ht
        have := of_decide_eq_true (List.all_eq_true.1 (show (Tryd.f5.params.toList.all fun t => decide (Tryd.prog.wantsStandIn t = false)) = true by kernel_rfl) t (Array.mem_toList_iff.2 hm))
        exact this⟩)
    (by kernel_rfl)
end Go.Proofs.YtbmfimaomcnkfaaDoor
end
#print axioms Go.Proofs.YtbmfimaomcnkfaaDoor.treatyAnyOrder_holds

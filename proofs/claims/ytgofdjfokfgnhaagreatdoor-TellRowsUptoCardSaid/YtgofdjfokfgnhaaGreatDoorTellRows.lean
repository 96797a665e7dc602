/-
  TellRows holds up to the given bound: whatever rows come in (of bulk at most the given number), the law returns true, and the argument reads afterwards as it read before. Conditions: the given bound on the arguments' bulk, and those that the given card states (the listed variables tied to the text), no other.
-/
import Derived.Test.YtgofdjfokfgnhaaGreatDoorW2
import Derived.Deep.DeepHandedRow
set_option maxRecDepth 100000
namespace Go.Fw
open Go Go.Proofs
open Go.ChangeShapes Go.WideShapes Go.ChangeAt Go.RowKit Go.WideElems Go.Proofs.YtgofdjfokfgnhaaGreatDoor
set_option maxRecDepth 100000
theorem tellRows_reads (os : Os) {H : Type} (enc : TypeId × Value → H) : DataW.whole enc Tryz.prog ((World.doorLaid Tryz.prog 400 os).forCall (fun _ _ => 0) ⟨#[], #[.slice none 0 0], []⟩).memory Tryz.f5.params.toList Rows.tellRowsSpec.vars false #[.slice none 0 0].toList 8 = some ([.nil], [], []) := by kernel_rfl
theorem tellRows_lifted (os : Os) (started : os.Started) (H : Type) (enc : TypeId × Value → H) (F : Stop.Interp) :
    ReturnsInHanded {} Tryz.checked os 5 .any ((Rows.OpenSpec.upto Rows.tellRowsSpec).preRow enc Tryz.prog Tryz.f5 Rows.tellRowsUptoRow.domain false Rows.tellRowsUptoRow.laid) (((Rows.OpenSpec.upto Rows.tellRowsSpec).at F).post enc Tryz.prog Tryz.f5 false true false false) := by
  have hx := tellRows_reads os enc
  refine returnsInHanded_of_row (C := Tryz.checked) (s := Rows.OpenSpec.upto Rows.tellRowsSpec) own started (by kernel_rfl) Tryz.func5
    (witness_row_at (enc := enc) (C := Tryz.checked) false (World.doorLaid Tryz.prog 400 os) #[.slice none 0 0] rfl (by kernel_rfl) (by kernel_rfl) (by kernel_rfl)
      (OpenSpec.preRow_of_cond 8 hx (by kernel_rfl) (fun k hk => by cases hk; kernel_rfl) (by kernel_rfl) (door_met2 os _))) ?_
  intro W base args ds gs before hval0 hW _ hcond hz hL _ _
  have hval : ∀ (j : Nat) t v, Tryz.f5.params[j]? = some t → args[j]? = some v → Value.okWide Tryz.prog W .any base t v := hval0
  have hW' := hW
  have hgs : gs = [] := by
    obtain ⟨p, q, _, hV, _⟩ := hW
    exact (trodVars_none hV).1
  obtain ⟨p, q, hA0, hV, rfl, hfz, hnd⟩ := hW
  have hA : DataW.TrodAll enc Tryz.prog W 0 (fun _ => true) true Tryz.f5.params.toList args.toList ds p := hA0
  rw [Tryz.params5] at hA hval
  obtain ⟨v0, d0, rfl, rfl, h0⟩ := trodAll_one hA
  subst hgs
  have hb := bulk_bound (hcond _ rfl)
  simp only [Rows.uptoBulkAll, List.append_nil] at hb
  obtain ⟨fuel, hf⟩ := h0
  have hc1 : v0.cells.toList = [v0] := by
    rcases okWide_slice Tryz.underlying23 (hval 0 _ v0 rfl rfl) with ⟨a0, len, cap, rfl⟩
    rfl
  rw [hc1] at hf
  obtain ⟨rs, q1, q2, q3⟩ := open_rows0 hf
  have hrs : rs.length ≤ 1048576 ∧ ∀ r ∈ rs, RwOk r := by
    rcases q3 with rfl | ⟨el, sp, e, hl, hm⟩
    · exact ⟨Nat.zero_le _, fun r hr => by cases hr⟩
    · simp only at e
      subst e
      have hbr := bulk_rows (spare := sp) hl hm
      exact ⟨by omega, fun r hr => ⟨q2 r hr, by have := hbr.2 r hr; omega, by have := hbr.2 r hr; omega⟩⟩
  refine (Fn.law (tellRows_walk (h := W.heap) (tabl_of hL) hrs.1 hrs.2 q1)).mono fun x W' ⟨he, bel⟩ => ?_
  subst he
  exact ⟨_, rfl, post_law hW' rfl rfl (by kernel_rfl) Tryz.underlying4 laidOut (by kernel_rfl) bel⟩
theorem tellRows_said : Rows.TellRowsUptoSaid :=
  OpenClaim.holds_of_cond 5 Tryz.f5 rfl rfl rfl rfl rfl rfl rfl ⟨rfl, rfl, rfl, rfl, rfl⟩ rfl rfl rfl rfl rfl (by kernel_rfl) Tryz.func5 (by kernel_rfl)
    (of_decide_eq_true (by kernel_rfl)) (by unfold Func.isWrapper; rw [if_neg (of_decide_eq_false (by kernel_rfl))]; exact ⟨rfl, rfl⟩)
    (fun os started H enc _ F => by rw [OpenClaim.pre_eq_preRow]; exact tellRows_lifted os started H enc F)
end Go.Fw
namespace Go.Proofs.YtgofdjfokfgnhaaGreatDoor
open Go
theorem tellRows_holds : Rows.TellRowsUptoCardSaid :=
  Claim7.holds_tied_plain_at .later [] [.data, .data, .data] true (true, "4f8b3cb0cacdfe50837baf033c85b205fbe2388d03e0123181116a9e22ef61ea") true
    Go.Fw.tellRows_said (fun _ h => by cases h) (by kernel_rfl) (fun _ h => by cases h) tellRowsUpto_row_tie rfl ⟨rfl, rfl⟩ (by kernel_rfl) rfl
    (fun f fn hf hfn => by
      obtain rfl : f = 5 := Option.some.inj ((show Tryz.prog.funcNamed "tenement/tenementlaw19.TellRows" = some 5 by kernel_rfl).symm.trans hf) |>.symm
      obtain rfl : fn = Tryz.f5 := (Option.some.inj (Tryz.func5.symm.trans hfn)).symm
      exact ⟨by kernel_rfl, fun j t ht => by
        rw [Tryz.params5] at ht
        have hm : t ∈ [23] := by simpa using Array.mem_of_getElem? ht
        have hall : ([23].all fun u => !Tryz.prog.wantsStandIn u) = true := by kernel_rfl
        exact (show Tryz.prog.wantsStandIn t = false by simpa using List.all_eq_true.1 hall t hm)⟩)
    (by kernel_rfl)
end Go.Proofs.YtgofdjfokfgnhaaGreatDoor
namespace Go.Fw

end Go.Fw

/-
  TellLines holds: whatever answer comes in, the law returns true, and the argument reads afterwards as it read before. Conditions: those that the given card states (the listed variables tied to the text), no other.
-/
import Derived.Test.YtgofdjfokfgnhaaGreatDoorW2
set_option maxRecDepth 100000
namespace Go.Fw
open Go Go.Proofs
open Go.ChangeShapes Go.WideShapes Go.ChangeAt Go.RowKit Go.WideElems Go.Proofs.YtgofdjfokfgnhaaGreatDoor
set_option maxRecDepth 100000
theorem tellLines_lifted (os : Os) (started : os.Started) (H : Type) (enc : TypeId × Value → H) :
    ReturnsInHanded {} Tryz.checked os 3 .any (fun w args => (Rows.tellLinesSpec.pre enc Tryz.prog Tryz.f3 [] false w args ∧ laidMetH Tryz.prog Rows.tellLinesRow.laid w) ∧ sizedMet enc Tryz.prog Tryz.f3 (OpenSpec.ofChange Rows.tellLinesSpec) false w args)
      (Rows.tellLinesSpec.post enc Tryz.prog Tryz.f3 false true false false) := by
  refine returnsInHanded_of_change_and (C := Tryz.checked) (X := fun w _ => laidMetH Tryz.prog Rows.tellLinesRow.laid w) (fun _ _ _ hh h => h.of_heap hh) own started (by kernel_rfl) Tryz.func3
    (ChangeSpec.witness_shaped (enc := enc) (C := Tryz.checked) (os := os) (X := fun w _ => laidMetH Tryz.prog Rows.tellLinesRow.laid w) false (World.doorLaid Tryz.prog 400 os) #[.agg #[.int .i64 0, .int .i64 0, .string ByteArray.empty, .slice none 0 0, .slice none 0 0]] 8 rfl (World.shaped_of_RefB (by kernel_rfl) (by kernel_rfl)) (by kernel_rfl) (by kernel_rfl) (by kernel_rfl) (door_met os _)) ?_
  intro W base args ds gs before hval0 hW _ hz hL _
  have hval : ∀ (j : Nat) t v, Tryz.f3.params[j]? = some t → args[j]? = some v → Value.okWide Tryz.prog W .any base t v := hval0
  have hW' := hW
  have hgs : gs = [] := by
    obtain ⟨p, q, _, hV, _⟩ := hW
    exact (trodVars_none hV).1
  obtain ⟨p, q, hA0, hV, rfl, hfz, hnd⟩ := hW
  have hA : DataW.TrodAll enc Tryz.prog W 0 (fun _ => true) true Tryz.f3.params.toList args.toList ds p := hA0
  rw [Tryz.params3] at hA hval
  obtain ⟨v0, d0, rfl, rfl, h0⟩ := trodAll_one hA
  subst hgs
  have hz0 : ∀ n ∈ DataW.weights Tryz.prog 26 d0, n ≤ reachBytes := fun n hn => by
    have := List.all_eq_true.1 hz n (DataW.weights_mem_each (j := 0) (t := 26) (d := d0) (by rw [Tryz.params3]; rfl) rfl n hn)
    simpa using this
  obtain ⟨a, rv, dv, rfl, q1, q2, q3, q4, q5, q6, q7, q8⟩ := open_answerG (hval 0 _ v0 rfl rfl) h0 hz0
  have hre : reachBytes ≤ 140737488355328 := by decide
  refine (Fn.law (tellLines_walk (h := W.heap) (a := a) (rv := rv) (dv := dv) (tabl_of hL) q1 q2 (by omega) (by omega) (by omega) (fun r hr => ⟨(q6 r hr).1, by have := (q6 r hr).2.1; omega, by have := (q6 r hr).2.2; omega⟩) q7 q8)).mono fun x W' ⟨he, bel⟩ => ?_
  subst he
  exact ⟨_, rfl, post_law hW' rfl rfl (by kernel_rfl) Tryz.underlying4 laidOut (by kernel_rfl) bel⟩
theorem tellLines_said : Rows.TellLinesSaid :=
  OpenClaim.holds_of_wide 3 Tryz.f3 rfl rfl rfl rfl rfl rfl rfl ⟨rfl, rfl, rfl, rfl, rfl⟩ rfl rfl rfl rfl rfl (by kernel_rfl) Tryz.func3 (by kernel_rfl)
    (of_decide_eq_true (by kernel_rfl)) (by unfold Func.isWrapper; rw [if_neg (of_decide_eq_false (by kernel_rfl))]; exact ⟨rfl, rfl⟩)
    (fun os started H enc _ => tellLines_lifted os started H enc)
end Go.Fw
namespace Go.Proofs.YtgofdjfokfgnhaaGreatDoor
open Go
theorem tellLines_holds : Rows.TellLinesCardSaid :=
  Claim7.holds_tied_plain_at .later [] [.data, .data, .data] true (true, "4f8b3cb0cacdfe50837baf033c85b205fbe2388d03e0123181116a9e22ef61ea") true
    Go.Fw.tellLines_said (fun _ h => by cases h) (by kernel_rfl) (fun _ h => by cases h) tellLines_row_tie rfl ⟨rfl, rfl⟩ (by kernel_rfl) rfl
    (fun f fn hf hfn => by
      obtain rfl : f = 3 := Option.some.inj ((show Tryz.prog.funcNamed "tenement/tenementlaw19.TellLines" = some 3 by kernel_rfl).symm.trans hf) |>.symm
      obtain rfl : fn = Tryz.f3 := (Option.some.inj (Tryz.func3.symm.trans hfn)).symm
      exact ⟨by kernel_rfl, fun j t ht => by
        rw [Tryz.params3] at ht
        have hm : t ∈ [26] := by simpa using Array.mem_of_getElem? ht
        have hall : ([26].all fun u => !Tryz.prog.wantsStandIn u) = true := by kernel_rfl
        exact (show Tryz.prog.wantsStandIn t = false by simpa using List.all_eq_true.1 hall t hm)⟩)
    (by kernel_rfl)
end Go.Proofs.YtgofdjfokfgnhaaGreatDoor
namespace Go.Fw

end Go.Fw

/- DependKnown answers true, whatever the start: its tied card holds; no condition beyond the card's own. -/
import Derived.Test.YtdjnccgeajpegaaGreatDoorKp1
set_option linter.unusedVariables false
set_option linter.unusedSimpArgs false
namespace Go.Proofs.YtdjnccgeajpegaaGreatDoor
open Go.ChangeShapes Go.WideShapes Go.ChangeAt Go.WideMaps Go.WideElems Go.RowKit

theorem keptBut_of_same {w w' : World} (ho : Mw.Wos w w') (h : ∀ r, r < w.heap.size → w'.heap[r]? = w.heap[r]?) (may : MemPlace → Prop) : w.keptBut w' may := by
  refine ⟨ho.1, ho.2, fun i hi => ?_⟩
  rw [h i hi]
  cases w.heap[i]? with
  | none => rfl
  | some o => cases o <;> first | rfl | exact ⟨rfl, rfl, rfl, fun _ _ => rfl⟩ | exact .inr ⟨rfl, rfl⟩

/-- The function, from any world. -/
theorem known_calls (W : World) : Calls Tryz.prog 10 #[] W fun e W' => e = .returned (.bool true) ∧ Mw.Wos W W' ∧ ∀ r, r < W.heap.size → W'.heap[r]? = W.heap[r]? := by
  intro cs
  obtain ⟨hp, hF⟩ := Mw.known_fn
  let E0 : Mw.Env := { G := fun _ _ => none, k := fun _ _ => none, kl := fun _ _ _ _ => none }
  have hI0 : Mw.Inv Mw.cfg0 E0 ⟨[], [], 0⟩ W := ⟨fun _ _ _ h => (by cases h), fun t g o h => (by simp [Mw.Mem.get, Mw.look] at h), fun i o h => (by simp [Mw.Mem.get] at h), fun l o l' o' b h => (by cases l <;> simp [Mw.Mem.get, Mw.look] at h),
    fun b ⟨l, o, h, _⟩ => (by cases l <;> simp [Mw.Mem.get, Mw.look] at h), fun _ _ _ => rfl, fun _ _ _ _ => rfl, fun l sz es fr gr h => (by cases l <;> simp [Mw.Mem.get, Mw.look] at h), fun g cs h => (by cases h)⟩
  obtain ⟨_, hrun⟩ := hF E0 W #[] hI0 ⟨rfl, fun i v x h => by simp at h⟩
  obtain ⟨E1, w', fr, e, hI1, hM, hE, hs, hfn, hl⟩ := hrun cs
  have noOwn : ∀ r, ¬ Mw.Own E0 ⟨[], [], 0⟩ r := fun r ⟨l, o, h, _⟩ => by cases l <;> simp [Mw.Mem.get, Mw.look] at h
  cases hE with
  | ret h =>
    cases h with
    | d _ _ h =>
      cases h
      exact ⟨_, w', fr, ⟨rfl, hM.wos, fun r hr => hM.kept r hr (noOwn r)⟩, hs, hfn, hl⟩

set_option maxRecDepth 100000 in
theorem lifted (os : Os) (started : os.Started) (H : Type) (enc : TypeId × Value → H) :
    ReturnsInHanded {} Tryz.checked os 10 .any (fun w args => (Rows.dependKnownSpec.pre enc Tryz.prog Tryz.f10 [] false w args ∧ laidMetH Tryz.prog Rows.dependKnownRow.laid w) ∧ sizedMet enc Tryz.prog Tryz.f10 (OpenSpec.ofChange Rows.dependKnownSpec) false w args)
      (Rows.dependKnownSpec.post enc Tryz.prog Tryz.f10 false true false false) := by
  refine returnsInHanded_of_change_and (C := Tryz.checked) (X := fun w _ => laidMetH Tryz.prog Rows.dependKnownRow.laid w) (fun _ _ _ hh h => h.of_heap hh) own started (by kernel_rfl) Tryz.func10
    (ChangeSpec.witness_shaped (enc := enc) (C := Tryz.checked) (os := os) (X := fun w _ => laidMetH Tryz.prog Rows.dependKnownRow.laid w) false (World.doorLaid Tryz.prog 400 os) #[] 8 rfl (World.shaped_of_RefB (by kernel_rfl) (by kernel_rfl)) (by kernel_rfl) (by kernel_rfl) (by kernel_rfl) (door_met os _)) ?_
  intro W base args ds gs before hval0 hW _ _ hL _
  have hW' := hW
  obtain ⟨p, q, hA0, hV, rfl, hfz, hnd⟩ := hW
  have hA : DataW.TrodAll enc Tryz.prog W 0 (fun _ => true) true Tryz.f10.params.toList args.toList ds p := hA0
  rw [Tryz.params10] at hA
  obtain ⟨ha, rfl, rfl⟩ := trodAll_nil hA
  obtain rfl : args = #[] := by
    obtain ⟨l⟩ := args
    simp at ha; rw [ha]
  obtain ⟨rfl, rfl⟩ := trodVars_none hV
  refine (known_calls W).mono fun e W' ⟨he, hwo, hw⟩ => ?_
  subst he
  refine ⟨_, rfl, _, _, _, [], [], [], hW', ?_, ?_, ?_, keptBut_of_same hwo hw _, fun h => by cases h⟩
  · exact trodAll_mk1 (shut_bool Tryz.underlying4 true)
  · exact trodAll_mk0
  · rfl

end Go.Proofs.YtdjnccgeajpegaaGreatDoor

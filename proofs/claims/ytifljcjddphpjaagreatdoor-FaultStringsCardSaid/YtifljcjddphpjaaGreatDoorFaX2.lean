import Derived.Test.YtifljcjddphpjaaGreatDoorFaDoor
import Derived.Test.YtifljcjddphpjaaGreatDoorFaX1
import Derived.Test.YtifljcjddphpjaaGreatDoorFaM11
set_option linter.all false
set_option maxHeartbeats 8000000
set_option maxRecDepth 100000
namespace Go.Proofs.YtifljcjddphpjaaGreatDoor
open Go Go.Proofs Go.Den Go.Den.FaT Go.ChangeShapes Go.WideShapes Go.ChangeAt Go.RowKit
theorem awake : (lim T).call 16 [] [] 0 [] = some (.bool true, [], 0, []) := mk34
theorem mk9 (v : V) : mk Tryz.prog 9 [v] = v := by unfold mk; rw [Tryz.underlying9]; rfl
theorem law13 {al : List V} (h : al.length = 2 ∧ ∀ (i : Nat) t a, [25, 9][i]? = some t → al[i]? = some a → ∃ us, Cl Tryz.prog 12 t us ∧ a = mk Tryz.prog t us) : (lim T).call 13 al [] 0 [] = some (.bool true, [], 0, []) := by
  obtain ⟨hl, h⟩ := h
  match al, hl with
  | [a, s], _ =>
    obtain ⟨us, h1, rfl⟩ := h 0 25 a rfl rfl
    obtain ⟨us2, h2, rfl⟩ := h 1 9 s rfl rfl
    obtain ⟨p, hp⟩ := cl25 h1
    obtain ⟨t, rfl⟩ := cl9 h2
    rw [hp, mk9]
    exact c13 awake p t
theorem lifted13 (os : Os) (started : os.Started) (H : Type) (enc : TypeId × Value → H) :
    ReturnsInHanded {} Tryz.checked os 13 .any (fun w args => (Rows.faultStringsSpec.pre enc Tryz.prog Tryz.f13 [] false w args ∧ laidMetH Tryz.prog laidL w) ∧ sizedMet enc Tryz.prog Tryz.f13 (OpenSpec.ofChange Rows.faultStringsSpec) false w args)
      (Rows.faultStringsSpec.post enc Tryz.prog Tryz.f13 false true false false) := by
  refine returnsInHanded_of_change_and (C := Tryz.checked) (X := fun w _ => laidMetH Tryz.prog laidL w) (fun _ _ _ hh h => h.of_heap hh) own started (by kernel_rfl) Tryz.func13
    (ChangeSpec.witness_shaped (enc := enc) (C := Tryz.checked) (os := os) (X := fun w _ => laidMetH Tryz.prog laidL w) false (doorW os) #[.agg #[.slice none 0 0, .int .i64 0, .slice none 0 0], .string ⟨#[]⟩] 8 (door_os os) (door_shaped os _) (by kernel_rfl) (by kernel_rfl) (by kernel_rfl) (door_met os _)) ?_
  intro W base args ds gs before hval0 hW _ _ hL _
  have hval : ∀ (j : Nat) t v, Tryz.f13.params[j]? = some t → args[j]? = some v → Value.okWide Tryz.prog W .any base t v := hval0
  have hW' := hW
  obtain ⟨p, q, hA0, hV, rfl, hfz, hnd⟩ := hW
  have hA : DataW.TrodAll enc Tryz.prog W 0 (fun _ => true) true Tryz.f13.params.toList args.toList ds p := hA0
  have hV : DataW.TrodVars enc Tryz.prog W (fun _ => true) [] gs q := hV
  obtain ⟨rfl, rfl⟩ := trodVars_none hV
  rw [Tryz.params13] at hA hval
  obtain ⟨al, r1, r2, r3⟩ := args_rel (n := 12) (by kernel_rfl) hA (fun j t v h1 h2 => hval j t v (by simpa using h1) (by simpa using h2))
  refine (calls_true sound (by kernel_rfl) (law13 ⟨r2, r3⟩) r1 (of_laid hL)).mono ?_
  rintro e W' ⟨rfl, hs, hk, ho⟩
  refine ⟨_, rfl, law_post (tb := 4) rfl rfl Tryz.underlying4 ?_ laidOut (by kernel_rfl) hW' hs hk ho⟩
  obtain ⟨v0, v1, d0, d1, p0, p1, _, rfl, _⟩ := trodAll_two hA
  rfl
end Go.Proofs.YtifljcjddphpjaaGreatDoor

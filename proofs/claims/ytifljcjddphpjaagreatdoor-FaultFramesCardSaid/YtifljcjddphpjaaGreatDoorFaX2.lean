import Derived.Test.YtifljcjddphpjaaGreatDoorFaDoor
import Derived.Test.YtifljcjddphpjaaGreatDoorFaX1
import Derived.Test.YtifljcjddphpjaaGreatDoorFaM11
set_option linter.all false
namespace Go.Proofs.YtifljcjddphpjaaGreatDoor
open Go Go.Proofs Go.Den Go.Den.FaT Go.ChangeShapes Go.WideShapes Go.ChangeAt Go.RowKit
set_option maxRecDepth 100000
theorem awake : (lim T).call 16 [] [] 0 [] = some (.bool true, [], 0, []) := mk34
theorem law9 {al : List V} (h : al.length = 3 ∧ ∀ (i : Nat) t a, [102, 100, 103][i]? = some t → al[i]? = some a → ∃ us, Cl Tryz.prog 12 t us ∧ a = mk Tryz.prog t us) : (lim T).call 9 al [] 0 [] = some (.bool true, [], 0, []) := by
  obtain ⟨hl, h⟩ := h
  match al, hl with
  | [a, b, c], _ =>
    obtain ⟨us, h1, rfl⟩ := h 0 102 a rfl rfl
    obtain ⟨vs, h2, rfl⟩ := h 1 100 b rfl rfl
    obtain ⟨ws, h3, rfl⟩ := h 2 103 c rfl rfl
    obtain ⟨n, sx, sy, rfl⟩ := cl102 h1
    obtain ⟨x, y, rfl⟩ := cl100 h2
    obtain ⟨b, c, l, m, rfl⟩ := cl103 h3
    have m102 : mk Tryz.prog 102 [.int .i64 n, .int .i64 sx, .int .i64 sy] = .agg [.int .i64 n, .int .i64 sx, .int .i64 sy] := by unfold mk; rw [Tryz.underlying102]
    have m103 : ∀ us, mk Tryz.prog 103 us = .agg us := fun us => by unfold mk; rw [Tryz.underlying103]
    rw [m102, mk100, m103]
    exact c9 awake n sx sy x y b c l m

theorem lifted9 (os : Os) (started : os.Started) (H : Type) (enc : TypeId × Value → H) :
    ReturnsInHanded {} Tryz.checked os 9 .any (fun w args => (Rows.faultFramesSpec.pre enc Tryz.prog Tryz.f9 [] false w args ∧ laidMetH Tryz.prog laidL w) ∧ sizedMet enc Tryz.prog Tryz.f9 (OpenSpec.ofChange Rows.faultFramesSpec) false w args)
      (Rows.faultFramesSpec.post enc Tryz.prog Tryz.f9 false true false false) := by
  refine returnsInHanded_of_change_and (C := Tryz.checked) (X := fun w _ => laidMetH Tryz.prog laidL w) (fun _ _ _ hh h => h.of_heap hh) own started (by kernel_rfl) Tryz.func9
    (ChangeSpec.witness_shaped (enc := enc) (C := Tryz.checked) (os := os) (X := fun w _ => laidMetH Tryz.prog laidL w) false (World.doorLaid Tryz.prog 4000 os) #[.agg #[.int .i64 0, .int .i64 0, .int .i64 0], .agg #[.int .i64 0, .int .i64 0], .agg #[.slice none 0 0, .slice none 0 0]] 8 rfl (World.shaped_of_RefB (by kernel_rfl) (by kernel_rfl)) (by kernel_rfl) (by kernel_rfl) (by kernel_rfl) (door_met os _)) ?_
  intro W base args ds gs before hval0 hW _ _ hL _
  have hval : ∀ (j : Nat) t v, Tryz.f9.params[j]? = some t → args[j]? = some v → Value.okWide Tryz.prog W .any base t v := hval0
  have hW' := hW
  obtain ⟨p, q, hA0, hV, rfl, hfz, hnd⟩ := hW
  have hA : DataW.TrodAll enc Tryz.prog W 0 (fun _ => true) true Tryz.f9.params.toList args.toList ds p := hA0
  have hV : DataW.TrodVars enc Tryz.prog W (fun _ => true) [] gs q := hV
  obtain ⟨rfl, rfl⟩ := trodVars_none hV
  rw [Tryz.params9] at hA hval
  obtain ⟨al, r1, r2, r3⟩ := args_rel (n := 12) (by kernel_rfl) hA (fun j t v h1 h2 => hval j t v (by simpa using h1) (by simpa using h2))
  refine (calls_true sound (by kernel_rfl) (law9 ⟨r2, r3⟩) r1 (of_laid hL)).mono ?_
  rintro e W' ⟨rfl, hs, hk, ho⟩
  refine ⟨_, rfl, law_post (tb := 4) rfl rfl Tryz.underlying4 ?_ laidOut (by kernel_rfl) hW' hs hk ho⟩
  obtain ⟨v0, v1, v2, d0, d1, d2, p0, p1, p2, _, rfl, _⟩ := trodAll_three hA
  rfl

end Go.Proofs.YtifljcjddphpjaaGreatDoor

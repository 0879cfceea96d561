import Derived.Test.YtifljcjddphpjaaGreatDoorFaDoor
import Derived.Test.YtifljcjddphpjaaGreatDoorFaX3
import Derived.Test.YtifljcjddphpjaaGreatDoorFaM11
set_option linter.all false
set_option maxHeartbeats 8000000
set_option maxRecDepth 100000
namespace Go.Proofs.YtifljcjddphpjaaGreatDoor
open Go Go.Proofs Go.Den Go.Den.FaT Go.ChangeShapes Go.WideShapes Go.ChangeAt Go.RowKit
theorem awake : (lim T).call 16 [] [] 0 [] = some (.bool true, [], 0, []) := mk34
theorem law12 {al : List V} (h : al.length = 3 ∧ ∀ (i : Nat) t a, [82, 148, 48][i]? = some t → al[i]? = some a → ∃ us, Cl Tryz.prog 12 t us ∧ a = mk Tryz.prog t us) : (lim FaU.T).call 12 al [] 0 [] = some (.bool true, [], 0, []) := by
  obtain ⟨hl, h⟩ := h
  match al, hl with
  | [a, s, m], _ =>
    obtain ⟨us, h1, rfl⟩ := h 0 82 a rfl rfl
    obtain ⟨us2, h2, rfl⟩ := h 1 148 s rfl rfl
    obtain ⟨us3, h3, rfl⟩ := h 2 48 m rfl rfl
    obtain ⟨p, hp⟩ := cl82 h1
    obtain ⟨a, b, c, d, hs⟩ := cl148 h2
    obtain ⟨z, ms, hm⟩ := cl48m h3
    rw [hp, hs, hm]
    exact FaU.c12 awake p a b c d z ms
theorem lifted12 (os : Os) (started : os.Started) (H : Type) (enc : TypeId × Value → H) :
    ReturnsInHanded {} Tryz.checked os 12 .any (fun w args => (Rows.faultSpotsSpec.pre enc Tryz.prog Tryz.f12 [] false w args ∧ laidMetH Tryz.prog laidL w) ∧ sizedMet enc Tryz.prog Tryz.f12 (OpenSpec.ofChange Rows.faultSpotsSpec) false w args)
      (Rows.faultSpotsSpec.post enc Tryz.prog Tryz.f12 false true false false) := by
  refine returnsInHanded_of_change_and (C := Tryz.checked) (X := fun w _ => laidMetH Tryz.prog laidL w) (fun _ _ _ hh h => h.of_heap hh) own started (by kernel_rfl) Tryz.func12
    (ChangeSpec.witness_shaped (enc := enc) (C := Tryz.checked) (os := os) (X := fun w _ => laidMetH Tryz.prog laidL w) false (World.doorLaid Tryz.prog 4000 os) #[.agg #[.int .i64 0, .int .i64 0, .slice none 0 0], .agg #[.int .i16 0, .int .i16 0, .int .i16 0, .int .i16 0], .slice none 0 0] 8 rfl (World.shaped_of_RefB (by kernel_rfl) (by kernel_rfl)) (by kernel_rfl) (by kernel_rfl) (by kernel_rfl) (door_met os _)) ?_
  intro W base args ds gs before hval0 hW _ _ hL _
  have hval : ∀ (j : Nat) t v, Tryz.f12.params[j]? = some t → args[j]? = some v → Value.okWide Tryz.prog W .any base t v := hval0
  have hW' := hW
  obtain ⟨p, q, hA0, hV, rfl, hfz, hnd⟩ := hW
  have hA : DataW.TrodAll enc Tryz.prog W 0 (fun _ => true) true Tryz.f12.params.toList args.toList ds p := hA0
  have hV : DataW.TrodVars enc Tryz.prog W (fun _ => true) [] gs q := hV
  obtain ⟨rfl, rfl⟩ := trodVars_none hV
  rw [Tryz.params12] at hA hval
  obtain ⟨al, r1, r2, r3⟩ := args_rel (n := 12) (by kernel_rfl) hA (fun j t v h1 h2 => hval j t v (by simpa using h1) (by simpa using h2))
  refine (calls_true FaU.sound (by kernel_rfl) (law12 ⟨r2, r3⟩) r1 (of_laid hL)).mono ?_
  rintro e W' ⟨rfl, hs, hk, ho⟩
  refine ⟨_, rfl, law_post (tb := 4) rfl rfl Tryz.underlying4 ?_ laidOut (by kernel_rfl) hW' hs hk ho⟩
  obtain ⟨v0, v1, v2, d0, d1, d2, p0, p1, p2, _, rfl, _⟩ := trodAll_three hA
  rfl
end Go.Proofs.YtifljcjddphpjaaGreatDoor

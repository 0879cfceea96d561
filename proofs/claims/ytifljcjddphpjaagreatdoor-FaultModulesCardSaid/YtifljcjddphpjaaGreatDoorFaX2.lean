import Derived.Test.YtifljcjddphpjaaGreatDoorFaDoor
import Derived.Test.YtifljcjddphpjaaGreatDoorFaX1
import Derived.Test.YtifljcjddphpjaaGreatDoorFaM11
set_option linter.all false
namespace Go.Proofs.YtifljcjddphpjaaGreatDoor
open Go Go.Proofs Go.Den Go.Den.FaT Go.ChangeShapes Go.WideShapes Go.ChangeAt Go.RowKit
set_option maxRecDepth 100000
theorem awake : (lim T).call 16 [] [] 0 [] = some (.bool true, [], 0, []) := mk34
theorem cl5 {n : Nat} {vs : List V} (h : Cl Tryz.prog n 5 vs) : ∃ i, vs = [.int .u8 i] := by
  cases n with
  | zero => cases h
  | succ n => unfold Cl at h; rw [Tryz.underlying5] at h; obtain ⟨i, h, _⟩ := h; exact ⟨i, h⟩
theorem cl248 {n : Nat} {vs : List V} (h : Cl Tryz.prog n 248 vs) : ∃ s : Ser, vs = [.int .u8 s.a, .int .u8 s.b, .int .u8 s.c, .int .u8 s.d, .int .u8 s.e, .int .u8 s.f, .int .u8 s.g, .int .u8 s.h] := by
  cases n with
  | zero => cases h
  | succ n =>
    unfold Cl at h
    rw [Tryz.underlying248] at h
    obtain ⟨ps, rfl, hl, hp⟩ := h
    match ps, hl with
    | [a, b, c, d, e, f, g, i], _ =>
      obtain ⟨a, rfl⟩ := cl5 (hp a (by simp))
      obtain ⟨b, rfl⟩ := cl5 (hp b (by simp))
      obtain ⟨c, rfl⟩ := cl5 (hp c (by simp))
      obtain ⟨d, rfl⟩ := cl5 (hp d (by simp))
      obtain ⟨e, rfl⟩ := cl5 (hp e (by simp))
      obtain ⟨f, rfl⟩ := cl5 (hp f (by simp))
      obtain ⟨g, rfl⟩ := cl5 (hp g (by simp))
      obtain ⟨i, rfl⟩ := cl5 (hp i (by simp))
      exact ⟨⟨a, b, c, d, e, f, g, i⟩, rfl⟩
theorem mk250 (us : List V) : mk Tryz.prog 250 us = .agg us := by unfold mk; rw [Tryz.underlying250]
theorem mk237 (us : List V) : mk Tryz.prog 237 us = .agg us := by unfold mk; rw [Tryz.underlying237]
theorem cl250 {n : Nat} {vs : List V} (h : Cl Tryz.prog n 250 vs) : ∃ m : Md, mk Tryz.prog 250 vs = mdV m := by
  cases n with
  | zero => cases h
  | succ n =>
    unfold Cl at h
    rw [Tryz.underlying250] at h
    obtain ⟨ps, rfl, hl, hp⟩ := h
    match ps, hl with
    | [p, q], _ =>
      obtain ⟨s, rfl⟩ := cl248 (hp 0 _ p rfl rfl)
      obtain ⟨x, y, rfl⟩ := cl100 (hp 1 _ q rfl rfl)
      exact ⟨⟨s, x, y⟩, by rw [mk250]; rfl⟩
theorem cl237 {n : Nat} {vs : List V} (h : Cl Tryz.prog n 237 vs) : ∃ s : Int × Int × Int, mk Tryz.prog 237 vs = spV s := by
  cases n with
  | zero => cases h
  | succ n =>
    unfold Cl at h
    rw [Tryz.underlying237] at h
    obtain ⟨ps, rfl, hl, hp⟩ := h
    match ps, hl with
    | [p, q], _ =>
      obtain ⟨x, y, rfl⟩ := cl100 (hp 0 _ p rfl rfl)
      obtain ⟨z, rfl, _⟩ := cl3 (hp 1 _ q rfl rfl)
      exact ⟨(x, y, z), by rw [mk237]; rfl⟩
theorem mapOf {α : Type} {f : α → V} {e : TypeId} {n : Nat} (hc : ∀ {us}, Cl Tryz.prog n e us → ∃ a, mk Tryz.prog e us = f a) : ∀ {l : List V}, (∀ u ∈ l, ∃ us, Cl Tryz.prog n e us ∧ u = mk Tryz.prog e us) → ∃ ps : List α, l = ps.map f
  | [], _ => ⟨[], rfl⟩
  | u :: l, h => by
    obtain ⟨ps, rfl⟩ := mapOf hc (l := l) fun v hv => h v (List.mem_cons_of_mem _ hv)
    obtain ⟨us, h1, rfl⟩ := h u (List.mem_cons_self)
    obtain ⟨a, ha⟩ := hc h1
    exact ⟨a :: ps, by rw [ha]; rfl⟩
theorem cl92 {n : Nat} {vs : List V} (h : Cl Tryz.prog n 92 vs) : ∃ b, ∃ l : List (Int × Int × Int), vs = [.sl b 3 (l.map spV)] := by
  cases n with
  | zero => cases h
  | succ n =>
    unfold Cl at h
    rw [Tryz.underlying92] at h
    obtain ⟨b, l, rfl, _, _, hl⟩ := h
    obtain ⟨ps, rfl⟩ := mapOf cl237 hl
    have : Tryz.prog.cellsOf 237 = 3 := by kernel_rfl
    exact ⟨b, ps, by rw [this]⟩
theorem cl116 {n : Nat} {vs : List V} (h : Cl Tryz.prog n 116 vs) : ∃ b, ∃ l : List Md, vs = [.sl b 10 (l.map mdV)] := by
  cases n with
  | zero => cases h
  | succ n =>
    unfold Cl at h
    rw [Tryz.underlying116] at h
    obtain ⟨b, l, rfl, _, _, hl⟩ := h
    obtain ⟨ps, rfl⟩ := mapOf cl250 hl
    have : Tryz.prog.cellsOf 250 = 10 := by kernel_rfl
    exact ⟨b, ps, by rw [this]⟩
theorem law10 {al : List V} (h : al.length = 3 ∧ ∀ (i : Nat) t a, [92, 102, 116][i]? = some t → al[i]? = some a → ∃ us, Cl Tryz.prog 12 t us ∧ a = mk Tryz.prog t us) : (lim T).call 10 al [] 0 [] = some (.bool true, [], 0, []) := by
  obtain ⟨hl, h⟩ := h
  match al, hl with
  | [a, b, c], _ =>
    obtain ⟨us, h1, rfl⟩ := h 0 92 a rfl rfl
    obtain ⟨vs, h2, rfl⟩ := h 1 102 b rfl rfl
    obtain ⟨ws, h3, rfl⟩ := h 2 116 c rfl rfl
    obtain ⟨b, l, rfl⟩ := cl92 h1
    obtain ⟨n, sx, sy, rfl⟩ := cl102 h2
    obtain ⟨c, m, rfl⟩ := cl116 h3
    have m92 : ∀ v, mk Tryz.prog 92 [v] = v := fun v => by unfold mk; rw [Tryz.underlying92]; rfl
    have m116 : ∀ v, mk Tryz.prog 116 [v] = v := fun v => by unfold mk; rw [Tryz.underlying116]; rfl
    have m102 : mk Tryz.prog 102 [.int .i64 n, .int .i64 sx, .int .i64 sy] = .agg [.int .i64 n, .int .i64 sx, .int .i64 sy] := by unfold mk; rw [Tryz.underlying102]
    rw [m92, m102, m116]
    exact c10 awake b c l n sx sy m

theorem lifted10 (os : Os) (started : os.Started) (H : Type) (enc : TypeId × Value → H) :
    ReturnsInHanded {} Tryz.checked os 10 .any (fun w args => (Rows.faultModulesSpec.pre enc Tryz.prog Tryz.f10 [] false w args ∧ laidMetH Tryz.prog laidL w) ∧ sizedMet enc Tryz.prog Tryz.f10 (OpenSpec.ofChange Rows.faultModulesSpec) false w args)
      (Rows.faultModulesSpec.post enc Tryz.prog Tryz.f10 false true false false) := by
  refine returnsInHanded_of_change_and (C := Tryz.checked) (X := fun w _ => laidMetH Tryz.prog laidL w) (fun _ _ _ hh h => h.of_heap hh) own started (by kernel_rfl) Tryz.func10
    (ChangeSpec.witness_shaped (enc := enc) (C := Tryz.checked) (os := os) (X := fun w _ => laidMetH Tryz.prog laidL w) false (World.doorLaid Tryz.prog 4000 os) #[.slice none 0 0, .agg #[.int .i64 0, .int .i64 0, .int .i64 0], .slice none 0 0] 8 rfl (World.shaped_of_RefB (by kernel_rfl) (by kernel_rfl)) (by kernel_rfl) (by kernel_rfl) (by kernel_rfl) (door_met os _)) ?_
  intro W base args ds gs before hval0 hW _ _ hL _
  have hval : ∀ (j : Nat) t v, Tryz.f10.params[j]? = some t → args[j]? = some v → Value.okWide Tryz.prog W .any base t v := hval0
  have hW' := hW
  obtain ⟨p, q, hA0, hV, rfl, hfz, hnd⟩ := hW
  have hA : DataW.TrodAll enc Tryz.prog W 0 (fun _ => true) true Tryz.f10.params.toList args.toList ds p := hA0
  have hV : DataW.TrodVars enc Tryz.prog W (fun _ => true) [] gs q := hV
  obtain ⟨rfl, rfl⟩ := trodVars_none hV
  rw [Tryz.params10] at hA hval
  obtain ⟨al, r1, r2, r3⟩ := args_rel (n := 12) (by kernel_rfl) hA (fun j t v h1 h2 => hval j t v (by simpa using h1) (by simpa using h2))
  refine (calls_true sound (by kernel_rfl) (law10 ⟨r2, r3⟩) r1 (of_laid hL)).mono ?_
  rintro e W' ⟨rfl, hs, hk, ho⟩
  refine ⟨_, rfl, law_post (tb := 4) rfl rfl Tryz.underlying4 ?_ laidOut (by kernel_rfl) hW' hs hk ho⟩
  obtain ⟨v0, v1, v2, d0, d1, d2, p0, p1, p2, _, rfl, _⟩ := trodAll_three hA
  rfl

end Go.Proofs.YtifljcjddphpjaaGreatDoor

import Derived.Test.YtifljcjddphpjaaGreatDoorFaX2
import Derived.Test.YtifljcjddphpjaaGreatDoorFaX3
import Derived.Test.YtifljcjddphpjaaGreatDoorFaX4
import Derived.Test.YtifljcjddphpjaaGreatDoorFaX5
import Derived.Test.YtifljcjddphpjaaGreatDoorFaX0
import Derived.Test.YtifljcjddphpjaaGreatDoorFaX1
set_option linter.all false
set_option maxHeartbeats 8000000
set_option maxRecDepth 100000
namespace Go.Den.FaU
open Go Go.Proofs Go.Den Go.Den.FaT
def mkR (r : Bool × List Int) (u : Int) : Rz := ⟨r.1, r.2.headD 0, r.2.tail, u⟩
def mkC (c : Cz) (w : Int × Int) : Cx := ⟨c.n, c.c, c.b, c.l.headD (0, 0), c.l.tail, w⟩
theorem zw1 {α β γ δ : Type} {f : α → β → γ} {g : γ → δ} {h : α → δ} : ∀ {l : List α} {m : List β}, l.length = m.length → (∀ a ∈ l, ∀ b, g (f a b) = h a) → (List.zipWith f l m).map g = l.map h
  | [], _, _, _ => by simp
  | a :: l, [], h, _ => by simp at h
  | a :: l, b :: m, h, hh => by
    rw [List.zipWith_cons_cons, List.map_cons, List.map_cons, hh a (by simp) b, zw1 (by simpa using h) fun a ha => hh a (by simp [ha])]
theorem zw2 {α β γ δ : Type} {f : α → β → γ} {g : γ → δ} {h : β → δ} : ∀ {l : List α} {m : List β}, l.length = m.length → (∀ a ∈ l, ∀ b, g (f a b) = h b) → (List.zipWith f l m).map g = m.map h
  | [], [], _, _ => by simp
  | [], b :: m, h, _ => by simp at h
  | a :: l, [], h, _ => by simp at h
  | a :: l, b :: m, h, hh => by
    rw [List.zipWith_cons_cons, List.map_cons, List.map_cons, hh a (by simp) b, zw2 (by simpa using h) fun a ha => hh a (by simp [ha])]
theorem zw3 {α β γ δ ε : Type} {f : α → β → γ} {g : γ → δ} {f' : α → β → ε} {g' : ε → δ} : ∀ {l : List α} {m : List β}, (∀ a ∈ l, ∀ b, g (f a b) = g' (f' a b)) → (List.zipWith f l m).map g = (List.zipWith f' l m).map g'
  | [], _, _ => by simp
  | a :: l, [], _ => by simp
  | a :: l, b :: m, hh => by
    rw [List.zipWith_cons_cons, List.zipWith_cons_cons, List.map_cons, List.map_cons, hh a (by simp) b, zw3 fun a ha => hh a (by simp [ha])]
theorem s52 (vb cb b1 b2 : Bool) (no : Int) {R : List Rz} {C : List Cx} (h1 : 0 < R.length) (h8 : R.length ≤ 8) (hC : C.length ≤ 6) : S52 vb cb b1 b2 no R C := by
  match R, h1, h8 with
  | [a], _, _ => exact t52_1 vb cb b1 b2 no a hC
  | [a, b], _, _ => exact t52_2 vb cb b1 b2 no a b hC
  | [a, b, c], _, _ => exact t52_3 vb cb b1 b2 no a b c hC
  | [a, b, c, d], _, _ => exact t52_4 vb cb b1 b2 no a b c d hC
  | [a, b, c, d, e], _, _ => exact t52_5 vb cb b1 b2 no a b c d e hC
  | [a, b, c, d, e, f], _, _ => exact t52_6 vb cb b1 b2 no a b c d e f hC
  | [a, b, c, d, e, f, g], _, _ => exact t52_7 vb cb b1 b2 no a b c d e f g hC
  | [a, b, c, d, e, f, g, h], _, _ => exact t52_8 vb cb b1 b2 no a b c d e f g h hC
  | _ :: _ :: _ :: _ :: _ :: _ :: _ :: _ :: _ :: r, _, h => simp at h
theorem c52 (p : Pk) (ho : FaT.Ok p) (h6 : p.c.length ≤ 6) (b b2 : Bool) (vs : List Int) (ls : List (Int × Int)) (hv : vs.length = p.v.length) (hl : ls.length = p.c.length) :
    (lim FaU.T).call 52 [pkV p, .sl b 1 (vs.map intV), .sl b2 2 (ls.map ivV)] [] 0 [] = some (pkV (furP p vs ls), [], 0, []) := by
  have s1 := ho.s1
  have s8 := ho.s8
  have hR : ∀ r ∈ p.v, r.2 = r.2.headD 0 :: r.2.tail := fun r hr => by
    have := ho.row r hr
    cases hx : r.2 with
    | nil => rw [hx] at this; simp at this; omega
    | cons y l => rfl
  have hC : ∀ c ∈ p.c, c.l = c.l.headD (0, 0) :: c.l.tail := fun c hc => by
    have := (ho.ca c hc).2.2
    cases hx : c.l with
    | nil => rw [hx] at this; simp at this; omega
    | cons y l => rfl
  have h := s52 p.vb p.cb b b2 p.n (R := List.zipWith mkR p.v vs) (C := List.zipWith mkC p.c ls) (by rw [List.length_zipWith]; have := ho.v1; omega) (by rw [List.length_zipWith]; have := ho.v8; omega) (by rw [List.length_zipWith]; omega)
    (fun r hr => by
      obtain ⟨a, h1, u, _, rfl⟩ := mem_zw hr
      have := ho.row a h1
      simp only [mkR, List.length_tail]
      omega)
    (fun r hr => by
      obtain ⟨a, h1, u, _, rfl⟩ := mem_zw hr
      have := (ho.ca a h1).2.2
      simp only [mkC, List.length_tail]
      omega)
  rw [zw1 (f := mkR) (g := Rz.i) (h := rwV) hv.symm (fun r hr u => by simp only [mkR, Rz.i, rwV]; rw [← intV, ← List.map_cons, ← hR r hr]),
    zw2 (f := mkR) (g := Rz.a) (h := intV) hv.symm (fun r hr u => rfl),
    zw1 (f := mkC) (g := Cx.i) (h := czV) hl.symm (fun r hr u => by simp only [mkC, Cx.i, czV]; rw [← ivV, ← List.map_cons, ← hC r hr]),
    zw2 (f := mkC) (g := Cx.a) (h := ivV) hl.symm (fun r hr u => rfl),
    zw3 (f := mkR) (g := Rz.o) (f' := furR) (g' := rwV) (fun r hr u => by
      simp only [mkR, Rz.o, rwV, furR]
      conv => rhs; rw [hR r hr]
      simp [intV]),
    zw3 (f := mkC) (g := Cx.o) (f' := furC) (g' := czV) (fun r hr u => by
      simp only [mkC, Cx.o, czV, furC]
      conv => rhs; rw [hC r hr]
      simp [ivV])] at h
  unfold pkV furP
  refine h.trans ?_
  congr 6
  cases p.c <;> cases ls <;> rfl
theorem c7 (haw : (lim FaT.T).call 16 [] [] 0 [] = some (.bool true, [], 0, [])) (p : Pk) (b b2 : Bool) (vs : List Int) (ls : List (Int × Int)) :
    (lim FaU.T).call 7 [pkV p, .sl b 1 (vs.map intV), .sl b2 2 (ls.map ivV)] [] 0 [] = some (.bool true, [], 0, []) := by
  cases hsh : shP p
  · rw [FaU.ent7]
    have e15 := d15 p
    rw [hsh] at e15
    have e16 := d16 haw
    simp only [pkV] at e15
    simp -implicitDefEqProofs only [go_sem, simprocAttr, pkV, e15, e16]
  · by_cases hv : vs.length ≤ 9
    · by_cases hl : ls.length ≤ 9
      · by_cases h0 : ckPk p = 0
        · by_cases hx : fuE p vs ls = 0
          · obtain ⟨k1, k2, _⟩ := fu_ok hx
            exact c7c haw p hsh h0 b b2 vs ls hx hv hl (c52 p (ok_of h0) (short6 hsh (ok_of h0)) b b2 vs ls k1 k2)
          · exact c7b haw p hsh h0 b b2 vs ls hx hv hl
        · exact c7a haw p hsh h0 b b2 vs ls hv hl
      · rw [FaU.ent7]
        have e15 := d15 p
        rw [hsh] at e15
        have e16 := d16 haw
        have g3 : decide (9 < (vs.length : Int)) = false := by simp; omega
        have g4 : decide (9 < (ls.length : Int)) = true := by simp; omega
        simp only [pkV] at e15
        simp -implicitDefEqProofs only [go_sem, simprocAttr, pkV, e15, e16, g3, g4]
    · rw [FaU.ent7]
      have e15 := d15 p
      rw [hsh] at e15
      have e16 := d16 haw
      have g3 : decide (9 < (vs.length : Int)) = true := by simp; omega
      simp only [pkV] at e15
      simp -implicitDefEqProofs only [go_sem, simprocAttr, pkV, e15, e16, g3]
end Go.Den.FaU
namespace Go.Proofs.YtifljcjddphpjaaGreatDoor
open Go Go.Proofs Go.Den Go.Den.FaT Go.ChangeShapes Go.WideShapes Go.ChangeAt Go.RowKit
theorem mapOf {α : Type} {f : α → V} {e : TypeId} {n : Nat} (hc : ∀ {us}, Cl Tryz.prog n e us → ∃ a, mk Tryz.prog e us = f a) : ∀ {l : List V}, (∀ u ∈ l, ∃ us, Cl Tryz.prog n e us ∧ u = mk Tryz.prog e us) → ∃ ps : List α, l = ps.map f
  | [], _ => ⟨[], rfl⟩
  | u :: l, h => by
    obtain ⟨ps, rfl⟩ := mapOf hc (l := l) fun v hv => h v (List.mem_cons_of_mem _ hv)
    obtain ⟨us, h1, rfl⟩ := h u (List.mem_cons_self)
    obtain ⟨a, ha⟩ := hc h1
    exact ⟨a :: ps, by rw [ha]; rfl⟩
theorem mk3 (v : V) : mk Tryz.prog 3 [v] = v := by unfold mk; rw [Tryz.underlying3]; rfl
theorem mk28 (v : V) : mk Tryz.prog 28 [v] = v := by unfold mk; rw [Tryz.underlying28]; rfl
theorem mk142 (us : List V) : mk Tryz.prog 142 us = .agg us := by unfold mk; rw [Tryz.underlying142]
theorem mk140 (us : List V) : mk Tryz.prog 140 us = .agg us := by unfold mk; rw [Tryz.underlying140]
theorem mk25 (us : List V) : mk Tryz.prog 25 us = .agg us := by unfold mk; rw [Tryz.underlying25]
theorem cl3i {n : Nat} {us : List V} (h : Cl Tryz.prog n 3 us) : ∃ a, mk Tryz.prog 3 us = intV a := by
  obtain ⟨i, rfl, _⟩ := cl3 h
  exact ⟨i, mk3 _⟩
theorem cl28 {n : Nat} {vs : List V} (h : Cl Tryz.prog n 28 vs) : ∃ b, ∃ l : List Int, vs = [.sl b 1 (l.map intV)] := by
  cases n with
  | zero => cases h
  | succ n =>
    unfold Cl at h
    rw [Tryz.underlying28] at h
    obtain ⟨b, l, rfl, _, _, hl⟩ := h
    obtain ⟨ps, rfl⟩ := mapOf cl3i hl
    have : Tryz.prog.cellsOf 3 = 1 := by kernel_rfl
    exact ⟨b, ps, by rw [this]⟩
theorem cl28r {n : Nat} {us : List V} (h : Cl Tryz.prog n 28 us) : ∃ a, mk Tryz.prog 28 us = rwV a := by
  obtain ⟨b, l, rfl⟩ := cl28 h
  exact ⟨(b, l), mk28 _⟩
theorem cl22 {n : Nat} {vs : List V} (h : Cl Tryz.prog n 22 vs) : ∃ b, ∃ l : List (Bool × List Int), vs = [.sl b 1 (l.map rwV)] := by
  cases n with
  | zero => cases h
  | succ n =>
    unfold Cl at h
    rw [Tryz.underlying22] at h
    obtain ⟨b, l, rfl, _, _, hl⟩ := h
    obtain ⟨ps, rfl⟩ := mapOf cl28r hl
    have : Tryz.prog.cellsOf 28 = 1 := by kernel_rfl
    exact ⟨b, ps, by rw [this]⟩
theorem cl142 {n : Nat} {us : List V} (h : Cl Tryz.prog n 142 us) : ∃ a, mk Tryz.prog 142 us = ivV a := by
  cases n with
  | zero => cases h
  | succ n =>
    unfold Cl at h
    rw [Tryz.underlying142] at h
    obtain ⟨ps, rfl, hl, hp⟩ := h
    match ps, hl with
    | [p, q], _ =>
      obtain ⟨x, rfl, _⟩ := cl3 (hp 0 _ p rfl rfl)
      obtain ⟨y, rfl, _⟩ := cl3 (hp 1 _ q rfl rfl)
      exact ⟨(x, y), by rw [mk142]; rfl⟩
theorem cl72 {n : Nat} {vs : List V} (h : Cl Tryz.prog n 72 vs) : ∃ b, ∃ l : List (Int × Int), vs = [.sl b 2 (l.map ivV)] := by
  cases n with
  | zero => cases h
  | succ n =>
    unfold Cl at h
    rw [Tryz.underlying72] at h
    obtain ⟨b, l, rfl, _, _, hl⟩ := h
    obtain ⟨ps, rfl⟩ := mapOf cl142 hl
    have : Tryz.prog.cellsOf 142 = 2 := by kernel_rfl
    exact ⟨b, ps, by rw [this]⟩
theorem cl9 {n : Nat} {vs : List V} (h : Cl Tryz.prog n 9 vs) : ∃ s : List UInt8, vs = [.str s] := by
  cases n with
  | zero => cases h
  | succ n => unfold Cl at h; rw [Tryz.underlying9] at h; obtain ⟨s, h, _⟩ := h; exact ⟨s, h⟩
theorem cl140 {n : Nat} {us : List V} (h : Cl Tryz.prog n 140 us) : ∃ a, mk Tryz.prog 140 us = czV a := by
  cases n with
  | zero => cases h
  | succ n =>
    unfold Cl at h
    rw [Tryz.underlying140] at h
    obtain ⟨ps, rfl, hl, hp⟩ := h
    match ps, hl with
    | [p, q, r], _ =>
      obtain ⟨s, rfl⟩ := cl9 (hp 0 _ p rfl rfl)
      obtain ⟨c, rfl, _⟩ := cl3 (hp 1 _ q rfl rfl)
      obtain ⟨b, l, rfl⟩ := cl72 (hp 2 _ r rfl rfl)
      exact ⟨⟨s, c, b, l⟩, by rw [mk140]; rfl⟩
theorem cl23 {n : Nat} {vs : List V} (h : Cl Tryz.prog n 23 vs) : ∃ b, ∃ l : List Cz, vs = [.sl b 3 (l.map czV)] := by
  cases n with
  | zero => cases h
  | succ n =>
    unfold Cl at h
    rw [Tryz.underlying23] at h
    obtain ⟨b, l, rfl, _, _, hl⟩ := h
    obtain ⟨ps, rfl⟩ := mapOf cl140 hl
    have : Tryz.prog.cellsOf 140 = 3 := by kernel_rfl
    exact ⟨b, ps, by rw [this]⟩
theorem cl25 {n : Nat} {us : List V} (h : Cl Tryz.prog n 25 us) : ∃ p : Pk, mk Tryz.prog 25 us = pkV p := by
  cases n with
  | zero => cases h
  | succ n =>
    unfold Cl at h
    rw [Tryz.underlying25] at h
    obtain ⟨ps, rfl, hl, hp⟩ := h
    match ps, hl with
    | [p, q, r], _ =>
      obtain ⟨vb, v, rfl⟩ := cl22 (hp 0 _ p rfl rfl)
      obtain ⟨n, rfl, _⟩ := cl3 (hp 1 _ q rfl rfl)
      obtain ⟨cb, c, rfl⟩ := cl23 (hp 2 _ r rfl rfl)
      exact ⟨⟨vb, v, n, cb, c⟩, by rw [mk25]; rfl⟩
end Go.Proofs.YtifljcjddphpjaaGreatDoor

import Derived.Test.YtifljcjddphpjaaGreatDoorFaX1
import Derived.Test.YtifljcjddphpjaaGreatDoorFaS1
import Derived.Test.YtifljcjddphpjaaGreatDoorZQ
set_option linter.all false
set_option maxHeartbeats 8000000
set_option maxRecDepth 100000
namespace Go.Den.FaT
open Go Go.Proofs Go.Den
theorem c96n : (lim T).call 96 [.sl false 3 [], .sl false 0 []] [] 0 [] = some (.bool true, [], 0, []) := by
  rw [ent96]
  simp -implicitDefEqProofs only [go_sem, simprocAttr]
  rw [loopEq]
  simp -implicitDefEqProofs only [go_sem, simprocAttr]
theorem c53n : (lim T).call 53 [.agg [.sl false 1 [], .int .i64 0, .sl false 3 []], .agg [.sl false 0 [], .int .i64 0, .sl false 0 []]] [] 0 [] = some (.bool true, [], 0, []) := by
  rw [ent53]
  simp -implicitDefEqProofs only [go_sem, simprocAttr, c25n, c96n]
theorem c97n : (lim T).call 97 [.sl false 3 []] [] 0 [] = some (.sl false 0 [], [], 0, []) := by
  rw [ent97]
  simp -implicitDefEqProofs only [go_sem, simprocAttr]
  rw [loopEq]
  simp -implicitDefEqProofs only [go_sem, simprocAttr]
theorem c54n : (lim T).call 54 [.agg [.sl false 1 [], .int .i64 0, .sl false 3 []]] [] 0 [] = some (.agg [.sl false 1 [], .int .i64 0, .sl false 3 []], [], 0, []) := by
  rw [ent54]
  simp -implicitDefEqProofs only [go_sem, simprocAttr, c97n]
theorem short6 {p : Pk} (hs : shP p = true) (ho : Ok p) : p.c.length ≤ 6 := by
  have h8 := ho.c8
  unfold shP shC at hs
  simp only [Bool.and_eq_true, Bool.not_eq_true', Bool.or_eq_false_iff, Bool.not_eq_false', Bool.and_eq_false_iff] at hs
  have := hs.1.2.1
  simp at this
  omega
theorem slots_own (p : Pk) : slots (ownP p) = slots p := by
  unfold slots ownP
  simp only [List.getElem?_map]
  cases p.v[0]? <;> rfl
theorem fuE_own (p : Pk) (vs : List Int) (ls : List (Int × Int)) : fuE (ownP p) vs ls = fuE p vs ls := by
  unfold fuE
  rw [slots_own]
  simp [ownP]
theorem zw_same {p : Pk} {vs : List Int} (f : Bool × List Int → Bool × List Int) (hf : ∀ r, (f r).2 = r.2) : (List.zipWith furR (p.v.map f) vs) = List.zipWith furR p.v vs := by
  rw [List.zipWith_map_left]
  congr 1
  funext r u
  simp [furR, hf]
theorem zc_same {p : Pk} {ls : List (Int × Int)} : (List.zipWith furC (p.c.map ownC) ls) = List.zipWith furC p.c ls := by
  rw [List.zipWith_map_left]
  rfl
end Go.Den.FaT
namespace Go.Den.FaU
open Go Go.Proofs Go.Den Go.Den.FaT
@[go_sem] theorem callP_d {ih : Ih} {f : Nat} {args : List V} {k : V → Prog} (h : FaU.T.byref f = false) (h' : FaU.T.prim f = some (den FaT.T f)) : callP ih FaU.T f args k = stowLP FaU.T args fun args => needP (!yldL args) <| optP (den FaT.T f args) fun v => toP (resK FaU.T f v fun v => some (k v)) := by
  unfold callP
  rw [h]
  simp only [h']
theorem d16 (haw : (lim FaT.T).call 16 [] [] 0 [] = some (.bool true, [], 0, [])) : den FaT.T 16 [] = some (.bool true) := den_of (by kernel_rfl) (by kernel_rfl) (fn := Tryz.f16) (by kernel_rfl) haw
theorem d15 (p : Pk) : den FaT.T 15 [pkV p] = some (.bool (shP p)) := den_of (by kernel_rfl) (by kernel_rfl) (fn := Tryz.f15) (by kernel_rfl) (c15 p)
theorem d20 (p : Pk) (hf : p.fit) : den FaT.T 20 [pkV p] = some (.int .i64 (ckPk p)) := den_of (by kernel_rfl) (by kernel_rfl) (fn := Tryz.f20) (by kernel_rfl) (c20 p hf)
theorem d18 (p : Pk) (hf : p.fit) : den FaT.T 18 [pkV p] = some (.agg [.sl (!((p.v.map ownR).map rwV).isEmpty) 1 ((p.v.map ownR).map rwV), .int .i64 p.n, slV 3 ((p.c.map ownC).map czV)]) := den_of (by kernel_rfl) (by kernel_rfl) (fn := Tryz.f18) (by kernel_rfl) (c18 p hf)
theorem d27 (b : Bool) (l : List Int) (hl : l.length < 1000000) : den FaT.T 27 [.sl b 1 (l.map intV)] = some (.sl true 1 (l.map intV)) := den_of (by kernel_rfl) (by kernel_rfl) (fn := Tryz.f27) (by kernel_rfl) (c27 b l hl)
theorem d50 {args : List V} {v : V} (h : (lim FaT.T).call 50 args [] 0 [] = some (v, [], 0, [])) : den FaT.T 50 args = some v := den_of (by kernel_rfl) (by kernel_rfl) (fn := Tryz.f50) (by kernel_rfl) h
theorem d51 {args : List V} {v : V} (h : (lim FaT.T).call 51 args [] 0 [] = some (v, [], 0, [])) : den FaT.T 51 args = some v := den_of (by kernel_rfl) (by kernel_rfl) (fn := Tryz.f51) (by kernel_rfl) h
theorem d53 {args : List V} {v : V} (h : (lim FaT.T).call 53 args [] 0 [] = some (v, [], 0, [])) : den FaT.T 53 args = some v := den_of (by kernel_rfl) (by kernel_rfl) (fn := Tryz.f53) (by kernel_rfl) h
theorem d54 {args : List V} {v : V} (h : (lim FaT.T).call 54 args [] 0 [] = some (v, [], 0, [])) : den FaT.T 54 args = some v := den_of (by kernel_rfl) (by kernel_rfl) (fn := Tryz.f54) (by kernel_rfl) h
theorem c7a (haw : (lim FaT.T).call 16 [] [] 0 [] = some (.bool true, [], 0, [])) (p : Pk) (hsh : shP p = true) (h : ¬ ckPk p = 0) (b b2 : Bool) (vs : List Int) (ls : List (Int × Int)) (hv : vs.length ≤ 9) (hl : ls.length ≤ 9) :
    (lim FaU.T).call 7 [pkV p, .sl b 1 (vs.map intV), .sl b2 2 (ls.map ivV)] [] 0 [] = some (.bool true, [], 0, []) := by
  rw [FaU.ent7]
  have hf := fit_of hsh (by have := shP_len hsh; omega)
  have e15 := d15 p
  rw [hsh] at e15
  have e18 := d18 p hf
  have e20 := d20 p hf
  have e27 := d27 b vs (by omega)
  have e50 := fun b b2 => d50 (c50a (ownP p) (fit_own hf) b b2 vs ls (by rw [ck_own]; exact h))
  have e54 := d54 c54n
  have e53 := d53 c53n
  have e16 := d16 haw
  rw [ck_own] at e50
  have g1 : (ckPk p == 0) = false := by simpa using h
  have g2 : (ckPk p == ckPk p) = true := by simp
  have g3 : decide (9 < (vs.length : Int)) = false := by simp; omega
  have g4 : decide (9 < (ls.length : Int)) = false := by simp; omega
  generalize ckPk p = E at *
  simp only [pkV, ownP] at e15 e18 e20 e50
  cases ls with
  | nil =>
    simp only [List.map_nil] at e50
    simp -implicitDefEqProofs only [go_sem, simprocAttr, pkV, e15, e18, e20, e27, e50, e53, e54, e16, g1, g2, g3, g4]
  | cons x r =>
    have h8 := (row_ok (n := r.length) (by simp at hl; omega)).1
    simp only [List.length_cons] at g4
    simp only [List.map_cons, ivV] at e50
    simp -implicitDefEqProofs only [go_sem, simprocAttr, pkV, e15, e18, e20, e27, e50, e53, e54, e16, g1, g2, g3, g4, h8]
theorem c7b (haw : (lim FaT.T).call 16 [] [] 0 [] = some (.bool true, [], 0, [])) (p : Pk) (hsh : shP p = true) (h : ckPk p = 0) (b b2 : Bool) (vs : List Int) (ls : List (Int × Int)) (hx : ¬ fuE p vs ls = 0) (hv : vs.length ≤ 9) (hl : ls.length ≤ 9) :
    (lim FaU.T).call 7 [pkV p, .sl b 1 (vs.map intV), .sl b2 2 (ls.map ivV)] [] 0 [] = some (.bool true, [], 0, []) := by
  rw [FaU.ent7]
  have hf := fit_of hsh (by have := shP_len hsh; omega)
  have e15 := d15 p
  rw [hsh] at e15
  have e18 := d18 p hf
  have e20 := d20 p hf
  rw [h] at e20
  have e27 := d27 b vs (by omega)
  have e50 := fun b b2 => d50 (c50b (ownP p) (fit_own hf) b b2 vs ls (by omega) (by omega) (by rw [ck_own]; exact h) (by rw [fuE_own]; exact hx))
  have e51 := d51 (c51 p (ok_of h) b b2 vs ls (by omega) (by omega))
  have e54 := d54 c54n
  have e53 := d53 c53n
  have e16 := d16 haw
  rw [fuE_own] at e50
  have g1 : (fuE p vs ls == 0) = false := by simpa using hx
  have g2 : (fuE p vs ls == fuE p vs ls) = true := by simp
  have g3 : decide (9 < (vs.length : Int)) = false := by simp; omega
  have g4 : decide (9 < (ls.length : Int)) = false := by simp; omega
  generalize fuE p vs ls = E at *
  simp only [pkV, ownP] at e15 e18 e20 e50 e51
  cases ls with
  | nil =>
    simp only [List.map_nil] at e50 e51
    simp -implicitDefEqProofs only [go_sem, simprocAttr, pkV, e15, e18, e20, e27, e50, e51, e53, e54, e16, g1, g2, g3, g4]
  | cons x r =>
    have h8 := (row_ok (n := r.length) (by simp at hl; omega)).1
    simp only [List.length_cons] at g4
    simp only [List.map_cons, ivV] at e50 e51
    simp -implicitDefEqProofs only [go_sem, simprocAttr, pkV, e15, e18, e20, e27, e50, e51, e53, e54, e16, g1, g2, g3, g4, h8]
def furP (p : Pk) (vs : List Int) (ls : List (Int × Int)) : Pk := ⟨true, List.zipWith furR p.v vs, p.n, !((List.zipWith furC p.c ls).map czV).isEmpty, List.zipWith furC p.c ls⟩
theorem mem_zw {α β γ : Type} {f : α → β → γ} {c : γ} : ∀ {l : List α} {m : List β}, c ∈ List.zipWith f l m → ∃ a ∈ l, ∃ b ∈ m, c = f a b
  | [], _, h => by simp at h
  | _ :: _, [], h => by simp at h
  | a :: l, b :: m, h => by
    rw [List.zipWith_cons_cons] at h
    rcases List.mem_cons.1 h with rfl | h
    · exact ⟨a, by simp, b, by simp, rfl⟩
    · obtain ⟨a', h1, b', h2, h3⟩ := mem_zw h
      exact ⟨a', by simp [h1], b', by simp [h2], h3⟩
theorem fit_fur {p : Pk} (hf : p.fit) (ho : FaT.Ok p) (vs : List Int) (ls : List (Int × Int)) : (furP p vs ls).fit := by
  obtain ⟨f1, f2, f3, f4⟩ := hf
  have := ho.s8
  refine ⟨by simp only [furP, List.length_zipWith]; omega, fun r hr => ?_, by simp only [furP, List.length_zipWith]; omega, fun c hc => ?_⟩
  · obtain ⟨a, h1, u, h2, rfl⟩ := mem_zw hr
    have := ho.row a h1
    simp only [furR, List.length_append, List.length_cons, List.length_nil]
    omega
  · obtain ⟨a, h1, u, h2, rfl⟩ := mem_zw hc
    have := (ho.ca a h1).2.2
    have := (f4 a h1).1
    refine ⟨this, ?_⟩
    simp only [furC, List.length_append, List.length_cons, List.length_nil]
    omega
theorem sm_refl (l : List Cz) : smC l l := ⟨rfl, fun i h g => ⟨rfl, rfl, rfl⟩⟩
theorem c7c (haw : (lim FaT.T).call 16 [] [] 0 [] = some (.bool true, [], 0, [])) (p : Pk) (hsh : shP p = true) (h : ckPk p = 0) (b b2 : Bool) (vs : List Int) (ls : List (Int × Int)) (hx : fuE p vs ls = 0) (hv : vs.length ≤ 9) (hl : ls.length ≤ 9)
    (e52 : (lim FaU.T).call 52 [pkV p, .sl b 1 (vs.map intV), .sl b2 2 (ls.map ivV)] [] 0 [] = some (pkV (furP p vs ls), [], 0, [])) :
    (lim FaU.T).call 7 [pkV p, .sl b 1 (vs.map intV), .sl b2 2 (ls.map ivV)] [] 0 [] = some (.bool true, [], 0, []) := by
  rw [FaU.ent7]
  have hf := fit_of hsh (by have := shP_len hsh; omega)
  have ho := ok_of h
  have e15 := d15 p
  rw [hsh] at e15
  have e18 := d18 p hf
  have e20 := d20 p hf
  rw [h] at e20
  have e27 := d27 b vs (by omega)
  have e50 := fun b b2 => d50 (c50 (ownP p) (fit_own hf) (by rw [ck_own]; exact h) b b2 vs ls (by omega) (by omega) (by rw [fuE_own]; exact hx) (fun r hr => by obtain ⟨q, _, rfl⟩ := List.mem_map.1 hr; rfl) (fun r hr => by obtain ⟨q, _, rfl⟩ := List.mem_map.1 hr; rfl))
  have e51 := d51 (c51 p ho b b2 vs ls (by omega) (by omega))
  have e54 := d54 (c54 (furP p vs ls) (by have := (fit_fur hf ho vs ls).2.2.1; omega))
  have e53 := d53 (c53 (furP p vs ls) (furP p vs ls) (fit_fur hf ho vs ls) rfl rfl (sm_refl _))
  have e16 := d16 haw
  rw [hx] at e51
  have g3 : decide (9 < (vs.length : Int)) = false := by simp; omega
  have g4 : decide (9 < (ls.length : Int)) = false := by simp; omega
  rw [show List.zipWith furR (ownP p).v vs = List.zipWith furR p.v vs from zw_same ownR (fun _ => rfl), show List.zipWith furC (ownP p).c ls = List.zipWith furC p.c ls from zc_same] at e50
  simp only [pkV, ownP, furP] at e15 e18 e20 e50 e51 e52 e53 e54
  generalize List.zipWith furR p.v vs = Z at *
  generalize List.zipWith furC p.c ls = W at *
  cases ls with
  | nil =>
    simp only [List.map_nil] at e50 e51 e52
    simp -implicitDefEqProofs only [go_sem, simprocAttr, pkV, e15, e18, e20, e27, e50, e51, e52, e53, e54, e16, g3, g4]
  | cons x r =>
    have h8 := (row_ok (n := r.length) (by simp at hl; omega)).1
    simp only [List.length_cons] at g4
    simp only [List.map_cons, ivV] at e50 e51 e52
    simp -implicitDefEqProofs only [go_sem, simprocAttr, pkV, e15, e18, e20, e27, e50, e51, e52, e53, e54, e16, g3, g4, h8]
theorem nums : IntKind.i64.wrap 1 = 1 ∧ IntKind.i64.wrap 2 = 2 ∧ IntKind.i64.wrap 3 = 3 ∧ IntKind.i64.wrap 4 = 4 ∧ IntKind.i64.wrap 5 = 5 ∧ IntKind.i64.wrap 6 = 6 ∧ IntKind.i64.wrap 7 = 7 ∧ IntKind.i64.wrap 8 = 8 ∧ IntKind.i64.wrap 9 = 9 ∧ decide (1 < maxRow) = true ∧ decide (2 < maxRow) = true ∧ decide (3 < maxRow) = true ∧ decide (4 < maxRow) = true ∧ decide (5 < maxRow) = true ∧ decide (6 < maxRow) = true ∧ decide (7 < maxRow) = true ∧ decide (8 < maxRow) = true ∧ decide (9 < maxRow) = true := by decide
theorem row8 {α : Type} (l : List α) (h : l.length < 8) : decide (l.length + 1 < maxRow) = true ∧ decide (l.length + 1 + 1 < maxRow) = true := ⟨decide_eq_true (by unfold maxRow; omega), decide_eq_true (by unfold maxRow; omega)⟩
structure Rz where
  g : Bool
  y : Int
  r : List Int
  u : Int
structure Cx where
  n : List UInt8
  k : Int
  f : Bool
  x : Int × Int
  l : List (Int × Int)
  w : Int × Int
def Rz.i (r : Rz) : V := .sl r.g 1 (.int .i64 r.y :: r.r.map intV)
def Rz.a (r : Rz) : V := .int .i64 r.u
def Rz.o (r : Rz) : V := .sl true 1 (.int .i64 r.y :: (r.r.map intV ++ [.int .i64 r.u]))
def Cx.i (c : Cx) : V := .agg [.str c.n, .int .i64 c.k, .sl c.f 2 (.agg [.int .i64 c.x.1, .int .i64 c.x.2] :: c.l.map ivV)]
def Cx.a (c : Cx) : V := .agg [.int .i64 c.w.1, .int .i64 c.w.2]
def Cx.o (c : Cx) : V := .agg [.str c.n, .int .i64 c.k, .sl true 2 (.agg [.int .i64 c.x.1, .int .i64 c.x.2] :: (c.l.map ivV ++ [.agg [.int .i64 c.w.1, .int .i64 c.w.2]]))]
def S52 (vb cb b1 b2 : Bool) (no : Int) (R : List Rz) (C : List Cx) : Prop := (∀ r ∈ R, r.r.length < 8) → (∀ c ∈ C, c.l.length < 8) →
  (lim FaU.T).call 52 [.agg [.sl vb 1 (R.map Rz.i), .int .i64 no, .sl cb 3 (C.map Cx.i)], .sl b1 1 (R.map Rz.a), .sl b2 2 (C.map Cx.a)] [] 0 [] = some (.agg [.sl true 1 (R.map Rz.o), .int .i64 no, .sl (!C.isEmpty) 3 (C.map Cx.o)], [], 0, [])
theorem len6 {P : List Cx → Prop} {C : List Cx} (h : C.length ≤ 6) (h0 : P []) (h1 : ∀ a, P [a]) (h2 : ∀ a b, P [a, b]) (h3 : ∀ a b c, P [a, b, c]) (h4 : ∀ a b c d, P [a, b, c, d]) (h5 : ∀ a b c d e, P [a, b, c, d, e])
    (h6 : ∀ a b c d e f, P [a, b, c, d, e, f]) : P C := by
  match C, h with
  | [], _ => exact h0
  | [a], _ => exact h1 a
  | [a, b], _ => exact h2 a b
  | [a, b, c], _ => exact h3 a b c
  | [a, b, c, d], _ => exact h4 a b c d
  | [a, b, c, d, e], _ => exact h5 a b c d e
  | [a, b, c, d, e, f], _ => exact h6 a b c d e f
  | _ :: _ :: _ :: _ :: _ :: _ :: _ :: r, h => simp at h
theorem t52_1 (vb cb b1 b2 : Bool) (no : Int) (a : Rz) {C : List Cx} (hC : C.length ≤ 6) : S52 vb cb b1 b2 no [a] C := by
  refine len6 hC ?_ ?_ ?_ ?_ ?_ ?_ ?_
  all_goals
    intros
    intro hR hC
    simp only [List.forall_mem_cons] at hR hC
    simp only [List.map_cons, List.map_nil, Rz.i, Rz.a, Rz.o, Cx.i, Cx.a, Cx.o]
    rw [FaU.ent52]
    simp -implicitDefEqProofs only [go_sem, simprocAttr, FaU.ent88, FaU.ent172, nums, row8, *]
    repeat (rw [loopEq]; simp -implicitDefEqProofs only [go_sem, simprocAttr, FaU.ent88, FaU.ent172, nums, row8, *])
end Go.Den.FaU

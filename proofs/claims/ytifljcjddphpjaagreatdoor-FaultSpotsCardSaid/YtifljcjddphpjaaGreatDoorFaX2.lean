import Derived.Test.YtifljcjddphpjaaGreatDoorFaX1
import Derived.Test.YtifljcjddphpjaaGreatDoorFaPrim
import Derived.Test.YtifljcjddphpjaaGreatDoorFaShelfM
import Derived.Test.YtifljcjddphpjaaGreatDoorZT
import Derived.Test.YtifljcjddphpjaaGreatDoorFaTi
import Derived.Test.YtifljcjddphpjaaGreatDoorZS
set_option linter.all false
set_option maxHeartbeats 8000000
set_option maxRecDepth 100000
namespace Go.Den.FaT
open Go Go.Proofs Go.Den
theorem med_Z {l : List Int} (h : l ≠ []) : (sortZ l)[(l.length - 1) / 2]? = some (med l) := by
  have hp : (sortZ l).Perm l := List.mergeSort_perm l _
  have hl := hp.length_eq
  have h0 : 0 < l.length := List.length_pos_iff.2 h
  have hm : (l.length - 1) / 2 < (sortZ l).length := by omega
  have hs : (sortZ l).Pairwise (· ≤ ·) := by
    have := List.pairwise_mergeSort (le := fun x y : Int => decide (x ≤ y)) (by intro a b c; simp; omega) (by intro a b; simp; omega) l
    exact this.imp (by simp)
  have h1 := med_sorted hp hs hm
  rw [med_eq h] at h1
  rw [List.getElem?_eq_getElem hm, h1]
noncomputable def ihS : Ih := withSort 229 (lim T)
theorem ihS_ok : EvOk Tryz.prog T ihS := by
  have h := lim_ok tabOk (fnsOk prim)
  refine ⟨?_, h.yld, h.loop⟩
  intro f args H Fz S v H' Fz' S' hc G Os w xs hx hg hb
  unfold ihS withSort at hc
  simp only at hc
  cases hf : Nat.beq f 229 with
  | true =>
    rw [hf] at hc
    have hf' := Nat.eq_of_beq_eq_true hf
    subst hf'
    exact sort_ok fct229.1 (fun blk off cap zs w h1 h2 h3 => Tryz.slices_Sort_int blk off cap zs w h1 h2 h3) hc Os hx hg
  | false =>
    rw [hf] at hc
    exact h.call f args H Fz S v H' Fz' S' hc G Os w xs hx hg hb
theorem enterS {T : Tab} {ih : Ih} {f : Nat} {F : Func} {c : Code} {nt : Nat} (h : T.fn f = some F) (hb : F.body = some c) (hn : F.ntmps = nt) (args : List V) (H : Heap) (Fz : Nat) (S : Stk) :
    (stepE T ih).call f args H Fz S = need (decide (args.length ≤ nt)) (retK (runK ih T false segFuel [.code c] ⟨f, nt, H.length, params 0 args, H, Fz, S⟩)) := by
  subst hn
  simp only [stepE, h, hb, ble_nat]
  congr 1
theorem entS183 (ih : Ih) (args : List V) (H : Heap) (Fz : Nat) (S : Stk) : (stepE T ih).call 183 args H Fz S = need (decide (args.length ≤ 19)) (retK (runK ih T false segFuel [.code (.seq (r183_0) (.seq (r183_1) (.seq (r183_2) (.seq (r183_3) (.seq (r183_4) (.ret))))))] ⟨183, 19, H.length, params 0 args, H, Fz, S⟩)) :=
  enterS (F := Tryz.f183) (by kernel_rfl) (by kernel_rfl) (by kernel_rfl) args H Fz S
theorem c229S (l : List Int) (hl : l.length < 1000000) : ihS.call 229 [.ref 0] [.cells false true 3 (l.map intV)] 0 [] = some (.tup [], [.cells false true 3 ((sortZ l).map intV)], 0, []) := by
  have e0 : ihS.call 229 [.ref 0] [.cells false true 3 (l.map intV)] 0 [] = sortV [.ref 0] [.cells false true 3 (l.map intV)] 0 [] := by unfold ihS withSort; rfl
  have e2 : intsOf (l.map intV) = some l := intsOf_map l
  have e3 : Nat.blt l.length 1000000 = true := by simpa [Nat.blt_eq] using hl
  rw [e0]
  simp only [sortV, e2, e3]
  rfl
theorem s183 (b : Bool) (l : List Int) (hl : l.length < 1000000) (h0 : 0 < l.length) : (stepE T ihS).call 183 [.sl b 1 (l.map intV)] [] 0 [] = some (.int .i64 (med l), [], 0, []) := by
  rw [entS183]
  have e := c229S l hl
  have d1 : decide (0 ≤ (l.length : Int) ∧ (l.length : Int) ≤ (l.length : Int) ∧ (l.length : Int) < (maxRow : Int)) = true := decide_eq_true ⟨by omega, by omega, by unfold maxRow; omega⟩
  have d2 : List.take (List.replicate l.length (V.int IntKind.i64 0)).length (List.map intV l) ++ List.drop (min l.length (List.replicate l.length (V.int IntKind.i64 0)).length) (List.replicate l.length (V.int IntKind.i64 0)) = l.map intV := by
    rw [List.length_replicate, Nat.min_self, List.drop_of_length_le (by simp), List.append_nil, List.take_of_length_le (by simp)]
  generalize ihS = ih at *
  simp -implicitDefEqProofs only [go_sem, simprocAttr, d1, d2]
  rw [go_ref1 (id := 0) (l' := (sortZ l).map intV) fct229.1 res229 rfl rfl _ rfl rfl e]
  have hp := (List.mergeSort_perm l fun x y => decide (x ≤ y)).length_eq
  have hp : (sortZ l).length = l.length := hp
  have w1 : IntKind.i64.wrap ((l.length : Int) - 1) = ((l.length - 1 : Nat) : Int) := by rw [wrap64] <;> omega
  have g := med_Z (l := l) (by rintro rfl; cases h0)
  have w2 : IntKind.i64.wrap (((l.length - 1 : Nat) : Int).tdiv 2) = (((l.length - 1) / 2 : Nat) : Int) := by
    rw [show ((l.length - 1 : Nat) : Int).tdiv 2 = (((l.length - 1) / 2 : Nat) : Int) from rfl, wrap64] <;> omega
  have d3 : decide (0 ≤ (((l.length - 1) / 2 : Nat) : Int) ∧ (((l.length - 1) / 2 : Nat) : Int) < (l.length : Int)) = true := decide_eq_true (by omega)
  simp -implicitDefEqProofs only [go_sem, simprocAttr, hp, w1, w2, d3, g]
end Go.Den.FaT
namespace Go.Den.FaU
open Go Go.Proofs Go.Den Go.Den.FaT
def medV (args : List V) : Option V := match args with
  | [.sl _ 1 l] => (match intsOf l with
    | some zs => (match Nat.blt zs.length 1000000 && Nat.blt 0 zs.length with | true => some (.int .i64 (med zs)) | false => none)
    | none => none)
  | _ => none
def ex (f : Nat) : Option (List V → Option V) := match Nat.beq f 183 with | true => some medV | false => none
noncomputable def T : Tab := over3 FaT.T [8, 12, 56, 58, 151] [] [] ex
theorem exOk : ∀ f p args v, ex f = some p → p args = some v → ∃ ih fn, CallOk Tryz.prog FaT.T ih ∧ FaT.T.byref f = false ∧ FaT.T.prim f = none ∧ FaT.T.fn f = some fn ∧ ih.call f args [] 0 [] = some (v, [], 0, []) := by
  intro f p args v h hv
  unfold ex at h
  cases hf : Nat.beq f 183 with
  | false => rw [hf] at h; cases h
  | true =>
    rw [hf] at h
    cases h
    have hf' := Nat.eq_of_beq_eq_true hf
    subst hf'
    unfold medV at hv
    split at hv
    · rename_i b l
      cases hz : intsOf l with
      | none => rw [hz] at hv; cases hv
      | some zs =>
        rw [hz] at hv
        simp only at hv
        split at hv
        · rename_i hl
          cases hv
          simp only [Bool.and_eq_true, Nat.blt_eq] at hl
          have hl' := intsOf_inv hz
          subst hl'
          exact ⟨stepE FaT.T ihS, Tryz.f183, (step_ok tabOk (fnsOk prim) ihS_ok).call, by kernel_rfl, by kernel_rfl, by kernel_rfl, s183 b zs hl.1 hl.2⟩
        · cases hv
    · cases hv
theorem sound : CallOk Tryz.prog T (lim T) := over3_snd FaT.tabOk (FaT.fnsOk FaT.prim) (by decide) (fun f h => by
  rcases List.mem_cons.1 h with rfl | h
  · exact .inr (by kernel_rfl)
  rcases List.mem_cons.1 h with rfl | h
  · exact .inr (by kernel_rfl)
  rcases List.mem_cons.1 h with rfl | h
  · exact .inr (by kernel_rfl)
  rcases List.mem_cons.1 h with rfl | h
  · exact .inr (by kernel_rfl)
  rcases List.mem_cons.1 h with rfl | h
  · exact .inr (by kernel_rfl)
  cases h) exOk
@[go_sem] theorem tiU (t : Nat) : T.ti t = FaT.T.ti t := rfl
end Go.Den.FaU

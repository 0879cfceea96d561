import Derived.Test.YtifljcjddphpjaaGreatDoorFaPrim
import Derived.Test.YtifljcjddphpjaaGreatDoorZS
import Derived.Test.YtifljcjddphpjaaGreatDoorTie
import Derived.Test.YtifljcjddphpjaaGreatDoorCards
import Derived.LaidMore
import Derived.OpenShut
import Derived.Stop.Joined
import Derived.SevenTiedAt
set_option linter.all false
set_option maxHeartbeats 8000000
set_option maxRecDepth 100000
namespace Go.Proofs.YtifljcjddphpjaaGreatDoor
open Go Go.Proofs Go.Den Go.Den.FaT Go.ChangeShapes Go.WideShapes Go.ChangeAt Go.RowKit
def laidL : List (String × DataW Unit) := [("math/bits.deBruijn32tab", Rows.laid_math_bits_deBruijn32tab), ("math/bits.deBruijn64tab", Rows.laid_math_bits_deBruijn64tab), ("internal/strconv.uint64pow10", Rows.laid_internal_strconv_uint64pow10), ("combiner/fault.turns", Rows.laid_combiner_fault_turns)]
theorem own : ownKnob Tryz.prog.godebug = none := by kernel_rfl
theorem laidOut : laidOutB Tryz.prog = true := by kernel_rfl
theorem gTurns : Tryz.prog.globalNamed "combiner/fault.turns" = some 0 := by kernel_rfl
theorem tTurns : (Tryz.prog.globals[0]?).map (·.type) = some 231 := by kernel_rfl
theorem tPow : (Tryz.prog.globals[3]?).map (·.type) = some 362 := by kernel_rfl
theorem pair_of {W : World} {m : Nat} {c c' : Value} {x : DataW (List UInt8) × List MemPlace} {name r : List UInt8} {b : UInt8} {f0 : FuncId} (h : DataW.trod (funcToken Tryz.prog) Tryz.prog W 0 (fun _ => true) true m 230 [c, c'] = some x)
    (hx : x.1 = .agg [.lit (.string name), .held (b :: r)]) (hone : ((List.range Tryz.prog.funcs.size).filter fun f => (Tryz.prog.funcs[f]?).any (·.name.toUTF8.data.toList == b :: r)) = [f0]) :
    ∃ s : ByteArray, c = .string s ∧ s.data.toList = name ∧ c' = .func (.func f0) #[] #[] := by
  obtain ⟨y0, y1, n, rfl, _, h0, h1⟩ := trod_struct2 Tryz.underlying230 h
  simp only [DataW.agg.injEq, List.cons.injEq, and_true] at hx
  have c9 : Tryz.prog.cellsOf 9 = 1 := by kernel_rfl
  have c228 : Tryz.prog.cellsOf 228 = 1 := by kernel_rfl
  simp only [c9, c228, List.drop_zero, List.take_succ_cons, List.take_zero, List.drop_succ_cons] at h0 h1
  obtain ⟨s, e1, e2, _⟩ := DataW.trod_string Tryz.underlying9 h0
  obtain ⟨z1, z2⟩ := y1
  obtain ⟨hx0, hx1⟩ := hx
  simp only at hx1
  subst hx1
  have e3 := Go.func_of_trod Tryz.underlying228 hone h1
  refine ⟨s, by simpa using e1, ?_, e3⟩
  rw [e2] at hx0
  simpa using hx0

theorem of_laid {W : World} (h : laidMetH Tryz.prog laidL W) : ∀ g cs, T.glob g = some cs → ∃ c, (G0 W).M g = some (.cells c) ∧ RelL (G0 W) cs c ∧ pureL cs = true ∧ ∀ u ∈ cs, isCell u = true := by
  intro g cs hg
  have hg : lookup g globs = some cs := hg
  simp only [globs, lookup_cons] at hg
  split at hg
  · rename_i e
    subst e
    have hg := Option.some.inj hg
    subst hg
    obtain ⟨g, t, cs, fuel, p, hg, ht, hv, hd⟩ := h.funcs (show ("combiner/fault.turns", _) ∈ laidL from by unfold laidL Rows.laid_combiner_fault_turns; exact List.mem_cons_of_mem _ (List.mem_cons_of_mem _ (List.mem_cons_of_mem _ (List.mem_cons_self))))
    obtain rfl := Option.some.inj (gTurns.symm.trans hg)
    obtain rfl := Option.some.inj (tTurns.symm.trans ht)
    obtain ⟨xs, m, rfl, hx, hlen, hxs, hel⟩ := DataW.trod_array Tryz.underlying231 hd
    have c231 : Tryz.prog.cellsOf 231 = 8 := by kernel_rfl
    have c230 : Tryz.prog.cellsOf 230 = 2 := by kernel_rfl
    rw [c231] at hlen
    rw [c230] at hel
    refine ⟨cs, G0_var gTurns hv, ?_, by kernel_rfl, fun u hu => ?_⟩
    · rw [relL_iff]
      have hx1 := congrArg Prod.fst hx
      generalize cs.toList = l at hlen hel
      match l, hlen, xs, hxs with
      | [a0, b0, a1, b1, a2, b2, a3, b3], _, [x0, x1, x2, x3], _ =>
        simp only [DataW.funcsOut, DataW.funcsOutAll, List.map_cons, List.map_nil, DataW.agg.injEq, List.cons.injEq, and_true, beq_self_eq_true, if_true] at hx1
        obtain ⟨q0, q1, q2, q3⟩ := hx1
        obtain ⟨s0, rfl, e0, rfl⟩ := pair_of (hel 0 (by decide)) q0.symm (f0 := 327) (by kernel_rfl)
        obtain ⟨s1, rfl, e1, rfl⟩ := pair_of (hel 1 (by decide)) q1.symm (f0 := 328) (by kernel_rfl)
        obtain ⟨s2, rfl, e2, rfl⟩ := pair_of (hel 2 (by decide)) q2.symm (f0 := 329) (by kernel_rfl)
        obtain ⟨s3, rfl, e3, rfl⟩ := pair_of (hel 3 (by decide)) q3.symm (f0 := 330) (by kernel_rfl)
        have fnr : ∀ f, Rel (G0 W) (.fn f []) (.func (.func f) #[] #[]) := fun f => .fn f [] #[] rfl (fun i v x hv => by simp at hv)
        refine ⟨rfl, fun i v x hi hx => ?_⟩
        have hi8 : i < 8 := (List.getElem?_eq_some_iff.1 hx).1
        match i, hi8 with
        | 0, _ => cases hi; cases hx; exact .str _ _ e0
        | 1, _ => cases hi; cases hx; exact fnr _
        | 2, _ => cases hi; cases hx; exact .str _ _ e1
        | 3, _ => cases hi; cases hx; exact fnr _
        | 4, _ => cases hi; cases hx; exact .str _ _ e2
        | 5, _ => cases hi; cases hx; exact fnr _
        | 6, _ => cases hi; cases hx; exact .str _ _ e3
        | 7, _ => cases hi; cases hx; exact fnr _
    · have : (turns.all fun u => isCell u) = true := by kernel_rfl
      exact List.all_eq_true.1 this u hu
  · split at hg
    · rename_i e
      subst e
      have hg := Option.some.inj hg
      subst hg
      have hp : laidMet Tryz.prog (laidL.filter fun x => x.2.handleName?.isNone) W := by
        have h1 := h
        unfold laidMetH at h1
        split at h1
        · rename_i e
          have : (laidL.filter fun x => x.2.handleName?.isSome).length = 1 := by kernel_rfl
          rw [e] at this; cases this
        · exact h1.1
      have htab : Lib.TabIs Tryz.prog W "internal/strconv.uint64pow10" .u64 Lib.pow10Tab :=
        tabIs_of_mem name3 tPow Tryz.underlying362 Tryz.underlying329 (by kernel_rfl) (by kernel_rfl) hp
          (by
            have : ("internal/strconv.uint64pow10", (Lib.tabData .u64 Lib.pow10Tab : DataW Unit)) = ("internal/strconv.uint64pow10", Rows.laid_internal_strconv_uint64pow10) := by kernel_rfl
            rw [this]
            exact List.mem_filter.2 ⟨List.mem_cons_of_mem _ (List.mem_cons_of_mem _ (List.mem_cons_self)), by kernel_rfl⟩)
      refine ⟨_, G0_var name3 htab, ?_, by kernel_rfl, fun u hu => ?_⟩
      · rw [show pow10s = Lib.pow10Tab.map fun z => V.int .u64 z from by kernel_rfl, relL_iff]
        refine ⟨by simp, fun i v x hi hx => ?_⟩
        rw [List.getElem?_map] at hi
        simp only [List.getElem?_map] at hx
        cases hz : Lib.pow10Tab[i]? with
        | none => rw [hz] at hi; cases hi
        | some z => rw [hz] at hi hx; cases hi; cases hx; exact .int _ _
      · have : (pow10s.all fun u => isCell u) = true := by kernel_rfl
        exact List.all_eq_true.1 this u hu
    · cases hg

theorem cl3 {n : Nat} {vs : List V} (h : Cl Tryz.prog n 3 vs) : ∃ i, vs = [.int .i64 i] ∧ (Lit.int .i64 i).wf = true := by
  cases n with
  | zero => cases h
  | succ n => unfold Cl at h; rw [Tryz.underlying3] at h; exact h
theorem cl100 {n : Nat} {vs : List V} (h : Cl Tryz.prog n 100 vs) : ∃ x y, vs = [.int .i64 x, .int .i64 y] := by
  cases n with
  | zero => cases h
  | succ n =>
    unfold Cl at h
    rw [Tryz.underlying100] at h
    obtain ⟨ps, rfl, hl, hp⟩ := h
    match ps, hl with
    | [p, q], _ =>
      obtain ⟨x, rfl, _⟩ := cl3 (hp 0 _ p rfl rfl)
      obtain ⟨y, rfl, _⟩ := cl3 (hp 1 _ q rfl rfl)
      exact ⟨x, y, rfl⟩
theorem mk100 (us : List V) : mk Tryz.prog 100 us = .agg us := by unfold mk; rw [Tryz.underlying100]
theorem places {n : Nat} : ∀ {l : List V}, (∀ u ∈ l, ∃ us, Cl Tryz.prog n 100 us ∧ u = mk Tryz.prog 100 us) → ∃ ps : List (Int × Int), l = ps.map fun p => .agg [.int .i64 p.1, .int .i64 p.2]
  | [], _ => ⟨[], rfl⟩
  | u :: l, h => by
    obtain ⟨ps, rfl⟩ := places (l := l) fun v hv => h v (List.mem_cons_of_mem _ hv)
    obtain ⟨us, h1, rfl⟩ := h u (List.mem_cons_self)
    obtain ⟨x, y, rfl⟩ := cl100 h1
    exact ⟨(x, y) :: ps, by rw [mk100]; rfl⟩
theorem cl48 {n : Nat} {vs : List V} (h : Cl Tryz.prog n 48 vs) : ∃ b, ∃ ps : List (Int × Int), vs = [.sl b 2 (ps.map fun p => .agg [.int .i64 p.1, .int .i64 p.2])] := by
  cases n with
  | zero => cases h
  | succ n =>
    unfold Cl at h
    rw [Tryz.underlying48] at h
    obtain ⟨b, l, rfl, _, _, hl⟩ := h
    obtain ⟨ps, rfl⟩ := places hl
    have : Tryz.prog.cellsOf 100 = 2 := by kernel_rfl
    exact ⟨b, ps, by rw [this]⟩
end Go.Proofs.YtifljcjddphpjaaGreatDoor

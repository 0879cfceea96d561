import Derived.Test.YtifljcjddphpjaaGreatDoorZP
import Derived.LaidHandle
import Derived.Lib.LaidTab
import Derived.Test.YtifljcjddphpjaaGreatDoorZM
import Derived.KernelRfl
set_option linter.all false
namespace Go.Den
open Go Go.ChangeShapes Go.RowKit
set_option linter.unusedVariables false
section
variable {H : Type} {enc : TypeId × Value → H} {P : Program} {W W' : World}

theorem LaidVars_get : ∀ {l : List (String × DataW Unit)} {ps : List MemPlace}, DataW.LaidVars P W l ps → ∀ {n d}, (n, d) ∈ l →
    ∃ g t cs fuel p, P.globalNamed n = some g ∧ (P.globals[g]?).map (·.type) = some t ∧ W.var? P n = some cs ∧ DataW.trod (fun _ => ()) P W 0 (fun _ => true) false fuel t cs.toList = some (d, p)
  | [], _, _, _, _, h => by cases h
  | (m, e) :: r, ps, h, n, d, hm => by
    obtain ⟨g, t, cs, fuel, p, q, h1, h2, h3, h4, h5, _⟩ := h
    rcases List.mem_cons.1 hm with e | hm
    · cases e; exact ⟨g, t, cs, fuel, p, h1, h2, h3, h4⟩
    · exact LaidVars_get h5 hm

theorem tabIs_of_mem {l : List (String × DataW Unit)} {name : String} {k : IntKind} {zs : List Int} {g : Nat} {t e : TypeId} {n : Nat}
    (hg : P.globalNamed name = some g) (hty : (P.globals[g]?).map (·.type) = some t) (ht : P.underlying t = some (.array n e)) (he : P.underlying e = some (.int k)) (hce : P.cellsOf e = 1) (hct : P.cellsOf t = n)
    (h : laidMet P l W) (hm : (name, Lib.tabData k zs) ∈ l) : Lib.TabIs P W name k zs := by
  obtain ⟨ps, h, _⟩ := h
  obtain ⟨g', t', cs, fuel, p, hg', ht', hvar, hd⟩ := LaidVars_get h hm
  obtain rfl := Option.some.inj (hg.symm.trans hg')
  obtain rfl := Option.some.inj (hty.symm.trans ht')
  unfold Lib.TabIs
  rw [hvar, ← Lib.cells_of_tab ht he hce hct hd]

theorem G0_var {name : String} {g : Nat} {cs : Array Value} (hn : P.globalNamed name = some g) (h : W.var? P name = some cs) : (G0 W).M g = some cs := by
  unfold World.var? at h
  rw [hn, Option.bind_some] at h
  unfold G0
  dsimp only
  split at h
  · rename_i h1; rw [h1]; exact h
  · cases h

/-- one argument -/
theorem arg_rel {n : Nat} {t : TypeId} {v : Value} {d : DataW H} {p : List MemPlace} {base : Nat} {sp : Nat → Bool} {held : Bool} (hk : okT P n t = true) (hv : Value.okWide P W .any base t v) (h : DataW.Trod enc P W 0 sp held t v d p) :
    ∃ vs, Cl P n t vs ∧ Rel (G0 W) (mk P t vs) v ∧ pureV (mk P t vs) = true := by
  obtain ⟨fuel, h⟩ := h
  obtain ⟨vs, ho, hc⟩ := cl_of_trod n fuel t _ _ hk h
  have hmk := mk_cells hc ho.cell
  refine ⟨vs, hc, ?_, hmk.2.2 ho.pure⟩
  cases n with
  | zero => cases hk
  | succ n =>
    unfold Value.okWide at hv
    unfold Cl at hc
    have one : ∀ u, vs = [u] → v.cells = #[v] → Rel (G0 W) (vs.headD .undef) v := by
      rintro u rfl hcv
      have := ho.rel
      rw [hcv] at this
      exact this.2 0 u v rfl rfl
    unfold mk
    split at hc
    · rename_i hu
      simp only [hu] at hv ⊢
      obtain ⟨b, hb⟩ := hc
      refine one _ hb ?_
      cases v <;> first | rfl | (simp [Cell.okWide, Cell.ok, hu] at hv)
    · rename_i hu
      simp only [hu] at hv ⊢
      obtain ⟨b, hb, _⟩ := hc
      refine one _ hb ?_
      cases v <;> first | rfl | (simp [Cell.okWide, Cell.ok, hu] at hv)
    · rename_i hu
      simp only [hu] at hv ⊢
      obtain ⟨b, hb, _⟩ := hc
      refine one _ hb ?_
      cases v <;> first | rfl | (simp [Cell.okWide, Cell.ok, hu] at hv)
    · rename_i hu
      simp only [hu] at hv ⊢
      obtain ⟨b, l, hb, _⟩ := hc
      refine one _ hb ?_
      cases v <;> first | rfl | (simp [Cell.okWide, Cell.ok, hu] at hv)
    · rename_i hu
      simp only [hu] at hv ⊢
      obtain ⟨cs, rfl, _, _⟩ := hv
      exact .agg _ _ (relL_iff.2 ho.rel).1 (relL_iff.2 ho.rel).2
    · rename_i hu
      simp only [hu] at hv ⊢
      obtain ⟨cs, rfl, _, _⟩ := hv
      exact .agg _ _ (relL_iff.2 ho.rel).1 (relL_iff.2 ho.rel).2
    · cases hc

/-- the arguments -/
theorem args_rel {n : Nat} {base : Nat} {sp : Nat → Bool} {held : Bool} : ∀ {ts : List TypeId} {vs : List Value} {ds : List (DataW H)} {ps : List MemPlace}, (ts.all fun t => okT P n t) = true → DataW.TrodAll enc P W 0 sp held ts vs ds ps →
    (∀ (j : Nat) t v, ts[j]? = some t → vs[j]? = some v → Value.okWide P W .any base t v) →
    ∃ as : List V, LRel (G0 W) as vs ∧ as.length = ts.length ∧ ∀ (i : Nat) t a, ts[i]? = some t → as[i]? = some a → ∃ us, Cl P n t us ∧ a = mk P t us
  | [], vs, ds, ps, _, h, _ => by
    obtain ⟨rfl, rfl, rfl⟩ := trodAll_nil h
    exact ⟨[], ⟨rfl, fun i v x h => by simp at h⟩, rfl, fun i t a h => by simp at h⟩
  | t :: ts, vs, ds, ps, hk, h, hv => by
    obtain ⟨v, vs1, d, ds1, a, b, rfl, rfl, rfl, h1, h2⟩ := trodAll_cons h
    simp only [List.all_cons, Bool.and_eq_true] at hk
    obtain ⟨us, c1, c2, _⟩ := arg_rel hk.1 (hv 0 t v rfl rfl) h1
    obtain ⟨as, r1, r2, r3⟩ := args_rel hk.2 h2 (fun j t v hj hj' => hv (j + 1) t v (by simpa using hj) (by simpa using hj'))
    refine ⟨mk P t us :: as, ⟨by simp [r1.1], fun i v x hi hx => ?_⟩, by simp [r2], fun i t' a' hi ha => ?_⟩
    · cases i with
      | zero => simp at hi hx; subst hi hx; exact c2
      | succ i => exact r1.2 i v x (by simpa using hi) (by simpa using hx)
    · cases i with
      | zero => simp at hi ha; subst hi ha; exact ⟨us, c1, rfl⟩
      | succ i => exact r3 i t' a' (by simpa using hi) (by simpa using ha)

/-- what a call of the evaluator that answers true says of the model's -/
theorem calls_true {T : Tab} (hS : CallOk P T (lim T)) {f : FuncId} (hb : T.byref f = false) {as : List V} (hl : (lim T).call f as [] 0 [] = some (.bool true, [], 0, [])) {xs : Array Value} (hx : LRel (G0 W) as xs.toList)
    (hg : ∀ g cs, T.glob g = some cs → ∃ c, (G0 W).M g = some c ∧ RelL (G0 W) cs c ∧ pureL cs = true ∧ ∀ u ∈ cs, isCell u = true) :
    Calls P f xs W fun e W' => e = .returned (.bool true) ∧ W.heap.size ≤ W'.heap.size ∧ (∀ b, b < W.heap.size → W'.heap[b]? = W.heap[b]?) ∧ Oo W W' := by
  refine callsIn_wide.1 ((hS f as [] 0 [] _ [] 0 [] hl (G0 W) [] W xs ⟨hx.1, fun i v y hv hy => (hx.2 i v y hv hy).toT⟩ (good0 hg) (fun _ => ⟨rfl, rfl⟩)).mono ?_)
  rintro e w' ⟨y, G', Os', rfl, hr, hs, _, _⟩
  cases hr
  exact ⟨rfl, hs.size, fun b hb => hs.keep b hb (fun ⟨id, g, hid, _⟩ => by cases hid) frn_nil id, hs.oo⟩

theorem trodAll_stays (hl : laidOutB P = true) (hk : ∀ b, b < W.heap.size → W'.heap[b]? = W.heap[b]?) : ∀ {ts : List TypeId} {vs : List Value} {ds : List (DataW H)} {ps : List MemPlace}, (ts.all fun t => P.readableRec t && decide (t < P.types.size)) = true →
    DataW.TrodAll enc P W 0 (fun _ => true) true ts vs ds ps → (∀ x ∈ ps, x.block < W.heap.size) → DataW.TrodAll enc P W' 0 (fun b => decide (b < W.heap.size)) true ts vs ds ps
  | [], vs, ds, ps, _, h, _ => by
    obtain ⟨rfl, rfl, rfl⟩ := trodAll_nil h
    rfl
  | t :: ts, vs, ds, ps, ht, h, hlt => by
    obtain ⟨v, vs1, d, ds1, a, b, rfl, rfl, rfl, h1, h2⟩ := trodAll_cons h
    simp only [List.all_cons, Bool.and_eq_true, decide_eq_true_eq] at ht
    refine ⟨a, b, ?_, trodAll_stays hl hk ht.2 h2 (fun x hx => hlt x (List.mem_append_right _ hx)), rfl⟩
    refine WideElems.Trod_stays hl ht.1.1 ht.1.2 h1 (fun x hx => ?_) (fun x hx => by simpa using hlt x (List.mem_append_left _ hx))
    have := hlt x (List.mem_append_left _ hx)
    cases x with
    | cell b o => exact World.cell?_of_block (w := W) (hk b this)
    | map b => exact hk b this

/-- the row's end: true, and what came in reads as it did -/
theorem law_post {f : Func} {s : ChangeSpec} {args : Array Value} {ds gs : List (DataW H)} {before : List MemPlace} {tb : TypeId} (hvars : s.vars = []) (hres : f.resultTypes = #[tb]) (htb : P.underlying tb = some .bool)
    (hfn : s.fn H (ds ++ gs) = { results := [.lit (.bool true)], args := ds }) (hl : laidOutB P = true) (hpar : (f.params.toList.all fun t => P.readableRec t && decide (t < P.types.size)) = true)
    (hW : DataW.Whole enc P f.params.toList s.vars false W args.toList ds gs before) (hs : W.heap.size ≤ W'.heap.size) (hk : ∀ b, b < W.heap.size → W'.heap[b]? = W.heap[b]?) (ho : Oo W W') :
    s.post enc P f false true false false W args (.bool true) W' := by
  have hlt := hW.lt
  have hW0 := hW
  obtain ⟨p, q, hA, hV, rfl, hfz, hnd⟩ := hW0
  rw [hvars] at hV
  obtain ⟨rfl, rfl⟩ := trodVars_none hV
  refine ⟨ds, [], p ++ [], [], p, [], hW, ?_, ?_, ?_, ⟨ho.1, ho.2, fun i hi => ?_⟩, fun h => by cases h⟩
  · rw [hfn, hres]
    exact trodAll_mk1 (shut_bool htb _)
  · rw [hfn]
    exact trodAll_stays hl hk hpar hA (fun x hx => hlt x (List.mem_append_left _ hx))
  · rw [hfn, hvars]; rfl
  · rw [hk i hi]
    split <;> simp_all
end
end Go.Den

namespace Go.Den
open Go
/-! closed calls, settled by evaluation, one after the other -/
def eqbL (eq : V → V → Bool) : List V → List V → Bool
  | [], [] => true
  | a :: as, b :: bs => (match eq a b with | true => eqbL eq as bs | false => false)
  | _, _ => false
def eqb : Nat → V → V → Bool
  | 0, _, _ => false
  | n + 1, a, b => match a, b with
    | .bool a, .bool b => (match a, b with | true, true => true | false, false => true | _, _ => false)
    | .int .i64 a, .int .i64 b => a == b
    | .flt .f64 a, .flt .f64 b => Nat.beq a b
    | .str a, .str b => a == b
    | .nilp, .nilp => true
    | .nilf, .nilf => true
    | .sl a w l, .sl b w' l' => (match a, b with
      | true, true => (match Nat.beq w w' with | true => eqbL (eqb n) l l' | false => false)
      | false, false => (match Nat.beq w w' with | true => eqbL (eqb n) l l' | false => false)
      | _, _ => false)
    | .agg l, .agg l' => eqbL (eqb n) l l'
    | _, _ => false
theorem eqbL_eq {eq : V → V → Bool} (h : ∀ a b, eq a b = true → a = b) : ∀ a b, eqbL eq a b = true → a = b
  | [], [], _ => rfl
  | a :: as, b :: bs, h' => by
    simp only [eqbL] at h'
    split at h'
    · rename_i h1
      rw [h _ _ h1, eqbL_eq h as bs h']
    · cases h'
  | [], _ :: _, h' => by simp [eqbL] at h'
  | _ :: _, [], h' => by simp [eqbL] at h'
theorem eqb_eq : ∀ n a b, eqb n a b = true → a = b := by
  intro n
  induction n with
  | zero => intro a b h; simp [eqb] at h
  | succ n ih =>
    intro a b h
    unfold eqb at h
    split at h
    · split at h <;> simp_all
    · simpa using h
    · simpa using h
    · simpa using h
    · rfl
    · rfl
    · split at h
      · split at h
        · rename_i h1; rw [eqbL_eq ih _ _ h, Nat.eq_of_beq_eq_true h1]
        · cases h
      · split at h
        · rename_i h1; rw [eqbL_eq ih _ _ h, Nat.eq_of_beq_eq_true h1]
        · cases h
      · cases h
    · rw [eqbL_eq ih _ _ h]
    · cases h
abbrev Memo := List (FuncId × List V × V)
def memoGet : Memo → FuncId → List V → Option V
  | [], _, _ => none
  | (g, as, v) :: m, f, args => match Nat.beq g f with
    | true => (match eqbL (eqb 12) as args with | true => some v | false => memoGet m f args)
    | false => memoGet m f args
def evM (T : Tab) (M : Memo) : Nat → Ih
  | 0 => { loop := fun _ _ _ => none, call := fun _ _ _ _ _ => none, yld := fun _ _ _ => none }
  | n + 1 =>
    { loop := (stepE T (evM T M n)).loop
      yld := (stepE T (evM T M n)).yld
      call := fun f args H Fz S => match H, Fz, S with
        | [], 0, [] => (match memoGet M f args with
          | some v => some (v, [], 0, [])
          | none => (stepE T (evM T M n)).call f args [] 0 [])
        | H, Fz, S => (stepE T (evM T M n)).call f args H Fz S }
def MemoOk (T : Tab) (M : Memo) : Prop := ∀ e ∈ M, (lim T).call e.1 e.2.1 [] 0 [] = some (e.2.2, [], 0, [])
theorem MemoOk.nil (T : Tab) : MemoOk T [] := fun _ h => absurd h (List.not_mem_nil)
theorem MemoOk.cons {T : Tab} {M : Memo} {f args v} (h : MemoOk T M) (h' : (lim T).call f args [] 0 [] = some (v, [], 0, [])) : MemoOk T ((f, args, v) :: M) := by
  intro e he
  rcases List.mem_cons.1 he with rfl | he
  · exact h'
  · exact h e he
theorem memoGet_ok {T : Tab} : ∀ {M : Memo}, MemoOk T M → ∀ {f args v}, memoGet M f args = some v → (lim T).call f args [] 0 [] = some (v, [], 0, [])
  | [], _, f, args, v, h => by simp [memoGet] at h
  | (g, as, u) :: m, hM, f, args, v, h => by
    have hm : MemoOk T m := fun e he => hM e (List.mem_cons_of_mem _ he)
    unfold memoGet at h
    split at h
    · rename_i h1
      split at h
      · rename_i h2
        have h3 := hM (g, as, u) (List.mem_cons_self)
        have := Nat.eq_of_beq_eq_true h1
        have e := eqbL_eq (eqb_eq 12) _ _ h2
        cases h
        subst this e
        exact h3
      · exact memoGet_ok hm h
    · exact memoGet_ok hm h
theorem evM_le {T : Tab} {M : Memo} (hM : MemoOk T M) : ∀ n, (evM T M n).le (lim T) := by
  intro n
  induction n with
  | zero => exact ⟨fun f args H Fz S r h => by simp [evM] at h, fun rnd items st r h => by simp [evM] at h, fun d args S r h => by simp [evM] at h⟩
  | succ n ih =>
    have hs : (stepE T (evM T M n)).le (lim T) := ((stepE_apx T ih.apx).le).trans (step_le_lim T)
    refine ⟨fun f args H Fz S r h => ?_, hs.loop, hs.yld⟩
    simp only [evM] at h
    split at h
    · split at h
      · rename_i h1
        cases h
        exact memoGet_ok hM h1
      · exact hs.call _ _ _ _ _ _ h
    · exact hs.call _ _ _ _ _ _ h
theorem memo_call {T : Tab} {M : Memo} (hM : MemoOk T M) (n : Nat) {f args r} (h : (evM T M n).call f args [] 0 [] = some r) : (lim T).call f args [] 0 [] = some r := (evM_le hM n).call _ _ _ _ _ _ h
end Go.Den

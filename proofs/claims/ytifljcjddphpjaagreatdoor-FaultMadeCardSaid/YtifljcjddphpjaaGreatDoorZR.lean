import Derived.Test.YtifljcjddphpjaaGreatDoorZQ
import Derived.LaidHandle
import Derived.Lib.LaidTab
import Derived.Test.YtifljcjddphpjaaGreatDoorZO
import Derived.Test.YtifljcjddphpjaaGreatDoorZN
import Derived.KernelRfl
set_option linter.all false
set_option maxHeartbeats 8000000
set_option maxRecDepth 100000
noncomputable section
namespace Go.Den
open Go Go.ChangeShapes Go.RowKit
section
variable {H : Type} {enc : TypeId × Value → H} {P : Program} {W W' : World}

theorem LaidVars_get : ∀ {l : List (String × DataW Unit)} {ps : List MemPlace}, DataW.LaidVars P W l ps → ∀ {n d}, (n, d) ∈ l →
    ∃ g t cs fuel p, P.globalNamed n = some g ∧ (P.globals[g]?).map (·.type) = some t ∧ W.var? P n = some cs ∧ DataW.trod (fun _ => ()) P W 0 (fun _ => true) false fuel t cs.toList = some (d, p)
  | [], _, _, _, _, h => by cases h
  | (m, e) :: r, ps, h, n, d, hm => by
    obtain ⟨g, t, cs, fuel, p, q, h1, h2, h3, h4, h5, _⟩ := h
    rcases List.mem_cons.1 hm with e | hm
    · cases e; exact ⟨g, t, cs, fuel, p, h1, h2, h3, h4⟩
    · exact LaidVars_get h5 hm

theorem tabIs_of_mem {l : List (String × DataW Unit)} {name : String} {k : IntKind} {zs : List Int} {g : Nat} {t e : TypeId} {n : Nat}
    (hg : P.globalNamed name = some g) (hty : (P.globals[g]?).map (·.type) = some t) (ht : P.underlying t = some (.array n e)) (he : P.underlying e = some (.int k)) (hce : P.cellsOf e = 1) (hct : P.cellsOf t = n)
    (h : laidMet P l W) (hm : (name, Lib.tabData k zs) ∈ l) : Lib.TabIs P W name k zs := by
  obtain ⟨ps, h, _⟩ := h
  obtain ⟨g', t', cs, fuel, p, hg', ht', hvar, hd⟩ := LaidVars_get h hm
  obtain rfl := Option.some.inj (hg.symm.trans hg')
  obtain rfl := Option.some.inj (hty.symm.trans ht')
  unfold Lib.TabIs
  rw [hvar, ← Lib.cells_of_tab ht he hce hct hd]

theorem G0_var {name : String} {g : Nat} {cs : Array Value} (hn : P.globalNamed name = some g) (h : W.var? P name = some cs) : (G0 W).M g = some cs := by
  unfold World.var? at h
  rw [hn, Option.bind_some] at h
  unfold G0
  dsimp only
  split at h
  · rename_i h1; rw [h1]; exact h
  · cases h

theorem arg_rel {n : Nat} {t : TypeId} {v : Value} {d : DataW H} {p : List MemPlace} {base : Nat} {sp : Nat → Bool} {held : Bool} (hk : okT P n t = true) (hv : Value.okWide P W .any base t v) (h : DataW.Trod enc P W 0 sp held t v d p) :
    ∃ vs, Cl P n t vs ∧ Rel (G0 W) (mk P t vs) v ∧ pureV (mk P t vs) = true := by
  obtain ⟨fuel, h⟩ := h
  obtain ⟨vs, ho, hc⟩ := cl_of_trod n fuel t _ _ hk h
  have hmk := mk_cells hc ho.cell
  refine ⟨vs, hc, ?_, hmk.2.2 ho.pure⟩
  cases n with
  | zero => cases hk
  | succ n =>
    unfold Value.okWide at hv
    unfold Cl at hc
    have one : ∀ u, vs = [u] → v.cells = #[v] → Rel (G0 W) (vs.headD .undef) v := by
      rintro u rfl hcv
      have := ho.rel
      rw [hcv] at this
      exact this.2 0 u v rfl rfl
    unfold mk
    split at hc
    · rename_i hu
      simp only [hu] at hv ⊢
      obtain ⟨b, hb⟩ := hc
      refine one _ hb ?_
      cases v <;> first | rfl | (simp [Cell.okWide, Cell.ok, hu] at hv)
    · rename_i hu
      simp only [hu] at hv ⊢
      obtain ⟨b, hb, _⟩ := hc
      refine one _ hb ?_
      cases v <;> first | rfl | (simp [Cell.okWide, Cell.ok, hu] at hv)
    · rename_i hu
      simp only [hu] at hv ⊢
      obtain ⟨b, hb, _⟩ := hc
      refine one _ hb ?_
      cases v <;> first | rfl | (simp [Cell.okWide, Cell.ok, hu] at hv)
    · rename_i hu
      simp only [hu] at hv ⊢
      obtain ⟨b, l, hb, _⟩ := hc
      refine one _ hb ?_
      cases v <;> first | rfl | (simp [Cell.okWide, Cell.ok, hu] at hv)
    · rename_i hu
      simp only [hu] at hv ⊢
      obtain ⟨cs, rfl, _, _⟩ := hv
      exact .agg _ _ (relL_iff.2 ho.rel).1 (relL_iff.2 ho.rel).2
    · rename_i hu
      simp only [hu] at hv ⊢
      obtain ⟨cs, rfl, _, _⟩ := hv
      exact .agg _ _ (relL_iff.2 ho.rel).1 (relL_iff.2 ho.rel).2
    · cases hc

theorem args_rel {n : Nat} {base : Nat} {sp : Nat → Bool} {held : Bool} : ∀ {ts : List TypeId} {vs : List Value} {ds : List (DataW H)} {ps : List MemPlace}, (ts.all fun t => okT P n t) = true → DataW.TrodAll enc P W 0 sp held ts vs ds ps →
    (∀ (j : Nat) t v, ts[j]? = some t → vs[j]? = some v → Value.okWide P W .any base t v) →
    ∃ as : List V, LRel (G0 W) as vs ∧ as.length = ts.length ∧ ∀ (i : Nat) t a, ts[i]? = some t → as[i]? = some a → ∃ us, Cl P n t us ∧ a = mk P t us
  | [], vs, ds, ps, _, h, _ => by
    obtain ⟨rfl, rfl, rfl⟩ := trodAll_nil h
    exact ⟨[], ⟨rfl, fun i v x h => by simp at h⟩, rfl, fun i t a h => by simp at h⟩
  | t :: ts, vs, ds, ps, hk, h, hv => by
    obtain ⟨v, vs1, d, ds1, a, b, rfl, rfl, rfl, h1, h2⟩ := trodAll_cons h
    simp only [List.all_cons, Bool.and_eq_true] at hk
    obtain ⟨us, c1, c2, _⟩ := arg_rel hk.1 (hv 0 t v rfl rfl) h1
    obtain ⟨as, r1, r2, r3⟩ := args_rel hk.2 h2 (fun j t v hj hj' => hv (j + 1) t v (by simpa using hj) (by simpa using hj'))
    refine ⟨mk P t us :: as, ⟨by simp [r1.1], fun i v x hi hx => ?_⟩, by simp [r2], fun i t' a' hi ha => ?_⟩
    · cases i with
      | zero => simp at hi hx; subst hi hx; exact c2
      | succ i => exact r1.2 i v x (by simpa using hi) (by simpa using hx)
    · cases i with
      | zero => simp at hi ha; subst hi ha; exact ⟨us, c1, rfl⟩
      | succ i => exact r3 i t' a' (by simpa using hi) (by simpa using ha)

theorem calls_true {T : Tab} (hS : CallOk P T (lim T)) {f : FuncId} (hb : T.byref f = false) {as : List V} (hl : (lim T).call f as [] 0 [] = some (.bool true, [], 0, [])) {xs : Array Value} (hx : LRel (G0 W) as xs.toList)
    (hg : ∀ g cs, T.glob g = some cs → ∃ c, (G0 W).M g = some c ∧ RelL (G0 W) cs c ∧ pureL cs = true ∧ ∀ u ∈ cs, isCell u = true) :
    Calls P f xs W fun e W' => e = .returned (.bool true) ∧ W.heap.size ≤ W'.heap.size ∧ (∀ b, b < W.heap.size → W'.heap[b]? = W.heap[b]?) ∧ Oo W W' := by
  refine callsIn_wide.1 ((hS f as [] 0 [] _ [] 0 [] hl (G0 W) [] W xs ⟨hx.1, fun i v y hv hy => (hx.2 i v y hv hy).toT⟩ (good0 hg) (fun _ => ⟨rfl, rfl⟩)).mono ?_)
  rintro e w' ⟨y, G', Os', rfl, hr, hs, _, _⟩
  cases hr
  exact ⟨rfl, hs.size, fun b hb => hs.keep b hb (fun ⟨id, g, hid, _⟩ => by cases hid) frn_nil id, hs.oo⟩

theorem trodAll_stays (hl : laidOutB P = true) (hk : ∀ b, b < W.heap.size → W'.heap[b]? = W.heap[b]?) : ∀ {ts : List TypeId} {vs : List Value} {ds : List (DataW H)} {ps : List MemPlace}, (ts.all fun t => P.readableRec t && decide (t < P.types.size)) = true →
    DataW.TrodAll enc P W 0 (fun _ => true) true ts vs ds ps → (∀ x ∈ ps, x.block < W.heap.size) → DataW.TrodAll enc P W' 0 (fun b => decide (b < W.heap.size)) true ts vs ds ps
  | [], vs, ds, ps, _, h, _ => by
    obtain ⟨rfl, rfl, rfl⟩ := trodAll_nil h
    rfl
  | t :: ts, vs, ds, ps, ht, h, hlt => by
    obtain ⟨v, vs1, d, ds1, a, b, rfl, rfl, rfl, h1, h2⟩ := trodAll_cons h
    simp only [List.all_cons, Bool.and_eq_true, decide_eq_true_eq] at ht
    refine ⟨a, b, ?_, trodAll_stays hl hk ht.2 h2 (fun x hx => hlt x (List.mem_append_right _ hx)), rfl⟩
    refine WideElems.Trod_stays hl ht.1.1 ht.1.2 h1 (fun x hx => ?_) (fun x hx => by simpa using hlt x (List.mem_append_left _ hx))
    have := hlt x (List.mem_append_left _ hx)
    cases x with
    | cell b o => exact World.cell?_of_block (w := W) (hk b this)
    | map b => exact hk b this

theorem law_post {f : Func} {s : ChangeSpec} {args : Array Value} {ds gs : List (DataW H)} {before : List MemPlace} {tb : TypeId} (hvars : s.vars = []) (hres : f.resultTypes = #[tb]) (htb : P.underlying tb = some .bool)
    (hfn : s.fn H (ds ++ gs) = { results := [.lit (.bool true)], args := ds }) (hl : laidOutB P = true) (hpar : (f.params.toList.all fun t => P.readableRec t && decide (t < P.types.size)) = true)
    (hW : DataW.Whole enc P f.params.toList s.vars false W args.toList ds gs before) (hs : W.heap.size ≤ W'.heap.size) (hk : ∀ b, b < W.heap.size → W'.heap[b]? = W.heap[b]?) (ho : Oo W W') :
    s.post enc P f false true false false W args (.bool true) W' := by
  have hlt := hW.lt
  have hW0 := hW
  obtain ⟨p, q, hA, hV, rfl, hfz, hnd⟩ := hW0
  rw [hvars] at hV
  obtain ⟨rfl, rfl⟩ := trodVars_none hV
  refine ⟨ds, [], p ++ [], [], p, [], hW, ?_, ?_, ?_, ⟨ho.1, ho.2, fun i hi => ?_⟩, fun h => by cases h⟩
  · rw [hfn, hres]
    exact trodAll_mk1 (shut_bool htb _)
  · rw [hfn]
    exact trodAll_stays hl hk hpar hA (fun x hx => hlt x (List.mem_append_left _ hx))
  · rw [hfn, hvars]; rfl
  · rw [hk i hi]
    split <;> simp_all
end
end Go.Den
namespace Go.Den
open Go
attribute [go_sem] Int.cast_ofNat_Int implies_true forall_const
abbrev oo (d : Nat) (op : Op) : SO := ⟨some d, op, none⟩
abbrev ot (d : Nat) (op : Op) (g : Nat) : SO := ⟨some d, op, some (some g, true)⟩
abbrev of (d : Nat) (op : Op) (g : Nat) : SO := ⟨some d, op, some (some g, false)⟩
abbrev oM (a : Nat) : Op := .move (.tmp a)
abbrev oL (t a : Nat) : Op := .load t (.tmp a)
abbrev oI (t a b : Nat) : Op := .indexAddr t (.tmp a) (.tmp b)
abbrev oF (t a f : Nat) : Op := .fieldAddr t (.tmp a) f
abbrev oB (o : BinOp) (t a b : Nat) : Op := .binOp o t (.tmp a) (.tmp b) t
abbrev oC (o : BinOp) (t a : Nat) (n : Int) : Op := .binOp o t (.tmp a) (.const (.int .i64 n)) t
abbrev oN (a t : Nat) : Op := .call ⟨.builtin .len, #[.tmp a], #[t]⟩
abbrev oA (a b t : Nat) : Op := .call ⟨.builtin .append, #[.tmp a, .tmp b], #[t, t]⟩
abbrev oS (t a : Nat) : Op := .buildSlice t 1 #[(0, .tmp a)]
abbrev oG (a : Nat) : Op := .assign (.tmp a)
abbrev oi (n : Int) : Op := .assign (.const (.int .i64 n))
abbrev on : Op := .assign (.const (.slice none 0 0))
abbrev o1 (f a t : Nat) : Op := .call ⟨.value (.func f), #[.tmp a], #[t]⟩
abbrev o2 (f a b t u : Nat) : Op := .call ⟨.value (.func f), #[.tmp a, .tmp b], #[t, u]⟩
abbrev oX (a i : Nat) : Op := .extract (.tmp a) i
abbrev ow (t a v : Nat) : SO := ⟨none, .store t (.tmp a) (.tmp v), none⟩
def pth : Nat → Nat → List Nat → List Nat
  | 0, _, acc => acc
  | f + 1, n, acc => match Nat.ble n 1 with
    | true => acc
    | false => pth f (n / 2) (n % 2 :: acc)
def nv (n : Nat) (f : Func) : Code := nav (pth 200 n []) (bodyOf f)
theorem reachP_1 (n id : Nat) (k : List Nat → Prog) : reachP (n + 2) [id] [] k = .get id fun r => (match r with
        | .cells _ false _ l => reachP (n + 1) (idsL l ++ []) [id] k
        | _ => k [id]) := by
  rw [reachP]
  simp only [List.any_nil]
  rfl
theorem reach_1 (n : Nat) (b : Bool) (ty : TypeId) (l : List V) : reach (n + 2) [0] [] [.cells b true ty l] = some [0] := by
  rw [reach]
  simp only [List.any_nil]
  show reach (n + 1) [] [0] _ = _
  rw [reach]; rfl
theorem go_ref1 {α : Type} {ih : Ih} {T : Tab} {f : Nat} {args : List V} {id : Nat} (hb : T.byref f = true) (hr : Res0 T f) (hids : idsL args = [id]) (hy : yldL args = false) (k : V → Prog)
    {slot : Option Nat} {H : Heap} {Fz : Nat} {S : Stk} {rd wr fr : Nat} {sk : Bool} {K : V → Heap → Nat → Stk → FP → Option α} {b : Bool} {ty : TypeId} {l l' : List V}
    (hH : H[id]? = some (.cells b true ty l)) (hz : Fz.testBit id = false) (hc : ih.call f (mapHL (idx [id]) args) [.cells b true ty l] 0 [] = some (.tup [], [.cells b true ty l'], 0, [])) :
    (callP ih T f args k).go slot H Fz S ⟨rd, wr, fr, sk⟩ K = (k (.tup [])).go slot (H.set id (.cells b true ty l')) Fz S ⟨rd ||| bit id ||| bit id, wr ||| bit id ||| bit id, fr, sk⟩ K := by
  have hlt : id < H.length := (List.getElem?_eq_some_iff.1 hH).1
  unfold callP
  rw [hb]
  simp only
  rw [hids, show (10000 : Nat) = 9998 + 2 from rfl, reachP_1, go_get, hH]
  simp only [optK, maskP]
  rw [go_isFz, hz]
  simp only [rowsP]
  rw [go_get, hH]
  simp only [optK, List.reverse_cons, List.reverse_nil, List.nil_append, hy, withStk]
  have hm : mapRows (idx [id]) [Row.cells b true ty l] = [.cells b true ty l] := rfl
  rw [hm, go_optP, hc]
  simp only [optK]
  have hrs : List.range [id].length ++ idsV (.tup []) = [0] := rfl
  rw [go_optP, hrs, reach_1]
  simp only [optK]
  have hn : newIds [id].length [0] = [] := rfl
  rw [hn]
  cases slot with
  | none =>
    rw [go_base_n]
    simp only [pick, mapRows, newRowsP, setRowsP, List.length_cons, List.length_nil, List.take_succ_cons, List.take_zero, List.take_nil]
    rw [go_set]
    simp only [decide_eq_true hlt, need, frzAllP, Nat.zero_testBit]
    rw [hr]
    rfl
  | some i =>
    rw [go_base_s]
    simp only [pick, mapRows, newRowsP, setRowsP, List.length_cons, List.length_nil, List.take_succ_cons, List.take_zero, List.take_nil]
    rw [go_set]
    simp only [decide_eq_true hlt, need, frzAllP, Nat.zero_testBit]
    rw [hr]
    rfl
end Go.Den
namespace Go.Den
open Go
section
variable (T : Tab) (k : V → Prog)
def cpRow (id a n : Nat) (e : TypeId) (ys : List V) (k : Prog) : Row → Prog
  | .cells false fl ety l => needP (T.size ety == T.size e) (.set id (.cells false (fl && pureL ys) ety (l.take a ++ (ys.take n ++ l.drop (a + min ys.length n)))) k)
  | _ => .fail
@[go_sem] theorem copyAt_eq (id a n : Nat) (e : TypeId) (ys : List V) (k : Prog) : copyAt T id a n e ys k = .isFz id fun z => needP (!z) (.get id (cpRow T id a n e ys k)) := by
  unfold copyAt
  congr 1
  funext z
  cases z
  · simp only [Bool.not_false, needP]
    congr 1
    funext row
    unfold cpRow
    simp only [beq_nat]
    cases row <;> (try rfl)
    try (rename_i b fl ty l; cases b <;> rfl)
  · rfl
@[go_sem] theorem cpRow_c (id a n : Nat) (e ety : TypeId) (fl : Bool) (l ys : List V) (k : Prog) : cpRow T id a n e ys k (.cells false fl ety l) = needP (T.size ety == T.size e) (.set id (.cells false (fl && pureL ys) ety (l.take a ++ (ys.take n ++ l.drop (a + min ys.length n)))) k) := rfl
def cpP (d : TD) (x y : V) : Prog := match d, x with
    | .slice e, .ref id => listP T (T.size e) y fun ys => .get id (rowL fun _ _ l => copyAt T id 0 l.length e ys (k (.int .i64 (min ys.length l.length : Nat))))
    | .slice e, .sub id a n => listP T (T.size e) y fun ys => copyAt T id a n e ys (k (.int .i64 (min ys.length n : Nat)))
    | .slice e, .sl false _ [] => listP T (T.size e) y fun _ => k (.int .i64 0)
    | _, _ => .fail
@[go_sem] theorem bi_copy (t t' : TypeId) (x y : V) : builtinP T .copy [t, t'] [x, y] k = cpP T k (T.td t) x y := by
  simp only [builtinP, cpP]
  cases T.td t <;> (try rfl) <;> cases x <;> (try rfl)
  all_goals first
    | (simp only; congr 1; funext ys; congr 1; funext row; cases row <;> rfl)
    | (rename_i nn z l; cases nn <;> (try rfl); cases l <;> rfl)
@[go_sem] theorem cp_ref (e : TypeId) (id : Nat) (y : V) : cpP T k (.slice e) (.ref id) y = listP T (T.size e) y fun ys => .get id (rowL fun _ _ l => copyAt T id 0 l.length e ys (k (.int .i64 (min ys.length l.length : Nat)))) := rfl
end
def eqbL (eq : V → V → Bool) : List V → List V → Bool
  | [], [] => true
  | a :: as, b :: bs => (match eq a b with | true => eqbL eq as bs | false => false)
  | _, _ => false
def eqb : Nat → V → V → Bool
  | 0, _, _ => false
  | n + 1, a, b => match a, b with
    | .bool a, .bool b => (match a, b with | true, true => true | false, false => true | _, _ => false)
    | .int .i64 a, .int .i64 b => a == b
    | .flt .f64 a, .flt .f64 b => Nat.beq a b
    | .str a, .str b => a == b
    | .nilp, .nilp => true
    | .nilf, .nilf => true
    | .sl a w l, .sl b w' l' => (match a, b with
      | true, true => (match Nat.beq w w' with | true => eqbL (eqb n) l l' | false => false)
      | false, false => (match Nat.beq w w' with | true => eqbL (eqb n) l l' | false => false)
      | _, _ => false)
    | .agg l, .agg l' => eqbL (eqb n) l l'
    | _, _ => false
theorem eqbL_eq {eq : V → V → Bool} (h : ∀ a b, eq a b = true → a = b) : ∀ a b, eqbL eq a b = true → a = b
  | [], [], _ => rfl
  | a :: as, b :: bs, h' => by
    simp only [eqbL] at h'
    split at h'
    · rename_i h1
      rw [h _ _ h1, eqbL_eq h as bs h']
    · cases h'
  | [], _ :: _, h' => by simp [eqbL] at h'
  | _ :: _, [], h' => by simp [eqbL] at h'
theorem eqb_eq : ∀ n a b, eqb n a b = true → a = b := by
  intro n
  induction n with
  | zero => intro a b h; simp [eqb] at h
  | succ n ih =>
    intro a b h
    unfold eqb at h
    split at h
    · split at h <;> simp_all
    · simpa using h
    · simpa using h
    · simpa using h
    · rfl
    · rfl
    · split at h
      · split at h
        · rename_i h1; rw [eqbL_eq ih _ _ h, Nat.eq_of_beq_eq_true h1]
        · cases h
      · split at h
        · rename_i h1; rw [eqbL_eq ih _ _ h, Nat.eq_of_beq_eq_true h1]
        · cases h
      · cases h
    · rw [eqbL_eq ih _ _ h]
    · cases h
abbrev Memo := List (FuncId × List V × V)
def memoGet : Memo → FuncId → List V → Option V
  | [], _, _ => none
  | (g, as, v) :: m, f, args => match Nat.beq g f with
    | true => (match eqbL (eqb 12) as args with | true => some v | false => memoGet m f args)
    | false => memoGet m f args
def evM (T : Tab) (M : Memo) : Nat → Ih
  | 0 => { loop := fun _ _ _ => none, call := fun _ _ _ _ _ => none, yld := fun _ _ _ => none }
  | n + 1 =>
    { loop := (stepE T (evM T M n)).loop
      yld := (stepE T (evM T M n)).yld
      call := fun f args H Fz S => match H, Fz, S with
        | [], 0, [] => (match memoGet M f args with
          | some v => some (v, [], 0, [])
          | none => (stepE T (evM T M n)).call f args [] 0 [])
        | H, Fz, S => (stepE T (evM T M n)).call f args H Fz S }
def MemoOk (T : Tab) (M : Memo) : Prop := ∀ e ∈ M, (lim T).call e.1 e.2.1 [] 0 [] = some (e.2.2, [], 0, [])
theorem MemoOk.nil (T : Tab) : MemoOk T [] := fun _ h => absurd h (List.not_mem_nil)
theorem MemoOk.cons {T : Tab} {M : Memo} {f args v} (h : MemoOk T M) (h' : (lim T).call f args [] 0 [] = some (v, [], 0, [])) : MemoOk T ((f, args, v) :: M) := by
  intro e he
  rcases List.mem_cons.1 he with rfl | he
  · exact h'
  · exact h e he
theorem memoGet_ok {T : Tab} : ∀ {M : Memo}, MemoOk T M → ∀ {f args v}, memoGet M f args = some v → (lim T).call f args [] 0 [] = some (v, [], 0, [])
  | [], _, f, args, v, h => by simp [memoGet] at h
  | (g, as, u) :: m, hM, f, args, v, h => by
    have hm : MemoOk T m := fun e he => hM e (List.mem_cons_of_mem _ he)
    unfold memoGet at h
    split at h
    · rename_i h1
      split at h
      · rename_i h2
        have h3 := hM (g, as, u) (List.mem_cons_self)
        have := Nat.eq_of_beq_eq_true h1
        have e := eqbL_eq (eqb_eq 12) _ _ h2
        cases h
        subst this e
        exact h3
      · exact memoGet_ok hm h
    · exact memoGet_ok hm h
theorem evM_le {T : Tab} {M : Memo} (hM : MemoOk T M) : ∀ n, (evM T M n).le (lim T) := by
  intro n
  induction n with
  | zero => exact ⟨fun f args H Fz S r h => by simp [evM] at h, fun rnd items st r h => by simp [evM] at h, fun d args S r h => by simp [evM] at h⟩
  | succ n ih =>
    have hs : (stepE T (evM T M n)).le (lim T) := ((stepE_apx T ih.apx).le).trans (step_le_lim T)
    refine ⟨fun f args H Fz S r h => ?_, hs.loop, hs.yld⟩
    simp only [evM] at h
    split at h
    · split at h
      · rename_i h1
        cases h
        exact memoGet_ok hM h1
      · exact hs.call _ _ _ _ _ _ h
    · exact hs.call _ _ _ _ _ _ h
theorem memo_call {T : Tab} {M : Memo} (hM : MemoOk T M) (n : Nat) {f args r} (h : (evM T M n).call f args [] 0 [] = some r) : (lim T).call f args [] 0 [] = some r := (evM_le hM n).call _ _ _ _ _ _ h
theorem prim_of_call {P : Program} {T0 T : Tab} (hS : CallOk P T0 (lim T0)) (hgl : T.glob = T0.glob) {f : FuncId} {args : List V} {v : V} (hb : T0.byref f = false) (hc : (lim T0).call f args [] 0 [] = some (v, [], 0, []))
    (hen : ∀ (xs : Array Value) (w : World), (callFunc f xs).run P w = .ok (.enter f xs) w) (G : Gh) (w : World) (xs : Array Value) (hx : LRel G args xs.toList) (hp : pureL args = true) (hM : MRel G T w) :
    (callFunc f xs).run P w = .ok (.enter f xs) w ∧ CallsIn Fence.wide 0 P f xs w fun e w' => ∃ y G', e = .returned y ∧ Rel G' v y ∧ pureV v = true ∧ Step G.bare w G' w' ∧ HeapRel G' T w' [] 0 ∧ MRel G' T w' := by
  have hM0 : MRel G T0 w := ⟨hM.mem, by rw [← hgl]; exact hM.glob⟩
  have hxb : RelLT G.bare [] args xs := ⟨hx.1, fun i a b ha hb => ((hx.2 i a b ha hb).bare (pureL_iff.1 hp a (List.mem_of_getElem? ha))).toT⟩
  have hgb : Good T0 G.bare [] w ⟨[], 0, []⟩ := ⟨heap_bare G w, hM0.bare, ⟨rfl, fun d own O hd => by simp at hd, fun d e O O' b hO => by simp at hO⟩, fun b hb => absurd hb bare_owns⟩
  refine ⟨hen xs w, (hS f args [] 0 [] v [] 0 [] hc G.bare [] w xs hxb hgb (fun _ => ⟨rfl, rfl⟩)).mono ?_⟩
  rintro e w' ⟨y, G', Os', rfl, hr, hs, hg, hpv⟩
  refine ⟨y, G', rfl, hr, (hpv hb).2, ⟨hs.le, hs.size, hs.owns, fun b c hbc => ?_, fun b h1 h2 => ?_, hs.oo⟩, ?_, ⟨hg.mem.mem, by rw [hgl]; exact hg.mem.glob⟩⟩
  · rcases hs.mem b c hbc with h | h | h | h
    · exact .inl h
    · exact .inr (.inl h)
    · exact absurd h frn_nil
    · exact .inr (.inr h)
  · exact hs.keep b h1 h2 frn_nil id
  · exact ⟨fun id r h => by simp at h, hg.heap.out, fun id h => by simp at h, hg.heap.inj⟩
def den (T0 : Tab) (f : Nat) (args : List V) : Option V :=
  match T0.byref f, T0.prim f, T0.fn f, (lim T0).call f args [] 0 [] with
  | false, none, some _, some (v, [], 0, []) => some v
  | _, _, _, _ => none
theorem den_iff {T0 : Tab} {f : Nat} {args : List V} {v : V} (h : den T0 f args = some v) : T0.byref f = false ∧ T0.prim f = none ∧ (∃ fn, T0.fn f = some fn) ∧ (lim T0).call f args [] 0 [] = some (v, [], 0, []) := by
  unfold den at h
  split at h
  · rename_i h1 h2 h3 h4
    cases h
    exact ⟨h1, h2, ⟨_, h3⟩, h4⟩
  · cases h
theorem den_of {T0 : Tab} {f : Nat} {args : List V} {v : V} {fn : Func} (h1 : T0.byref f = false) (h2 : T0.prim f = none) (h3 : T0.fn f = some fn) (h4 : (lim T0).call f args [] 0 [] = some (v, [], 0, [])) : den T0 f args = some v := by
  unfold den
  simp only [h1, h2, h3, h4]
def over (T0 : Tab) (own byref raw : List Nat) : Tab :=
  { T0 with byref := fun f => byref.any (Nat.beq f), raw := fun f => raw.any (Nat.beq f), prim := fun f => match own.any (Nat.beq f) with | true => none | false => some (den T0 f) }
theorem codeOk_congr {T T' : Tab} (h : T.pairs = T'.pairs) (f : Nat) : ∀ c : Code, codeOk T f c = codeOk T' f c := by
  intro c
  induction c using codeOk.induct <;> simp_all [codeOk]
theorem any_mem {l : List Nat} {f : Nat} : l.any (Nat.beq f) = true ↔ f ∈ l := by
  simp only [List.any_eq_true]
  constructor
  · rintro ⟨x, hx, h⟩; rw [Nat.eq_of_beq_eq_true h]; exact hx
  · intro h; exact ⟨f, h, by simp⟩
theorem shParts_same {T : Tab} {α : Type} {n : Nat} : ∀ (ts : List TypeId) (cs acc : List V) (k : List V → Option α) (r : α), shParts (shape T n) ts cs acc k = some r →
    ∃ l, k (acc ++ l) = some r ∧ l.length = ts.length ∧ ∀ G xs, LRel G cs xs → LRel G l (xs.take l.length) := by
  intro ts
  induction ts with
  | nil => intro cs acc k r h; exact ⟨[], by simpa [shParts] using h, rfl, fun G xs _ => by simpa using LRel.nil G⟩
  | cons t ts ihf =>
    intro cs acc k r h
    simp only [shParts] at h
    obtain ⟨c, hc, h⟩ := get_inv h
    obtain ⟨w, hw, hs⟩ := shape_inv _ _ _ _ _ h
    obtain ⟨l, hl, hn, hr⟩ := ihf _ _ _ _ hw
    refine ⟨w :: l, by simpa using hl, by simp [hn], fun G xs hx => ?_⟩
    obtain ⟨x, hx0, hcx⟩ := hx.get hc
    cases xs with
    | nil => simp at hx0
    | cons y ys =>
      simp only [List.getElem?_cons_zero, Option.some.injEq] at hx0
      subst hx0
      have h2 := hr G _ (hx.drop 1)
      simp only [List.drop_succ_cons, List.drop_zero] at h2
      simpa using (LRel.one (hs G _ hcx)).append h2
def shArgs {α : Type} (T : Tab) (ts : List TypeId) (vs : List V) (k : List V → Option α) : Option α := need (Nat.beq vs.length ts.length) (shParts (shape T shD) ts vs [] k)
def den2 (T0 : Tab) (f : Nat) (args : List V) : Option V :=
  match T0.fn f with
  | some fn => shArgs T0 fn.params.toList args fun r => need (pureL r) (den T0 f r)
  | none => none
theorem den2_eq {T0 : Tab} {f : Nat} {fn : Func} {ts : List TypeId} (h : T0.fn f = some fn) (ht : fn.params.toList = ts) (args : List V) : den2 T0 f args = shArgs T0 ts args fun r => need (pureL r) (den T0 f r) := by
  unfold den2
  simp only [h, ht]
def over2 (T0 : Tab) (own byref raw : List Nat) : Tab :=
  { T0 with byref := fun f => byref.any (Nat.beq f), raw := fun f => raw.any (Nat.beq f), prim := fun f => match own.any (Nat.beq f) with | true => none | false => some (den2 T0 f) }
theorem over2_tab {P : Program} {T0 : Tab} {own by' rw' : List Nat} (hT : TabOk P T0) : TabOk P (over2 T0 own by' rw') :=
  ⟨fun t i h => ⟨(hT.ti t i h).sub, (hT.ti t i h).ex, (hT.ti t i h).eq⟩, fun f fn h => hT.fn f fn h⟩
theorem over2_fns {P : Program} {T0 : Tab} {own by' rw' : List Nat} (hT : TabOk P T0) (hF : FnsOk P T0) (hb : ∀ f ∈ by', f ∈ own) (ho : ∀ f ∈ own, T0.byref f = true ∨ T0.prim f = none) : FnsOk P (over2 T0 own by' rw') := by
  refine ⟨fun f fn c h hc => ?_, fun f fn h hp => ?_, hF.mixed, ?_⟩
  · rw [codeOk_congr (T := over2 T0 own by' rw') (T' := T0) rfl]; exact hF.code f fn c h hc
  · have hm : f ∈ own := by
      rcases hp with hp | hp
      · exact hb f (any_mem.1 hp)
      · simp only [over2] at hp
        split at hp
        · rename_i h1; exact any_mem.1 h1
        · cases hp
    obtain ⟨h1, c, h2, h3⟩ := hF.fn f fn h (ho f hm)
    exact ⟨h1, c, h2, by rw [codeOk_congr (T := over2 T0 own by' rw') (T' := T0) rfl]; exact h3⟩
  · intro f p args v hp hv G w xs hx hpu hM
    simp only [over2] at hp
    split at hp
    · cases hp
    · cases hp
      unfold den2 at hv
      split at hv
      · rename_i fn hfn
        unfold shArgs at hv
        obtain ⟨hlen, hv⟩ := need_inv hv
        obtain ⟨l, hv, hl, hr⟩ := shParts_same _ _ _ _ _ hv
        obtain ⟨hpl, hv⟩ := need_inv hv
        rw [List.nil_append] at hpl hv
        have hx2 := hr G _ hx
        have hll : l.length = xs.toList.length := by rw [hl, hx.1]; exact (Nat.eq_of_beq_eq_true hlen).symm
        rw [List.take_of_length_le (by omega)] at hx2
        obtain ⟨h1, h2, ⟨fn', h3⟩, h4⟩ := den_iff hv
        exact .inl (prim_of_call (lim_snd hT hF) (T := over2 T0 own by' rw') rfl h1 h4 (fun xs w => run_callFunc hT hF h3 (.inr h2) xs w) G w xs hx2 hpl hM)
      · cases hv
theorem over2_snd {P : Program} {T0 : Tab} {own by' rw' : List Nat} (hT : TabOk P T0) (hF : FnsOk P T0) (hb : ∀ f ∈ by', f ∈ own) (ho : ∀ f ∈ own, T0.byref f = true ∨ T0.prim f = none) : CallOk P (over2 T0 own by' rw') (lim (over2 T0 own by' rw')) :=
  lim_snd (over2_tab hT) (over2_fns hT hF hb ho)
theorem newIds_0 : ∀ rs : List Nat, newIds 0 rs = rs
  | [] => rfl
  | x :: r => by
    have : Nat.blt x 0 = false := by simp [Nat.blt, Nat.ble]
    simp only [newIds, this, newIds_0 r]
def afterB (T : Tab) (f : Nat) (b : Nat) (k : V → Prog) (q : V × Heap × Nat × Stk) : List Nat → Prog := fun rs =>
  newRowsP (mapRows (backId [] rs b) (pick q.2.1 rs)) (frzAllP (backId [] rs b) q.2.2.1 rs (match q.2.2.2 with | [] => toP (resK T f (mapH (backId [] rs b) q.1) fun v => some (k v)) | _ => .fail))
@[go_sem] theorem go_brN {α : Type} {ih : Ih} {T : Tab} {f : Nat} {args : List V} (hb : T.byref f = true) (hids : idsL args = []) (hy : yldL args = false) (k : V → Prog)
    {H : Heap} {Fz : Nat} {S : Stk} {rd wr fr : Nat} {sk : Bool} {K : V → Heap → Nat → Stk → FP → Option α} :
    (callP ih T f args k).go none H Fz S ⟨rd, wr, fr, sk⟩ K = optK (ih.call f args [] 0 []) fun q => optK (reach 10000 (idsV q.1) [] q.2.1) fun rs => (afterB T f H.length k q rs).go none H Fz S ⟨rd, wr, fr, sk⟩ K := by
  unfold callP
  rw [hb]
  simp only
  rw [hids, show (10000 : Nat) = 9999 + 1 from rfl]
  rw [reachP]
  simp only [List.reverse_nil, maskP, rowsP, mapRows, withStk, hy]
  rw [mapHL_pure _ _ hids, go_optP]
  cases ih.call f args [] 0 [] with
  | none => rfl
  | some q =>
    obtain ⟨v, H', Fz', S'⟩ := q
    simp only [optK]
    rw [go_optP]
    simp only [List.length_nil, List.range_zero, List.nil_append]
    cases reach (9999 + 1) (idsV v) [] H' with
    | none => rfl
    | some rs =>
      simp only [optK]
      rw [go_base_n]
      simp only [afterB, newIds_0, List.take_zero, mapRows, setRowsP]
      cases S' <;> rfl
@[go_sem] theorem afterB_eq (T : Tab) (f : Nat) (b : Nat) (k : V → Prog) (v : V) (H' : Heap) (Fz' : Nat) (rs : List Nat) : afterB T f b k (v, H', Fz', []) rs = newRowsP (mapRows (backId [] rs b) (pick H' rs)) (frzAllP (backId [] rs b) Fz' rs (toP (resK T f (mapH (backId [] rs b) v) fun v => some (k v)))) := rfl
@[go_sem] theorem backId_0 (rs : List Nat) (b x : Nat) : backId [] rs b x = b + idx rs x := by
  have : Nat.blt x 0 = false := by simp [Nat.blt, Nat.ble]
  simp only [backId, List.length_nil, this]
@[go_sem] theorem newRowsP_nil (k : Prog) : newRowsP [] k = k := rfl
@[go_sem] theorem newRowsP_c (b f : Bool) (t : TypeId) (l : List V) (rs : Heap) (k : Prog) : newRowsP (.cells b f t l :: rs) k = .new (.cells b f t l) (newRowsP rs k) := rfl
@[go_sem] theorem frzAllP_nil (g : Nat → Nat) (Fz : Nat) (k : Prog) : frzAllP g Fz [] k = k := rfl
@[go_sem] theorem frzAllP_0 (g : Nat → Nat) (x : Nat) (r : List Nat) (k : Prog) : frzAllP g 0 (x :: r) k = frzAllP g 0 r k := by simp [frzAllP]
section
variable {T : Tab}
@[go_sem] theorem callV_yld (ih : Ih) (n : Nat) (args : List V) (k : V → Prog) : callV ih T (.yld n) args k = stowLP T args fun args => needP (!yldL args) <| .stk fun S => optP (ih.yld n args S) fun r => .setStk r.2 (k (.bool r.1)) := rfl
@[go_sem] theorem mapH_yld (g : Nat → Nat) (n : Nat) : mapH g (.yld n) = .yld n := rfl
theorem yldEq {S : Stk} {own : Own} (hd : own.done = false) {args : List V} (hl : own.ps.length = args.length) {jump : Option Code} {H' : Heap} {Fz' : Nat}
    (h : runK (lim T) T true segFuel [.code own.assign, .beginRound, .code own.body] ⟨own.fn, own.nt, own.H.length, own.ps.zip args ++ own.env, own.H, own.Fz, S⟩ = some (.round jump, H', Fz', S)) :
    (lim T).yld S.length args (S ++ [own]) = some (jump.isNone, S ++ [{ own with H := H', Fz := Fz', done := jump.isSome, pending := jump }]) := by
  rw [lim_yld_eq]
  simp [stepE, hd, hl, h, need]
def yldAll (T : Tab) (d : Nat) : List V → Stk → Option (Bool × Stk)
  | [], S => some (true, S)
  | x :: r, S => match (lim T).yld d [x] S with
    | some (true, S') => yldAll T d r S'
    | o => o
theorem rangeRun {rnd : Bool} {n f' nt fp : Nat} {env : Den.Env} {H : Heap} {Fz : Nat} {S : Stk} {f : Operand} {ps : Array Nat} {as body : Code} {k : List Item} {g : Nat} {caps : List V}
    (hf : St.eval ⟨f', nt, fp, env, H, Fz, S⟩ f = .fn g caps) (hp : idsL caps = []) (hy : yldL caps = false) (hb : T.byref g = false) (hq : T.prim g = none) (hr : Res0 T g) (hps : psOk nt ps.toList = true) {v : V} {H' : Heap} {Fz' : Nat} {own' : Own}
    (hc : (lim T).call g (.yld S.length :: caps) [] 0 (S ++ [⟨f', nt, env, H, Fz, ps.toList, as, body, false, none⟩]) = some (v, H', Fz', S ++ [own'])) :
    runK (lim T) T rnd (n + 1) (.code (.rangeFunc f ps as body) :: k) ⟨f', nt, fp, env, H, Fz, S⟩ = runK (lim T) T rnd n (match own'.pending with | some c => .code c :: k | none => k) ⟨own'.fn, own'.nt, fp, own'.env, own'.H, own'.Fz, S⟩ := by
  have h1 : pureV (.fn g caps) = true := by simp [pureV, idsV, hp]
  have h2 : pureL (.yld S.length :: caps) = true := by simp [pureL, idsL, idsV, hp]
  have h3 : yldL (.yld S.length :: caps) = true := rfl
  simp only [runK, hps, need, hf, stowP, h1, Prog.go]
  simp only [callV, callP, hb, hq, List.cons_append, List.nil_append, stowLP, h2, h3, withStk, FP.none]
  simp [Prog.go, hc, optP, toP, hr]
  cases own'.pending <;> rfl
end
section
variable {α : Type} {T : Tab}
end
section
variable (T : Tab)
end
section
variable {α : Type} {T : Tab}
end
section
variable {T : Tab} {ih : Ih}
def afterR (T : Tab) (f : Nat) (ids : List Nat) (k : V → Prog) (q : V × Heap × Nat × Stk) : Prog :=
  optP (reach 10000 (List.range ids.length ++ idsV q.1) [] q.2.1) fun rs => .base fun b =>
    setRowsP ids (mapRows (backId ids (newIds ids.length rs) b) (q.2.1.take ids.length)) (newRowsP (mapRows (backId ids (newIds ids.length rs) b) (pick q.2.1 (newIds ids.length rs)))
      (frzAllP (backId ids (newIds ids.length rs) b) q.2.2.1 rs (match q.2.2.2 with | [] => toP (resK T f (mapH (backId ids (newIds ids.length rs) b) q.1) fun v => some (k v)) | _ => .fail)))
theorem callP_r {f : Nat} {args : List V} {k : V → Prog} (h : T.byref f = true) (hy : yldL args = false) : callP ih T f args k = reachP 10000 (idsL args) [] fun ids => maskP ids 0 0 fun Fz => rowsP ids [] fun rows => optP (ih.call f (mapHL (idx ids) args) (mapRows (idx ids) rows) Fz []) (afterR T f ids k) := by
  unfold callP
  rw [h]
  simp only [hy, withStk]
  rfl
@[go_sem] theorem afterR_eq (f : Nat) (ids : List Nat) (k : V → Prog) (v : V) (H' : Heap) (Fz' : Nat) : afterR T f ids k (v, H', Fz', []) =
  optP (reach 10000 (List.range ids.length ++ idsV v) [] H') fun rs => .base fun b =>
    setRowsP ids (mapRows (backId ids (newIds ids.length rs) b) (H'.take ids.length)) (newRowsP (mapRows (backId ids (newIds ids.length rs) b) (pick H' (newIds ids.length rs)))
      (frzAllP (backId ids (newIds ids.length rs) b) Fz' rs (toP (resK T f (mapH (backId ids (newIds ids.length rs) b) v) fun v => some (k v))))) := rfl
variable (n id : Nat) (w seen : List Nat) (k : List Nat → Prog)
def reachPR : Row → Prog
  | .cells _ false _ l => reachP n (idsL l ++ w) (id :: seen) k
  | _ => reachP n w (id :: seen) k
@[go_sem] theorem reachP_nil : reachP (n + 1) [] seen k = k seen.reverse := rfl
@[go_sem] theorem reachP_cons : reachP (n + 1) (id :: w) seen k = br (seen.any fun x => id == x) (reachP n w seen k) (.get id (reachPR n id w seen k)) := by
  rw [reachP]
  have e : seen.any (Nat.beq id) = seen.any fun x => id == x := by congr 1; funext x; rw [beq_nat]
  rw [e]
  cases seen.any fun x => id == x
  · rfl
  · rfl
@[go_sem] theorem reachPR_t (b : Bool) (t : TypeId) (l : List V) : reachPR n id w seen k (.cells b true t l) = reachP n w (id :: seen) k := rfl
variable (m : Nat) (r : List Nat) (k' : Nat → Prog) (kh : Heap → Prog)
@[go_sem] theorem maskP_nil : maskP [] n m k' = k' m := rfl
@[go_sem] theorem maskP_cons : maskP (id :: r) n m k' = .isFz id fun z => maskP r (n + 1) (cond z (m ||| bit n) m) k' := by
  rw [maskP]; congr 1
@[go_sem] theorem rowsP_nil (acc : Heap) : rowsP [] acc kh = kh acc.reverse := rfl
@[go_sem] theorem rowsP_cons (acc : Heap) : rowsP (id :: r) acc kh = .get id fun row => rowsP r (row :: acc) kh := rfl
@[go_sem] theorem setRowsP_nil (p : Prog) : setRowsP [] [] p = p := rfl
@[go_sem] theorem setRowsP_cons (row : Row) (rows : Heap) (p : Prog) : setRowsP (id :: r) (row :: rows) p = .set id row (setRowsP r rows p) := rfl
@[go_sem] theorem newIds_nil : newIds n [] = [] := rfl
@[go_sem] theorem newIds_cons (x : Nat) : newIds n (x :: r) = cond (decide (x < n)) (newIds n r) (x :: newIds n r) := by
  rw [newIds]
  have : Nat.blt x n = decide (x < n) := by rw [Bool.eq_iff_iff]; simp [Nat.blt, Nat.succ_le_iff]
  rw [this]; cases decide (x < n) <;> rfl
theorem backId_eq (ids new : List Nat) (at_ x : Nat) : backId ids new at_ x = cond (decide (x < ids.length)) (match ids[x]? with | some id => id | none => 0) (at_ + idx new x) := by
  unfold backId
  have : Nat.blt x ids.length = decide (x < ids.length) := by rw [Bool.eq_iff_iff]; simp [Nat.blt, Nat.succ_le_iff]
  rw [this]; cases decide (x < ids.length) <;> rfl
theorem frzAllP_cons (g : Nat → Nat) (Fz x : Nat) (p : Prog) : frzAllP g Fz (x :: r) p = br (Fz.testBit x) (.frz (g x) (frzAllP g Fz r p)) (frzAllP g Fz r p) := by
  rw [frzAllP]; cases Fz.testBit x <;> rfl
end
end Go.Den
end

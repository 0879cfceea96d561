import Derived.Test.YtifljcjddphpjaaGreatDoorZM
import Derived.KernelRfl
set_option linter.all false
namespace Go.Den
open Go
set_option linter.unusedVariables false

/-! ### tables as search trees -/
inductive Tr (α : Type) where
  | leaf
  | node (l : Tr α) (k : Nat) (v : α) (r : Tr α)
def Tr.find {α : Type} : Tr α → Nat → Option α
  | .leaf, _ => none
  | .node l k v r, x => match Nat.beq x k with
    | true => some v
    | false => match Nat.ble x k with
      | true => l.find x
      | false => r.find x
def Tr.All {α : Type} (p : Nat → α → Prop) : Tr α → Prop
  | .leaf => True
  | .node l k v r => l.All p ∧ p k v ∧ r.All p
theorem Tr.All.get {α : Type} {p : Nat → α → Prop} : ∀ {t : Tr α}, t.All p → ∀ {x : Nat} {v : α}, t.find x = some v → p x v := by
  intro t
  induction t with
  | leaf => intro _ x v h; cases h
  | node l k u r ihl ihr =>
    rintro ⟨h1, h2, h3⟩ x v h
    simp only [Tr.find] at h
    cases hb : Nat.beq x k with
    | true =>
      rw [hb] at h
      simp only [Option.some.injEq] at h
      rw [Nat.eq_of_beq_eq_true hb, ← h]; exact h2
    | false =>
      rw [hb] at h
      cases hc : Nat.ble x k with
      | true => rw [hc] at h; exact ihl h1 h
      | false => rw [hc] at h; exact ihr h3 h

/-! ### what the table says of types and functions, by looks -/
def tiB (P : Program) (T : Tab) (t : TypeId) (i : TI) : Bool :=
  (i.td.subs.all fun u => (T.ti u).isSome) && (!i.eqok || (!P.stoodInHeld t && (!P.eqGuardType P.depth t && (match P.underlying t with | some (.struct fs) => fs.toList.all fun f => !(f.name == "_") | _ => true))))
theorem tiOk_mk {P : Program} {T : Tab} {t : TypeId} {i : TI} (inf u : TypeInfo) (h1 : P.info? t = some inf) (h2 : P.underlying t = some u.desc)
    (h3 : (inf.zero.map fun z => (⟨digest u.desc, inf.size, inf.bytes, absV z, i.eqok⟩ : TI)) = some i) (h4 : tiB P T t i = true) : TiOk P T t i := by
  cases hz : inf.zero with
  | none => rw [hz] at h3; cases h3
  | some z =>
    rw [hz] at h3
    simp only [Option.map_some, Option.some.injEq] at h3
    replace h3 := h3.symm
    simp only [tiB, Bool.and_eq_true, List.all_eq_true, Bool.or_eq_true] at h4
    have e1 := congrArg TI.td h3
    have e2 := congrArg TI.size h3
    have e3 := congrArg TI.bytes h3
    have e4 := congrArg TI.zero h3
    refine ⟨fun u hu => Option.isSome_iff_exists.1 (h4.1 u hu), ⟨inf, u.desc, z, h1, h2, e1, e2.symm, e3.symm, hz, e4⟩, fun he => ?_⟩
    rcases h4.2 with h | ⟨h5, h6, h7⟩
    · rw [he] at h; cases h
    · refine ⟨by simpa using h5, by simpa using h6, fun fs hfs f hf hn => ?_⟩
      rw [hfs] at h7
      simp only [List.all_eq_true] at h7
      have := h7 f (by simpa using hf)
      rw [hn] at this
      simp at this
theorem fnOk_mk {P : Program} {T : Tab} {f : FuncId} {fn : Func} (h : (!(fn.name == "runtime.NumGoroutine") && match fn.body with | some c => codeOk T f c | none => false) = true) : FnOk P T f fn := by
  simp only [Bool.and_eq_true] at h
  refine ⟨by simpa using h.1, ?_⟩
  have h2 := h.2
  cases hb : fn.body with
  | none => rw [hb] at h2; cases h2
  | some c => rw [hb] at h2; exact ⟨c, rfl, h2⟩

theorem fnOk2_mk {P : Program} {T : Tab} {f : FuncId} {fn : Func} (h : (match fn.body with | some c => !(fn.name == "runtime.NumGoroutine") && codeOk T f c | none => !(T.byref f) && (T.prim f).isSome) = true) :
    (∀ c, fn.body = some c → codeOk T f c = true) ∧ (T.byref f = true ∨ T.prim f = none → FnOk P T f fn) := by
  cases hb : fn.body with
  | none =>
    rw [hb] at h
    simp only [Bool.and_eq_true] at h
    refine ⟨fun c hc => (by cases hc), fun h' => ?_⟩
    rcases h' with h' | h'
    · rw [h'] at h; simp at h
    · rw [h'] at h; simp at h
  | some c =>
    rw [hb] at h
    simp only [Bool.and_eq_true] at h
    exact ⟨fun c' hc => (by cases hc; exact h.2), fun _ => ⟨by simpa using h.1, c, hb, h.2⟩⟩

/-! ### functions taken as they are -/
def strsOf : List V → Option (List (List UInt8))
  | [] => some []
  | .str s :: r => (match strsOf r with | some l => some (s :: l) | none => none)
  | _ :: _ => none
def joinL (sep : List UInt8) : List (List UInt8) → List UInt8
  | [] => []
  | [s] => s
  | s :: r => s ++ (sep ++ joinL sep r)
def joinV (args : List V) : Option V := match args with
  | [.sl _ _ l, .str sep] => (match strsOf l with
    | some ss => (match Nat.ble l.length 140737488355328 && Nat.ble (joinL sep ss).length 140737488355328 with | true => some (V.str (joinL sep ss)) | false => none)
    | none => none)
  | _ => none
def digits : Nat → Nat → List UInt8
  | 0, _ => []
  | f + 1, n => match Nat.ble 10 n with
    | true => digits f (n / 10) ++ [UInt8.ofNat (48 + n % 10)]
    | false => [UInt8.ofNat (48 + n)]
def itoaV (args : List V) : Option V := match args with
  | [.int .i64 (.ofNat n)] => (match Nat.ble n 9223372036854775807 with | true => some (.str (digits 20 n)) | false => none)
  | _ => none
def bitsV (args : List V) : Option V := match args with | [.flt .f64 b] => some (.int .u64 b) | _ => none
def frombitsV (args : List V) : Option V := match args with | [.int .u64 n] => some (.flt .f64 n.toNat) | _ => none
def floorV (args : List V) : Option V := match args with
    | [.flt .f64 x] => match FloatKind.f64.decode x with
      | .nan _ _ => none
      | d => some (.flt .f64 (FloatKind.f64.encode (d.integral .down)))
    | _ => none
end Go.Den

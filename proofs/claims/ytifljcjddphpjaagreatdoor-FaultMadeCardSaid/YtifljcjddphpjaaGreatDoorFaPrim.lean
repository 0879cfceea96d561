import Derived.Test.YtifljcjddphpjaaGreatDoorFaTab
import Derived.Test.YtifljcjddphpjaaGreatDoorFaShelfT
import Derived.Test.YtifljcjddphpjaaGreatDoorZP
set_option linter.all false
set_option maxHeartbeats 8000000
set_option maxRecDepth 100000
namespace Go.Den.FaT
open Go Go.Proofs Go.Den
theorem run173 (xs : Array Value) (w : World) : (callFunc 173 xs).run Tryz.prog w = .ok (.enter 173 xs) w := by kernel_rfl
theorem run224 (xs : Array Value) (w : World) : (callFunc 224 xs).run Tryz.prog w = .ok (.enter 224 xs) w := by kernel_rfl
theorem run284 (b : Nat) (w : World) : (callFunc 284 #[.float .f64 b]).run Tryz.prog w = .ok (.value (.int .u64 b)) w := by kernel_rfl
theorem run283 (n : Int) (w : World) : (callFunc 283 #[.int .u64 n]).run Tryz.prog w = .ok (.value (.float .f64 n.toNat)) w := by kernel_rfl
theorem run259 (b : Nat) (w : World) : (callFunc 259 #[.float .f64 b]).run Tryz.prog w = (Extern.MathFloor.toIntegral "math.archFloor" .down #[.float .f64 b] >>= fun v => pure (Next.value v) : Sem Next).run Tryz.prog w := by kernel_rfl
theorem floor_cases (b : Nat) : ∃ q : Bool → Nat → Sem Value, Extern.MathFloor.toIntegral "math.archFloor" .down #[.float .f64 b] =
    (match FloatKind.f64.decode b with
     | .nan s t => q s t
     | d => pure (.float .f64 (FloatKind.f64.encode (d.integral .down)))) := by
  delta Extern.MathFloor.toIntegral
  exact ⟨_, rfl⟩
theorem floor_run {b : Nat} {v : V} (h : floorV [.flt .f64 b] = some v) (w : World) : ∃ r, v = .flt .f64 r ∧ (callFunc 259 #[.float .f64 b]).run Tryz.prog w = .ok (.value (.float .f64 r)) w := by
  rw [run259]
  obtain ⟨q, hq⟩ := floor_cases b
  rw [hq]
  simp only [floorV] at h
  cases hx : FloatKind.f64.decode b with
  | nan s t => rw [hx] at h; cases h
  | infinity s => rw [hx] at h; cases h; exact ⟨_, rfl, rfl⟩
  | number s m e => rw [hx] at h; cases h; exact ⟨_, rfl, rfl⟩
theorem prims_inv {f : FuncId} {p : List V → Option V} (h : T.prim f = some p) : (f = 173 ∧ p = joinV) ∨ (f = 224 ∧ p = itoaV) ∨ (f = 284 ∧ p = bitsV) ∨ (f = 283 ∧ p = frombitsV) ∨ (f = 259 ∧ p = floorV) := by
  have h : lookup f prims = some p := h
  simp only [prims, lookup_cons] at h
  repeat' split at h
  all_goals first
    | (rename_i e; subst e; cases h; simp; done)
    | skip
  cases h
theorem glob3 : T.glob 3 = some (Lib.pow10Tab.map fun z => V.int .u64 z) := by kernel_rfl
theorem name3 : Tryz.prog.globalNamed "internal/strconv.uint64pow10" = some 3 := by kernel_rfl
theorem prim : PrimOk Tryz.prog T := by
  intro f p args v hp hv G w xs hx hpu hM
  rcases prims_inv hp with ⟨rfl, rfl⟩ | ⟨rfl, rfl⟩ | ⟨rfl, rfl⟩ | ⟨rfl, rfl⟩ | ⟨rfl, rfl⟩
  · exact .inl (join_prim run173 (fun a c sep w => Tryz.strings_Join_none a c sep w) (fun bk o c xs sep w h1 h2 h3 h4 h5 => Tryz.strings_Join bk o c xs sep w h1 h2 h3 h4 h5) hv hx hM)
  · exact .inl (itoa_prim run224 (fun n h0 h1 => Tryz.strconv_Itoa n h0 h1 w (tab_of_glob name3 glob3 hM)) hv hx hM)
  · refine .inr ?_
    unfold bitsV at hv
    split at hv
    · simp only [Option.some.injEq] at hv
      subst hv
      obtain ⟨x, hxs, r1⟩ := hx.oneV
      have hxs' : xs = #[x] := Array.ext' (by simpa using hxs)
      subst hxs'
      cases r1 with | flt =>
      exact ⟨_, run284 _ w, .int _ _, rfl⟩
    · cases hv
  · refine .inr ?_
    unfold frombitsV at hv
    split at hv
    · simp only [Option.some.injEq] at hv
      subst hv
      obtain ⟨x, hxs, r1⟩ := hx.oneV
      have hxs' : xs = #[x] := Array.ext' (by simpa using hxs)
      subst hxs'
      cases r1 with | int =>
      exact ⟨_, run283 _ w, .flt _ _, rfl⟩
    · cases hv
  · refine .inr ?_
    have hv0 := hv
    unfold floorV at hv
    split at hv
    · obtain ⟨x, hxs, r1⟩ := hx.oneV
      have hxs' : xs = #[x] := Array.ext' (by simpa using hxs)
      subst hxs'
      cases r1 with | flt =>
      obtain ⟨r, rfl, hr⟩ := floor_run hv0 w
      exact ⟨_, hr, .flt _ _, rfl⟩
    · cases hv
theorem sound : CallOk Tryz.prog T (lim T) := lim_snd tabOk (fnsOk prim)
end Go.Den.FaT

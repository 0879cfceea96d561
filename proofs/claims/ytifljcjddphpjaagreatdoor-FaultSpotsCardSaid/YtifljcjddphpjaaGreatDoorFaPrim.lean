import Derived.Test.YtifljcjddphpjaaGreatDoorFaTab
import Derived.Test.YtifljcjddphpjaaGreatDoorFaShelfT
import Derived.Test.YtifljcjddphpjaaGreatDoorFaShelfS
import Derived.Test.YtifljcjddphpjaaGreatDoorZQ
set_option linter.all false
set_option maxHeartbeats 8000000
set_option maxRecDepth 100000
namespace Go.Den.FaT
open Go Go.Proofs Go.Den
theorem run173 (xs : Array Value) (w : World) : (callFunc 173 xs).run Tryz.prog w = .ok (.enter 173 xs) w := by kernel_rfl
theorem run224 (xs : Array Value) (w : World) : (callFunc 224 xs).run Tryz.prog w = .ok (.enter 224 xs) w := by kernel_rfl
theorem run226 (xs : Array Value) (w : World) : (callFunc 226 xs).run Tryz.prog w = .ok (.enter 226 xs) w := by kernel_rfl
theorem run245 (xs : Array Value) (w : World) : (callFunc 245 xs).run Tryz.prog w = .ok (.enter 245 xs) w := by kernel_rfl
theorem run246 (xs : Array Value) (w : World) : (callFunc 246 xs).run Tryz.prog w = .ok (.enter 246 xs) w := by kernel_rfl
theorem run284 (b : Nat) (w : World) : (callFunc 284 #[.float .f64 b]).run Tryz.prog w = .ok (.value (.int .u64 b)) w := by kernel_rfl
theorem run283 (n : Int) (w : World) : (callFunc 283 #[.int .u64 n]).run Tryz.prog w = .ok (.value (.float .f64 n.toNat)) w := by kernel_rfl
theorem run259 (b : Nat) (w : World) : (callFunc 259 #[.float .f64 b]).run Tryz.prog w = (Extern.MathFloor.toIntegral "math.archFloor" .down #[.float .f64 b] >>= fun v => pure (Next.value v) : Sem Next).run Tryz.prog w := by kernel_rfl
theorem floor_cases (b : Nat) : ∃ q : Question, Extern.MathFloor.toIntegral "math.archFloor" .down #[.float .f64 b] =
    (match FloatKind.f64.decode b with
     | .nan s t => if FloatKind.f64.format.quiet t = t then pure (.float .f64 b) else do
        let kept ← choose q
        pure (.float .f64 (if kept == 1 then b else FloatKind.f64.encode (.nan s (FloatKind.f64.format.quiet t))))
     | d => pure (.float .f64 (FloatKind.f64.encode (d.integral .down)))) := by
  delta Extern.MathFloor.toIntegral
  exact ⟨_, rfl⟩
theorem or_bit_mod (t n : Nat) (hn : 0 < n) : 0 < (t ||| 2 ^ (n - 1)) % 2 ^ n := by
  apply Nat.pos_of_ne_zero
  intro h
  have h1 := congrArg (fun x => x.testBit (n - 1)) h
  simp only [Nat.testBit_mod_two_pow, Nat.testBit_or, Nat.testBit_two_pow, Nat.zero_testBit] at h1
  simp [show n - 1 < n by omega] at h1
theorem quiet_nan (s : Bool) (t : Nat) : (FloatKind.f64.decode (FloatKind.f64.encode (.nan s (FloatKind.f64.format.quiet t)))).isNaN = true := by
  have a1 : Ieee.double.signWeight = 9223372036854775808 := by decide
  have a2 : Ieee.double.binade = 4503599627370496 := by decide
  have a3 : Ieee.double.infRung = 9218868437227405312 := by decide
  have h0 : 0 < (Ieee.double.quiet t) % 4503599627370496 := or_bit_mod t 52 (by omega)
  have hlt : (Ieee.double.quiet t) % 4503599627370496 < 4503599627370496 := Nat.mod_lt _ (by omega)
  have e : FloatKind.f64.encode (.nan s (FloatKind.f64.format.quiet t)) = (if s then 9223372036854775808 + (9218868437227405312 + (Ieee.double.quiet t) % 4503599627370496) else 9218868437227405312 + (Ieee.double.quiet t) % 4503599627370496) := by
    show Ieee.double.word s (Ieee.double.infRung + (Ieee.double.quiet t) % Ieee.double.binade) = _
    unfold Ieee.Format.word
    rw [a1, a2, a3]
  rw [e]
  generalize (Ieee.double.quiet t) % 4503599627370496 = r at *
  refine read_nan Ieee.double _ ?_ ?_ ?_ <;> rw [a1] <;> simp only [a2, a3] <;> cases s <;> simp only [if_true, if_false, Bool.false_eq_true] <;> omega
theorem floor_run {b b' : Nat} {v : V} (h : floorV [.flt .f64 b] = some v) (hb : Fe .f64 b b') (w : World) (G : Gh) : ∃ r w', (callFunc 259 #[.float .f64 b']).run Tryz.prog w = .ok (.value (.float .f64 r)) w' ∧ Drw w w' ∧ Rel G v (.float .f64 r) ∧ pureV v = true := by
  rw [run259]
  obtain ⟨q, hq⟩ := floor_cases b'
  rw [hq]
  simp only [floorV] at h
  cases hx : FloatKind.f64.decode b with
  | nan s t =>
    rw [hx] at h; cases h
    obtain ⟨s', t', hx'⟩ : ∃ s' t', FloatKind.f64.decode b' = .nan s' t' := by
      rcases hb with rfl | ⟨_, h2⟩
      · exact ⟨_, _, hx⟩
      · exact nan_ex h2
    rw [hx']
    simp only
    by_cases hqt : FloatKind.f64.format.quiet t' = t'
    · rw [if_pos hqt]
      exact ⟨b', w, rfl, .inl rfl, .nan _ _ (by rw [hx']; rfl), rfl⟩
    · rw [if_neg hqt]
      have key : ∀ k : Nat, (FloatKind.f64.decode (if (k == 1) = true then b' else FloatKind.f64.encode (.nan s' (FloatKind.f64.format.quiet t')))).isNaN = true := by
        intro k
        split
        · rw [hx']; rfl
        · exact quiet_nan s' t'
      cases hf : q.forced with
      | true => exact ⟨_, w, by simp [hf], .inl rfl, .nan _ _ (key 0), rfl⟩
      | false => exact ⟨_, w.drew, by simp [hf], .inr rfl, .nan _ _ (key (q.cut (w.tape w.drawn q))), rfl⟩
  | infinity s =>
    rcases hb with rfl | ⟨h1, _⟩
    · rw [hx] at h ⊢; cases h; exact ⟨_, w, rfl, .inl rfl, .flt _ _, rfl⟩
    · rw [hx] at h1; cases h1
  | number s m e =>
    rcases hb with rfl | ⟨h1, _⟩
    · rw [hx] at h ⊢; cases h; exact ⟨_, w, rfl, .inl rfl, .flt _ _, rfl⟩
    · rw [hx] at h1; cases h1
theorem prims_inv {f : FuncId} {p : List V → Option V} (h : T.prim f = some p) : (f = 173 ∧ p = joinV) ∨ (f = 224 ∧ p = itoaV) ∨ (f = 226 ∧ p = ixV) ∨ (f = 246 ∧ p = ix1V) ∨ (f = 245 ∧ p = ct1V) ∨ (f = 284 ∧ p = bitsV) ∨ (f = 283 ∧ p = frombitsV) ∨ (f = 259 ∧ p = floorV) := by
  have h : lookup f prims = some p := h
  simp only [prims, lookup_cons] at h
  repeat' split at h
  all_goals first
    | (rename_i e; subst e; cases h; simp; done)
    | skip
  cases h
theorem glob3 : T.glob 3 = some (Lib.pow10Tab.map fun z => V.int .u64 z) := by kernel_rfl
theorem name3 : Tryz.prog.globalNamed "internal/strconv.uint64pow10" = some 3 := by kernel_rfl
theorem prim : PrimOk Tryz.prog T := by
  intro f p args v hp hv G w xs hx hpu hM
  rcases prims_inv hp with ⟨rfl, rfl⟩ | ⟨rfl, rfl⟩ | ⟨rfl, rfl⟩ | ⟨rfl, rfl⟩ | ⟨rfl, rfl⟩ | ⟨rfl, rfl⟩ | ⟨rfl, rfl⟩ | ⟨rfl, rfl⟩
  · exact .inl (join_prim run173 (fun a c sep w => Tryz.strings_Join_none a c sep w) (fun bk o c xs sep w h1 h2 h3 h4 h5 => Tryz.strings_Join bk o c xs sep w h1 h2 h3 h4 h5) hv hx hM)
  · exact .inl (itoa_prim run224 (fun n h0 h1 => Tryz.strconv_Itoa n h0 h1 w (tab_of_glob name3 glob3 hM)) hv hx hM)
  · exact .inl (ix_prim run226 (fun s c w => Tryz.strings_IndexByte s c w) hv hx hM)
  · exact .inl (byte_prim (fun _ _ h => ix1_inv h) run246 (fun s c w => Tryz.strings_Index_one s c w) hv hx hM)
  · exact .inl (byte_prim (fun _ _ h => ct1_inv h) run245 (fun s c w => Tryz.strings_Count_one s c w) hv hx hM)
  · refine .inr ?_
    unfold bitsV at hv
    split at hv
    · rename_i b
      obtain ⟨x, hxs, r1⟩ := hx.oneV
      have hxs' : xs = #[x] := Array.ext' (by simpa using hxs)
      subst hxs'
      obtain ⟨b', rfl, fb⟩ := r1.fltInv
      have hn : b = b' ∧ v = .int .u64 b := by
        rcases fb with rfl | ⟨h1, _⟩
        · split at hv
          · cases hv
          · cases hv; exact ⟨rfl, rfl⟩
        · obtain ⟨s, t, h1⟩ := nan_ex h1
          rw [h1] at hv; cases hv
      obtain ⟨rfl, rfl⟩ := hn
      exact ⟨_, w, run284 _ w, .inl rfl, .int _ _, rfl⟩
    · cases hv
  · refine .inr ?_
    unfold frombitsV at hv
    split at hv
    · simp only [Option.some.injEq] at hv
      subst hv
      obtain ⟨x, hxs, r1⟩ := hx.oneV
      have hxs' : xs = #[x] := Array.ext' (by simpa using hxs)
      subst hxs'
      cases r1 with | int =>
      exact ⟨_, w, run283 _ w, .inl rfl, .flt _ _, rfl⟩
    · cases hv
  · refine .inr ?_
    have hv0 := hv
    unfold floorV at hv
    split at hv
    · obtain ⟨x, hxs, r1⟩ := hx.oneV
      have hxs' : xs = #[x] := Array.ext' (by simpa using hxs)
      subst hxs'
      obtain ⟨b', rfl, fb⟩ := r1.fltInv
      obtain ⟨r, w', h1, h2, h3, h4⟩ := floor_run hv0 fb w G.bare
      exact ⟨_, w', h1, h2, h3, h4⟩
    · cases hv
theorem sound : CallOk Tryz.prog T (lim T) := lim_snd tabOk (fnsOk prim)
end Go.Den.FaT

/- A transaction hangs on its own keys alone: the given statement FnTxnOnly, with no condition. -/
import Derived.Test.YtghkelfpomfadaaL6
import Derived.Test.YtghkelfpomfadaaRo
import Derived.Test.YtghkelfpomfadaaRows
import Derived.Test.YtghkelfpomfadaaChecked
import Derived.JoinedOf
import Derived.ShutString
import Derived.Deep.Fields
set_option linter.unusedVariables false
set_option linter.unusedSimpArgs false
/-! The row of FnTxnOnly, from the contract of the law. -/
namespace Go.Proofs.Ytghkelfpomfadaa.FnTxnOnlyRow
open Go.Ae Go.ChangeShapes Go.WideShapes Go.ChangeAt Go.RowKit Go.Deep
open Go.Proofs.Ytghkelfpomfadaa
set_option linter.unusedVariables false
theorem own : ownKnob Try.prog.godebug = none := by kernel_rfl
theorem laidOut : laidOutB Try.prog = true := by kernel_rfl
theorem toGives {P : Program} {f : FuncId} {args : List AV} (h : Does P f 0 args [] fun vv H2 => ∃ x : Bool, (x = true) ∧ vv = .lit (.bool x) ∧ H2 = []) : Gives P f args (.lit (.bool true)) :=
  h.mono fun v H ⟨x, hx, hv, hH⟩ => ⟨by rw [hv, hx], hH⟩
theorem open5 : Opens Try.prog 5 encU8 (fun _ => True) := Opens.u8 Try.underlying5
theorem open22 : Opens Try.prog 22 (fun l : List UInt8 => [.rd 1 encU8 l]) (fun l => l.length ≤ 9223372036854775807 ∧ ∀ x ∈ l, (fun _ => True) x) := Opens.slice (k := 1) Try.underlying22 (by kernel_rfl) (by decide) (fun _ => rfl) open5
set_option maxRecDepth 100000 in
theorem lifted (os : Os) (started : os.Started) (H : Type) (enc : TypeId × Value → H) :
    ReturnsInHanded {} Try.checked os 4 .any (Rows.fnTxnOnlySpec.pre6 enc Try.prog Try.f4 Rows.fnTxnOnlyRow.domain false) (Rows.fnTxnOnlySpec.post enc Try.prog Try.f4 false true false false) := by
  refine returnsInHanded_of_change (C := Try.checked) own started (by kernel_rfl) Try.func4
    (ChangeSpec.witness6 (enc := enc) (C := Try.checked) false ⟨#[], #[.slice none 0 0], []⟩ 8 (by kernel_rfl) (by kernel_rfl) (by kernel_rfl) (by kernel_rfl)) ?_
  intro W base args ds gs before hval0 hW hcnd _
  have hval : ∀ (j : Nat) t v, Try.f4.params[j]? = some t → args[j]? = some v → Value.okWide Try.prog W .any base t v := hval0
  have hW' := hW
  obtain ⟨p, q, hA0, hV, rfl, hfz, hnd⟩ := hW
  have hA : DataW.TrodAll enc Try.prog W 0 (fun _ => true) true Try.f4.params.toList args.toList ds p := hA0
  rw [Try.params4] at hA hval
  obtain ⟨v0, vs0, d0, ds0, p0, q0, hargs, rfl, rfl, h0, r0⟩ := trodAll_cons hA
  obtain ⟨rfl, rfl, rfl⟩ := trodAll_nil r0
  obtain rfl : args = #[v0] := by cases args; simp_all
  obtain ⟨rfl, rfl⟩ := trodVars_none hV
  obtain ⟨a0, len0, cap0, rfl⟩ := okWide_slice Try.underlying22 (hval 0 22 v0 rfl rfl)
  have k0 := h0
  have lt0 : ∀ x ∈ p0, x.block < W.heap.size := by obtain ⟨m, hm⟩ := k0; exact DataW.trod_lt m _ _ _ hm
  obtain ⟨l0, b0, hC0⟩ : ∃ l : List UInt8, (fun l : List UInt8 => l.length ≤ 9223372036854775807 ∧ ∀ x ∈ l, (fun _ => True) x) l ∧ Rel (Gh.all W) W (.r (.rd 1 encU8 l)) (.slice a0 len0 cap0) := by
    obtain ⟨fuel, hf⟩ := h0
    obtain ⟨l, h1, h2⟩ := open22 enc W 0 _ _ fuel _ _ hf
    exact ⟨l, h1, Reads.one h2⟩
  clear hA0 hval0
  have hrun := (toGives (lw_FnTxnOnly_c l0 (by exact b0.1))).outside (w := W) (us := #[.slice a0 len0 cap0]) rfl (fun i c v e1 e2 => by
    match i with
    | 0 =>
      simp only [List.getElem?_cons_zero, Option.some.injEq] at e1
      subst e1
      have : Value.slice a0 len0 cap0 = v := by simpa using e2
      subst this
      exact hC0
    | i + 1 => simp at e1)
  refine hrun.mono fun E W' he => ?_
  obtain ⟨rfl, b1, b2, b3, b4, b5⟩ := he
  have bel : Below W.heap.size W W' := ⟨b1, b2, b3, b4, b5⟩
  exact ⟨_, rfl, _, _, _, [], _, [], hW', trodAll_mk1 (shut_bool Try.underlying4 _), (trodAll_cons_mk (Below.trod laidOut (by kernel_rfl) (of_decide_eq_true (by kernel_rfl)) k0 bel lt0) trodAll_mk0), rfl, bel.frame _, fun h => by cases h⟩
theorem over : Rows.fnTxnOnlyRow.holds Try.pinned (OpenSpec.ofChange Rows.fnTxnOnlySpec) :=
  OpenClaim.holds_of_wide 4 Try.f4 rfl rfl rfl rfl rfl rfl rfl ⟨rfl, rfl, rfl, rfl, rfl⟩ rfl rfl rfl rfl rfl (by kernel_rfl) Try.func4 (by kernel_rfl)
    (of_decide_eq_true (by kernel_rfl)) (by unfold Func.isWrapper; first | (rw [if_pos (by decide +kernel)]; kernel_rfl) | (rw [if_neg (by decide +kernel)]; exact ⟨rfl, rfl⟩))
    (fun os started H enc _ => lifted os started H enc)
end Go.Proofs.Ytghkelfpomfadaa.FnTxnOnlyRow
namespace Go.Proofs.Ytghkelfpomfadaa
/-- The given statement, with no condition. -/
theorem FnTxnOnly_holds : Rows.FnTxnOnlySaid := FnTxnOnlyRow.over
end Go.Proofs.Ytghkelfpomfadaa

/- The row of FnTableCodes, from the contract of the law. -/
import Derived.Test.YtlojldccjmkikaaR0
import Derived.Test.YtlojldccjmkikaaRows
import Derived.Test.YtlojldccjmkikaaChecked
import Derived.JoinedOf
import Derived.ShutString
import Derived.Deep.Fields
set_option linter.unusedVariables false
set_option linter.unusedSimpArgs false
/-! The row of FnTableCodes, from the contract of the law. -/
namespace Go.Proofs.Ytlojldccjmkikaa.CodesRow
open Go.Ae Go.ChangeShapes Go.WideShapes Go.ChangeAt Go.RowKit Go.Deep
open Go.Proofs.Ytlojldccjmkikaa
set_option linter.unusedVariables false
theorem own : ownKnob Try.prog.godebug = none := by kernel_rfl
theorem laidOut : laidOutB Try.prog = true := by kernel_rfl
set_option maxRecDepth 100000 in
theorem lifted (hlaw : ∀ code more : List UInt8, code.length ≤ 9223372036854775807 → more.length ≤ 9223372036854775807 → Gives Try.prog 4 [.r (.rd 1 encU8 code), .r (.rd 1 encU8 more)] (.lit (.bool true)))
    (os : Os) (started : os.Started) (H : Type) (enc : TypeId × Value → H) :
    ReturnsInHanded {} Try.checked os 4 .any (Rows.fnTableCodesSpec.pre6 enc Try.prog Try.f4 Rows.fnTableCodesRow.domain false) (Rows.fnTableCodesSpec.post enc Try.prog Try.f4 false true false false) := by
  refine returnsInHanded_of_change (C := Try.checked) own started (by kernel_rfl) Try.func4
    (ChangeSpec.witness6 (enc := enc) (C := Try.checked) false ⟨#[], #[.slice none 0 0, .slice none 0 0], []⟩ 8 (by kernel_rfl) (by kernel_rfl) (by kernel_rfl) (by kernel_rfl)) ?_
  intro W base args ds gs before hval0 hW hcnd _
  have hval : ∀ (j : Nat) t v, Try.f4.params[j]? = some t → args[j]? = some v → Value.okWide Try.prog W .any base t v := hval0
  have hW' := hW
  obtain ⟨p, q, hA0, hV, rfl, hfz, hnd⟩ := hW
  have hA : DataW.TrodAll enc Try.prog W 0 (fun _ => true) true Try.f4.params.toList args.toList ds p := hA0
  rw [Try.params4] at hA hval
  obtain ⟨v0, vs0, d0, ds0, p0, q0, hargs, rfl, rfl, h0, r0⟩ := trodAll_cons hA
  obtain ⟨v1, vs1, d1, ds1, p1, q1, rfl, rfl, rfl, h1, r1⟩ := trodAll_cons r0
  obtain ⟨rfl, rfl, rfl⟩ := trodAll_nil r1
  obtain rfl : args = #[v0, v1] := by cases args; simp_all
  obtain ⟨rfl, rfl⟩ := trodVars_none hV
  obtain ⟨a0, len0, cap0, rfl⟩ := okWide_slice Try.underlying29 (hval 0 29 v0 rfl rfl)
  obtain ⟨a1, len1, cap1, rfl⟩ := okWide_slice Try.underlying29 (hval 1 29 v1 rfl rfl)
  have k0 := h0
  have k1 := h1
  have lt0 : ∀ x ∈ p0, x.block < W.heap.size := by obtain ⟨m, hm⟩ := k0; exact DataW.trod_lt m _ _ _ hm
  have lt1 : ∀ x ∈ p1, x.block < W.heap.size := by obtain ⟨m, hm⟩ := k1; exact DataW.trod_lt m _ _ _ hm
  obtain ⟨l0, rfl, hcap0, hmax0, hC0⟩ : ∃ l : List UInt8, l.length = len0 ∧ len0 ≤ cap0 ∧ len0 ≤ 9223372036854775807 ∧ Rel (Gh.all W) W (.r (.rd 1 encU8 l)) (.slice a0 len0 cap0) := by
    obtain ⟨fuel, hf⟩ := h0
    exact open_bytes (by simpa [Value.cells] using hf)
  obtain ⟨l1, rfl, hcap1, hmax1, hC1⟩ : ∃ l : List UInt8, l.length = len1 ∧ len1 ≤ cap1 ∧ len1 ≤ 9223372036854775807 ∧ Rel (Gh.all W) W (.r (.rd 1 encU8 l)) (.slice a1 len1 cap1) := by
    obtain ⟨fuel, hf⟩ := h1
    exact open_bytes (by simpa [Value.cells] using hf)
  clear hA0 hval0
  have hrun := (hlaw l0 l1 hmax0 hmax1).outside (w := W) (us := #[.slice a0 l0.length cap0, .slice a1 l1.length cap1]) rfl (fun i c v e1 e2 => by
    match i with
    | 0 =>
      simp only [List.getElem?_cons_zero, Option.some.injEq] at e1
      subst e1
      have : Value.slice a0 l0.length cap0 = v := by simpa using e2
      subst this
      exact hC0
    | 1 =>
      simp only [List.getElem?_cons_succ, List.getElem?_cons_zero, Option.some.injEq] at e1
      subst e1
      have : Value.slice a1 l1.length cap1 = v := by simpa using e2
      subst this
      exact hC1
    | i + 2 => simp at e1)
  refine hrun.mono fun e W' he => ?_
  obtain ⟨rfl, b1, b2, b3, b4, b5⟩ := he
  have bel : Below W.heap.size W W' := ⟨b1, b2, b3, b4, b5⟩
  exact ⟨_, rfl, _, _, _, [], _, [], hW', trodAll_mk1 (shut_bool Try.underlying4 _), (trodAll_cons_mk (Below.trod laidOut (by kernel_rfl) (of_decide_eq_true (by kernel_rfl)) k0 bel lt0) (trodAll_cons_mk (Below.trod laidOut (by kernel_rfl) (of_decide_eq_true (by kernel_rfl)) k1 bel lt1) trodAll_mk0)), rfl, bel.frame _, fun h => by cases h⟩
theorem over (hlaw : ∀ code more : List UInt8, code.length ≤ 9223372036854775807 → more.length ≤ 9223372036854775807 → Gives Try.prog 4 [.r (.rd 1 encU8 code), .r (.rd 1 encU8 more)] (.lit (.bool true))) : Rows.fnTableCodesRow.holds Try.pinned (OpenSpec.ofChange Rows.fnTableCodesSpec) :=
  OpenClaim.holds_of_wide 4 Try.f4 rfl rfl rfl rfl rfl rfl rfl ⟨rfl, rfl, rfl, rfl, rfl⟩ rfl rfl rfl rfl rfl (by kernel_rfl) Try.func4 (by kernel_rfl)
    (of_decide_eq_true (by kernel_rfl)) (by unfold Func.isWrapper; first | (rw [if_pos (by decide +kernel)]; kernel_rfl) | (rw [if_neg (by decide +kernel)]; exact ⟨rfl, rfl⟩))
    (fun os started H enc _ => lifted hlaw os started H enc)
end Go.Proofs.Ytlojldccjmkikaa.CodesRow

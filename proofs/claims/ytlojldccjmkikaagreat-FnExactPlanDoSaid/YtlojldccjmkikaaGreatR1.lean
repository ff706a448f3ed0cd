/- The program's PlanDo returns what the reference's returns: the given statement FnExactPlanDo, with no condition. -/
import Derived.Test.YtlojldccjmkikaaGreatL1
import Derived.Test.YtlojldccjmkikaaGreatRo
import Derived.Test.YtlojldccjmkikaaGreatRows
import Derived.Test.YtlojldccjmkikaaGreatChecked
import Derived.JoinedOf
import Derived.ShutString
import Derived.Deep.Fields
set_option linter.unusedVariables false
set_option linter.unusedSimpArgs false
/-! The row of FnExactPlanDo, from the contract of the law. -/
namespace Go.Proofs.YtlojldccjmkikaaGreat.FnExactPlanDoRow
open Go.Ae Go.ChangeShapes Go.WideShapes Go.ChangeAt Go.RowKit Go.Deep
open Go.Proofs.YtlojldccjmkikaaGreat
set_option linter.unusedVariables false
theorem own : ownKnob Tryz.prog.godebug = none := by kernel_rfl
theorem laidOut : laidOutB Tryz.prog = true := by kernel_rfl
theorem open3 : Opens Tryz.prog 3 encInt (fun _ => True) := Opens.int Tryz.underlying3
def okR148 (v : GTableRange) : Prop := (fun _ => True) v.Lo ∧ (fun _ => True) v.Hi ∧ (fun _ => True) v.Node
set_option maxRecDepth 100000 in
theorem open148 : Opens Tryz.prog 148 encGTableRange okR148 := by
  intro H e w base spare held fuel cs x h
  obtain ⟨xs, n, _, _, hlen, hxl, hf⟩ := DataW.trod_struct Tryz.underlying148 h
  have hlen : cs.length = 3 := hlen.trans (by kernel_rfl)
  obtain ⟨v0, k0, r0⟩ := Opens.field (i := 0) (off := 0) (k := 1) (ft := 3) hf hxl rfl rfl rfl (by kernel_rfl) open3
  obtain ⟨v1, k1, r1⟩ := Opens.field (i := 1) (off := 1) (k := 1) (ft := 3) hf hxl rfl rfl rfl (by kernel_rfl) open3
  obtain ⟨v2, k2, r2⟩ := Opens.field (i := 2) (off := 2) (k := 1) (ft := 3) hf hxl rfl rfl rfl (by kernel_rfl) open3
  exact ⟨⟨v0, v1, v2⟩, ⟨k0, k1, k2⟩, Reads.drop0 (Reads.cat rfl r0 (Reads.cat rfl r1 (Reads.cat rfl r2 (Reads.fin hlen) rfl (by omega)) rfl (by omega)) rfl (by omega))⟩
theorem open33 : Opens Tryz.prog 33 (fun l : List GTableRange => [.rd 3 encGTableRange l]) (fun l => l.length ≤ 9223372036854775807 ∧ ∀ x ∈ l, okR148 x) := Opens.slice (k := 3) Tryz.underlying33 (by kernel_rfl) (by decide) (fun _ => rfl) open148
def okR35 (v : GTable) : Prop := (fun _ => True) v.Epoch ∧ (fun _ => True) v.Members ∧ (fun l : List GTableRange => l.length ≤ 9223372036854775807 ∧ ∀ x ∈ l, okR148 x) v.Ranges
set_option maxRecDepth 100000 in
theorem open35 : Opens Tryz.prog 35 encGTable okR35 := by
  intro H e w base spare held fuel cs x h
  obtain ⟨xs, n, _, _, hlen, hxl, hf⟩ := DataW.trod_struct Tryz.underlying35 h
  have hlen : cs.length = 3 := hlen.trans (by kernel_rfl)
  obtain ⟨v0, k0, r0⟩ := Opens.field (i := 0) (off := 0) (k := 1) (ft := 3) hf hxl rfl rfl rfl (by kernel_rfl) open3
  obtain ⟨v1, k1, r1⟩ := Opens.field (i := 1) (off := 1) (k := 1) (ft := 3) hf hxl rfl rfl rfl (by kernel_rfl) open3
  obtain ⟨v2, k2, r2⟩ := Opens.field (i := 2) (off := 2) (k := 1) (ft := 33) hf hxl rfl rfl rfl (by kernel_rfl) open33
  exact ⟨⟨v0, v1, v2⟩, ⟨k0, k1, k2⟩, Reads.drop0 (Reads.cat rfl r0 (Reads.cat rfl r1 (Reads.cat rfl r2 (Reads.fin hlen) rfl (by omega)) rfl (by omega)) rfl (by omega))⟩
def okR122 (v : GPlanSeen) : Prop := (fun _ => True) v.Session ∧ (fun _ => True) v.Call ∧ (fun _ => True) v.Code
set_option maxRecDepth 100000 in
theorem open122 : Opens Tryz.prog 122 encGPlanSeen okR122 := by
  intro H e w base spare held fuel cs x h
  obtain ⟨xs, n, _, _, hlen, hxl, hf⟩ := DataW.trod_struct Tryz.underlying122 h
  have hlen : cs.length = 3 := hlen.trans (by kernel_rfl)
  obtain ⟨v0, k0, r0⟩ := Opens.field (i := 0) (off := 0) (k := 1) (ft := 3) hf hxl rfl rfl rfl (by kernel_rfl) open3
  obtain ⟨v1, k1, r1⟩ := Opens.field (i := 1) (off := 1) (k := 1) (ft := 3) hf hxl rfl rfl rfl (by kernel_rfl) open3
  obtain ⟨v2, k2, r2⟩ := Opens.field (i := 2) (off := 2) (k := 1) (ft := 3) hf hxl rfl rfl rfl (by kernel_rfl) open3
  exact ⟨⟨v0, v1, v2⟩, ⟨k0, k1, k2⟩, Reads.drop0 (Reads.cat rfl r0 (Reads.cat rfl r1 (Reads.cat rfl r2 (Reads.fin hlen) rfl (by omega)) rfl (by omega)) rfl (by omega))⟩
theorem open36 : Opens Tryz.prog 36 (fun l : List GPlanSeen => [.rd 3 encGPlanSeen l]) (fun l => l.length ≤ 9223372036854775807 ∧ ∀ x ∈ l, okR122 x) := Opens.slice (k := 3) Tryz.underlying36 (by kernel_rfl) (by decide) (fun _ => rfl) open122
def okR38 (v : GPlan) : Prop := (fun _ => True) v.At ∧ okR35 v.Table ∧ (fun l : List GPlanSeen => l.length ≤ 9223372036854775807 ∧ ∀ x ∈ l, okR122 x) v.Seen ∧ (fun _ => True) v.Old ∧ (fun _ => True) v.New
set_option maxRecDepth 100000 in
theorem open38 : Opens Tryz.prog 38 encGPlan okR38 := by
  intro H e w base spare held fuel cs x h
  obtain ⟨xs, n, _, _, hlen, hxl, hf⟩ := DataW.trod_struct Tryz.underlying38 h
  have hlen : cs.length = 7 := hlen.trans (by kernel_rfl)
  obtain ⟨v0, k0, r0⟩ := Opens.field (i := 0) (off := 0) (k := 1) (ft := 3) hf hxl rfl rfl rfl (by kernel_rfl) open3
  obtain ⟨v1, k1, r1⟩ := Opens.field (i := 1) (off := 1) (k := 3) (ft := 35) hf hxl rfl rfl rfl (by kernel_rfl) open35
  obtain ⟨v2, k2, r2⟩ := Opens.field (i := 2) (off := 4) (k := 1) (ft := 36) hf hxl rfl rfl rfl (by kernel_rfl) open36
  obtain ⟨v3, k3, r3⟩ := Opens.field (i := 3) (off := 5) (k := 1) (ft := 3) hf hxl rfl rfl rfl (by kernel_rfl) open3
  obtain ⟨v4, k4, r4⟩ := Opens.field (i := 4) (off := 6) (k := 1) (ft := 3) hf hxl rfl rfl rfl (by kernel_rfl) open3
  exact ⟨⟨v0, v1, v2, v3, v4⟩, ⟨k0, k1, k2, k3, k4⟩, Reads.drop0 (Reads.cat rfl r0 (Reads.cat rfl r1 (Reads.cat rfl r2 (Reads.cat rfl r3 (Reads.cat rfl r4 (Reads.fin hlen) rfl (by omega)) rfl (by omega)) rfl (by omega)) rfl (by omega)) rfl (by omega))⟩
theorem open9 : Opens Tryz.prog 9 encStr (fun s => s.size ≤ 9223372036854775807) := Opens.str Tryz.underlying9
def okR39 (v : GCmd) : Prop := (fun _ => True) v.Kind ∧ (fun _ => True) v.Session ∧ (fun _ => True) v.Call ∧ (fun _ => True) v.At ∧ (fun _ => True) v.To ∧ (fun s : ByteArray => s.size ≤ 9223372036854775807) v.Text
set_option maxRecDepth 100000 in
theorem open39 : Opens Tryz.prog 39 encGCmd okR39 := by
  intro H e w base spare held fuel cs x h
  obtain ⟨xs, n, _, _, hlen, hxl, hf⟩ := DataW.trod_struct Tryz.underlying39 h
  have hlen : cs.length = 6 := hlen.trans (by kernel_rfl)
  obtain ⟨v0, k0, r0⟩ := Opens.field (i := 0) (off := 0) (k := 1) (ft := 3) hf hxl rfl rfl rfl (by kernel_rfl) open3
  obtain ⟨v1, k1, r1⟩ := Opens.field (i := 1) (off := 1) (k := 1) (ft := 3) hf hxl rfl rfl rfl (by kernel_rfl) open3
  obtain ⟨v2, k2, r2⟩ := Opens.field (i := 2) (off := 2) (k := 1) (ft := 3) hf hxl rfl rfl rfl (by kernel_rfl) open3
  obtain ⟨v3, k3, r3⟩ := Opens.field (i := 3) (off := 3) (k := 1) (ft := 3) hf hxl rfl rfl rfl (by kernel_rfl) open3
  obtain ⟨v4, k4, r4⟩ := Opens.field (i := 4) (off := 4) (k := 1) (ft := 3) hf hxl rfl rfl rfl (by kernel_rfl) open3
  obtain ⟨v5, k5, r5⟩ := Opens.field (i := 5) (off := 5) (k := 1) (ft := 9) hf hxl rfl rfl rfl (by kernel_rfl) open9
  exact ⟨⟨v0, v1, v2, v3, v4, v5⟩, ⟨k0, k1, k2, k3, k4, k5⟩, Reads.drop0 (Reads.cat rfl r0 (Reads.cat rfl r1 (Reads.cat rfl r2 (Reads.cat rfl r3 (Reads.cat rfl r4 (Reads.cat rfl r5 (Reads.fin hlen) rfl (by omega)) rfl (by omega)) rfl (by omega)) rfl (by omega)) rfl (by omega)) rfl (by omega))⟩
set_option maxRecDepth 100000 in
theorem lifted (os : Os) (started : os.Started) (H : Type) (enc : TypeId × Value → H) :
    ReturnsInHanded {} Tryz.checked os 4 .any (Rows.fnExactPlanDoSpec.pre6 enc Tryz.prog Tryz.f4 Rows.fnExactPlanDoRow.domain false) (Rows.fnExactPlanDoSpec.post enc Tryz.prog Tryz.f4 false true false false) := by
  refine returnsInHanded_of_change (C := Tryz.checked) own started (by kernel_rfl) Tryz.func4
    (ChangeSpec.witness6 (enc := enc) (C := Tryz.checked) false ⟨#[], #[.agg #[.int .i64 0, .int .i64 0, .int .i64 0, .slice none 0 0, .slice none 0 0, .int .i64 0, .int .i64 0], .agg #[.int .i64 0, .int .i64 0, .int .i64 0, .int .i64 0, .int .i64 0, .string ⟨#[]⟩]], []⟩ 8 (by kernel_rfl) (by kernel_rfl) (by kernel_rfl) (by kernel_rfl)) ?_
  intro W base args ds gs before hval0 hW hcnd _
  have hval : ∀ (j : Nat) t v, Tryz.f4.params[j]? = some t → args[j]? = some v → Value.okWide Tryz.prog W .any base t v := hval0
  have hW' := hW
  obtain ⟨p, q, hA0, hV, rfl, hfz, hnd⟩ := hW
  have hA : DataW.TrodAll enc Tryz.prog W 0 (fun _ => true) true Tryz.f4.params.toList args.toList ds p := hA0
  rw [Tryz.params4] at hA hval
  obtain ⟨v0, vs0, d0, ds0, p0, q0, hargs, rfl, rfl, h0, r0⟩ := trodAll_cons hA
  obtain ⟨v1, vs1, d1, ds1, p1, q1, rfl, rfl, rfl, h1, r1⟩ := trodAll_cons r0
  obtain ⟨rfl, rfl, rfl⟩ := trodAll_nil r1
  obtain rfl : args = #[v0, v1] := by cases args; simp_all
  obtain ⟨rfl, rfl⟩ := trodVars_none hV
  obtain ⟨cs0, rfl, hsz0⟩ := okWide_struct Tryz.underlying38 (hval 0 38 v0 rfl rfl)
  have k0 := h0
  have lt0 : ∀ x ∈ p0, x.block < W.heap.size := by obtain ⟨m, hm⟩ := k0; exact DataW.trod_lt m _ _ _ hm
  obtain ⟨l0, b0, hC0⟩ : ∃ l : GPlan, okR38 l ∧ Rel (Gh.all W) W (.agg ((encGPlan l).map AV.r)) (.agg cs0) := by
    obtain ⟨fuel, hf⟩ := h0
    obtain ⟨l, h1, h2⟩ := open38 enc W 0 _ _ fuel _ _ hf
    exact ⟨l, h1, Reads.agg (by simpa [Value.cells] using h2)⟩
  obtain ⟨cs1, rfl, hsz1⟩ := okWide_struct Tryz.underlying39 (hval 1 39 v1 rfl rfl)
  have k1 := h1
  have lt1 : ∀ x ∈ p1, x.block < W.heap.size := by obtain ⟨m, hm⟩ := k1; exact DataW.trod_lt m _ _ _ hm
  obtain ⟨l1, b1, hC1⟩ : ∃ l : GCmd, okR39 l ∧ Rel (Gh.all W) W (.agg ((encGCmd l).map AV.r)) (.agg cs1) := by
    obtain ⟨fuel, hf⟩ := h1
    obtain ⟨l, h1, h2⟩ := open39 enc W 0 _ _ fuel _ _ hf
    exact ⟨l, h1, Reads.agg (by simpa [Value.cells] using h2)⟩
  clear hA0 hval0
  have hrun := (lw_FnExactPlanDo_c l0 l1 (by exact b0.2.1.2.2.1) (by exact b0.2.2.1.1)).outside (w := W) (us := #[.agg cs0, .agg cs1]) rfl (fun i c v e1 e2 => by
    match i with
    | 0 =>
      simp only [List.getElem?_cons_zero, Option.some.injEq] at e1
      subst e1
      have : Value.agg cs0 = v := by simpa using e2
      subst this
      exact hC0
    | 1 =>
      simp only [List.getElem?_cons_succ, List.getElem?_cons_zero, Option.some.injEq] at e1
      subst e1
      have : Value.agg cs1 = v := by simpa using e2
      subst this
      exact hC1
    | i + 2 => simp at e1)
  refine hrun.mono fun E W' he => ?_
  obtain ⟨rfl, b1, b2, b3, b4, b5⟩ := he
  have bel : Below W.heap.size W W' := ⟨b1, b2, b3, b4, b5⟩
  exact ⟨_, rfl, _, _, _, [], _, [], hW', trodAll_mk1 (shut_bool Tryz.underlying4 _), (trodAll_cons_mk (Below.trod laidOut (by kernel_rfl) (of_decide_eq_true (by kernel_rfl)) k0 bel lt0) (trodAll_cons_mk (Below.trod laidOut (by kernel_rfl) (of_decide_eq_true (by kernel_rfl)) k1 bel lt1) trodAll_mk0)), rfl, bel.frame _, fun h => by cases h⟩
theorem over : Rows.fnExactPlanDoRow.holds Tryz.pinned (OpenSpec.ofChange Rows.fnExactPlanDoSpec) :=
  OpenClaim.holds_of_wide 4 Tryz.f4 rfl rfl rfl rfl rfl rfl rfl ⟨rfl, rfl, rfl, rfl, rfl⟩ rfl rfl rfl rfl rfl (by kernel_rfl) Tryz.func4 (by kernel_rfl)
    (of_decide_eq_true (by kernel_rfl)) (by unfold Func.isWrapper; first | (rw [if_pos (by decide +kernel)]; kernel_rfl) | (rw [if_neg (by decide +kernel)]; exact ⟨rfl, rfl⟩))
    (fun os started H enc _ => lifted os started H enc)
end Go.Proofs.YtlojldccjmkikaaGreat.FnExactPlanDoRow
namespace Go.Proofs.YtlojldccjmkikaaGreat
/-- The given statement, with no condition. -/
theorem FnExactPlanDo_holds : Rows.FnExactPlanDoSaid := FnExactPlanDoRow.over
end Go.Proofs.YtlojldccjmkikaaGreat

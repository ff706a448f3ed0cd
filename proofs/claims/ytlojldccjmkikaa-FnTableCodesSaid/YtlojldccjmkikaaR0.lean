/- A list of bytes that was read, as the logic has it. -/
import Derived.Test.YtlojldccjmkikaaF1
import Derived.Test.YtlojldccjmkikaaA4
import Derived.WalkKit
import Derived.ProofKit
import Derived.OpenShut
import Derived.ChangeOld
import Derived.Below
import Derived.Deep.Slices
import Derived.ChangeSame
set_option linter.unusedVariables false
set_option linter.unusedSimpArgs false
/-! A list of bytes that was read, as the logic has it. -/
namespace Go.Proofs.Ytlojldccjmkikaa
open Go.Ae Go.ChangeShapes Go.WideShapes Go.ChangeAt Go.RowKit Go.Deep
set_option linter.unusedVariables false
def byteOf : Value → UInt8
  | .int _ k => UInt8.ofNat k.toNat
  | _ => 0
theorem open_bytes {H : Type} {enc : TypeId × Value → H} {w : World} {base : Nat} {spare : Nat → Bool} {held : Bool} {fuel : Nat} {A : Option Addr} {n c : Nat} {x : DataW H × List MemPlace}
    (h : DataW.trod enc Try.prog w base spare held fuel 29 [.slice A n c] = some x) : ∃ code : List UInt8, code.length = n ∧ n ≤ c ∧ n ≤ 9223372036854775807 ∧ Rel (Gh.all w) w (.r (.rd 1 encU8 code)) (.slice A n c) := by
  rcases open_slice1 Try.underlying29 (by kernel_rfl) h with ⟨hcs, _⟩ | ⟨a, len, cap, m, n', V, D, Pl, hcs, _, hl, hm, hmm, _, hi⟩
  · simp only [List.cons.injEq, Value.slice.injEq, and_true] at hcs
    obtain ⟨rfl, rfl, rfl⟩ := hcs
    exact ⟨[], rfl, Nat.le_refl _, by decide, .r (.rd0 _ _ _ _)⟩
  · simp only [List.cons.injEq, Value.slice.injEq, and_true] at hcs
    obtain ⟨rfl, rfl, rfl⟩ := hcs
    have hnm : n ≤ m := by subst hmm; split <;> omega
    have hmax : n ≤ 9223372036854775807 := by
      have : maxLen = 9223372036854775807 := by decide
      omega
    have hV : ∀ i, i < n → w.cell? (a.add i) = some (V i) ∧ V i = .int .u8 ((byteOf (V i)).toNat : Int) := fun i hin => by
      obtain ⟨h1, h2⟩ := hi i (by omega)
      refine ⟨h1, ?_⟩
      obtain ⟨k, hk, _, hwf⟩ := DataW.trod_int Try.underlying5 h2
      simp only [List.cons.injEq, and_true] at hk
      rw [hk]
      have hr : 0 ≤ k ∧ k < 256 := by
        simp only [Lit.wf, Bool.and_eq_true, decide_eq_true_eq] at hwf
        have e1 : IntKind.u8.min = 0 := by decide
        have e2 : IntKind.u8.max = 255 := by decide
        omega
      have h3 : (UInt8.ofNat k.toNat).toNat = k.toNat := by rw [UInt8.toNat_ofNat']; omega
      simp only [byteOf, h3]
      congr 1
      omega
    refine ⟨(List.range n).map fun i => byteOf (V i), by simp, hl, hmax, ?_⟩
    rcases Nat.eq_zero_or_pos n with rfl | hn
    · exact .r (.rd0 _ _ _ _)
    · have h0 := (hV 0 hn).1
      have ha0 : a.add 0 = a := by simp [Addr.add]
      rw [ha0] at h0
      obtain ⟨ab, ao, asp⟩ := a
      have hsp : asp = none := by
        cases asp with
        | none => rfl
        | some q =>
          simp only [World.cell?] at h0
          split at h0
          · simp at h0
          · cases h0
      subst hsp
      have hb : ab < w.heap.size := by
        simp only [World.cell?] at h0
        split at h0
        · rename_i heq
          exact (Array.getElem?_eq_some_iff.1 heq).1
        · cases h0
      have hadd : ∀ i, (⟨ab, ao, none⟩ : Addr).add i = ⟨ab, ao + i, none⟩ := fun i => by
        unfold Addr.add
        by_cases hi0 : i = 0
        · subst hi0; simp
        · simp [hi0]
      have hlen : ((List.range n).map fun i => byteOf (V i)).length = n := by simp
      have key : ∀ (i : Nat) (y : UInt8) (f : Nat) (v : RV), ((List.range n).map fun i => byteOf (V i))[i]? = some y → (encU8 y)[f]? = some v → f = 0 ∧ i < n ∧ v = .lit (V i) := fun i y f v h1 h2 => by
        have hin : i < n := by
          have := (List.getElem?_eq_some_iff.1 h1).1
          rwa [hlen] at this
        simp only [List.getElem?_map, List.getElem?_range hin, Option.map_some, Option.some.injEq] at h1
        cases f with
        | zero =>
          simp only [encU8, List.getElem?_cons_zero, Option.some.injEq] at h2
          refine ⟨rfl, hin, ?_⟩
          rw [← h2, ← h1, ← (hV i hin).2]
        | succ f => simp [encU8] at h2
      have hrd := RRel.rd (R := (Gh.all w).R) (w := w) 1 encU8 ((List.range n).map fun i => byteOf (V i)) ab ao c (fun i _ => V i) hb (by rw [hlen]; exact hl) (fun i y _ => rfl) (fun i y f v h1 h2 => by
        obtain ⟨rfl, hin, -⟩ := key i y f v h1 h2
        have := (hV i hin).1
        rw [hadd] at this
        simpa using this) (fun i y f v h1 h2 => by
        obtain ⟨-, -, rfl⟩ := key i y f v h1 h2
        exact .lit _)
      rw [hlen] at hrd
      exact .r hrd
end Go.Proofs.Ytlojldccjmkikaa

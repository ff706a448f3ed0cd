/- What was read, as the logic has it, type by type. No condition beyond what each lemma states. -/
import Derived.Test.YtghkelfpomfadaaPg
import Derived.WalkKit
import Derived.ProofKit
import Derived.OpenShut
import Derived.ChangeOld
import Derived.Below
import Derived.Deep.Slices
import Derived.ChangeSame
import Derived.JoinedOf
import Derived.ShutString
import Derived.Deep.Fields
set_option linter.unusedVariables false
set_option linter.unusedSimpArgs false
/-! What was read, as the logic has it: type by type. -/
namespace Go.Ae
open Go.ChangeShapes Go.WideShapes Go.ChangeAt Go.RowKit Go.Deep
set_option linter.unusedVariables false
/-- Cells that read as told. -/
def Reads (w : World) (rs : List RV) (cs : List Value) : Prop :=
  cs.length = rs.length ∧ ∀ (i : Nat) (r : RV) (c : Value), rs[i]? = some r → cs[i]? = some c → RRel (Gh.all w).R w r c
/-- Whatever is read at a type reads as some value of α. -/
def Opens (P : Program) (t : TypeId) {α : Type} (enc : α → List RV) (ok : α → Prop) : Prop :=
  ∀ {H : Type} (e : TypeId × Value → H) (w : World) (base : Nat) (spare : Nat → Bool) (held : Bool) (fuel : Nat) (cs : List Value) (x : DataW H × List MemPlace),
    DataW.trod e P w base spare held fuel t cs = some x → ∃ v : α, ok v ∧ Reads w (enc v) cs
theorem Reads.lit1 {w : World} (v : Value) : Reads w [.lit v] [v] :=
  ⟨rfl, fun i r c h1 h2 => by
    cases i with
    | zero => simp only [List.getElem?_cons_zero, Option.some.injEq] at h1 h2; subst h1 h2; exact .lit _
    | succ i => simp at h1⟩
theorem Opens.int {P : Program} {t : TypeId} {k : IntKind} (ht : P.underlying t = some (.int k)) : Opens P t (fun v : Int => [.lit (.int k v)]) (fun _ => True) := by
  intro H e w base spare held fuel cs x h
  obtain ⟨n, rfl, _, _⟩ := DataW.trod_int ht h
  exact ⟨n, trivial, Reads.lit1 _⟩
theorem Opens.u8 {P : Program} {t : TypeId} (ht : P.underlying t = some (.int .u8)) : Opens P t (fun x : UInt8 => [.lit (.int .u8 (x.toNat : Int))]) (fun _ => True) := by
  intro H e w base spare held fuel cs x h
  obtain ⟨n, rfl, _, hwf⟩ := DataW.trod_int ht h
  have hr : 0 ≤ n ∧ n < 256 := by
    simp only [Lit.wf, Bool.and_eq_true, decide_eq_true_eq] at hwf
    have e1 : IntKind.u8.min = 0 := by decide
    have e2 : IntKind.u8.max = 255 := by decide
    omega
  have e3 : ((UInt8.ofNat n.toNat).toNat : Int) = n := by rw [UInt8.toNat_ofNat']; omega
  refine ⟨UInt8.ofNat n.toNat, trivial, ?_⟩
  show Reads w [.lit (.int .u8 ((UInt8.ofNat n.toNat).toNat : Int))] _
  rw [e3]
  exact Reads.lit1 _
theorem Opens.bool {P : Program} {t : TypeId} (ht : P.underlying t = some .bool) : Opens P t (fun v : Bool => [.lit (.bool v)]) (fun _ => True) := by
  intro H e w base spare held fuel cs x h
  obtain ⟨b, rfl, _⟩ := DataW.trod_bool ht h
  exact ⟨b, trivial, Reads.lit1 _⟩
theorem Opens.str {P : Program} {t : TypeId} (ht : P.underlying t = some .string) : Opens P t (fun v : ByteArray => [.lit (.string v)]) (fun s => s.size ≤ 9223372036854775807) := by
  intro H e w base spare held fuel cs x h
  obtain ⟨s, rfl, _, hs⟩ := DataW.trod_string ht h
  exact ⟨s, hs, Reads.lit1 _⟩
theorem Opens.slice {P : Program} {t e : TypeId} {α : Type} [Inhabited α] {enc : α → List RV} {ok : α → Prop} {k : Nat} (ht : P.underlying t = some (.slice e)) (hc : P.cellsOf e = k) (hk : 0 < k)
    (hl : ∀ x, (enc x).length = k) (he : Opens P e enc ok) : Opens P t (fun l : List α => [.rd k enc l]) (fun l => l.length ≤ 9223372036854775807 ∧ ∀ x ∈ l, ok x) := by
  intro H en w base spare held fuel cs x h
  rcases open_slice ht h with ⟨rfl, _⟩ | ⟨a, n, c, m, n', D, Pl, rfl, _, hlc, hcm, hmm, _, hi⟩
  · refine ⟨[], ⟨by simp, by simp⟩, rfl, fun i r v h1 h2 => ?_⟩
    cases i with
    | zero => simp only [List.getElem?_cons_zero, Option.some.injEq] at h1 h2; subst h1 h2; exact .rd0 _ _ _ _
    | succ i => simp at h1
  · have hnm : n ≤ m := by subst hmm; split <;> omega
    have hmax : n ≤ 9223372036854775807 := by
      have : maxLen = 9223372036854775807 := by decide
      omega
    have hx : ∀ i, i < n → ∃ (cs' : List Value) (q : α), ok q ∧ Reads w (enc q) cs' ∧ ∀ j u, cs'[j]? = some u → w.cell? (a.add (i * k + j)) = some u := fun i hin => by
      obtain ⟨cs', hcs, htr⟩ := hi i (by omega)
      rw [hc] at hcs
      obtain ⟨q, hq, hr⟩ := he en w base spare held n' cs' _ htr
      obtain ⟨_, hcl, hat⟩ := World.cells?_some hcs
      refine ⟨cs', q, hq, hr, fun j u hj => ?_⟩
      have hjk : j < k := by rw [← hcl]; exact (List.getElem?_eq_some_iff.1 hj).1
      have := hat j hjk
      rw [← Go.Deep.add_add, this, hj]
    rcases Nat.eq_zero_or_pos n with rfl | hn
    · refine ⟨[], ⟨by simp, by simp⟩, rfl, fun i r v h1 h2 => ?_⟩
      cases i with
      | zero => simp only [List.getElem?_cons_zero, Option.some.injEq] at h1 h2; subst h1 h2; exact .rd0 _ _ _ _
      | succ i => simp at h1
    · -- a block of plain cells
      obtain ⟨cs0, q0, _, hr0, hc0⟩ := hx 0 hn
      obtain ⟨u0, hu0⟩ : ∃ u, cs0[0]? = some u := ⟨cs0[0]'(by rw [hr0.1, hl]; exact hk), List.getElem?_eq_getElem _⟩
      have h0 := hc0 0 u0 hu0
      have ha0 : a.add (0 * k + 0) = a := by simp [Addr.add]
      rw [ha0] at h0
      obtain ⟨ab, ao, asp⟩ := a
      have hsp : asp = none := by
        cases asp with
        | none => rfl
        | some q =>
          simp only [World.cell?] at h0
          split at h0
          · simp at h0
          · cases h0
      subst hsp
      have hb : ab < w.heap.size := by
        simp only [World.cell?] at h0
        split at h0
        · rename_i heq
          exact (Array.getElem?_eq_some_iff.1 heq).1
        · cases h0
      have hadd : ∀ i, (⟨ab, ao, none⟩ : Addr).add i = ⟨ab, ao + i, none⟩ := fun i => by
        unfold Addr.add
        by_cases hi0 : i = 0
        · subst hi0; simp
        · simp [hi0]
      let q : Nat → α := fun i => if hin : i < n then Classical.choose (Classical.choose_spec (hx i hin)) else default
      let C : Nat → List Value := fun i => if hin : i < n then Classical.choose (hx i hin) else []
      have hq : ∀ i, i < n → ok (q i) ∧ Reads w (enc (q i)) (C i) ∧ ∀ j u, (C i)[j]? = some u → w.cell? ⟨ab, ao + i * k + j, none⟩ = some u := fun i hin => by
        have hs := Classical.choose_spec (Classical.choose_spec (hx i hin))
        simp only [q, C, dif_pos hin]
        refine ⟨hs.1, hs.2.1, fun j u hj => ?_⟩
        have := hs.2.2 j u hj
        rw [hadd] at this
        rw [Nat.add_assoc]; exact this
      have hget : ∀ (i : Nat) (y : α), ((List.range n).map q)[i]? = some y → i < n ∧ y = q i := fun i y h1 => by
        have hin : i < n := by
          have := (List.getElem?_eq_some_iff.1 h1).1
          simpa using this
        simp only [List.getElem?_map, List.getElem?_range hin, Option.map_some, Option.some.injEq] at h1
        exact ⟨hin, h1.symm⟩
      have hlen : ((List.range n).map q).length = n := by simp
      have hrd := RRel.rd (R := (Gh.all w).R) (w := w) k enc ((List.range n).map q) ab ao c (fun i f => (C i).getD f default) hb (by rw [hlen]; exact hlc) (fun i y _ => hl y) (fun i y f v h1 h2 => by
        obtain ⟨hin, rfl⟩ := hget i y h1
        obtain ⟨_, g1, g2⟩ := hq i hin
        have hf : f < (C i).length := by rw [g1.1]; exact (List.getElem?_eq_some_iff.1 h2).1
        have e : (C i).getD f default = (C i)[f] := by simp [List.getD_eq_getElem?_getD, hf]
        simp only [e]
        exact g2 f _ (List.getElem?_eq_getElem hf)) (fun i y f v h1 h2 => by
        obtain ⟨hin, rfl⟩ := hget i y h1
        obtain ⟨_, g1, g2⟩ := hq i hin
        have hf : f < (C i).length := by rw [g1.1]; exact (List.getElem?_eq_some_iff.1 h2).1
        have e : (C i).getD f default = (C i)[f] := by simp [List.getD_eq_getElem?_getD, hf]
        simp only [e]
        exact g1.2 f v _ h2 (List.getElem?_eq_getElem hf))
      rw [hlen] at hrd
      refine ⟨(List.range n).map q, ⟨by rw [hlen]; exact hmax, fun y hy => ?_⟩, rfl, fun i r v h1 h2 => ?_⟩
      · obtain ⟨i, hi', rfl⟩ := List.mem_map.1 hy
        exact (hq i (by simpa using hi')).1
      · cases i with
        | zero => simp only [List.getElem?_cons_zero, Option.some.injEq] at h1 h2; subst h1 h2; exact hrd
        | succ i => simp at h1
/-- Fields one behind the other. -/
theorem Reads.cat {w : World} {cs : List Value} {r1 r2 : List RV} {a s b : Nat} (hb : b = a + s) (h1 : Reads w r1 ((cs.drop a).take s)) (h2 : Reads w r2 (cs.drop b)) (hs : r1.length = s) (hc : b ≤ cs.length) : Reads w (r1 ++ r2) (cs.drop a) := by
  subst hb
  have e : cs.drop a = (cs.drop a).take s ++ cs.drop (a + s) := by rw [← List.drop_drop]; exact (List.take_append_drop s (cs.drop a)).symm
  rw [e]
  have l1 := h1.1; have l2 := h2.1
  refine ⟨by rw [List.length_append, List.length_append, l1, l2], fun i r c g1 g2 => ?_⟩
  rcases Nat.lt_or_ge i r1.length with hi | hi
  · rw [List.getElem?_append_left hi] at g1
    rw [List.getElem?_append_left (by rw [l1]; exact hi)] at g2
    exact h1.2 i r c g1 g2
  · rw [List.getElem?_append_right hi] at g1
    rw [List.getElem?_append_right (by rw [l1]; exact hi), l1] at g2
    exact h2.2 _ r c g1 g2
theorem Reads.fin {w : World} {cs : List Value} {b : Nat} (h : cs.length = b) : Reads w [] (cs.drop b) := by
  rw [List.drop_eq_nil_of_le (by omega)]
  exact ⟨rfl, fun i r c h1 => by simp at h1⟩
theorem Reads.drop0 {w : World} {cs : List Value} {rs : List RV} (h : Reads w rs (cs.drop 0)) : Reads w rs cs := by simpa using h
/-- One field of a struct that was read. -/
theorem Opens.field {P : Program} {H : Type} {e : TypeId × Value → H} {w : World} {base : Nat} {spare : Nat → Bool} {held : Bool} {n : Nat} {cs : List Value} {xs : List (DataW H × List MemPlace)} {fs : Array Field} {f : Field} {i off k : Nat} {ft : TypeId} {α : Type} {enc : α → List RV} {ok : α → Prop}
    (hf : ∀ (i : Nat) (f : Field), fs[i]? = some f → DataW.trod e P w base spare held n f.type ((cs.drop f.offset).take (P.cellsOf f.type)) = xs[i]?) (hxl : xs.length = fs.size) (hi : fs[i]? = some f) (ho : f.offset = off) (ht : f.type = ft) (hk : P.cellsOf ft = k) (ho2 : Opens P ft enc ok) :
    ∃ v : α, ok v ∧ Reads w (enc v) ((cs.drop off).take k) := by
  have h1 := hf i f hi
  have hlt : i < xs.length := by rw [hxl]; exact (Array.getElem?_eq_some_iff.1 hi).1
  rw [List.getElem?_eq_getElem hlt, ho, ht, hk] at h1
  exact ho2 e w base spare held n _ _ h1
theorem Reads.agg {w : World} {rs : List RV} {vs : Array Value} (h : Reads w rs vs.toList) : Rel (Gh.all w) w (.agg (rs.map AV.r)) (.agg vs) := by
  refine .agg _ _ (by rw [List.length_map]; simpa using h.1.symm) fun i c v h1 h2 => ?_
  rw [List.getElem?_map, Option.map_eq_some_iff] at h1
  obtain ⟨r, hr, rfl⟩ := h1
  exact .r (h.2 i r v hr (by simpa using h2))
theorem Reads.one {w : World} {r : RV} {v : Value} (h : Reads w [r] [v]) : Rel (Gh.all w) w (.r r) v := .r (h.2 0 r v rfl rfl)
end Go.Ae

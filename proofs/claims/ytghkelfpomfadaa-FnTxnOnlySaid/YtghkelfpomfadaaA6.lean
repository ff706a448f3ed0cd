/- The abstract logic, sixth part: weak contracts, drawn regions as trees, what stands behind code. No condition beyond what each lemma states. -/
import Derived.Test.YtghkelfpomfadaaA4
set_option linter.unusedVariables false
set_option linter.unusedSimpArgs false
section
namespace Go.Ae
theorem EndK.mono {P : Program} {p : Nat} {rs : List ResultVar} {Post Post' : AV → Heap → Prop} {e : Exit} {s : Slots} {H : Heap} (h : EndK P p rs Post e s H) (hk : ∀ v H', Post v H' → Post' v H') : EndK P p rs Post' e s H := by
  cases e with
  | normal => obtain ⟨vs, h1, v2, H2, h2, h3⟩ := h; exact ⟨vs, h1, v2, H2, h2, hk _ _ h3⟩
  | ret => obtain ⟨vs, h1, v2, H2, h2, h3⟩ := h; exact ⟨vs, h1, v2, H2, h2, hk _ _ h3⟩
  | _ => exact h
/-- The end of a function of which less than all is told. -/
theorem EndK.eqw {α : Type} {I : α → Prop} {f : α → AV} {g : α → Heap} {P : Program} {p : Nat} {rs : List ResultVar} {s : Slots} {H : Heap} {vs : List AV} (y : α) (ts : List (Option Nat)) {e : Exit} (he : e = .normal ∨ e = .ret) (h : resAll P s H rs = some vs)
    (hpre : BoolIs (preB p ts)) (hinj : BoolIs (injB ts)) (hp : p ≤ (g y).length) (hH : HTell H (lF ts) (lτ ts) (g y).length ts (g y)) (hv : VSub H (lF ts) (lτ ts) (g y).length (f y) (resOne vs)) (hx : I y) : EndK P p rs (fun v H' => ∃ x, I x ∧ v = f x ∧ H' = g x) e s H :=
  (EndK.eqp (x := y) y ts he h hpre hinj hp hH hv rfl).mono fun _ _ ⟨a, b⟩ => ⟨y, hx, a, b⟩
/-- The way back to the head of loop number rid. -/
structure BackG (_rid : Nat) (G : Prop) : Prop where
  out : G
theorem Tri.loopR {P : Program} {p : Nat} {s : Slots} {H : Heap} {Q : Exit → Slots → Heap → Prop} {c : Code} {ι : Type} (rid : Nat) (hr : firstRid c = some rid) (I : ι → Slots) (J : ι → Heap) (M : ι → Prop) (μ : ι → Nat) (j0 : ι) (h0 : Ent p s H (I j0) (J j0)) (hM : M j0)
    (round : ∀ j, M j → Tri P p c (I j) (J j) (thenQ (fun s' H' => BackG rid (∃ j', M j' ∧ μ j' < μ j ∧ Ent p s' H' (I j') (J j'))) Q)) : Tri P p (.loop c) s H Q :=
  Tri.loopN rid hr I J M μ j0 h0 hM fun j hj => ⟨(round j hj).run.mono fun e s H h => by cases e <;> first | exact h | exact h.out⟩
theorem backR {ι : Type} {I : ι → Slots} {J : ι → Heap} {M : ι → Prop} {μ : ι → Nat} {p : Nat} {s : Slots} {H : Heap} {m : Nat} (rid : Nat) (j' : ι) (hE : Ent p s H (I j') (J j')) (hM : M j') (hμ : μ j' < m) : BackG rid (∃ j', M j' ∧ μ j' < m ∧ Ent p s H (I j') (J j')) :=
  ⟨j', hM, hμ, hE⟩
theorem Tri.heavySeqG {P : Program} {p : Nat} {s : Slots} {H : Heap} {Q : Exit → Slots → Heap → Prop} {id : Nat} {ops : Array Oper} {y : Code} (rid : Nat) (hrid : id = rid) (hm : P.follows .mixedOrders = true) (roots free : List Nat) (pre : List (Nat × Nat)) (i1 : Nat) (l1 : List (Nat × Nat)) (i2 : Nat) (l2 : List (Nat × Nat)) (hB : drawFB ops free pre i1 l1 i2 l2 = true)
    (h : ∀ K : Slots → Heap → Prop, (∀ s' H', Tri P p y s' H' Q → K s' H') → DrawS P ops.toList (ballOf s roots) free pre s H fun s' H' => drawEK P ops.toList (ballOf s roots) free ((i1, 2) :: l1) s' H' K ∧ drawEK P ops.toList (ballOf s roots) free ((i2, 2) :: l2) s' H' K) : Tri P p (.seq (.region id ops true) y) s H Q :=
  Tri.seq ⟨Tri0.drawF hm (ballOf s roots) free pre i1 l1 i2 l2 hB (h (fun s' H' => Tri P p y s' H' Q) fun _ _ h => h).run⟩
theorem Tri.heavyG {P : Program} {p : Nat} {s : Slots} {H : Heap} {Q : Exit → Slots → Heap → Prop} {id : Nat} {ops : Array Oper} (rid : Nat) (hrid : id = rid) (hm : P.follows .mixedOrders = true) (roots free : List Nat) (pre : List (Nat × Nat)) (i1 : Nat) (l1 : List (Nat × Nat)) (i2 : Nat) (l2 : List (Nat × Nat)) (hB : drawFB ops free pre i1 l1 i2 l2 = true)
    (h : ∀ K : Slots → Heap → Prop, (∀ s' H', Q .normal s' H' → K s' H') → DrawS P ops.toList (ballOf s roots) free pre s H fun s' H' => drawEK P ops.toList (ballOf s roots) free ((i1, 2) :: l1) s' H' K ∧ drawEK P ops.toList (ballOf s roots) free ((i2, 2) :: l2) s' H' K) : Tri P p (.region id ops true) s H Q :=
  ⟨Tri0.drawF hm (ballOf s roots) free pre i1 l1 i2 l2 hB (h (fun s' H' => Q .normal s' H') fun _ _ h => h).run⟩
theorem raw1 {a0 : Int} {i : Nat} (h : i < 1) : ([[AV.r (.lit (.int .i64 a0))]].getD i []).getD 0 AV.any = AV.r (.lit (.int .i64 ([a0].getD i default))) := by
  match i, h with
  | 0, _ => rfl
theorem raw4 {a0 a1 a2 a3 : Int} {i : Nat} (h : i < 4) : ([[AV.r (.lit (.int .i64 a0))], [AV.r (.lit (.int .i64 a1))], [AV.r (.lit (.int .i64 a2))], [AV.r (.lit (.int .i64 a3))]].getD i []).getD 0 AV.any = AV.r (.lit (.int .i64 ([a0, a1, a2, a3].getD i default))) := by
  match i, h with
  | 0, _ => rfl
  | 1, _ => rfl
  | 2, _ => rfl
  | 3, _ => rfl
theorem raw5 {a0 a1 a2 a3 a4 : Int} {i : Nat} (h : i < 5) : ([[AV.r (.lit (.int .i64 a0))], [AV.r (.lit (.int .i64 a1))], [AV.r (.lit (.int .i64 a2))], [AV.r (.lit (.int .i64 a3))], [AV.r (.lit (.int .i64 a4))]].getD i []).getD 0 AV.any = AV.r (.lit (.int .i64 ([a0, a1, a2, a3, a4].getD i default))) := by
  match i, h with
  | 0, _ => rfl
  | 1, _ => rfl
  | 2, _ => rfl
  | 3, _ => rfl
  | 4, _ => rfl
theorem raw6 {a0 a1 a2 a3 a4 a5 : Int} {i : Nat} (h : i < 6) : ([[AV.r (.lit (.int .i64 a0))], [AV.r (.lit (.int .i64 a1))], [AV.r (.lit (.int .i64 a2))], [AV.r (.lit (.int .i64 a3))], [AV.r (.lit (.int .i64 a4))], [AV.r (.lit (.int .i64 a5))]].getD i []).getD 0 AV.any = AV.r (.lit (.int .i64 ([a0, a1, a2, a3, a4, a5].getD i default))) := by
  match i, h with
  | 0, _ => rfl
  | 1, _ => rfl
  | 2, _ => rfl
  | 3, _ => rfl
  | 4, _ => rfl
  | 5, _ => rfl
theorem raw7 {a0 a1 a2 a3 a4 a5 a6 : Int} {i : Nat} (h : i < 7) : ([[AV.r (.lit (.int .i64 a0))], [AV.r (.lit (.int .i64 a1))], [AV.r (.lit (.int .i64 a2))], [AV.r (.lit (.int .i64 a3))], [AV.r (.lit (.int .i64 a4))], [AV.r (.lit (.int .i64 a5))], [AV.r (.lit (.int .i64 a6))]].getD i []).getD 0 AV.any = AV.r (.lit (.int .i64 ([a0, a1, a2, a3, a4, a5, a6].getD i default))) := by
  match i, h with
  | 0, _ => rfl
  | 1, _ => rfl
  | 2, _ => rfl
  | 3, _ => rfl
  | 4, _ => rfl
  | 5, _ => rfl
  | 6, _ => rfl
theorem raw8 {a0 a1 a2 a3 a4 a5 a6 a7 : Int} {i : Nat} (h : i < 8) : ([[AV.r (.lit (.int .i64 a0))], [AV.r (.lit (.int .i64 a1))], [AV.r (.lit (.int .i64 a2))], [AV.r (.lit (.int .i64 a3))], [AV.r (.lit (.int .i64 a4))], [AV.r (.lit (.int .i64 a5))], [AV.r (.lit (.int .i64 a6))], [AV.r (.lit (.int .i64 a7))]].getD i []).getD 0 AV.any = AV.r (.lit (.int .i64 ([a0, a1, a2, a3, a4, a5, a6, a7].getD i default))) := by
  match i, h with
  | 0, _ => rfl
  | 1, _ => rfl
  | 2, _ => rfl
  | 3, _ => rfl
  | 4, _ => rfl
  | 5, _ => rfl
  | 6, _ => rfl
  | 7, _ => rfl
theorem raw9 {a0 a1 a2 a3 a4 a5 a6 a7 a8 : Int} {i : Nat} (h : i < 9) : ([[AV.r (.lit (.int .i64 a0))], [AV.r (.lit (.int .i64 a1))], [AV.r (.lit (.int .i64 a2))], [AV.r (.lit (.int .i64 a3))], [AV.r (.lit (.int .i64 a4))], [AV.r (.lit (.int .i64 a5))], [AV.r (.lit (.int .i64 a6))], [AV.r (.lit (.int .i64 a7))], [AV.r (.lit (.int .i64 a8))]].getD i []).getD 0 AV.any = AV.r (.lit (.int .i64 ([a0, a1, a2, a3, a4, a5, a6, a7, a8].getD i default))) := by
  match i, h with
  | 0, _ => rfl
  | 1, _ => rfl
  | 2, _ => rfl
  | 3, _ => rfl
  | 4, _ => rfl
  | 5, _ => rfl
  | 6, _ => rfl
  | 7, _ => rfl
  | 8, _ => rfl
end Go.Ae
end
section
/-! Regions whose order is drawn, walked as a tree: wherever more than one operation is ready that does not commute, each of them is walked. -/
namespace Go.Ae
set_option linter.unusedVariables false
inductive DT where
  | nil
  | op (i k : Nat) (rest : DT)
  | fork (i1 : Nat) (r1 : DT) (i2 : Nat) (r2 : DT)
def DT.len : DT → Nat
  | .nil => 0
  | .op _ _ r => r.len + 1
  | .fork _ r1 _ _ => r1.len + 1
def stepT (P : Program) (all : List Oper) (Ball free : List Nat) (i k : Nat) (s : Slots) (H : Heap) (C : Slots → Heap → Prop) : Prop := match all[i]? with
  | none => False
  | some o => match o.guard with
    | none => oneE P Ball free i k o.op s H (fun v H' => C (putS s o.dst v) H')
    | some (j, want) => match gslot all j with
      | some d => match s.getD d .any with
        | .r (.lit (.bool b)) =>
          guardK b want (oneE P Ball free i k o.op (s.set d (.lit (.bool want))) H (fun v H' => C (putS (s.set d (.lit (.bool want))) o.dst v) H'))
            (C (putS (s.set d (.lit (.bool !want))) o.dst (.lit undef)) H)
        | .r (.lit (.tuple _)) => C (putS s o.dst (.lit undef)) H
        | _ => False
      | none => False
def drawTK (P : Program) (all : List Oper) (Ball free : List Nat) : DT → Slots → Heap → (Slots → Heap → Prop) → Prop
  | .nil, s, H, K => K s H
  | .op i k r, s, H, K => stepT P all Ball free i k s H fun s' H' => drawTK P all Ball free r s' H' K
  | .fork i1 r1 i2 r2, s, H, K => (stepT P all Ball free i1 2 s H fun s' H' => drawTK P all Ball free r1 s' H' K) ∧ (stepT P all Ball free i2 2 s H fun s' H' => drawTK P all Ball free r2 s' H' K)
def drow (ops : Array Oper) (i : Nat) : QRow := match ops[i]? with
  | some o => qrow ops o
  | none => ⟨none, [], []⟩
def kindI (ops : Array Oper) (i k : Nat) : Bool := match ops[i]? with
  | some o => kindE o.op k
  | none => false
def mayB (ops : Array Oper) (done : List Nat) (i : Nat) : Bool := Nat.blt i ops.size && !done.contains i && (drow ops i).deps.all fun d => done.contains d
def waitB (ops : Array Oper) (done : List Nat) (j : Nat) : Bool := (drow ops j).deps.any fun d => !done.contains d
def treeB (ops : Array Oper) (free : List Nat) : DT → List Nat → Bool
  | .nil, done => (List.range ops.size).all fun j => done.contains j
  | .op i k r, done => mayB ops done i && kindI ops i k && ((List.range ops.size).all fun j => done.contains j || Nat.beq j i ||
      (if Nat.blt k 2 then (drow ops j).deps.contains i || (qapart (drow ops i) (drow ops j) && (Nat.beq k 0 || !free.contains j)) else waitB ops done j)) && treeB ops free r (i :: done)
  | .fork i1 r1 i2 r2, done => mayB ops done i1 && mayB ops done i2 && ((List.range ops.size).all fun j => done.contains j || Nat.beq j i1 || Nat.beq j i2 || waitB ops done j) && Nat.beq r1.len r2.len && treeB ops free r1 (i1 :: done) && treeB ops free r2 (i2 :: done)

section
variable {P : Program} {ops : Array Oper} {Ball free : List Nat}
/-- An operation that comes up, whatever stands beside it. -/
theorem stepT_opE {i k : Nat} {s : Slots} {H : Heap} {C K : Slots → Heap → Prop} (h : stepT P ops.toList Ball free i (k + 2) s H C) (hC : ∀ s' H', C s' H' → K s' H') :
    opE P ops (fun i => if free.contains i then [] else Ball) i K s H := by
  unfold stepT at h
  rw [Array.getElem?_toList] at h
  unfold opE
  split
  · rename_i ho; rw [ho] at h; exact h.elim
  · rename_i o ho
    rw [ho] at h
    simp only at h
    have one : ∀ s1 : Slots, s1 = s → wantA ops.toList o s = some true → stepK P o.op s1 H (fun v H' => keepsK Ball (free.contains i) H H' ∧ C (putS s1 o.dst v) H') →
        (match wantA ops.toList o s with
          | some true => S1 P o s H fun v H' => Keeps (if free.contains i = true then [] else Ball) H H' ∧ K (putS s o.dst v) H'
          | some false => K (putS s o.dst (.lit undef)) H
          | none => False) := by
      rintro s1 rfl hw h1
      rw [hw]
      refine ⟨_, h1, fun v H' h2 => ⟨?_, hC _ _ h2.2⟩⟩
      have h3 := h2.1
      cases hf : free.contains i with
      | true => rw [if_pos rfl]; exact fun _ h => by cases h
      | false =>
        rw [hf] at h3
        rw [if_neg (by simp)]
        exact KeepL.keeps h3
    have pass : wantA ops.toList o s = some false → C (putS s o.dst (.lit undef)) H →
        (match wantA ops.toList o s with
          | some true => S1 P o s H fun v H' => Keeps (if free.contains i = true then [] else Ball) H H' ∧ K (putS s o.dst v) H'
          | some false => K (putS s o.dst (.lit undef)) H
          | none => False) := by
      intro hw h1
      rw [hw]
      exact hC _ _ h1
    split at h
    · rename_i hg
      exact one s rfl (by simp [wantA, hg]) h
    · rename_i j want hg
      split at h
      · rename_i d hd
        split at h
        · rename_i b hb
          by_cases hbw : b = want
          · have h1 := h.1 hbw
            subst hbw
            rw [set_getD hb (by simp)] at h1
            exact one s rfl (by unfold wantA; rw [hg]; simp only; rw [hd]; simp only; rw [hb]; simp) h1
          · have hbw' : b = !want := by clear h hb; revert hbw; cases b <;> cases want <;> decide
            have h1 := h.2 hbw'
            rw [← hbw', set_getD hb (by simp)] at h1
            exact pass (by unfold wantA; rw [hg]; simp only; rw [hd]; simp only; rw [hb]; simp [hbw]) h1
        · rename_i vs hb
          exact pass (by unfold wantA; rw [hg]; simp only; rw [hd]; simp only; rw [hb]) h
        · exact h.elim
      · exact h.elim

theorem drow_eq {i : Nat} {o : Oper} (h : ops[i]? = some o) : drow ops i = qrow ops o := by simp [drow, h]

/-- What stands fast where some operations are done. -/
structure Drawn (ops : Array Oper) (done : List Nat) (listed : Array Bool) : Prop where
  li : ∀ j, listed[j]? = if j < ops.size then some (done.contains j) else none
  d : ∀ j, done.contains j = true → j < ops.size
theorem Drawn.get {done : List Nat} {listed : Array Bool} (h : Drawn ops done listed) {j : Nat} (hj : j < ops.size) (d : Bool) : listed.getD j d = done.contains j := by
  rw [Array.getD_eq_getD_getElem?, h.li j, if_pos hj]; rfl
theorem Drawn.next {done : List Nat} {listed : Array Bool} (h : Drawn ops done listed) {i : Nat} (hil : i < ops.size) : Drawn ops (i :: done) (listed.setIfInBounds i true) := by
  have hsz : ops.size = listed.size := by
    rcases Nat.lt_trichotomy ops.size listed.size with hh | hh | hh
    · have := h.li ops.size
      rw [if_neg (Nat.lt_irrefl _), Array.getElem?_eq_none_iff] at this
      omega
    · exact hh
    · have := h.li listed.size
      rw [if_pos hh, Array.getElem?_eq_none (Nat.le_refl _)] at this
      cases this
  refine ⟨fun j => ?_, fun j hj => ?_⟩
  · rw [Array.getElem?_setIfInBounds]
    by_cases hij : i = j
    · subst hij
      rw [if_pos rfl, if_pos (by omega), if_pos hil]
      simp
    · rw [if_neg hij, h.li j]
      by_cases hj : j < ops.size
      · rw [if_pos hj, if_pos hj]
        congr 1
        have : ¬ j = i := fun e => hij e.symm
        simp [this]
      · rw [if_neg hj, if_neg hj]
  · simp only [List.contains_cons, Bool.or_eq_true, beq_iff_eq] at hj
    rcases hj with rfl | hj
    · exact hil
    · exact h.d j hj
theorem mayB_ready {done : List Nat} {listed : Array Bool} (h : Drawn ops done listed) {i : Nat} (hm : mayB ops done i = true) : i < ops.size ∧ ∃ o, ops[i]? = some o ∧ i ∈ Region.ready .any ops listed := by
  simp only [mayB, Bool.and_eq_true, Bool.not_eq_true'] at hm
  obtain ⟨⟨m1, m2⟩, m3⟩ := hm
  have hil : i < ops.size := by simpa using m1
  obtain ⟨o, hoi⟩ : ∃ o, ops[i]? = some o := ⟨_, Array.getElem?_eq_getElem hil⟩
  refine ⟨hil, o, hoi, mem_ready.2 ⟨by rw [h.get hil]; exact m2, o, hoi, fun x hx hb => ?_⟩⟩
  have : x.on ∈ (drow ops i).deps := by
    rw [drow_eq hoi]
    exact List.mem_map.2 ⟨x, List.mem_filter.2 ⟨by simpa using hx, hb⟩, rfl⟩
  have h4 := List.all_eq_true.1 m3 _ this
  rw [h.get (h.d _ h4)]
  exact h4
theorem waitB_not {done : List Nat} {listed : Array Bool} (h : Drawn ops done listed) {j : Nat} (hw : waitB ops done j = true) (hj : j ∈ Region.ready .any ops listed) : False := by
  obtain ⟨_, o, hoj, hall⟩ := mem_ready.1 hj
  obtain ⟨d, hd1, hd2⟩ := List.any_eq_true.1 hw
  rw [drow_eq hoj] at hd1
  obtain ⟨x, hx, he⟩ := List.mem_map.1 hd1
  obtain ⟨hx1, hx2⟩ := List.mem_filter.1 hx
  have h7 := hall x (by simpa using hx1) hx2
  rw [he] at h7
  simp only [Bool.not_eq_true'] at hd2
  rcases Nat.lt_or_ge d ops.size with h10 | h10
  · rw [h.get h10, hd2] at h7; cases h7
  · rw [Array.getD_eq_getD_getElem?, h.li d, if_neg (by omega)] at h7
    cases h7
theorem ready_open {done : List Nat} {listed : Array Bool} (h : Drawn ops done listed) {j : Nat} (hj : j ∈ Region.ready .any ops listed) : j < ops.size ∧ done.contains j = false := by
  obtain ⟨h1, o, hoj, _⟩ := mem_ready.1 hj
  have hjl : j < ops.size := (Array.getElem?_eq_some_iff.1 hoj).1
  rw [h.get hjl] at h1
  exact ⟨hjl, h1⟩

theorem drawT_any {K : Slots → Heap → Prop} : ∀ (t : DT) (done : List Nat) (listed : Array Bool) (s : Slots) (H : Heap), Drawn ops done listed → treeB ops free t done = true → drawTK P ops.toList Ball free t s H K →
    anyE P .any ops (fun i => if free.contains i then [] else Ball) K t.len listed s H
  | .nil, done, listed, s, H, hD, hB, h => by
    refine ⟨?_, h⟩
    rcases hr : Region.ready .any ops listed with _ | ⟨j, t⟩
    · rfl
    · obtain ⟨h1, h2⟩ := ready_open hD (j := j) (by rw [hr]; simp)
      have := List.all_eq_true.1 hB j (List.mem_range.2 h1)
      rw [h2] at this
      cases this
  | .fork i1 r1 i2 r2, done, listed, s, H, hD, hB, h => by
    simp only [treeB, Bool.and_eq_true] at hB
    obtain ⟨⟨⟨⟨⟨m1, m2⟩, m3⟩, m4⟩, m5⟩, m6⟩ := hB
    obtain ⟨l1, o1, ho1, r1'⟩ := mayB_ready hD m1
    obtain ⟨l2, o2, ho2, r2'⟩ := mayB_ready hD m2
    have hlen : r1.len = r2.len := by simpa using m4
    refine ⟨fun h0 => (by rw [h0] at r1'; cases r1'), fun j hj => ?_⟩
    by_cases e1 : j = i1
    · subst e1
      exact stepT_opE (k := 0) h.1 fun s' H' hh => drawT_any r1 _ _ s' H' (hD.next l1) m5 hh
    by_cases e2 : j = i2
    · subst e2
      refine stepT_opE (k := 0) h.2 fun s' H' hh => ?_
      rw [hlen]
      exact drawT_any r2 _ _ s' H' (hD.next l2) m6 hh
    exfalso
    obtain ⟨g1, g2⟩ := ready_open hD hj
    have := List.all_eq_true.1 m3 j (List.mem_range.2 g1)
    simp only [g2, Bool.false_or, Bool.or_eq_true] at this
    rcases this with (g | g) | g
    · exact e1 (by simpa using g)
    · exact e2 (by simpa using g)
    · exact waitB_not hD g hj
  | .op i k r, done, listed, s, H, hD, hB, h => by
    simp only [treeB, Bool.and_eq_true] at hB
    obtain ⟨⟨⟨m1, m2⟩, m3⟩, m4⟩ := hB
    obtain ⟨hil, o, hoi, hready⟩ := mayB_ready hD m1
    have hkind : kindE o.op k = true := by simpa [kindI, hoi] using m2
    have next : ∀ s' H', drawTK P ops.toList Ball free r s' H' K → anyE P .any ops (fun i => if free.contains i then [] else Ball) K r.len (listed.setIfInBounds i true) s' H' :=
      fun s' H' h' => drawT_any r _ _ s' H' (hD.next hil) m4 h'
    rcases Nat.lt_or_ge k 2 with hk2 | hk2
    · -- it commutes with all that is open
      have hk2b : Nat.blt k 2 = true := by simpa using hk2
      have beside : ∀ (D : List Nat), (k = 0 → D = []) → (∀ id ∈ D, id ∈ Ball) → ∀ j oj, ops[j]? = some oj → j ≠ i → listed.getD j true = false → (∀ e ∈ oj.after, Region.binds .any e = true → e.on ≠ i) →
          o.apart ops oj = true ∧ ∀ id ∈ D, id ∈ (if free.contains j = true then [] else Ball) := by
        intro D hk0 hDB j oj hoj hji hun hno
        have hjl : j < ops.size := (Array.getElem?_eq_some_iff.1 hoj).1
        rw [hD.get hjl] at hun
        have h5 := List.all_eq_true.1 m3 j (List.mem_range.2 hjl)
        have hbe : Nat.beq j i = false := by
          cases hb : Nat.beq j i with
          | false => rfl
          | true => exact absurd (by simpa using hb) hji
        simp only [hun, hbe, Bool.false_or, hk2b, if_true, Bool.or_eq_true, Bool.and_eq_true] at h5
        rcases h5 with h5 | h5
        · exfalso
          have h6 : i ∈ (drow ops j).deps := by simpa using h5
          rw [drow_eq hoj] at h6
          obtain ⟨x, hx, he⟩ := List.mem_map.1 h6
          obtain ⟨hx1, hx2⟩ := List.mem_filter.1 hx
          exact hno x (by simpa using hx1) hx2 he
        · obtain ⟨h6, h7⟩ := h5
          rw [drow_eq hoi, drow_eq hoj, qapart_eq] at h6
          refine ⟨h6, fun id hid => ?_⟩
          rcases h7 with h7 | h7
          · have : k = 0 := by simpa using h7
            rw [hk0 this] at hid
            cases hid
          · simp only [Bool.not_eq_true'] at h7
            rw [h7]
            simpa using hDB id hid
      have one : ∀ s1 : Slots, s1 = s → wantA ops.toList o s = some true → oneE P Ball free i k o.op s1 H (fun v H' => drawTK P ops.toList Ball free r (putS s1 o.dst v) H' K) →
          anyE P .any ops (fun i => if free.contains i then [] else Ball) K (r.len + 1) listed s H := by
        rintro s1 rfl hw h1
        have go : ∀ (D : List Nat) (v : AV), (k = 0 → D = []) → (∀ id ∈ D, id ∈ Ball) → (∀ H', Keeps D H H' → stepK P o.op s1 H' fun v' H'' => v' = v ∧ H'' = H') →
            drawTK P ops.toList Ball free r (putS s1 o.dst v) H K → anyE P .any ops (fun i => if free.contains i then [] else Ball) K (r.len + 1) listed s1 H :=
          fun D v hk0 hDB hst hr => anyE_first (D := D) hoi r.len listed s1 H (beside D hk0 hDB) hready (.inl ⟨hw, fun H' hH' => ⟨_, hst H' hH', fun _ _ h => h⟩⟩) (next _ _ hr)
        match k, hkind, h1, go, hk2 with
        | 0, hkind, h1, go, hk2 =>
          have hl : lightOp o.op = true := by simpa [kindE] using hkind
          have h1' : lightK P o.op s1 H (fun v H' => drawTK P ops.toList Ball free r (putS s1 o.dst v) H' K) := h1
          obtain ⟨v, h2, h3⟩ := lightK_sound hl h1'
          exact go [] v (fun _ => rfl) (fun _ h => by cases h) (fun H' _ => h2 H') h3
        | 1, hkind, h1, go, hk2 =>
          obtain ⟨v, D, h2, h3, h4⟩ := loadE_sound h1.1 h1.2
          exact go D v (fun h => by cases h) h2 h3 h4
        | k + 2, hkind, h1, go, hk2 => exact absurd hk2 (by omega)
      have pass : wantA ops.toList o s = some false → drawTK P ops.toList Ball free r (putS s o.dst (.lit undef)) H K → anyE P .any ops (fun i => if free.contains i then [] else Ball) K (r.len + 1) listed s H :=
        fun hw h1 => anyE_first (D := []) (v := .lit undef) hoi r.len listed s H (beside [] (fun _ => rfl) (fun _ h => by cases h)) hready (.inr ⟨hw, rfl⟩) (next _ _ h1)
      unfold drawTK stepT at h
      rw [Array.getElem?_toList, hoi] at h
      simp only at h
      split at h
      · rename_i hg
        exact one s rfl (by simp [wantA, hg]) h
      · rename_i j want hg
        split at h
        · rename_i d hd
          split at h
          · rename_i b hb
            by_cases hbw : b = want
            · have h1 := h.1 hbw
              subst hbw
              rw [set_getD hb (by simp)] at h1
              exact one s rfl (by unfold wantA; rw [hg]; simp only; rw [hd]; simp only; rw [hb]; simp) h1
            · have hbw' : b = !want := by clear h hb; revert hbw; cases b <;> cases want <;> decide
              have h1 := h.2 hbw'
              rw [← hbw', set_getD hb (by simp)] at h1
              exact pass (by unfold wantA; rw [hg]; simp only; rw [hd]; simp only; rw [hb]; simp [hbw]) h1
          · rename_i vs hb
            exact pass (by unfold wantA; rw [hg]; simp only; rw [hd]; simp only; rw [hb]) h
          · exact h.elim
        · exact h.elim
    · -- it alone is ready
      obtain ⟨k', rfl⟩ : ∃ k', k = k' + 2 := ⟨k - 2, by omega⟩
      refine ⟨fun h0 => (by rw [h0] at hready; cases hready), fun j hj => ?_⟩
      by_cases e1 : j = i
      · subst e1
        exact stepT_opE h fun s' H' hh => next s' H' hh
      exfalso
      obtain ⟨g1, g2⟩ := ready_open hD hj
      have h5 := List.all_eq_true.1 m3 j (List.mem_range.2 g1)
      have hbe : Nat.beq j i = false := by
        cases hb : Nat.beq j i with
        | false => rfl
        | true => exact absurd (by simpa using hb) e1
      have hb2 : Nat.blt (k' + 2) 2 = false := by
        cases hb : Nat.blt (k' + 2) 2 with
        | false => rfl
        | true => exact absurd (by simpa using hb) (by omega)
      simp only [g2, hbe, hb2, Bool.false_or, Bool.false_eq_true, if_false] at h5
      exact waitB_not hD h5 hj
end
def treeOk (ops : Array Oper) (free : List Nat) (t : DT) : Bool := treeB ops free t [] && Nat.beq t.len ops.size
theorem Tri0.drawT {P : Program} {p : Nat} {id : Nat} {ops : Array Oper} {s : Slots} {H : Heap} {Q : Exit → Slots → Heap → Prop} (hm : P.follows .mixedOrders = true) (Ball free : List Nat) (t : DT) (hB : treeOk ops free t = true)
    (h : drawTK P ops.toList Ball free t s H (fun s' H' => Q .normal s' H')) : Tri0 P p (.region id ops true) s H Q := by
  simp only [treeOk, Bool.and_eq_true] at hB
  intro γ a w hp hs hr
  refine wp_region_any hm ?_
  have h1 := drawT_any (P := P) (Ball := Ball) (K := fun s' H' => Q .normal s' H') t [] (Array.replicate ops.size false) s H ⟨fun j => by rw [Array.getElem?_replicate]; simp, fun j hj => by simp at hj⟩ hB.1 h
  rw [show t.len = ops.size by simpa using hB.2] at h1
  have hs' : Sat γ { w with drawn := w.drawn + 1 } H := ⟨hs.n, fun id b hb => by
    have := hs.blk id b hb
    cases hid : γ.ρ id with
    | none => rw [hid] at this; exact this
    | some x =>
      rw [hid] at this
      obtain ⟨vs, t, g1, g2, g3⟩ := this
      exact ⟨vs, t, g1, g2, BRel.mono (γ := γ) (γ' := γ) (w := w) (w' := { w with drawn := w.drawn + 1 }) (Nat.le_refl _) (fun _ _ => ⟨rfl, rfl⟩) (fun _ h => h) (fun _ _ => rfl) g3⟩, hs.inj, fun x hx => hs.rd x hx⟩
  have hr' : SRel γ { w with drawn := w.drawn + 1 } s a := hr.mono (γ := γ) (γ' := γ) (Nat.le_refl _) (fun _ _ => ⟨rfl, rfl⟩) (fun _ h => h) (fun _ _ => rfl)
  refine anyE_sound (p := p) ops.size _ s H h1 γ a _ hs' hr' hp fun γ' a' w' s' H' q hl ev hs'' hr'' => ?_
  exact ⟨γ', s', H', q, Nat.le_trans hp hl, ⟨fun id hid => ev.ρ id (Nat.lt_of_lt_of_le hid hp), ev.R, ev.R', ev.L, ev.os, ev.tape, ev.output, ev.size, ev.keep⟩, hs'', hr''⟩
/-- The walk of a tree. -/
structure TreeS (P : Program) (all : List Oper) (Ball free : List Nat) (t : DT) (s : Slots) (H : Heap) (K : Slots → Heap → Prop) : Prop where
  run : drawTK P all Ball free t s H K
section
variable {P : Program} {all : List Oper} {Ball free : List Nat} {s : Slots} {H : Heap} {K : Slots → Heap → Prop}
theorem TreeS.nil (h : K s H) : TreeS P all Ball free .nil s H K := ⟨h⟩
theorem TreeS.fork {i1 i2 : Nat} {r1 r2 : DT} (h1 : TreeS P all Ball free (.op i1 2 r1) s H K) (h2 : TreeS P all Ball free (.op i2 2 r2) s H K) : TreeS P all Ball free (.fork i1 r1 i2 r2) s H K := ⟨h1.run, h2.run⟩
theorem TreeS.step {i k : Nat} {r : DT} (h : ∀ K' : Slots → Heap → Prop, (∀ s' H', TreeS P all Ball free r s' H' K → K' s' H') → stepT P all Ball free i k s H K') : TreeS P all Ball free (.op i k r) s H K :=
  ⟨h (fun s' H' => drawTK P all Ball free r s' H' K) fun _ _ h => h.run⟩
end
/-- Where loads may look: the blocks that slots name; deep: those that their cells name, too. -/
def ballD (deep : Bool) (s : Slots) (H : Heap) (roots : List Nat) : List Nat := match deep with
  | true => ballX s H roots
  | false => ballOf s roots
theorem Tri.treeSeq {P : Program} {p : Nat} {s : Slots} {H : Heap} {Q : Exit → Slots → Heap → Prop} {id : Nat} {ops : Array Oper} {y : Code} (rid : Nat) (_hrid : id = rid) (hm : P.follows .mixedOrders = true) (deep : Bool) (roots free : List Nat) (t : DT) (hB : treeOk ops free t = true)
    (h : ∀ K : Slots → Heap → Prop, (∀ s' H', Tri P p y s' H' Q → K s' H') → TreeS P ops.toList (ballD deep s H roots) free t s H K) : Tri P p (.seq (.region id ops true) y) s H Q :=
  Tri.seq ⟨Tri0.drawT hm (ballD deep s H roots) free t hB (h (fun s' H' => Tri P p y s' H' Q) fun _ _ h => h).run⟩
theorem Tri.tree {P : Program} {p : Nat} {s : Slots} {H : Heap} {Q : Exit → Slots → Heap → Prop} {id : Nat} {ops : Array Oper} (rid : Nat) (_hrid : id = rid) (hm : P.follows .mixedOrders = true) (deep : Bool) (roots free : List Nat) (t : DT) (hB : treeOk ops free t = true)
    (h : ∀ K : Slots → Heap → Prop, (∀ s' H', Q .normal s' H' → K s' H') → TreeS P ops.toList (ballD deep s H roots) free t s H K) : Tri P p (.region id ops true) s H Q :=
  ⟨Tri0.drawT hm (ballD deep s H roots) free t hB (h (fun s' H' => Q .normal s' H') fun _ _ h => h).run⟩
attribute [go_sem ↓] stepT
attribute [go_sem] ballD
section
variable {P : Program} {all rest : List Oper} {s : Slots} {H : Heap} {K : Slots → Heap → Prop} {d : Option Tmp} {op : Op} {ty : TypeId} {pos : String} {after : Array Edge}
theorem RegS.stepN (h : ∀ K' : Slots → Heap → Prop, (∀ s' H', RegS P all rest s' H' K → K' s' H') → stepK P op s H (fun v H' => K' (putS s d v) H')) : RegS P all (Oper.mk d op ty pos after none :: rest) s H K :=
  RegS.step fun K' h' => h K' h'
theorem QuietS.stepN (h : ∀ K' : Slots → Heap → Prop, (∀ s' H', QuietS P all rest s' H' K → K' s' H') → lightK P op s H (fun v H' => K' (putS s d v) H')) : QuietS P all (Oper.mk d op ty pos after none :: rest) s H K :=
  QuietS.step fun K' h' => h K' h'
theorem TreeS.stepN {Ball free : List Nat} {i k : Nat} {r : DT} (ho : all[i]? = some (Oper.mk d op ty pos after none)) (h : ∀ K' : Slots → Heap → Prop, (∀ s' H', TreeS P all Ball free r s' H' K → K' s' H') → oneE P Ball free i k op s H (fun v H' => K' (putS s d v) H')) : TreeS P all Ball free (.op i k r) s H K :=
  TreeS.step fun K' h' => by
    unfold stepT
    rw [ho]
    exact h K' h'
end
/-- Where ways meet: ahead of the code whose first region is number rid. -/
theorem Tri.cutR {P : Program} {p : Nat} {s : Slots} {H : Heap} {Q : Exit → Slots → Heap → Prop} {x y : Code} {ι : Type} (rid : Nat) (_hb : firstRid y = some rid) (I : ι → Slots) (J : ι → Heap) (M : ι → Prop)
    (h1 : Tri P p x s H (thenQ (fun s' H' => BackG rid (∃ j, M j ∧ Ent p s' H' (I j) (J j))) Q)) (h2 : ∀ j, M j → Tri P p y (I j) (J j) Q) : Tri P p (.seq x y) s H Q :=
  Tri.seq (Tri.mono h1 fun e s' H' h => by
    cases e with
    | normal =>
      obtain ⟨j, hM, hE⟩ := h.out
      exact Tri.ent hE (h2 j hM)
    | _ => exact h)
theorem cutG {ι : Type} {I : ι → Slots} {J : ι → Heap} {M : ι → Prop} {p : Nat} {s : Slots} {H : Heap} (rid : Nat) (j' : ι) (hE : Ent p s H (I j') (J j')) (hM : M j') : BackG rid (∃ j', M j' ∧ Ent p s H (I j') (J j')) := ⟨j', hM, hE⟩
end Go.Ae
end
section
/-! What stands behind a piece of code, step by step and without unfolding. -/
namespace Go.Ae
structure Aft (Q : Exit → Slots → Heap → Prop) (e : Exit) (s : Slots) (H : Heap) : Prop where
  out : Q e s H
section
variable {P : Program} {p : Nat} {y : Code} {Q : Exit → Slots → Heap → Prop} {s : Slots} {H : Heap} {id : Nat} {next : Slots → Heap → Prop}
theorem Aft.t (h : Tri P p y s H Q) : Aft (thenT P p y Q) .normal s H := ⟨h⟩
theorem Aft.tr (h : Aft Q .ret s H) : Aft (thenT P p y Q) .ret s H := ⟨h.out⟩
theorem Aft.tx (h : Aft Q (.exit id) s H) : Aft (thenT P p y Q) (.exit id) s H := ⟨h.out⟩
theorem Aft.q (h : next s H) : Aft (thenQ next Q) .normal s H := ⟨h⟩
theorem Aft.qr (h : Aft Q .ret s H) : Aft (thenQ next Q) .ret s H := ⟨h.out⟩
theorem Aft.qx (h : Aft Q (.exit id) s H) : Aft (thenQ next Q) (.exit id) s H := ⟨h.out⟩
theorem Aft.b (h : Aft Q .normal s H) : Aft (blockQ id Q) .normal s H := ⟨h.out⟩
theorem Aft.br (h : Aft Q .ret s H) : Aft (blockQ id Q) .ret s H := ⟨h.out⟩
theorem Aft.bx (h : Aft Q .normal s H) : Aft (blockQ id Q) (.exit id) s H := ⟨by simp only [blockQ, if_true]; exact h.out⟩
theorem Aft.by' {id' : Nat} (hne : Nat.beq id' id = false) (h : Aft Q (.exit id') s H) : Aft (blockQ id Q) (.exit id') s H := ⟨by
  have : ¬ id' = id := fun e => by subst e; simp at hne
  simp only [blockQ, if_neg this]
  exact h.out⟩
theorem Aft.e {rs : List ResultVar} {Post : AV → Heap → Prop} {x : Exit} (h : EndK P p rs Post x s H) : Aft (EndK P p rs Post) x s H := ⟨h⟩
theorem Tri.skipA (h : Aft Q .normal s H) : Tri P p .skip s H Q := Tri.skip h.out
theorem Tri.retA (h : Aft Q .ret s H) : Tri P p .ret s H Q := Tri.ret h.out
theorem Tri.exitA (h : Aft Q (.exit id) s H) : Tri P p (.exit id) s H Q := Tri.exit h.out
theorem Tri.regA {ops : Array Oper} (h : ∀ K : Slots → Heap → Prop, (∀ s' H', Aft Q .normal s' H' → K s' H') → RegS P ops.toList ops.toList s H K) : Tri P p (.region id ops false) s H Q :=
  Tri.reg fun K hK => (h K fun s' H' ha => hK s' H' ha.out).run
theorem Tri.fastA {ops : Array Oper} (rid : Nat) (hrid : id = rid) (hm : P.follows .mixedOrders = true) (hB : fastB ops = true)
    (h : ∀ K : Slots → Heap → Prop, (∀ s' H', Aft Q .normal s' H' → K s' H') → QuietS P ops.toList ops.toList s H K) : Tri P p (.region id ops true) s H Q :=
  Tri.fastN rid hrid hm hB fun K hK => (h K fun s' H' ha => hK s' H' ha.out).run
theorem Tri.treeA {ops : Array Oper} (rid : Nat) (hrid : id = rid) (hm : P.follows .mixedOrders = true) (deep : Bool) (roots free : List Nat) (t : DT) (hB : treeOk ops free t = true)
    (h : ∀ K : Slots → Heap → Prop, (∀ s' H', Aft Q .normal s' H' → K s' H') → TreeS P ops.toList (ballD deep s H roots) free t s H K) : Tri P p (.region id ops true) s H Q :=
  Tri.tree rid hrid hm deep roots free t hB fun K hK => h K fun s' H' ha => hK s' H' ha.out
theorem Tri.seqA {x : Code} (h : Tri P p x s H (thenT P p y Q)) : Tri P p (.seq x y) s H Q := Tri.seq h
end
end Go.Ae
end

import PyProof.Rows.All
import Wide.All
import OpenK.AllK
import Wide.FinOn
import KE.KeyNested
import HandS.ForMost
import HandS.ForExc
import HandS.Deep
import HandS.Wide
import HandS.Small
import HandS.ExcIs
import HandS.FStr
import HandS.Property
import HandS.Defaults
import HandS.MakeKwOnly
import HandS.TupAny
import HandS.Walk
import KE.KDictKeyed
import HandS.EndBits
import PySem.Challenge.RW_armwarrant_k73_whole_there_is_always_som
set_option Elab.async false
set_option linter.all false
set_option maxRecDepth 100000
set_option maxHeartbeats 4000000
/-! The mirror of the program in plain Lean, and the mathematics over it: safe states, the search's keys, the runner's invariant. -/
namespace Aw
open PySem (Str NestedKey)

structure Spot where
  ix : Nat
  pt : Str
  held : Option Str
  deriving DecidableEq
instance : Inhabited Spot := ⟨⟨0, Str.empty, none⟩⟩
inductive Step where
  | move (q : Str) | hold (x : Option Str) | set (g : Str) (b : Bool) | wait (g : Str) (b : Bool) | jump (n : Nat) | iff (i : Str) (n : Nat)
inductive Place where
  | rest (p : Str) (x : Option Str) | move (p q : Str) (x : Option Str)
structure St where
  spots : List Spot
  sig : List Str
structure Pln where
  flows : List (List Step)
  starts : List Str
  blk : Nat → Place → Nat → Place → Bool

def pts : List Str := ["p", "q"]
def helds : List (Option Str) := [none, some "x"]
def sigs : List Str := ["s", "t"]

def WfStep (len i : Nat) : Step → Prop
  | .move q => q ∈ pts
  | .hold x => x ∈ helds
  | .set g _ => g ∈ sigs
  | .wait g _ => g ∈ sigs
  | .jump n => i < n ∧ n ≤ len
  | .iff _ n => i < n ∧ n ≤ len
def WfFlow (fl : List Step) : Prop := ∀ i st, fl[i]? = some st → WfStep fl.length i st
structure WfP (P : Pln) : Prop where
  n1 : 1 ≤ P.flows.length
  n4 : P.flows.length ≤ 4
  fl8 : ∀ fl ∈ P.flows, fl.length ≤ 8
  wf : ∀ fl ∈ P.flows, WfFlow fl
  st : P.starts.length = P.flows.length
  sp : ∀ x ∈ P.starts, x ∈ pts
structure WfSpot (fl : List Step) (sp : Spot) : Prop where
  le : sp.ix ≤ fl.length
  pt : sp.pt ∈ pts
  held : sp.held ∈ helds
structure WfS (P : Pln) (s : St) : Prop where
  len : s.spots.length = P.flows.length
  sp : ∀ (a : Nat) (fl : List Step) (x : Spot), P.flows[a]? = some fl → s.spots[a]? = some x → WfSpot fl x
  nd : s.sig.Nodup
  sg : ∀ g ∈ s.sig, g ∈ sigs

/-! ### the flow's landing -/
def landing (fl : List Step) (i : Nat) : Nat :=
  match fl[i]? with
  | some (.jump n) => if h : i < n ∧ i < fl.length then landing fl n else i
  | _ => i
termination_by fl.length - i
decreasing_by omega
theorem landing_jump {fl : List Step} {i n : Nat} (h : fl[i]? = some (.jump n)) (h1 : i < n) : landing fl i = landing fl n := by
  rw [landing, h]
  have hi : i < fl.length := (List.getElem?_eq_some_iff.mp h).1
  exact dif_pos ⟨h1, hi⟩
theorem landing_here {fl : List Step} {i : Nat} (h : ∀ n, fl[i]? ≠ some (.jump n)) : landing fl i = i := by
  rw [landing]
  split
  · rename_i n e
    exact absurd e (h n)
  · rfl
theorem landing_le {fl : List Step} (wf : WfFlow fl) : ∀ (k i : Nat), fl.length - i ≤ k → i ≤ fl.length → i ≤ landing fl i ∧ landing fl i ≤ fl.length := by
  intro k
  induction k with
  | zero =>
    intro i hk hi
    have e : i = fl.length := by omega
    have hn : ∀ n, fl[i]? ≠ some (.jump n) := fun n q => by
      have := (List.getElem?_eq_some_iff.mp q).1
      omega
    rw [landing_here hn]
    omega
  | succ k ih =>
    intro i hk hi
    by_cases hj : ∃ n, fl[i]? = some (.jump n)
    · obtain ⟨n, e⟩ := hj
      have hw : i < n ∧ n ≤ fl.length := wf i _ e
      have hi2 : i < fl.length := (List.getElem?_eq_some_iff.mp e).1
      rw [landing_jump e hw.1]
      have q := ih n (by omega) hw.2
      omega
    · rw [landing_here fun n q => hj ⟨n, q⟩]
      omega
theorem landing_ge {fl : List Step} (wf : WfFlow fl) {i : Nat} (hi : i ≤ fl.length) : i ≤ landing fl i := (landing_le wf _ i (Nat.le_refl _) hi).1
theorem landing_top {fl : List Step} (wf : WfFlow fl) {i : Nat} (hi : i ≤ fl.length) : landing fl i ≤ fl.length := (landing_le wf _ i (Nat.le_refl _) hi).2

/-! ### states and steps -/
def flowAt (P : Pln) (a : Nat) : List Step := P.flows.getD a []
def spotAt (s : St) (a : Nat) : Spot := s.spots.getD a default
theorem flowAt_eq {P : Pln} {a : Nat} {fl : List Step} (h : P.flows[a]? = some fl) : flowAt P a = fl := by
  unfold flowAt
  rw [List.getD_eq_getElem?_getD, h] <;> rfl
theorem spotAt_eq {s : St} {a : Nat} {x : Spot} (h : s.spots[a]? = some x) : spotAt s a = x := by
  unfold spotAt
  rw [List.getD_eq_getElem?_getD, h] <;> rfl
def stepOf (P : Pln) (s : St) (a : Nat) : Option Step := (flowAt P a)[(spotAt s a).ix]?
def endedAt (P : Pln) (s : St) (a : Nat) : Prop := (flowAt P a).length ≤ (spotAt s a).ix
instance (P : Pln) (s : St) (a : Nat) : Decidable (endedAt P s a) := inferInstanceAs (Decidable (_ ≤ _))
def allEnded (P : Pln) (s : St) : Prop := ∀ a, a < P.flows.length → endedAt P s a
def restOf (s : St) (a : Nat) : Place := .rest (spotAt s a).pt (spotAt s a).held
def wantedBy (x : Spot) : Option Step → Option Place
  | some (.move q) => some (.move x.pt q x.held)
  | some (.hold y) => some (.rest x.pt y)
  | _ => none
def wanted (P : Pln) (s : St) (a : Nat) : Option Place := wantedBy (spotAt s a) (stepOf P s a)
def hindered (P : Pln) (s : St) (a : Nat) : Option Nat :=
  match wanted P s a with
  | none => none
  | some pl => (List.range P.flows.length).find? fun o => decide (o ≠ a) && P.blk a pl o (restOf s o)
def canStepBy (P : Pln) (s : St) (a : Nat) : Option Step → Bool
  | none => false
  | some (.wait g b) => decide (g ∈ s.sig) == b
  | some _ => (hindered P s a).isNone
def canStep (P : Pln) (s : St) (a : Nat) : Bool := canStepBy P s a (stepOf P s a)
def stepped (P : Pln) (s : St) (a : Nat) (x : Spot) (sig : List Str) : St := ⟨s.spots.set a ⟨landing (flowAt P a) x.ix, x.pt, x.held⟩, sig⟩
def switched (sig : List Str) (g : Str) (b : Bool) : List Str := if b = true then (if g ∈ sig then sig else sig ++ [g]) else sig.filter fun o => decide (o ≠ g)
def outsBy (P : Pln) (s : St) (a : Nat) (x : Spot) : Option Step → List St
  | none => []
  | some (.move q) => [stepped P s a ⟨x.ix + 1, q, x.held⟩ s.sig]
  | some (.hold y) => [stepped P s a ⟨x.ix + 1, x.pt, y⟩ s.sig]
  | some (.set g b) => [stepped P s a ⟨x.ix + 1, x.pt, x.held⟩ (switched s.sig g b)]
  | some (.iff _ n) => [stepped P s a ⟨x.ix + 1, x.pt, x.held⟩ s.sig, stepped P s a ⟨n, x.pt, x.held⟩ s.sig]
  | some (.wait _ _) => [stepped P s a ⟨x.ix + 1, x.pt, x.held⟩ s.sig]
  | some (.jump _) => [stepped P s a ⟨x.ix + 1, x.pt, x.held⟩ s.sig]
def outs (P : Pln) (s : St) (a : Nat) : List St := outsBy P s a (spotAt s a) (stepOf P s a)

inductive Safe (P : Pln) : St → Prop where
  | ended {s : St} : allEnded P s → Safe P s
  | step {s : St} (a : Nat) : a < P.flows.length → canStep P s a = true → (∀ o ∈ outs P s a, Safe P o) → Safe P s
theorem safe_iff (P : Pln) (s : St) : Safe P s ↔ allEnded P s ∨ ∃ a, a < P.flows.length ∧ canStep P s a = true ∧ ∀ o ∈ outs P s a, Safe P o := by
  constructor
  · intro h
    cases h with
    | ended h => exact .inl h
    | step a h1 h2 h3 => exact .inr ⟨a, h1, h2, h3⟩
  · rintro (h | ⟨a, h1, h2, h3⟩)
    · exact .ended h
    · exact .step a h1 h2 h3
noncomputable def safeB (P : Pln) (s : St) : Bool := @decide (Safe P s) (Classical.propDecidable _)
theorem safeB_true {P : Pln} {s : St} : safeB P s = true ↔ Safe P s := by
  unfold safeB
  exact @decide_eq_true_iff _ (Classical.propDecidable _)

/-! ### the outcomes: what they are, that they are well formed, that less is left -/
structure Out (P : Pln) (s : St) (a : Nat) (fl : List Step) (x : Spot) (o : St) : Prop where
  ex : ∃ (y : Spot) (sig : List Str), o = ⟨s.spots.set a y, sig⟩ ∧ x.ix < y.ix ∧ WfSpot fl y ∧ sig.Nodup ∧ ∀ g ∈ sig, g ∈ sigs
theorem nodup_switched {sig : List Str} (nd : sig.Nodup) (g : Str) (b : Bool) : (switched sig g b).Nodup := by
  unfold switched
  split
  · split
    · exact nd
    · rename_i h
      refine List.nodup_append.mpr ⟨nd, by simp, ?_⟩
      intro a ha c hc e
      have e2 : c = g := by simpa using hc
      rw [e2] at e
      rw [e] at ha
      exact h ha
  · exact nd.filter _
theorem switched_sub {sig : List Str} {g : Str} {b : Bool} (h : ∀ x ∈ sig, x ∈ sigs) (hg : g ∈ sigs) : ∀ x ∈ switched sig g b, x ∈ sigs := by
  intro x hx
  unfold switched at hx
  split at hx
  · split at hx
    · exact h x hx
    · rcases List.mem_append.mp hx with q | q
      · exact h x q
      · have : x = g := by simpa using q
        rw [this]
        exact hg
  · exact h x (List.mem_filter.mp hx).1
theorem mem_of_get {α : Type} {l : List α} {i : Nat} {x : α} (h : l[i]? = some x) : x ∈ l := by
  obtain ⟨h1, h2⟩ := List.getElem?_eq_some_iff.mp h
  rw [← h2]
  exact List.getElem_mem h1
theorem outs_out {P : Pln} {s : St} {a : Nat} (W : WfP P) (S : WfS P s) {fl : List Step} {x : Spot} (hf : P.flows[a]? = some fl) (hx : s.spots[a]? = some x) : ∀ o ∈ outs P s a, Out P s a fl x o := by
  intro o ho
  have wf : WfFlow fl := W.wf fl (mem_of_get hf)
  have ws := S.sp a fl x hf hx
  have mk : ∀ (i : Nat) (p : Str) (h : Option Str) (sig : List Str), x.ix < i → i ≤ fl.length → p ∈ pts → h ∈ helds → sig.Nodup → (∀ g ∈ sig, g ∈ sigs) → Out P s a fl x (stepped P s a ⟨i, p, h⟩ sig) := by
    intro i p h sig h1 h2 h3 h4 h5 h6
    refine ⟨⟨landing fl i, p, h⟩, sig, ?_, ?_, ⟨landing_top wf h2, h3, h4⟩, h5, h6⟩
    · unfold stepped
      rw [flowAt_eq hf]
    · show x.ix < landing fl i
      exact Nat.lt_of_lt_of_le h1 (landing_ge wf h2)
  unfold outs at ho
  rw [spotAt_eq hx] at ho
  have e : stepOf P s a = fl[x.ix]? := by
    unfold stepOf
    rw [flowAt_eq hf, spotAt_eq hx]
  rw [e] at ho
  cases hst : fl[x.ix]? with
  | none =>
    rw [hst] at ho
    cases ho
  | some st =>
    rw [hst] at ho
    have hw := wf x.ix st hst
    have hlt : x.ix < fl.length := (List.getElem?_eq_some_iff.mp hst).1
    have h1 : x.ix < x.ix + 1 := Nat.lt_succ_self _
    cases st with
    | move q =>
      have e2 : o = stepped P s a ⟨x.ix + 1, q, x.held⟩ s.sig := by simpa [outsBy] using ho
      rw [e2]
      exact mk _ _ _ _ h1 hlt hw ws.held S.nd S.sg
    | hold y =>
      have e2 : o = stepped P s a ⟨x.ix + 1, x.pt, y⟩ s.sig := by simpa [outsBy] using ho
      rw [e2]
      exact mk _ _ _ _ h1 hlt ws.pt hw S.nd S.sg
    | set g b =>
      have e2 : o = stepped P s a ⟨x.ix + 1, x.pt, x.held⟩ (switched s.sig g b) := by simpa [outsBy] using ho
      rw [e2]
      exact mk _ _ _ _ h1 hlt ws.pt ws.held (nodup_switched S.nd g b) (switched_sub S.sg hw)
    | wait g b =>
      have e2 : o = stepped P s a ⟨x.ix + 1, x.pt, x.held⟩ s.sig := by simpa [outsBy] using ho
      rw [e2]
      exact mk _ _ _ _ h1 hlt ws.pt ws.held S.nd S.sg
    | jump n =>
      have e2 : o = stepped P s a ⟨x.ix + 1, x.pt, x.held⟩ s.sig := by simpa [outsBy] using ho
      rw [e2]
      exact mk _ _ _ _ h1 hlt ws.pt ws.held S.nd S.sg
    | iff i n =>
      have e2 : o = stepped P s a ⟨x.ix + 1, x.pt, x.held⟩ s.sig ∨ o = stepped P s a ⟨n, x.pt, x.held⟩ s.sig := by simpa [outsBy] using ho
      rcases e2 with e2 | e2
      · rw [e2]
        exact mk _ _ _ _ h1 hlt ws.pt ws.held S.nd S.sg
      · rw [e2]
        exact mk _ _ _ _ hw.1 hw.2 ws.pt ws.held S.nd S.sg
theorem Out.wf {P : Pln} {s o : St} {a : Nat} {fl : List Step} {x : Spot} (S : WfS P s) (hf : P.flows[a]? = some fl) (h : Out P s a fl x o) : WfS P o := by
  obtain ⟨y, sig, rfl, _, wy, nd, sg⟩ := h.ex
  refine ⟨?_, ?_, nd, sg⟩
  · show (s.spots.set a y).length = _
    rw [List.length_set]
    exact S.len
  · intro b fb z hb hz
    have hz : (s.spots.set a y)[b]? = some z := hz
    by_cases e : a = b
    · subst e
      rw [hf] at hb
      cases hb
      by_cases hl : a < s.spots.length
      · rw [List.getElem?_set_self hl] at hz
        cases hz
        exact wy
      · rw [List.getElem?_eq_none (by rw [List.length_set]; omega)] at hz
        cases hz
    · rw [List.getElem?_set_ne e] at hz
      exact S.sp b fb z hb hz
def left : List (List Step) → List Spot → Nat
  | fl :: fs, x :: xs => (fl.length - x.ix) + left fs xs
  | _, _ => 0
theorem left_set : ∀ (fs : List (List Step)) (xs : List Spot) (a : Nat) (fl : List Step) (x y : Spot), fs[a]? = some fl → xs[a]? = some x → x.ix < y.ix → y.ix ≤ fl.length → left fs (xs.set a y) < left fs xs
  | [], _, a, _, _, _, h, _, _, _ => by simp at h
  | _ :: _, [], a, _, _, _, _, h, _, _ => by simp at h
  | f :: fs, z :: xs, 0, fl, x, y, h1, h2, h3, h4 => by
    have e1 : f = fl := by simpa using h1
    have e2 : z = x := by simpa using h2
    subst e1
    subst e2
    show (f.length - y.ix) + left fs xs < (f.length - z.ix) + left fs xs
    omega
  | f :: fs, z :: xs, a + 1, fl, x, y, h1, h2, h3, h4 => by
    have q := left_set fs xs a fl x y (by simpa using h1) (by simpa using h2) h3 h4
    show (f.length - z.ix) + left fs (xs.set a y) < (f.length - z.ix) + left fs xs
    omega
def stepsLeft (P : Pln) (s : St) : Nat := left P.flows s.spots
theorem Out.less {P : Pln} {s o : St} {a : Nat} {fl : List Step} {x : Spot} (hf : P.flows[a]? = some fl) (hx : s.spots[a]? = some x) (h : Out P s a fl x o) : stepsLeft P o < stepsLeft P s := by
  obtain ⟨y, sig, rfl, h1, wy, _⟩ := h.ex
  exact left_set _ _ a fl x y hf hx h1 wy.le
theorem get_some {α : Type} {l : List α} {i : Nat} (h : i < l.length) : ∃ x, l[i]? = some x := ⟨l[i], List.getElem?_eq_getElem h⟩
theorem outs_wf {P : Pln} {s o : St} {a : Nat} (W : WfP P) (S : WfS P s) (ha : a < P.flows.length) (ho : o ∈ outs P s a) : WfS P o ∧ stepsLeft P o < stepsLeft P s := by
  obtain ⟨fl, hf⟩ := get_some ha
  obtain ⟨x, hx⟩ := get_some (l := s.spots) (i := a) (by rw [S.len]; exact ha)
  have q := outs_out W S hf hx o ho
  exact ⟨q.wf S hf, q.less hf hx⟩
theorem left_le : ∀ (fs : List (List Step)) (xs : List Spot), (∀ fl ∈ fs, fl.length ≤ 8) → left fs xs ≤ 8 * fs.length
  | [], _, _ => Nat.zero_le _
  | _ :: _, [], _ => Nat.zero_le _
  | f :: fs, x :: xs, h => by
    have h1 := left_le fs xs fun fl hfl => h fl (List.mem_cons_of_mem _ hfl)
    have h2 := h f List.mem_cons_self
    show (f.length - x.ix) + left fs xs ≤ 8 * (fs.length + 1)
    omega
theorem stepsLeft_le {P : Pln} (W : WfP P) (s : St) : stepsLeft P s ≤ 32 := by
  have h1 := left_le P.flows s.spots W.fl8
  have h2 := W.n4
  unfold stepsLeft
  omega

/-! ### the order of the signals does not matter -/
structure Eqv (s t : St) : Prop where
  sp : s.spots = t.spots
  sg : ∀ g, g ∈ s.sig ↔ g ∈ t.sig
theorem Eqv.symm {s t : St} (h : Eqv s t) : Eqv t s := ⟨h.sp.symm, fun g => (h.sg g).symm⟩
theorem Eqv.spotAt {s t : St} (h : Eqv s t) (a : Nat) : spotAt s a = spotAt t a := by
  unfold Aw.spotAt
  rw [h.sp]
theorem Eqv.stepOf {P : Pln} {s t : St} (h : Eqv s t) (a : Nat) : stepOf P s a = stepOf P t a := by
  unfold Aw.stepOf
  rw [h.spotAt]
theorem Eqv.wanted {P : Pln} {s t : St} (h : Eqv s t) (a : Nat) : wanted P s a = wanted P t a := by
  unfold Aw.wanted
  rw [h.spotAt, h.stepOf]
theorem Eqv.restOf {s t : St} (h : Eqv s t) : restOf s = restOf t := by
  funext a
  unfold Aw.restOf
  rw [h.spotAt]
theorem Eqv.hindered {P : Pln} {s t : St} (h : Eqv s t) (a : Nat) : hindered P s a = hindered P t a := by
  unfold Aw.hindered
  rw [h.wanted, h.restOf]
theorem Eqv.canStep {P : Pln} {s t : St} (h : Eqv s t) (a : Nat) : canStep P s a = canStep P t a := by
  unfold Aw.canStep
  rw [h.stepOf]
  unfold canStepBy
  rw [h.hindered]
  split
  · rfl
  · rename_i g b _
    have e : decide (g ∈ s.sig) = decide (g ∈ t.sig) := by
      rw [decide_eq_decide]
      exact h.sg g
    rw [e]
  · rfl
theorem Eqv.allEnded {P : Pln} {s t : St} (h : Eqv s t) (q : allEnded P s) : allEnded P t := fun a ha => by
  have z := q a ha
  unfold endedAt at z ⊢
  rw [← h.spotAt]
  exact z
theorem mem_switched {sig : List Str} {g x : Str} {b : Bool} : x ∈ switched sig g b ↔ if b = true then (x ∈ sig ∨ x = g) else (x ∈ sig ∧ x ≠ g) := by
  unfold switched
  cases b with
  | true =>
    simp only [if_true]
    split
    · rename_i h
      constructor
      · exact .inl
      · rintro (q | q)
        · exact q
        · rw [q]; exact h
    · simp
  | false => simp
theorem Eqv.stepped {P : Pln} {s t : St} (h : Eqv s t) (a : Nat) (x : Spot) {sg sg' : List Str} (q : ∀ g, g ∈ sg ↔ g ∈ sg') : Eqv (stepped P s a x sg) (stepped P t a x sg') := by
  refine ⟨?_, q⟩
  show s.spots.set a _ = t.spots.set a _
  rw [h.sp]
theorem Eqv.outs {P : Pln} {s t : St} (h : Eqv s t) (a : Nat) : ∀ o ∈ outs P t a, ∃ o' ∈ outs P s a, Eqv o' o := by
  intro o ho
  unfold Aw.outs at ho ⊢
  rw [h.stepOf, h.spotAt]
  generalize Aw.stepOf P t a = st at *
  generalize Aw.spotAt t a = x at *
  have one : ∀ (y : Spot) {sg sg' : List Str}, (∀ g, g ∈ sg ↔ g ∈ sg') → o ∈ [Aw.stepped P t a y sg'] → ∃ o' ∈ [Aw.stepped P s a y sg], Eqv o' o := by
    intro y sg sg' q ho
    have e : o = Aw.stepped P t a y sg' := by simpa using ho
    exact ⟨_, List.mem_singleton.mpr rfl, by rw [e]; exact h.stepped a y q⟩
  cases st with
  | none => cases ho
  | some st =>
    cases st with
    | move q => exact one _ h.sg ho
    | hold y => exact one _ h.sg ho
    | set g b =>
      refine one _ (fun z => ?_) ho
      rw [mem_switched, mem_switched]
      split
      · rw [h.sg z]
      · rw [h.sg z]
    | wait g b => exact one _ h.sg ho
    | jump n => exact one _ h.sg ho
    | iff i n =>
      have e : o = Aw.stepped P t a ⟨x.ix + 1, x.pt, x.held⟩ t.sig ∨ o = Aw.stepped P t a ⟨n, x.pt, x.held⟩ t.sig := by simpa [outsBy] using ho
      rcases e with e | e
      · exact ⟨_, List.mem_cons_self, by rw [e]; exact h.stepped a _ h.sg⟩
      · exact ⟨_, List.mem_cons_of_mem _ (List.mem_singleton.mpr rfl), by rw [e]; exact h.stepped a _ h.sg⟩
theorem Safe.eqv {P : Pln} {s : St} (h : Safe P s) : ∀ t, Eqv s t → Safe P t := by
  induction h with
  | ended q => exact fun t e => .ended (e.allEnded q)
  | step a h1 h2 h3 ih =>
    intro t e
    refine .step a h1 (by rw [← e.canStep]; exact h2) fun o ho => ?_
    obtain ⟨o', m, q⟩ := e.outs a o ho
    exact ih o' m o q
theorem safeB_eqv {P : Pln} {s t : St} (e : Eqv s t) : safeB P s = safeB P t := by
  rw [Bool.eq_iff_iff, safeB_true, safeB_true]
  exact ⟨fun h => h.eqv t e, fun h => h.eqv s e.symm⟩
end Aw

/-! The keys of the search's dict, and that there are few of them. -/
namespace Aw
open PySem (Str NestedKey)

/-! ### immutable data -/
inductive Dat where
  | non | bl (b : Bool) | int (i : Int) | str (x : Str) | tup (l : List Dat)
mutual
def Dat.key : Dat → NestedKey
  | .non => .none
  | .bl b => .num (if b = true then 1 else 0)
  | .int i => .num i
  | .str x => .text x
  | .tup l => .tup (Dat.keys l)
def Dat.keys : List Dat → List NestedKey
  | [] => []
  | d :: l => Dat.key d :: Dat.keys l
end
theorem Dat.keys_map : ∀ l : List Dat, Dat.keys l = l.map Dat.key
  | [] => rfl
  | d :: l => by
    show Dat.key d :: Dat.keys l = Dat.key d :: l.map Dat.key
    rw [Dat.keys_map l]

def dHeld : Option Str → Dat
  | none => .non
  | some x => .str x
def dSpot (x : Spot) : Dat := .tup [.int (x.ix : Nat), .str x.pt, dHeld x.held]
def dSpots (l : List Spot) : Dat := .tup (l.map dSpot)
def dSig (l : List Str) : Dat := .tup (l.map Dat.str)
def dSt (s : St) : Dat := .tup [dSpots s.spots, dSig s.sig]
def dStep : Step → Dat
  | .move q => .tup [.str "move", .str q]
  | .hold x => .tup [.str "hold", dHeld x]
  | .set g b => .tup [.str "set", .str g, .bl b]
  | .wait g b => .tup [.str "wait", .str g, .bl b]
  | .jump n => .tup [.str "jump", .int (n : Nat)]
  | .iff i n => .tup [.str "if", .str i, .int (n : Nat)]
def dPlace : Place → Dat
  | .rest p x => .tup [.str "rest", .str p, dHeld x]
  | .move p q x => .tup [.str "move", .str p, .str q, dHeld x]
def dBlk (a : Nat) (pl : Place) (o : Nat) (pl' : Place) : Dat := .tup [.int (a : Nat), dPlace pl, .int (o : Nat), dPlace pl']
/-- the signals in their order by sign -/
def canon (l : List Str) : List Str := sigs.filter fun g => decide (g ∈ l)
def dKey (s : St) : Dat := .tup [dSpots s.spots, dSig (canon s.sig)]
def kSt (s : St) : NestedKey := (dKey s).key

theorem dHeld_inj {x y : Option Str} (h : (dHeld x).key = (dHeld y).key) : x = y := by
  cases x with
  | none =>
    cases y with
    | none => rfl
    | some y => cases h
  | some x =>
    cases y with
    | none => cases h
    | some y =>
      have e : NestedKey.text x = NestedKey.text y := h
      cases e
      rfl
theorem key_tup {l m : List Dat} (h : (Dat.tup l).key = (Dat.tup m).key) : l.map Dat.key = m.map Dat.key := by
  have h2 : NestedKey.tup (Dat.keys l) = NestedKey.tup (Dat.keys m) := h
  rw [Dat.keys_map, Dat.keys_map] at h2
  exact NestedKey.tup.inj h2
theorem dSpot_inj {x y : Spot} (h : (dSpot x).key = (dSpot y).key) : x = y := by
  have h2 := key_tup h
  simp only [List.map_cons, List.map_nil, List.cons.injEq, and_true] at h2
  obtain ⟨h3, h4, h5⟩ := h2
  have e3 : NestedKey.num ((x.ix : Nat) : Int) = NestedKey.num ((y.ix : Nat) : Int) := h3
  have e4 : NestedKey.text x.pt = NestedKey.text y.pt := h4
  have e5 := dHeld_inj h5
  injection e3 with e3
  injection e4 with e4
  have e3' : x.ix = y.ix := by omega
  cases x
  cases y
  cases e3'
  cases e4
  cases e5
  rfl
theorem dSpots_inj : ∀ {l m : List Spot}, (l.map dSpot).map Dat.key = (m.map dSpot).map Dat.key → l = m
  | [], [], _ => rfl
  | [], _ :: _, h => by simp at h
  | _ :: _, [], h => by simp at h
  | x :: l, y :: m, h => by
    simp only [List.map_cons, List.cons.injEq] at h
    rw [dSpot_inj h.1, dSpots_inj (l := l) (m := m) h.2]
theorem strs_inj : ∀ {l m : List Str}, (l.map Dat.str).map Dat.key = (m.map Dat.str).map Dat.key → l = m
  | [], [], _ => rfl
  | [], _ :: _, h => by simp at h
  | _ :: _, [], h => by simp at h
  | x :: l, y :: m, h => by
    simp only [List.map_cons, List.cons.injEq] at h
    have e : NestedKey.text x = NestedKey.text y := h.1
    injection e with e
    rw [e, strs_inj (l := l) (m := m) h.2]
theorem mem_canon {l : List Str} {g : Str} : g ∈ canon l ↔ g ∈ sigs ∧ g ∈ l := by
  unfold canon
  rw [List.mem_filter]
  simp
/-- one key, one state up to the signals' order -/
theorem kSt_eqv {P : Pln} {s t : St} (S : WfS P s) (T : WfS P t) (h : kSt s = kSt t) : Eqv s t := by
  have h2 := key_tup h
  simp only [List.map_cons, List.map_nil, List.cons.injEq, and_true] at h2
  obtain ⟨h3, h4⟩ := h2
  have e3 := dSpots_inj (key_tup h3)
  have e4 := strs_inj (key_tup h4)
  refine ⟨e3, fun g => ⟨fun q => ?_, fun q => ?_⟩⟩
  · have z : g ∈ canon s.sig := mem_canon.mpr ⟨S.sg g q, q⟩
    rw [e4] at z
    exact (mem_canon.mp z).2
  · have z : g ∈ canon t.sig := mem_canon.mpr ⟨T.sg g q, q⟩
    rw [← e4] at z
    exact (mem_canon.mp z).2
theorem kSt_spots {s t : St} (h : kSt s = kSt t) : s.spots = t.spots := by
  have h2 := key_tup h
  simp only [List.map_cons, List.map_nil, List.cons.injEq, and_true] at h2
  exact dSpots_inj (key_tup h2.1)
theorem safeB_key {P : Pln} {s t : St} (S : WfS P s) (T : WfS P t) (h : kSt s = kSt t) : safeB P s = safeB P t := safeB_eqv (kSt_eqv S T h)
theorem left_key {P : Pln} {s t : St} (h : kSt s = kSt t) : stepsLeft P s = stepsLeft P t := by
  unfold stepsLeft
  rw [kSt_spots h]

/-! ### a number for each key -/
def cSpot (x : Spot) : Nat := x.ix * 4 + (if x.pt = "q" then 2 else 0) + (if x.held = none then 0 else 1)
def cSpots : List Spot → Nat
  | [] => 0
  | x :: l => cSpot x + 36 * cSpots l
def cSig (l : List Str) : Nat := (if ("s" : Str) ∈ l then 1 else 0) + (if ("t" : Str) ∈ l then 2 else 0)
def cSt (s : St) : Nat := cSig s.sig + 4 * cSpots s.spots
theorem cSpot_lt {fl : List Step} {x : Spot} (w : WfSpot fl x) (h8 : fl.length ≤ 8) : cSpot x < 36 := by
  have h := w.le
  unfold cSpot
  split <;> split <;> omega
theorem pt_cases {p : Str} (h : p ∈ pts) : p = "p" ∨ p = "q" := by simpa [pts] using h
theorem held_cases {p : Option Str} (h : p ∈ helds) : p = none ∨ p = some ("x" : Str) := by simpa [helds] using h
theorem sig_cases {p : Str} (h : p ∈ sigs) : p = "s" ∨ p = "t" := by simpa [sigs] using h
theorem pq : ¬ (("p" : Str) = "q") := by decide +kernel
theorem cSpot_inj {fl fl' : List Step} {x y : Spot} (w : WfSpot fl x) (w' : WfSpot fl' y) (h : cSpot x = cSpot y) : x = y := by
  obtain ⟨i, p, u⟩ := x
  obtain ⟨j, q, v⟩ := y
  have h1 : p = "p" ∨ p = "q" := pt_cases w.pt
  have h2 : q = "p" ∨ q = "q" := pt_cases w'.pt
  have h3 : u = none ∨ u = some ("x" : Str) := held_cases w.held
  have h4 : v = none ∨ v = some ("x" : Str) := held_cases w'.held
  unfold cSpot at h
  rcases h1 with rfl | rfl <;> rcases h2 with rfl | rfl <;> rcases h3 with rfl | rfl <;> rcases h4 with rfl | rfl <;>
    simp only [if_pos, if_neg pq, reduceCtorEq, if_false] at h <;> first | (exfalso; omega) | exact congrArg (fun k => (⟨k, _, _⟩ : Spot)) (show i = j by omega)
def WfSpots (l : List Spot) : Prop := ∀ x ∈ l, ∃ fl : List Step, fl.length ≤ 8 ∧ WfSpot fl x
theorem cSpots_lt : ∀ l : List Spot, WfSpots l → cSpots l < 36 ^ l.length
  | [], _ => by decide
  | x :: l, h => by
    obtain ⟨fl, h8, w⟩ := h x List.mem_cons_self
    have h1 := cSpot_lt w h8
    have h2 := cSpots_lt l fun y hy => h y (List.mem_cons_of_mem _ hy)
    show cSpot x + 36 * cSpots l < 36 ^ (l.length + 1)
    rw [Nat.pow_succ]
    omega
theorem cSpots_inj : ∀ l m : List Spot, l.length = m.length → WfSpots l → WfSpots m → cSpots l = cSpots m → l = m
  | [], [], _, _, _, _ => rfl
  | [], _ :: _, h, _, _, _ => by simp at h
  | _ :: _, [], h, _, _, _ => by simp at h
  | x :: l, y :: m, h, h1, h2, e => by
    obtain ⟨fl, h8, w⟩ := h1 x List.mem_cons_self
    obtain ⟨fl', h8', w'⟩ := h2 y List.mem_cons_self
    have l1 := cSpot_lt w h8
    have l2 := cSpot_lt w' h8'
    have e2 : cSpot x + 36 * cSpots l = cSpot y + 36 * cSpots m := e
    have e3 : cSpot x = cSpot y := by omega
    have e4 : cSpots l = cSpots m := by omega
    rw [cSpot_inj w w' e3, cSpots_inj l m (by simpa using h) (fun z hz => h1 z (List.mem_cons_of_mem _ hz)) (fun z hz => h2 z (List.mem_cons_of_mem _ hz)) e4]
theorem wfSpots {P : Pln} {s : St} (W : WfP P) (S : WfS P s) : WfSpots s.spots := by
  intro x hx
  obtain ⟨a, ha, e⟩ := List.mem_iff_getElem.mp hx
  have hx2 : s.spots[a]? = some x := by rw [List.getElem?_eq_getElem ha, e]
  obtain ⟨fl, hf⟩ := get_some (l := P.flows) (i := a) (by rw [← S.len]; exact ha)
  exact ⟨fl, W.fl8 fl (mem_of_get hf), S.sp a fl x hf hx2⟩
def keyMost : Nat := 6718464
theorem cSt_lt {P : Pln} {s : St} (W : WfP P) (S : WfS P s) : cSt s < keyMost := by
  have h1 := cSpots_lt _ (wfSpots W S)
  have h2 : 36 ^ s.spots.length ≤ 36 ^ 4 := Nat.pow_le_pow_right (by decide) (by rw [S.len]; exact W.n4)
  have h3 : (36 : Nat) ^ 4 = 1679616 := by decide
  have h4 : cSig s.sig < 4 := by
    unfold cSig
    split <;> split <;> omega
  unfold cSt keyMost
  omega
theorem cSig_canon {l m : List Str} (h : cSig l = cSig m) : canon l = canon m := by
  have hs : (("s" : Str) ∈ l ↔ ("s" : Str) ∈ m) ∧ (("t" : Str) ∈ l ↔ ("t" : Str) ∈ m) := by
    unfold cSig at h
    by_cases a : ("s" : Str) ∈ l <;> by_cases b : ("t" : Str) ∈ l <;> by_cases c : ("s" : Str) ∈ m <;> by_cases d : ("t" : Str) ∈ m <;> simp [a, b, c, d] at h ⊢
  unfold canon sigs
  simp only [List.filter_cons, List.filter_nil, hs.1, hs.2]
theorem cSt_key {P : Pln} {s t : St} (W : WfP P) (S : WfS P s) (T : WfS P t) (h : cSt s = cSt t) : kSt s = kSt t := by
  have b1 : cSig s.sig < 4 := by
    unfold cSig
    split <;> split <;> omega
  have b2 : cSig t.sig < 4 := by
    unfold cSig
    split <;> split <;> omega
  unfold cSt at h
  have e1 : cSig s.sig = cSig t.sig := by omega
  have e2 : cSpots s.spots = cSpots t.spots := by omega
  have e3 := cSpots_inj s.spots t.spots (by rw [S.len, T.len]) (wfSpots W S) (wfSpots W T) e2
  have e4 := cSig_canon e1
  unfold kSt dKey
  rw [e3, e4]
theorem pigeon : ∀ (N : Nat) (l : List Nat), l.Nodup → (∀ x ∈ l, x < N) → l.length ≤ N
  | 0, [], _, _ => Nat.le_refl _
  | 0, x :: _, _, h => absurd (h x List.mem_cons_self) (Nat.not_lt_zero _)
  | N + 1, l, nd, h => by
    by_cases hm : N ∈ l
    · have h1 := pigeon N (l.erase N) (nd.erase N) (fun x hx => by
        have q := (nd.mem_erase_iff).mp hx
        have z := h x q.2
        have ne := q.1
        omega)
      have h2 := List.length_erase_of_mem hm
      have h3 : 0 < l.length := List.length_pos_of_mem hm
      omega
    · have h1 := pigeon N l nd (fun x hx => by
        have z := h x hx
        have ne : x ≠ N := fun e => hm (e ▸ hx)
        omega)
      omega
/-- what the search knows: for each key whether the states of the key are safe -/
def Known (P : Pln) (kvs : List (NestedKey × Bool)) : Prop := (kvs.map (·.1)).Nodup ∧ ∀ kv ∈ kvs, ∃ s, WfS P s ∧ kSt s = kv.1 ∧ kv.2 = safeB P s
theorem known_codes {P : Pln} (W : WfP P) : ∀ kvs : List (NestedKey × Bool), Known P kvs → ∃ l : List Nat, l.length = kvs.length ∧ l.Nodup ∧ ∀ c ∈ l, ∃ s kv, WfS P s ∧ kv ∈ kvs ∧ kSt s = kv.1 ∧ c = cSt s
  | [], _ => ⟨[], rfl, List.nodup_nil, fun _ h => nomatch h⟩
  | kv :: r, h => by
    obtain ⟨nd, hk⟩ := h
    rw [List.map_cons, List.nodup_cons] at nd
    obtain ⟨l, h1, h2, h3⟩ := known_codes W r ⟨nd.2, fun z hz => hk z (List.mem_cons_of_mem _ hz)⟩
    obtain ⟨s, S, e, _⟩ := hk kv List.mem_cons_self
    refine ⟨cSt s :: l, by rw [List.length_cons, List.length_cons, h1], List.nodup_cons.mpr ⟨fun hm => ?_, h2⟩, fun c hc => ?_⟩
    · obtain ⟨t, kv', T, hm', e', ec⟩ := h3 _ hm
      have q := cSt_key W S T ec
      rw [e, e'] at q
      exact nd.1 (by rw [q]; exact List.mem_map_of_mem hm')
    · rcases List.mem_cons.mp hc with q | q
      · exact ⟨s, kv, S, List.mem_cons_self, e, q⟩
      · obtain ⟨t, kv', T, hm', e', ec⟩ := h3 _ q
        exact ⟨t, kv', T, List.mem_cons_of_mem _ hm', e', ec⟩
theorem known_few {P : Pln} (W : WfP P) {kvs : List (NestedKey × Bool)} (h : Known P kvs) : kvs.length ≤ keyMost := by
  obtain ⟨l, h1, h2, h3⟩ := known_codes W kvs h
  rw [← h1]
  exact pigeon _ l h2 fun c hc => by
    obtain ⟨s, _, S, _, _, e⟩ := h3 c hc
    rw [e]
    exact cSt_lt W S
def look (kvs : List (NestedKey × Bool)) (k : NestedKey) : Option Bool := (kvs.find? fun kv => decide (kv.1 = k)).map (·.2)
theorem look_mem {kvs : List (NestedKey × Bool)} {k : NestedKey} {b : Bool} (h : look kvs k = some b) : (k, b) ∈ kvs := by
  unfold look at h
  cases e : kvs.find? fun kv => decide (kv.1 = k) with
  | none =>
    rw [e] at h
    cases h
  | some kv =>
    rw [e] at h
    have h1 := List.find?_some e
    have h2 : kv.1 = k := by simpa using h1
    have h3 : kv.2 = b := Option.some.inj h
    have h4 := List.mem_of_find?_eq_some e
    rw [← h2, ← h3]
    exact h4
theorem look_none {kvs : List (NestedKey × Bool)} {k : NestedKey} (h : look kvs k = none) : k ∉ kvs.map (·.1) := by
  intro hm
  obtain ⟨kv, h1, h2⟩ := List.mem_map.mp hm
  unfold look at h
  have h3 : kvs.find? (fun kv => decide (kv.1 = k)) = none := by
    cases e : kvs.find? (fun kv => decide (kv.1 = k)) with
    | none => rfl
    | some z =>
      rw [e] at h
      cases h
  have h4 := List.find?_eq_none.mp h3 kv h1
  simp [h2] at h4
theorem look_safe {P : Pln} {kvs : List (NestedKey × Bool)} (K : Known P kvs) {s : St} (S : WfS P s) {b : Bool} (h : look kvs (kSt s) = some b) : b = safeB P s := by
  obtain ⟨t, T, e1, e2⟩ := K.2 _ (look_mem h)
  have e2' : b = safeB P t := e2
  rw [e2']
  exact safeB_key T S e1
theorem Known.snoc {P : Pln} {kvs : List (NestedKey × Bool)} (K : Known P kvs) {s : St} (S : WfS P s) (h : look kvs (kSt s) = none) : Known P (kvs ++ [(kSt s, safeB P s)]) := by
  refine ⟨?_, fun kv hkv => ?_⟩
  · rw [List.map_append, List.nodup_append]
    refine ⟨K.1, by simp, fun a ha b hb e => ?_⟩
    have e2 : b = kSt s := by simpa using hb
    rw [e2] at e
    rw [e] at ha
    exact look_none h ha
  · rcases List.mem_append.mp hkv with q | q
    · exact K.2 kv q
    · have e : kv = (kSt s, safeB P s) := by simpa using q
      rw [e]
      exact ⟨s, S, rfl, rfl⟩
theorem look_snoc {kvs : List (NestedKey × Bool)} {k j : NestedKey} {b : Bool} (h : look kvs k = none) : look (kvs ++ [(k, b)]) j = if j = k then some b else look kvs j := by
  unfold look
  rw [List.find?_append]
  by_cases e : j = k
  · rw [if_pos e]
    subst e
    have h3 : kvs.find? (fun kv => decide (kv.1 = j)) = none := by
      unfold look at h
      cases q : kvs.find? (fun kv => decide (kv.1 = j)) with
      | none => rfl
      | some z =>
        rw [q] at h
        cases h
    rw [h3]
    simp
  · rw [if_neg e]
    cases q : kvs.find? (fun kv => decide (kv.1 = j)) with
    | none =>
      have e' : ¬ k = j := fun z => e z.symm
      simp [e']
    | some z => simp
end Aw

/-! The runner in plain Lean: the state ahead, its invariant, what may be done, that there is always something to do. -/
namespace Aw
open PySem (Str NestedKey)

structure Rn where
  st : St
  mov : List Bool
  hal : List Bool
def movedSpot (fl : List Step) (x : Spot) : Spot :=
  match fl[x.ix]? with
  | some (.move q) => ⟨landing fl (x.ix + 1), q, x.held⟩
  | _ => x
def aheadL : List (List Step) → List Spot → List Bool → List Spot
  | fl :: fs, x :: xs, m :: ms => (if m = true then movedSpot fl x else x) :: aheadL fs xs ms
  | _, xs, _ => xs
def ahead (P : Pln) (s : St) (mov : List Bool) : St := ⟨aheadL P.flows s.spots mov, s.sig⟩
theorem aheadL_get : ∀ (fs : List (List Step)) (xs : List Spot) (ms : List Bool) (a : Nat), xs.length = fs.length →
    (aheadL fs xs ms)[a]? = (xs[a]?).map fun x => if ms[a]? = some true then movedSpot (fs.getD a []) x else x
  | [], xs, ms, a, h => by
    have e : xs = [] := List.length_eq_zero_iff.mp h
    subst e
    simp [aheadL]
  | f :: fs, [], ms, a, h => by simp at h
  | f :: fs, x :: xs, [], a, h => by simp [aheadL]
  | f :: fs, x :: xs, m :: ms, 0, h => by simp [aheadL]
  | f :: fs, x :: xs, m :: ms, a + 1, h => by
    have q := aheadL_get fs xs ms a (by simpa using h)
    simpa [aheadL] using q
theorem ahead_get {P : Pln} {s : St} (h : s.spots.length = P.flows.length) (mov : List Bool) (a : Nat) :
    (ahead P s mov).spots[a]? = (s.spots[a]?).map fun x => if mov[a]? = some true then movedSpot (flowAt P a) x else x := aheadL_get _ _ _ _ h
theorem ahead_len {P : Pln} {s : St} (h : s.spots.length = P.flows.length) (mov : List Bool) : (ahead P s mov).spots.length = P.flows.length := by
  have key : ∀ (fs : List (List Step)) (xs : List Spot) (ms : List Bool), (aheadL fs xs ms).length = xs.length := by
    intro fs
    induction fs with
    | nil => intro xs ms; simp [aheadL]
    | cons f fs ih =>
      intro xs ms
      cases xs with
      | nil => simp [aheadL]
      | cons x xs =>
        cases ms with
        | nil => simp [aheadL]
        | cons m ms => simp [aheadL, ih]
  exact (key _ _ _).trans h
theorem ahead_no {P : Pln} {s : St} (h : s.spots.length = P.flows.length) {mov : List Bool} {a : Nat} (hm : mov[a]? ≠ some true) : (ahead P s mov).spots[a]? = s.spots[a]? := by
  rw [ahead_get h]
  simp only [if_neg hm]
  cases s.spots[a]? <;> rfl
theorem ahead_yes {P : Pln} {s : St} (h : s.spots.length = P.flows.length) {mov : List Bool} {a : Nat} (hm : mov[a]? = some true) : (ahead P s mov).spots[a]? = (s.spots[a]?).map (movedSpot (flowAt P a)) := by
  rw [ahead_get h]
  simp only [if_pos hm]
theorem ahead_none {P : Pln} {s : St} {mov : List Bool} (h : s.spots.length = P.flows.length) (hm : ∀ (a : Nat), mov[a]? ≠ some true) : ahead P s mov = s := by
  have e : (ahead P s mov).spots = s.spots := by
    apply List.ext_getElem?
    intro a
    exact ahead_no h (hm a)
  cases s
  exact congrArg (fun l => St.mk l _) e
theorem spot_ahead {P : Pln} {s : St} (h : s.spots.length = P.flows.length) {mov : List Bool} {a : Nat} (hm : mov[a]? ≠ some true) : spotAt (ahead P s mov) a = spotAt s a := by
  unfold spotAt
  rw [List.getD_eq_getElem?_getD, List.getD_eq_getElem?_getD, ahead_no h hm]
theorem step_ahead {P : Pln} {s : St} (h : s.spots.length = P.flows.length) {mov : List Bool} {a : Nat} (hm : mov[a]? ≠ some true) : stepOf P (ahead P s mov) a = stepOf P s a := by
  unfold stepOf
  rw [spot_ahead h hm]
/-- a step of an arm that is not under way, seen from the state ahead -/
theorem stepped_ahead {P : Pln} {s : St} (h : s.spots.length = P.flows.length) {mov : List Bool} {a : Nat} (hm : mov[a]? ≠ some true) (x : Spot) (sig : List Str) :
    stepped P (ahead P s mov) a x sig = ahead P (stepped P s a x sig) mov := by
  have hl : (stepped P s a x sig).spots.length = P.flows.length := by
    show (s.spots.set a _).length = _
    rw [List.length_set]
    exact h
  have e : (stepped P (ahead P s mov) a x sig).spots = (ahead P (stepped P s a x sig) mov).spots := by
    apply List.ext_getElem?
    intro b
    by_cases e : a = b
    · subst e
      rw [ahead_no hl hm]
      show ((ahead P s mov).spots.set a _)[a]? = (s.spots.set a _)[a]?
      rw [List.getElem?_set, List.getElem?_set, ahead_len h, h, if_pos rfl, if_pos rfl]
    · rw [ahead_get hl]
      show ((ahead P s mov).spots.set a _)[b]? = ((s.spots.set a _)[b]?).map _
      rw [List.getElem?_set_ne e, List.getElem?_set_ne e, ahead_get h]
  exact congrArg (fun l => St.mk l sig) e
theorem outs_ahead {P : Pln} {s : St} (h : s.spots.length = P.flows.length) {mov : List Bool} {a : Nat} (hm : mov[a]? ≠ some true) : outs P (ahead P s mov) a = (outs P s a).map fun o => ahead P o mov := by
  unfold outs
  rw [step_ahead h hm, spot_ahead h hm]
  generalize stepOf P s a = st
  have e : (ahead P s mov).sig = s.sig := rfl
  cases st with
  | none => rfl
  | some st => cases st <;> simp [outsBy, stepped_ahead h hm, e]
/-- the first outcome -/
def adv (P : Pln) (s : St) (a : Nat) : St := (outs P s a).headD s
theorem adv_move {P : Pln} {s : St} {a : Nat} {q : Str} (e : stepOf P s a = some (.move q)) : outs P s a = [stepped P s a ⟨(spotAt s a).ix + 1, q, (spotAt s a).held⟩ s.sig] := by
  unfold outs
  rw [e]
  rfl
theorem moved_eq {P : Pln} {s : St} {a : Nat} {x : Spot} {q : Str} (hx : s.spots[a]? = some x) (e : stepOf P s a = some (.move q)) : movedSpot (flowAt P a) x = ⟨landing (flowAt P a) (x.ix + 1), q, x.held⟩ := by
  unfold stepOf at e
  rw [spotAt_eq hx] at e
  unfold movedSpot
  rw [e]
/-- a move begins: the state ahead takes its step -/
theorem ahead_begin {P : Pln} {s : St} (h : s.spots.length = P.flows.length) {mov : List Bool} {a : Nat} {q : Str} (ha : a < P.flows.length) (hml : mov.length = P.flows.length) (hm : mov[a]? ≠ some true) (e : stepOf P s a = some (.move q)) :
    ahead P s (mov.set a true) = stepped P (ahead P s mov) a ⟨(spotAt s a).ix + 1, q, (spotAt s a).held⟩ s.sig := by
  obtain ⟨x, hx⟩ := get_some (l := s.spots) (i := a) (by rw [h]; exact ha)
  have e2 : (ahead P s (mov.set a true)).spots = (stepped P (ahead P s mov) a ⟨(spotAt s a).ix + 1, q, (spotAt s a).held⟩ s.sig).spots := by
    apply List.ext_getElem?
    intro b
    by_cases z : a = b
    · subst z
      rw [ahead_yes h (List.getElem?_set_self (by rw [hml]; exact ha)), hx, spotAt_eq hx]
      show some (movedSpot (flowAt P a) x) = ((ahead P s mov).spots.set a _)[a]?
      rw [List.getElem?_set_self (by rw [ahead_len h]; exact ha), moved_eq hx e]
    · rw [ahead_get h]
      show _ = ((ahead P s mov).spots.set a _)[b]?
      rw [List.getElem?_set_ne z, List.getElem?_set_ne z, ahead_get h]
  exact congrArg (fun l => St.mk l s.sig) e2
/-- a move ends: the state ahead is as it was -/
theorem ahead_end {P : Pln} {s : St} (h : s.spots.length = P.flows.length) {mov : List Bool} {a : Nat} {q : Str} (ha : a < P.flows.length) (hm : mov[a]? = some true) (e : stepOf P s a = some (.move q)) :
    ahead P (stepped P s a ⟨(spotAt s a).ix + 1, q, (spotAt s a).held⟩ s.sig) (mov.set a false) = ahead P s mov := by
  obtain ⟨x, hx⟩ := get_some (l := s.spots) (i := a) (by rw [h]; exact ha)
  have hl : (stepped P s a ⟨(spotAt s a).ix + 1, q, (spotAt s a).held⟩ s.sig).spots.length = P.flows.length := by
    show (s.spots.set a _).length = _
    rw [List.length_set]
    exact h
  have hml : a < mov.length := (List.getElem?_eq_some_iff.mp hm).1
  have e2 : (ahead P (stepped P s a ⟨(spotAt s a).ix + 1, q, (spotAt s a).held⟩ s.sig) (mov.set a false)).spots = (ahead P s mov).spots := by
    apply List.ext_getElem?
    intro b
    by_cases z : a = b
    · subst z
      have hn : (mov.set a false)[a]? ≠ some true := by
        rw [List.getElem?_set_self hml]
        exact fun q => nomatch q
      rw [ahead_no hl hn, ahead_yes h hm, hx, spotAt_eq hx]
      show (s.spots.set a _)[a]? = some (movedSpot (flowAt P a) x)
      rw [List.getElem?_set_self (by rw [h]; exact ha), moved_eq hx e]
    · rw [ahead_get hl, ahead_get h]
      show ((s.spots.set a _)[b]?).map _ = _
      rw [List.getElem?_set_ne z, List.getElem?_set_ne z]
  exact congrArg (fun l => St.mk l s.sig) e2

/-! ### the loop that reckons the state ahead -/
theorem aheadL_take : ∀ (fs : List (List Step)) (xs : List Spot) (ms : List Bool) (i : Nat) (fl : List Step) (x : Spot) (m : Bool), fs[i]? = some fl → xs[i]? = some x → ms[i]? = some m →
    aheadL fs xs (ms.take (i + 1)) = (aheadL fs xs (ms.take i)).set i (if m = true then movedSpot fl x else x)
  | [], _, _, i, _, _, _, h, _, _ => by simp at h
  | _ :: _, [], _, i, _, _, _, _, h, _ => by simp at h
  | _ :: _, _ :: _, [], i, _, _, _, _, _, h => by simp at h
  | f :: fs, z :: xs, k :: ms, 0, fl, x, m, h1, h2, h3 => by
    have e1 : f = fl := by simpa using h1
    have e2 : z = x := by simpa using h2
    have e3 : k = m := by simpa using h3
    subst e1
    subst e2
    subst e3
    cases fs <;> cases xs <;> simp [aheadL]
  | f :: fs, z :: xs, k :: ms, i + 1, fl, x, m, h1, h2, h3 => by
    have q := aheadL_take fs xs ms i fl x m (by simpa using h1) (by simpa using h2) (by simpa using h3)
    simp only [List.take_succ_cons, aheadL, List.set_cons_succ, q]
theorem take_get {mov : List Bool} {i : Nat} : (mov.take i)[i]? ≠ some true := by
  rw [List.getElem?_take]
  simp
theorem set_same {α : Type} : ∀ {l : List α} {i : Nat} {x : α}, l[i]? = some x → l.set i x = l
  | [], _, _, h => by simp at h
  | _ :: _, 0, _, h => by
    have e := Option.some.inj (show some _ = some _ from by simpa using h)
    simp [e]
  | y :: l, i + 1, x, h => by
    have q := set_same (l := l) (i := i) (x := x) (by simpa using h)
    rw [List.set_cons_succ, q]
theorem ahead_take_no {P : Pln} {s : St} (h : s.spots.length = P.flows.length) {mov : List Bool} {i : Nat} (hi : mov[i]? = some false) (hP : i < P.flows.length) : ahead P s (mov.take (i + 1)) = ahead P s (mov.take i) := by
  obtain ⟨fl, hf⟩ := get_some hP
  obtain ⟨x, hx⟩ := get_some (l := s.spots) (i := i) (by rw [h]; exact hP)
  have q := aheadL_take P.flows s.spots mov i fl x false hf hx hi
  have e : (aheadL P.flows s.spots (mov.take i)).set i x = aheadL P.flows s.spots (mov.take i) := by
    refine set_same ?_
    have z := ahead_no (P := P) h (mov := mov.take i) (a := i) take_get
    rw [hx] at z
    exact z
  unfold ahead
  rw [q]
  show St.mk ((aheadL P.flows s.spots (mov.take i)).set i x) s.sig = _
  rw [e]
theorem ahead_take_yes {P : Pln} {s : St} (h : s.spots.length = P.flows.length) {mov : List Bool} {i : Nat} {q : Str} (hi : mov[i]? = some true) (hP : i < P.flows.length) (e : stepOf P s i = some (.move q)) :
    outs P (ahead P s (mov.take i)) i = [ahead P s (mov.take (i + 1))] := by
  obtain ⟨fl, hf⟩ := get_some hP
  obtain ⟨x, hx⟩ := get_some (l := s.spots) (i := i) (by rw [h]; exact hP)
  have e2 : stepOf P (ahead P s (mov.take i)) i = some (.move q) := by
    rw [step_ahead h take_get]
    exact e
  rw [adv_move e2, spot_ahead h take_get]
  have z := aheadL_take P.flows s.spots mov i fl x true hf hx hi
  have z2 : ahead P s (mov.take (i + 1)) = ⟨(aheadL P.flows s.spots (mov.take i)).set i (movedSpot fl x), s.sig⟩ := by
    unfold ahead
    rw [z]
    rfl
  rw [z2, spotAt_eq hx]
  have m := moved_eq hx e
  rw [flowAt_eq hf] at m
  rw [m]
  unfold stepped
  rw [flowAt_eq hf]
  rfl

/-! ### the invariant of a run -/
structure RunOk (P : Pln) (r : Rn) : Prop where
  wf : WfS P r.st
  ml : r.mov.length = P.flows.length
  hl : r.hal.length = P.flows.length
  mv : ∀ (a : Nat), r.mov[a]? = some true → ∃ q, stepOf P r.st a = some (.move q)
  safe : Safe P (ahead P r.st r.mov)
theorem get_bool {l : List Bool} {a : Nat} (h : a < l.length) (hn : l[a]? ≠ some true) : l[a]? = some false := by
  obtain ⟨b, hb⟩ := get_some h
  rw [hb]
  cases b with
  | false => rfl
  | true => exact absurd hb hn
theorem RunOk.begins {P : Pln} {r : Rn} (R : RunOk P r) {a : Nat} {q : Str} (ha : a < P.flows.length) (hm : r.mov[a]? ≠ some true) (e : stepOf P r.st a = some (.move q)) (hs : ∀ o ∈ outs P (ahead P r.st r.mov) a, Safe P o) :
    RunOk P { r with mov := r.mov.set a true } where
  wf := R.wf
  ml := by
    show (r.mov.set a true).length = _
    rw [List.length_set]
    exact R.ml
  hl := R.hl
  mv := fun b hb => by
    by_cases z : a = b
    · subst z
      exact ⟨q, e⟩
    · refine R.mv b ?_
      have hb : (r.mov.set a true)[b]? = some true := hb
      rw [List.getElem?_set_ne z] at hb
      exact hb
  safe := by
    show Safe P (ahead P r.st (r.mov.set a true))
    rw [ahead_begin R.wf.len ha R.ml hm e]
    refine hs _ ?_
    have e2 : stepOf P (ahead P r.st r.mov) a = some (.move q) := by
      rw [step_ahead R.wf.len hm]
      exact e
    rw [adv_move e2, spot_ahead R.wf.len hm]
    exact List.mem_singleton.mpr rfl
/-- another arm's step leaves this arm's step -/
theorem step_other {P : Pln} {s : St} {a b : Nat} (x : Spot) (sig : List Str) (h : a ≠ b) : stepOf P (stepped P s a x sig) b = stepOf P s b := by
  have e : spotAt (stepped P s a x sig) b = spotAt s b := by
    unfold spotAt stepped
    rw [List.getD_eq_getElem?_getD, List.getD_eq_getElem?_getD, List.getElem?_set_ne h]
  unfold stepOf
  rw [e]
theorem outs_other {P : Pln} {s o : St} {a b : Nat} (h : a ≠ b) (ho : o ∈ outs P s a) : stepOf P o b = stepOf P s b := by
  unfold outs at ho
  generalize stepOf P s a = st at ho
  have one : ∀ {x : Spot} {sig : List Str}, o ∈ [stepped P s a x sig] → stepOf P o b = stepOf P s b := fun {x sig} q => by
    rw [List.mem_singleton.mp q]
    exact step_other x sig h
  cases st with
  | none => cases ho
  | some st =>
    cases st with
    | iff i n =>
      rcases List.mem_cons.mp ho with q | q
      · rw [q]
        exact step_other _ _ h
      · exact one q
    | _ => exact one ho
theorem RunOk.ends {P : Pln} {r : Rn} (W : WfP P) (R : RunOk P r) {a : Nat} (ha : a < P.flows.length) (hm : r.mov[a]? = some true) : ∃ o, outs P r.st a = [o] ∧ RunOk P { r with st := o, mov := r.mov.set a false } := by
  obtain ⟨q, e⟩ := R.mv a hm
  have eo := adv_move e
  refine ⟨_, eo, ?_⟩
  have hw := outs_wf W R.wf ha (by rw [eo]; exact List.mem_singleton.mpr rfl)
  refine ⟨hw.1, ?_, R.hl, fun b hb => ?_, ?_⟩
  · show (r.mov.set a false).length = _
    rw [List.length_set]
    exact R.ml
  · have hb : (r.mov.set a false)[b]? = some true := hb
    by_cases z : a = b
    · subst z
      rw [List.getElem?_set_self (List.getElem?_eq_some_iff.mp hm).1] at hb
      cases hb
    · rw [List.getElem?_set_ne z] at hb
      obtain ⟨q', e'⟩ := R.mv b hb
      exact ⟨q', by
        show stepOf P (stepped P r.st a _ _) b = _
        rw [step_other _ _ z]
        exact e'⟩
  · show Safe P (ahead P (stepped P r.st a _ _) (r.mov.set a false))
    rw [ahead_end R.wf.len ha hm e]
    exact R.safe
theorem RunOk.goes {P : Pln} {r : Rn} (W : WfP P) (R : RunOk P r) {a : Nat} (ha : a < P.flows.length) (hm : r.mov[a]? ≠ some true) (hs : ∀ o ∈ outs P (ahead P r.st r.mov) a, Safe P o) : ∀ o ∈ outs P r.st a, RunOk P { r with st := o } := by
  intro o ho
  refine ⟨(outs_wf W R.wf ha ho).1, R.ml, R.hl, fun b hb => ?_, ?_⟩
  · by_cases z : a = b
    · subst z
      exact absurd hb hm
    · obtain ⟨q, e⟩ := R.mv b hb
      exact ⟨q, by
        show stepOf P o b = _
        rw [outs_other z ho]
        exact e⟩
  · show Safe P (ahead P o r.mov)
    refine hs _ ?_
    rw [outs_ahead R.wf.len hm]
    exact List.mem_map_of_mem ho
theorem RunOk.halts {P : Pln} {r : Rn} (R : RunOk P r) (hal : List Bool) (h : hal.length = r.hal.length) : RunOk P { r with hal := hal } :=
  ⟨R.wf, R.ml, h.trans R.hl, R.mv, R.safe⟩

/-! ### what may be done -/
inductive Word where
  | way | ended | halted | inway (o : Nat) | signal | back | begin | read | goon
def placeOf (P : Pln) (r : Rn) (o : Nat) : Option Place := if r.mov[o]? = some true then wanted P r.st o else some (restOf r.st o)
def inWay (P : Pln) (r : Rn) (a : Nat) : Option Nat :=
  match wanted P r.st a with
  | none => none
  | some pl => (List.range P.flows.length).find? fun o => decide (o ≠ a) && match placeOf P r o with
    | some pl' => P.blk a pl o pl'
    | none => false
def isMove : Step → Bool
  | .move _ => true
  | _ => false
def isWait : Step → Bool
  | .wait _ _ => true
  | _ => false
def isIf : Step → Bool
  | .iff _ _ => true
  | _ => false
noncomputable def heldBack (P : Pln) (r : Rn) (a : Nat) : Bool := (outs P (ahead P r.st r.mov) a).any fun o => !safeB P o
noncomputable def may (P : Pln) (r : Rn) (a : Nat) : Word :=
  if r.mov[a]? = some true then .way else
  match stepOf P r.st a with
  | none => .ended
  | some st =>
    if r.hal[a]? = some true ∧ isMove st = true then .halted else
    match inWay P r a with
    | some o => .inway o
    | none =>
      if isWait st = true ∧ canStep P r.st a = false then .signal else
      if heldBack P r a = true then .back else
      if isMove st = true then .begin else
      if isIf st = true then .read else .goon
def Word.free : Word → Prop
  | .begin => True
  | .read => True
  | .goon => True
  | _ => False
theorem not_held {P : Pln} {r : Rn} {a : Nat} (h : heldBack P r a = false) : ∀ o ∈ outs P (ahead P r.st r.mov) a, Safe P o := by
  intro o ho
  unfold heldBack at h
  have q := List.any_eq_false.mp h o ho
  refine safeB_true.mp ?_
  cases e : safeB P o with
  | true => rfl
  | false =>
    rw [e] at q
    exact absurd rfl q
theorem held_not {P : Pln} {r : Rn} {a : Nat} (h : ∀ o ∈ outs P (ahead P r.st r.mov) a, Safe P o) : heldBack P r a = false := by
  unfold heldBack
  refine List.any_eq_false.mpr fun o ho => ?_
  rw [safeB_true.mpr (h o ho)]
  exact Bool.false_ne_true
/-- nobody is under way, nobody is halted, not all have ended: somebody may do something -/
theorem something {P : Pln} {r : Rn} (R : RunOk P r) (hm : ∀ (a : Nat), r.mov[a]? ≠ some true) (hh : ∀ (a : Nat), r.hal[a]? ≠ some true) (he : ¬ allEnded P r.st) : ∃ a, a < P.flows.length ∧ (may P r a).free := by
  have e : ahead P r.st r.mov = r.st := ahead_none R.wf.len hm
  have s := R.safe
  rw [e] at s
  rcases (safe_iff P r.st).mp s with q | ⟨a, ha, hc, hs⟩
  · exact absurd q he
  · refine ⟨a, ha, ?_⟩
    have hb : heldBack P r a = false := held_not (by rw [e]; exact hs)
    unfold may
    rw [if_neg (hm a), hb]
    unfold canStep at hc
    have hw : inWay P r a = hindered P r.st a := by
      unfold inWay hindered placeOf
      cases wanted P r.st a with
      | none => rfl
      | some pl =>
        show (List.range P.flows.length).find? _ = _
        congr 1
        funext o
        rw [if_neg (hm o)]
    cases hst : stepOf P r.st a with
    | none =>
      rw [hst] at hc
      cases hc
    | some st =>
      rw [hst] at hc
      show Word.free (if r.hal[a]? = some true ∧ isMove st = true then Word.halted else _)
      rw [if_neg (fun z => hh a z.1), hw]
      have wa : ∀ {b : Bool}, (wanted P r.st a = none) → hindered P r.st a = none := fun z => by
        unfold hindered
        rw [z]
      cases st with
      | wait g b =>
        have h1 : hindered P r.st a = none := wa (b := true) (by
          unfold wanted
          rw [hst]
          rfl)
        rw [h1]
        have h2 : canStep P r.st a = true := by
          unfold canStep
          rw [hst]
          exact hc
        simp [isWait, isMove, isIf, h2, Word.free]
      | _ =>
        have h1 : hindered P r.st a = none := Option.isNone_iff_eq_none.mp hc
        rw [h1]
        simp [isWait, isMove, isIf, Word.free]
end Aw

/-! Immutable data on the abstract heap; a dict whose keys are nested tuples. -/
namespace Aw
open PySem PySem.Spec PyProof.Rows L2

/-! ### data on the heap -/
mutual
inductive IsD (H : Hp) : V → Dat → Prop where
  | non : IsD H .non .non
  | bl (b : Bool) : IsD H (.bl b) (.bl b)
  | int (i : Int) : IsD H (.int i) (.int i)
  | str (x : Str) : IsD H (.str x) (.str x)
  | tup {a : Addr} {vs : List V} {ds : List Dat} : H a = some (.tup vs) → IsDs H vs ds → IsD H (.ref a) (.tup ds)
inductive IsDs (H : Hp) : List V → List Dat → Prop where
  | nil : IsDs H [] []
  | cons {v : V} {d : Dat} {vs : List V} {ds : List Dat} : IsD H v d → IsDs H vs ds → IsDs H (v :: vs) (d :: ds)
end
/-- the tuples stay -/
def Tups (H H' : Hp) : Prop := ∀ a vs, H a = some (.tup vs) → H' a = some (.tup vs)
theorem _root_.L2.Same.tups {H H' : Hp} (h : Same H H') : Tups H H' := fun a vs e => h a _ e
theorem Tups.refl (H : Hp) : Tups H H := fun _ _ e => e
theorem Tups.trans {H H1 H2 : Hp} (a : Tups H H1) (b : Tups H1 H2) : Tups H H2 := fun c vs e => b c vs (a c vs e)
mutual
theorem IsD.mono {H H' : Hp} (t : Tups H H') : ∀ {v : V} {d : Dat}, IsD H v d → IsD H' v d
  | _, _, .non => .non
  | _, _, .bl b => .bl b
  | _, _, .int i => .int i
  | _, _, .str x => .str x
  | _, _, .tup h hs => .tup (t _ _ h) (IsDs.mono t hs)
theorem IsDs.mono {H H' : Hp} (t : Tups H H') : ∀ {vs : List V} {ds : List Dat}, IsDs H vs ds → IsDs H' vs ds
  | _, _, .nil => .nil
  | _, _, .cons h hs => .cons (IsD.mono t h) (IsDs.mono t hs)
end
theorem IsD.up {H H' : Hp} {v : V} {d : Dat} (h : IsD H v d) (s : Same H H') : IsD H' v d := h.mono (Same.tups s)
theorem IsDs.up {H H' : Hp} {v : List V} {d : List Dat} (h : IsDs H v d) (s : Same H H') : IsDs H' v d := h.mono (Same.tups s)
theorem IsDs.length {H : Hp} : ∀ {vs : List V} {ds : List Dat}, IsDs H vs ds → vs.length = ds.length
  | _, _, .nil => rfl
  | _, _, .cons _ hs => by rw [List.length_cons, List.length_cons, hs.length]
theorem IsDs.get {H : Hp} : ∀ {vs : List V} {ds : List Dat} {i : Nat} {d : Dat}, IsDs H vs ds → ds[i]? = some d → ∃ v, vs[i]? = some v ∧ IsD H v d
  | _, _, _, _, .nil, h => by simp at h
  | _, _, 0, _, .cons h _, e => by
    have e2 := Option.some.inj (show some _ = some _ from by simpa using e)
    rw [← e2]
    exact ⟨_, rfl, h⟩
  | _, _, i + 1, d, .cons _ hs, e => by
    obtain ⟨v, h1, h2⟩ := hs.get (i := i) (d := d) (by simpa using e)
    exact ⟨v, by simpa using h1, h2⟩
theorem IsDs.set {H : Hp} {v : V} {d : Dat} (h : IsD H v d) : ∀ {vs : List V} {ds : List Dat} (i : Nat), IsDs H vs ds → IsDs H (vs.set i v) (ds.set i d)
  | _, _, _, .nil => .nil
  | _, _, 0, .cons _ hs => .cons h hs
  | _, _, i + 1, .cons g hs => .cons g (IsDs.set h i hs)
theorem IsDs.snoc {H : Hp} {v : V} {d : Dat} (h : IsD H v d) : ∀ {vs : List V} {ds : List Dat}, IsDs H vs ds → IsDs H (vs ++ [v]) (ds ++ [d])
  | _, _, .nil => .cons h .nil
  | _, _, .cons g hs => .cons g (hs.snoc h)
theorem IsDs.app {H : Hp} : ∀ {vs ws : List V} {ds es : List Dat}, IsDs H vs ds → IsDs H ws es → IsDs H (vs ++ ws) (ds ++ es)
  | _, _, _, _, .nil, h => h
  | _, _, _, _, .cons g hs, h => .cons g (hs.app h)
theorem IsD.tup_iff {H : Hp} {v : V} {ds : List Dat} (h : IsD H v (.tup ds)) : ∃ a vs, v = .ref a ∧ H a = some (.tup vs) ∧ IsDs H vs ds := by
  cases h with
  | tup h hs => exact ⟨_, _, rfl, h, hs⟩
theorem IsD.int_eq {H : Hp} {v : V} {i : Int} (h : IsD H v (.int i)) : v = .int i := by cases h; rfl
theorem IsD.str_eq {H : Hp} {v : V} {x : Str} (h : IsD H v (.str x)) : v = .str x := by cases h; rfl
theorem IsD.bl_eq {H : Hp} {v : V} {b : Bool} (h : IsD H v (.bl b)) : v = .bl b := by cases h; rfl
theorem IsD.non_eq {H : Hp} {v : V} (h : IsD H v .non) : v = .non := by cases h; rfl
theorem IsDs.two {H : Hp} {vs : List V} {a b : Dat} (h : IsDs H vs [a, b]) : ∃ x y, vs = [x, y] ∧ IsD H x a ∧ IsD H y b := by
  cases h with
  | cons h1 h =>
    cases h with
    | cons h2 h => cases h; exact ⟨_, _, rfl, h1, h2⟩
theorem IsDs.three {H : Hp} {vs : List V} {a b c : Dat} (h : IsDs H vs [a, b, c]) : ∃ x y z, vs = [x, y, z] ∧ IsD H x a ∧ IsD H y b ∧ IsD H z c := by
  cases h with
  | cons h1 h =>
    obtain ⟨y, z, e, h2, h3⟩ := h.two
    subst e
    exact ⟨_, _, _, rfl, h1, h2, h3⟩
theorem IsDs.four {H : Hp} {vs : List V} {a b c d : Dat} (h : IsDs H vs [a, b, c, d]) : ∃ x y z u, vs = [x, y, z, u] ∧ IsD H x a ∧ IsD H y b ∧ IsD H z c ∧ IsD H u d := by
  cases h with
  | cons h1 h =>
    obtain ⟨y, z, u, e, h2, h3, h4⟩ := h.three
    subst e
    exact ⟨_, _, _, _, rfl, h1, h2, h3, h4⟩
theorem IsD.tup2 {H : Hp} {v : V} {a b : Dat} (h : IsD H v (.tup [a, b])) : ∃ p x y, v = .ref p ∧ H p = some (.tup [x, y]) ∧ IsD H x a ∧ IsD H y b := by
  obtain ⟨p, vs, e, h1, h2⟩ := h.tup_iff
  obtain ⟨x, y, e2, h3, h4⟩ := h2.two
  subst e2
  exact ⟨p, x, y, e, h1, h3, h4⟩
theorem IsD.tup3 {H : Hp} {v : V} {a b c : Dat} (h : IsD H v (.tup [a, b, c])) : ∃ p x y z, v = .ref p ∧ H p = some (.tup [x, y, z]) ∧ IsD H x a ∧ IsD H y b ∧ IsD H z c := by
  obtain ⟨p, vs, e, h1, h2⟩ := h.tup_iff
  obtain ⟨x, y, z, e2, h3, h4, h5⟩ := h2.three
  subst e2
  exact ⟨p, x, y, z, e, h1, h3, h4, h5⟩
theorem IsD.tup4 {H : Hp} {v : V} {a b c d : Dat} (h : IsD H v (.tup [a, b, c, d])) : ∃ p x y z u, v = .ref p ∧ H p = some (.tup [x, y, z, u]) ∧ IsD H x a ∧ IsD H y b ∧ IsD H z c ∧ IsD H u d := by
  obtain ⟨p, vs, e, h1, h2⟩ := h.tup_iff
  obtain ⟨x, y, z, u, e2, h3, h4, h5, h6⟩ := h2.four
  subst e2
  exact ⟨p, x, y, z, u, e, h1, h3, h4, h5, h6⟩

/-! ### new objects -/
theorem same_new {H : Hp} {p : Addr} {o : HO} (h : H p = none) : Same H (upd H p o) := fun b u e => by
  rw [upd_ne (ne_of_none e h)]
  exact e
theorem _root_.L2.Same.new {H H1 : Hp} (s : Same H H1) {p : Addr} {o : HO} (h : H1 p = none) : Same H (upd H1 p o) := s.trans (same_new h)
/-- an object that was not there at first is changed -/
theorem _root_.L2.Same.put {H H1 : Hp} (s : Same H H1) {p : Addr} {o : HO} (h : H p = none) : Same H (upd H1 p o) := fun b u e => by
  rw [upd_ne (ne_of_none e h)]
  exact s b u e
theorem IsD.made {H : Hp} {p : Addr} {vs : List V} {ds : List Dat} (h : H p = none) (hs : IsDs H vs ds) : IsD (upd H p (.tup vs)) (.ref p) (.tup ds) := .tup upd_same (hs.up (same_new h))
theorem len_line {n : Nat} (h : n ≤ 1000) : n ≤ sizeLine := by
  rw [sizeLine_eq]
  omega
theorem lt_line {n : Nat} (h : n ≤ 1000) : n < sizeLine := by
  rw [sizeLine_eq]
  omega

/-! ### data as the library's own data -/
mutual
def Dat.py : Dat → PyData
  | .non => .none
  | .bl b => .bool b
  | .int i => .int i
  | .str x => .str x
  | .tup l => .tuple (Dat.pys l)
def Dat.pys : List Dat → List PyData
  | [] => []
  | d :: l => Dat.py d :: Dat.pys l
end
mutual
theorem IsD.dp {K : PySem.W.Frag} {H : Hp} : ∀ {v : V} {d : Dat}, IsD H v d → Dp K H v d.py
  | _, _, .non => .non
  | _, _, .bl b => .bl b
  | _, _, .int i => .int i
  | _, _, .str x => .str x
  | _, _, .tup h hs => .tup (SqT.of h) (IsDs.dp hs)
theorem IsDs.dp {K : PySem.W.Frag} {H : Hp} : ∀ {vs : List V} {ds : List Dat}, IsDs H vs ds → DpAll K H vs (Dat.pys ds)
  | _, _, .nil => .nil
  | _, _, .cons h hs => .cons (IsD.dp h) (IsDs.dp hs)
end

/-! ### data as a key -/
mutual
theorem IsD.nested {P : Program} {w : World} {H : Hp} {h : Heap} (ok : HOk P w H h) : ∀ {v : V} {d : Dat} {u : Value}, IsD H v d → RelV v u → NestedIs h d.key u
  | _, _, _, .non, r => by
    cases (show _ = Value.none from r)
    exact .none
  | _, _, _, .bl b, r => by
    cases (show _ = Value.bool b from r)
    exact .bool rfl
  | _, _, _, .int i, r => by
    obtain ⟨t, e⟩ := (show ∃ t, _ = Value.int i t from r)
    subst e
    exact .int i t
  | _, _, _, .str x, r => by
    obtain ⟨t, e⟩ := (show ∃ t, _ = Value.str x t from r)
    subst e
    exact .text x t
  | _, _, _, .tup (a := a) hH hs, r => by
    cases (show _ = Value.ref a from r)
    have z := ok a _ hH
    obtain ⟨_, its, rv, o, h1, h2, n, h3⟩ := z
    exact .tup h1 h2 h3 (by simpa using IsDs.nested ok hs rv)
theorem IsDs.nested {P : Program} {w : World} {H : Hp} {h : Heap} (ok : HOk P w H h) : ∀ {vs : List V} {ds : List Dat} {us : List Value}, IsDs H vs ds → Vals vs us → NestedAll h (Dat.keys ds) us
  | _, _, _, .nil, r => by
    cases r
    exact .nil
  | _, _, _, .cons h hs, r => by
    cases r with
    | cons r1 r2 => exact .cons (IsD.nested ok h r1) (IsDs.nested ok hs r2)
end
/-- at q stands data of the key k -/
def KeyAt (H : Hp) (q : Addr) (k : NestedKey) : Prop := ∃ d, IsD H (.ref q) d ∧ d.key = k ∧ k.depth ≤ 8
theorem KeyAt.mono {H H' : Hp} {q : Addr} {k : NestedKey} (t : Tups H H') (h : KeyAt H q k) : KeyAt H' q k := by
  obtain ⟨d, h1, h2, h3⟩ := h
  exact ⟨d, h1.mono t, h2, h3⟩
theorem KeyAt.is {P : Program} {w : World} {H : Hp} {h : Heap} {q : Addr} {k : NestedKey} (x : KeyAt H q k) (ok : HOk P w H h) : (nestedKind P w).is h k q := by
  obtain ⟨d, h1, h2, h3⟩ := x
  subst h2
  exact ⟨h1.nested ok rfl, h3⟩

/-! ### a dict with nested keys and truth values -/
abbrev Ent := NestedKey × Addr × Bool
def entOf (w : World) (x : Ent) : DictEntry := ⟨x.1.hash w, .ref x.2.1, .bool x.2.2⟩
def NDF (w : World) (a : Addr) (xs : List Ent) (h : Heap) : Prop := ∃ o es ep, h.get? a = some o ∧ o.ExactDict ∧ o.data = .dict es ep ∧ es.toList = xs.map (entOf w) ∧ (a == sysModules) = false
def NDO (w : World) (a : Addr) (xs : List Ent) : HO := .ext (NDF w a xs)
def pr (xs : List Ent) : List (NestedKey × Bool) := xs.map fun x => (x.1, x.2.2)
def vr (xs : List Ent) : List (NestedKey × Addr × Value) := xs.map fun x => (x.1, x.2.1, .bool x.2.2)
structure NDict (w : World) (H : Hp) (a : Addr) (kvs : List (NestedKey × Bool)) : Prop where
  ex : ∃ xs, H a = some (NDO w a xs) ∧ pr xs = kvs ∧ (∀ x ∈ xs, KeyAt H x.2.1 x.1) ∧ (xs.map (·.1)).Nodup ∧ xs.length < sizeLine
theorem NDict.mono {w : World} {H H' : Hp} {a : Addr} {kvs : List (NestedKey × Bool)} (h : NDict w H a kvs) (t : Tups H H') (e : H' a = H a) : NDict w H' a kvs := by
  obtain ⟨xs, h1, h2, h3, h4, h5⟩ := h.ex
  exact ⟨xs, by rw [e]; exact h1, h2, fun x hx => (h3 x hx).mono t, h4, h5⟩
theorem NDict.up {w : World} {H H' : Hp} {a : Addr} {kvs : List (NestedKey × Bool)} (h : NDict w H a kvs) (s : Same H H') : NDict w H' a kvs := by
  obtain ⟨xs, h1, h2, h3, h4, h5⟩ := h.ex
  exact ⟨xs, s _ _ h1, h2, fun x hx => (h3 x hx).mono (Same.tups s), h4, h5⟩
theorem NDict.nodup {w : World} {H : Hp} {a : Addr} {kvs : List (NestedKey × Bool)} (h : NDict w H a kvs) : (kvs.map (·.1)).Nodup := by
  obtain ⟨xs, _, h2, _, h4, _⟩ := h.ex
  rw [← h2]
  unfold pr
  rw [List.map_map]
  exact h4
theorem NDict.some {w : World} {H : Hp} {a : Addr} {kvs : List (NestedKey × Bool)} (h : NDict w H a kvs) : ∃ o, H a = some o := by
  obtain ⟨xs, h1, _⟩ := h.ex
  exact ⟨_, h1⟩
theorem at_vr (xs : List Ent) (k : NestedKey) : (atKey (vr xs) k).map (·.2) = (look (pr xs) k).map Value.bool := by
  unfold look pr vr atKey
  induction xs with
  | nil => rfl
  | cons x xs ih =>
    by_cases e : x.1 = k
    · simp [List.find?_cons, e]
    · simp only [List.map_cons, List.find?_cons, decide_eq_false e]
      exact ih
theorem at_isSome (xs : List Ent) (k : NestedKey) : (atKey (vr xs) k).isSome = (look (pr xs) k).isSome := by
  have h := congrArg Option.isSome (at_vr xs k)
  rw [Option.isSome_map, Option.isSome_map] at h
  exact h
section
variable {X : Cx} {pins : List (Addr × Obj)} {σ : L2.St} {H : Hp} {s : Shared} {a : Addr}
theorem nd_heap (I : Inv X pins σ H s) {xs : List Ent} (h1 : H a = some (NDO X.w a xs)) (h3 : ∀ x ∈ xs, KeyAt H x.2.1 x.1) (h4 : (xs.map (·.1)).Nodup) :
    s.heap.DictOfH (nestedKind X.prog X.w) a (vr xs) ∧ (a == sysModules) = false := by
  have z := I.hok a _ h1
  obtain ⟨⟨o, es, ep, e1, e2, e3, e4, e5⟩, _⟩ := z
  refine ⟨⟨o, es, ep, e1, e2, e3, ?_, ?_, ?_⟩, e5⟩
  · rw [e4]
    unfold vr
    rw [List.map_map]
    rfl
  · intro y hy
    obtain ⟨x, hx, rfl⟩ := List.mem_map.mp hy
    exact (h3 x hx).is I.hok
  · unfold vr
    rw [List.map_map]
    exact h4
theorem room_nd {A : Around} (hu : A.units + 64 < cLine) : A.in1.units + 8 < cLine := by
  show A.units + 1 + 8 < cLine
  omega
/-- k in d, k not in d -/
def rInN (w : World) (neg : Bool) : R2 := fun x y H Q => ∃ q a k kvs, x = .ref q ∧ y = .ref a ∧ KeyAt H q k ∧ NDict w H a kvs ∧ Q (.bl (if neg = true then !(look kvs k).isSome else (look kvs k).isSome)) H
theorem op_inN (hu : X.A.units + 64 < cLine) : OpR X (compareOp .In) (rInN X.w false) := by
  intro pins s σ H x y v u Q I rx ry h
  obtain ⟨q, a, k, kvs, rfl, rfl, hk, hd, hq⟩ := h
  cases rx
  cases ry
  obtain ⟨xs, h1, h2, h3, h4, h5⟩ := hd.ex
  obtain ⟨hm, hs⟩ := nd_heap I h1 h3 h4
  refine in_keyed (knd := nestedKind X.prog X.w) (room_nd hu) (hk.is I.hok) hs ⟨_, hm, rfl⟩ ?_
  rw [valueAt_pairsH, Option.isSome_map, at_isSome, h2]
  exact ⟨.bl _, H, I.tok _, rfl, hq⟩
theorem op_notInN (hu : X.A.units + 64 < cLine) : OpR X (compareOp .NotIn) (rInN X.w true) := by
  intro pins s σ H x y v u Q I rx ry h
  obtain ⟨q, a, k, kvs, rfl, rfl, hk, hd, hq⟩ := h
  cases rx
  cases ry
  obtain ⟨xs, h1, h2, h3, h4, h5⟩ := hd.ex
  obtain ⟨hm, hs⟩ := nd_heap I h1 h3 h4
  refine notIn_keyed (knd := nestedKind X.prog X.w) (room_nd hu) (hk.is I.hok) hs ⟨_, hm, rfl⟩ ?_
  rw [valueAt_pairsH, Option.isSome_map, at_isSome, h2]
  exact ⟨.bl _, H, I.tok _, rfl, hq⟩
/-- d[k] -/
def tGetN (w : World) (td ty : TE) : TE := fun σ H Q => td σ H fun x H1 => ty σ H1 fun y H2 => ∃ a q k kvs b, x = .ref a ∧ y = .ref q ∧ KeyAt H2 q k ∧ NDict w H2 a kvs ∧ look kvs k = Option.some b ∧ Q (.bl b) H2
theorem dict_at (I : Inv X pins σ H s) {kvs : List (NestedKey × Bool)} (hd : NDict X.w H a kvs) : s.TypeIs (.ref a) "dict" := by
  obtain ⟨xs, h1, h2, h3, h4, h5⟩ := hd.ex
  exact (nd_heap I h1 h3 h4).1.typeIs
theorem pe_getN {o i : Expr} {pos : Pos} {td ty : TE} (hu : X.A.units + 64 < cLine) (ho : PE X o td) (hi : PE X i ty) (hs : NoSl i) : PE X (.Subscript o i pos) (tGetN X.w td ty) := by
  refine ⟨fun pins s σ H Q I h => ?_⟩
  refine subD_of PySem.F.slot_dict_getitem.lookup hs (thn (ho.run pins s σ H _ I h) fun u s1 ⟨x, H1, I1, rx, q1⟩ => thn (hi.run pins s1 σ H1 _ I1 q1) fun iv s2 ⟨y, H2, I2, ry, q2⟩ => ?_)
  obtain ⟨a, q, k, kvs, b, rfl, rfl, hk, hd, hl, hq⟩ := q2
  cases rx
  cases ry
  refine ⟨dict_at I2 hd, ?_⟩
  obtain ⟨xs, h1, h2, h3, h4, h5⟩ := hd.ex
  obtain ⟨hm, hz⟩ := nd_heap I2 h1 h3 h4
  refine getItem_keyed (knd := nestedKind X.prog X.w) (room_nd hu) (hk.is I2.hok) ⟨_, hm, rfl⟩ (v := Value.bool b) ?_ ?_
  · rw [valueAt_pairsH, at_vr, h2, hl] <;> rfl
  · exact ⟨.bl b, H2, I2.tok _, rfl, hq⟩
/-- d[k] = b -/
def putE (xs : List Ent) (k : NestedKey) (q : Addr) (b : Bool) : List Ent := if (look (pr xs) k).isSome = true then xs.map (fun x => if x.1 = k then (x.1, x.2.1, b) else x) else xs ++ [(k, q, b)]
def putB (kvs : List (NestedKey × Bool)) (k : NestedKey) (b : Bool) : List (NestedKey × Bool) := if (look kvs k).isSome = true then kvs.map (fun kv => if kv.1 = k then (kv.1, b) else kv) else kvs ++ [(k, b)]
theorem putB_new {kvs : List (NestedKey × Bool)} {k : NestedKey} {b : Bool} (h : look kvs k = Option.none) : putB kvs k b = kvs ++ [(k, b)] := by
  unfold putB
  rw [h]
  rfl
theorem putB_len (kvs : List (NestedKey × Bool)) (k : NestedKey) (b : Bool) : (putB kvs k b).length ≤ kvs.length + 1 := by
  unfold putB
  split
  · rw [List.length_map]
    omega
  · simp
theorem pr_putE (xs : List Ent) (k : NestedKey) (q : Addr) (b : Bool) : pr (putE xs k q b) = putB (pr xs) k b := by
  unfold putE putB
  split
  · unfold pr
    rw [List.map_map, List.map_map]
    refine List.map_congr_left fun x _ => ?_
    show ((if x.1 = k then (x.1, x.2.1, b) else x).1, (if x.1 = k then (x.1, x.2.1, b) else x).2.2) = if x.1 = k then (x.1, b) else (x.1, x.2.2)
    split <;> rfl
  · unfold pr
    rw [List.map_append]
    rfl
theorem vr_putE (xs : List Ent) (k : NestedKey) (q : Addr) (b : Bool) : storedH (vr xs) k q (.bool b) = vr (putE xs k q b) := by
  unfold putE storedH
  rw [at_isSome]
  split
  · unfold vr
    rw [List.map_map, List.map_map]
    refine List.map_congr_left fun x _ => ?_
    show putAt k (.bool b) (x.1, x.2.1, Value.bool x.2.2) = ((if x.1 = k then (x.1, x.2.1, b) else x).1, (if x.1 = k then (x.1, x.2.1, b) else x).2.1, Value.bool (if x.1 = k then (x.1, x.2.1, b) else x).2.2)
    unfold putAt
    dsimp only
    split <;> rfl
  · unfold vr
    rw [List.map_append]
    rfl
theorem keys_putE {H : Hp} {xs : List Ent} {k : NestedKey} {q : Addr} {b : Bool} (h : ∀ x ∈ xs, KeyAt H x.2.1 x.1) (hk : KeyAt H q k) : ∀ x ∈ putE xs k q b, KeyAt H x.2.1 x.1 := by
  intro x hx
  unfold putE at hx
  split at hx
  · obtain ⟨y, hy, e⟩ := List.mem_map.mp hx
    have z := h y hy
    have e2 : (if y.1 = k then (y.1, y.2.1, b) else y) = x := e
    rw [← e2]
    split
    · exact z
    · exact z
  · rcases List.mem_append.mp hx with z | z
    · exact h x z
    · have e : x = (k, q, b) := by simpa using z
      rw [e]
      exact hk
def rSetN (w : World) : TSet := fun o i v H Q => ∃ a q k b kvs, o = .ref a ∧ i = .ref q ∧ v = .bl b ∧ KeyAt H q k ∧ NDict w H a kvs ∧ kvs.length + 1 < sizeLine ∧
  ∀ H', (∀ c, c ≠ a → H' c = H c) → NDict w H' a (putB kvs k b) → Q H'
theorem set_N (hu : X.A.units + 64 < cLine) : PSet X (rSetN X.w) := by
  intro pins s σ H o i v ov iv u Q I ro ri rv h
  obtain ⟨a, q, k, b, kvs, rfl, rfl, rfl, hk, hd, hz, hq⟩ := h
  cases ro
  cases ri
  cases rv
  obtain ⟨xs, h1, h2, h3, h4, h5⟩ := hd.ex
  obtain ⟨hm, hs⟩ := nd_heap I h1 h3 h4
  have el : (vr xs).length = xs.length := by
    unfold vr
    rw [List.length_map]
  refine wpAny_setItem_heap (knd := nestedKind X.prog X.w) (hsz := by rw [el]; exact Nat.le_of_lt h5) (room_nd hu) (hk.is I.hok) hm fun h' dd' sb => ?_
  obtain ⟨o', es, ep, e1, e2, e3, e4, _, e5⟩ := dd'
  rw [vr_putE] at e4 e5
  have new : ObjOk X.prog X.w (upd H a (NDO X.w a (putE xs k q b))) h' a (NDO X.w a (putE xs k q b)) := by
    refine ⟨⟨o', es, ep, e1, e2, e3, ?_, hs⟩, ⟨o', e1⟩, fun g1 g2 ⟨o2, es2, ep2, f1, f2⟩ hg => ⟨o2, es2, ep2, hg _ f1, f2⟩⟩
    rw [e4]
    unfold vr
    rw [List.map_map]
    rfl
  have J : Inv X pins σ (upd H a (NDO X.w a (putE xs k q b))) { s with heap := h', toks := s.toks + (nestedKind X.prog X.w).draws k } := d_write I (by rw [h1]; exact True.intro) sb ⟨o', e1⟩ new
  refine ⟨_, J, hq _ (fun c hc => upd_ne hc) ⟨putE xs k q b, upd_same, by rw [pr_putE, h2], fun x hx => ?_, ?_, ?_⟩⟩
  · refine (keys_putE h3 hk x hx).mono fun c vs e => ?_
    rw [upd_ne (ne_of e h1 (fun z => nomatch z))]
    exact e
  · have z := e5
    unfold vr at z
    rw [List.map_map] at z
    exact z
  · have l1 := putB_len kvs k b
    have l2 := congrArg List.length (pr_putE xs k q b)
    rw [h2] at l2
    have l3 : (pr (putE xs k q b)).length = (putE xs k q b).length := by
      unfold pr
      rw [List.length_map]
    omega
/-- {}, to be such a dict -/
def tNewN (w : World) : TE := fun _ H Q => ∀ p, H p = Option.none → ∀ H', Same H H' → (∀ c, c ≠ p → H' c = H c) → NDict w H' p [] → Q (.ref p) H'
theorem pe_newN {pos : Pos} : PE X (.Dict [] [] pos) (tNewN X.w) := ⟨fun pins s σ H Q I h => by
  have hb := I.big
  have hn : H s.heap.objs.size = Option.none := I.hok.fresh (Nat.le_refl _)
  have ok : ObjOk X.prog X.w (upd H s.heap.objs.size (NDO X.w s.heap.objs.size [])) (s.heap.push { cls := .type "dict", data := .dict #[] }) s.heap.objs.size (NDO X.w s.heap.objs.size []) :=
    ⟨⟨_, #[], 0, Heap.get?_push_size _ rfl, ⟨rfl, rfl, rfl⟩, rfl, rfl, beq_eq_false_iff_ne.mpr (Ne.symm (Nat.ne_of_lt hb))⟩, ⟨_, Heap.get?_push_size _ rfl⟩, fun g1 g2 ⟨o2, es2, ep2, f1, f2⟩ hg => ⟨o2, es2, ep2, hg _ f1, f2⟩⟩
  refine wpAny_Dict_empty ⟨.ref s.heap.objs.size, _, I.laid (a := s.heap.objs.size) (t' := s.toks) (fun _ _ q => Heap.get?_push_of_some _ q) (Nat.le_refl _) ok, rfl, ?_⟩
  exact h _ hn _ (same_new hn) (fun c hc => upd_ne hc) ⟨⟨[], upd_same, rfl, (fun x hx => by cases hx), List.nodup_nil, (by rw [sizeLine_eq]; decide)⟩⟩⟩
end
end Aw

/-! The plan on the heap; its small methods. -/
namespace Aw
open PySem PySem.Spec PyProof.Rows L2

/-! ### the text by places -/
def top (i : Nat) : Stmt := PySem.Challenge.pw_armwarrant_k73_whole_there_is_always_som.main.body.getD i (.Pass ⟨0, 0, 0, 0⟩)
abbrev se (j : Nat) : Stmt := inClass (top 7) j
abbrev ru (j : Nat) : Stmt := inClass (top 9) j
abbrev sLanding : Stmt := top 11
abbrev sSwitched : Stmt := top 13
abbrev pl (j : Nat) : Stmt := inClass (top 14) j

/-! ### states on the heap -/
def vHeld : Option Str → V
  | none => .non
  | some x => .str x
theorem held_open {H : Hp} {v : V} {x : Option Str} (h : IsD H v (dHeld x)) : v = vHeld x := by
  cases x with
  | none => exact h.non_eq
  | some x => exact h.str_eq
theorem held_is {H : Hp} (x : Option Str) : IsD H (vHeld x) (dHeld x) := by
  cases x with
  | none => exact .non
  | some x => exact .str x
theorem sig_open {H : Hp} : ∀ {vs : List V} {l : List Str}, IsDs H vs (l.map Dat.str) → vs = l.map V.str
  | _, [], h => by cases h; rfl
  | _, x :: l, h => by
    cases h with
    | cons h1 h2 => rw [h1.str_eq, sig_open (l := l) h2]; rfl
theorem sig_is {H : Hp} : ∀ l : List Str, IsDs H (l.map V.str) (l.map Dat.str)
  | [] => .nil
  | x :: l => .cons (.str x) (sig_is l)
/-- a state, taken apart -/
structure StAt (H : Hp) (sv : V) (s : St) (q l g : Addr) (vs : List V) : Prop where
  e : sv = .ref q
  hq : H q = some (.tup [.ref l, .ref g])
  hl : H l = some (.tup vs)
  hv : IsDs H vs (s.spots.map dSpot)
  hg : H g = some (.tup (s.sig.map V.str))
theorem st_open {H : Hp} {sv : V} {s : St} (h : IsD H sv (dSt s)) : ∃ q l g vs, StAt H sv s q l g vs := by
  obtain ⟨q, x, y, e, hq, hx, hy⟩ := h.tup2
  obtain ⟨l, vs, e1, hl, hv⟩ := hx.tup_iff
  obtain ⟨g, gs, e2, hg, hs⟩ := hy.tup_iff
  subst e1
  subst e2
  rw [sig_open hs] at hg
  exact ⟨q, l, g, vs, e, hq, hl, hv, hg⟩
theorem StAt.len {H : Hp} {sv : V} {s : St} {q l g : Addr} {vs : List V} (h : StAt H sv s q l g vs) : vs.length = s.spots.length := by
  rw [h.hv.length, List.length_map]
theorem StAt.up {H H' : Hp} {sv : V} {s : St} {q l g : Addr} {vs : List V} (h : StAt H sv s q l g vs) (t : Tups H H') : StAt H' sv s q l g vs :=
  ⟨h.e, t _ _ h.hq, t _ _ h.hl, h.hv.mono t, t _ _ h.hg⟩
theorem StAt.is {H : Hp} {sv : V} {s : St} {q l g : Addr} {vs : List V} (h : StAt H sv s q l g vs) : IsD H sv (dSt s) := by
  rw [h.e]
  exact .tup h.hq (.cons (.tup h.hl h.hv) (.cons (.tup h.hg (sig_is s.sig)) .nil))
theorem StAt.spot {H : Hp} {sv : V} {s : St} {q l g : Addr} {vs : List V} (h : StAt H sv s q l g vs) {a : Nat} {x : Spot} (hx : s.spots[a]? = some x) :
    ∃ z, vs[a]? = some (.ref z) ∧ H z = some (.tup [.int (x.ix : Nat), .str x.pt, vHeld x.held]) := by
  obtain ⟨v, h1, h2⟩ := h.hv.get (i := a) (d := dSpot x) (by rw [List.getElem?_map, hx]; rfl)
  obtain ⟨z, i, p, u, e, hz, hi, hp, hu⟩ := h2.tup3
  subst e
  rw [hi.int_eq, hp.str_eq, held_open hu] at hz
  exact ⟨z, h1, hz⟩

/-! ### the plan on the heap -/
abbrev FlowsAt (H : Hp) : List Addr → List (List Step) → Prop := Paired fun f fl => ∃ vs, H f = some (.lst vs) ∧ IsDs H vs (fl.map dStep)
theorem FlowsAt.up {H H' : Hp} (s : Same H H') : ∀ {as : List Addr} {fs : List (List Step)}, FlowsAt H as fs → FlowsAt H' as fs
  | _, _, .nil => .nil
  | _, _, .cons ⟨vs, h1, h2⟩ t => .cons ⟨vs, s _ _ h1, h2.up s⟩ (FlowsAt.up s t)
theorem FlowsAt.len {H : Hp} {as : List Addr} {fs : List (List Step)} (h : FlowsAt H as fs) : as.length = fs.length := Paired.length h
theorem FlowsAt.get {H : Hp} : ∀ {as : List Addr} {fs : List (List Step)} {a : Nat} {fl : List Step}, FlowsAt H as fs → fs[a]? = some fl → ∃ f vs, as[a]? = some f ∧ H f = some (.lst vs) ∧ IsDs H vs (fl.map dStep)
  | _, _, _, _, .nil, h => by simp at h
  | _, _, 0, _, .cons ⟨vs, h1, h2⟩ _, e => by
    have e2 := Option.some.inj (show some _ = some _ from by simpa using e)
    rw [← e2]
    exact ⟨_, vs, rfl, h1, h2⟩
  | _, _, a + 1, fl, .cons _ t, e => by
    obtain ⟨f, vs, h1, h2, h3⟩ := FlowsAt.get (a := a) (fl := fl) t (by simpa using e)
    exact ⟨f, vs, by simpa using h1, h2, h3⟩
def pFields (fl st bl : Addr) : List (Str × V) := [("flows", .ref fl), ("starts", .ref st), ("blocks", .ref bl)]
structure PlanIn (w : World) (C : Addr) (H : Hp) (p : Addr) (P : Pln) (dx fl st bl : Addr) (fs : List Addr) (kvs : List (NestedKey × Bool)) : Prop where
  hp : H p = some (.ins C dx (pFields fl st bl))
  hfl : H fl = some (.lst (fs.map V.ref))
  hfs : FlowsAt H fs P.flows
  hst : H st = some (.lst (P.starts.map V.str))
  hbl : NDict w H bl kvs
  blk : P.blk = fun a pl o pl' => (look kvs (dBlk a pl o pl').key).isSome
  n4 : P.flows.length ≤ 4
def PlanAt (w : World) (C : Addr) (H : Hp) (p : Addr) (P : Pln) : Prop := ∃ dx fl st bl fs kvs, PlanIn w C H p P dx fl st bl fs kvs
theorem PlanIn.up {w : World} {C : Addr} {H H' : Hp} {p : Addr} {P : Pln} {dx fl st bl : Addr} {fs : List Addr} {kvs : List (NestedKey × Bool)} (h : PlanIn w C H p P dx fl st bl fs kvs) (s : Same H H') : PlanIn w C H' p P dx fl st bl fs kvs :=
  ⟨s _ _ h.hp, s _ _ h.hfl, h.hfs.up s, s _ _ h.hst, h.hbl.up s, h.blk, h.n4⟩
theorem PlanAt.up {w : World} {C : Addr} {H H' : Hp} {p : Addr} {P : Pln} (h : PlanAt w C H p P) (s : Same H H') : PlanAt w C H' p P := by
  obtain ⟨dx, fl, st, bl, fs, kvs, h⟩ := h
  exact ⟨dx, fl, st, bl, fs, kvs, h.up s⟩
theorem str_ne {x y : Str} (h : decide (x = y) = false) : (x == y) = false := by
  rw [beq_eq_false_iff_ne]
  exact of_decide_eq_false h
theorem n_fs : (("starts" : Str) == ("flows" : Str)) = false := by decide +kernel
theorem n_bf : (("blocks" : Str) == ("flows" : Str)) = false := by decide +kernel
theorem n_bs : (("blocks" : Str) == ("starts" : Str)) = false := by decide +kernel
theorem lk_flows (fl st bl : Addr) : (pFields fl st bl).lookup ("flows" : Str) = some (.ref fl) := by
  unfold pFields
  rw [List.lookup_cons]
  simp
theorem lk_starts (fl st bl : Addr) : (pFields fl st bl).lookup ("starts" : Str) = some (.ref st) := by
  unfold pFields
  simp only [List.lookup_cons, n_fs]
  simp
theorem lk_blocks (fl st bl : Addr) : (pFields fl st bl).lookup ("blocks" : Str) = some (.ref bl) := by
  unfold pFields
  simp only [List.lookup_cons, n_bf, n_bs]
  simp
theorem lk_none {m : Str} (fl st bl : Addr) (h1 : (m == ("flows" : Str)) = false) (h2 : (m == ("starts" : Str)) = false) (h3 : (m == ("blocks" : Str)) = false) : (pFields fl st bl).lookup m = none := by
  unfold pFields
  simp only [List.lookup_cons, h1, h2, h3]
  rfl
/-- what the text says of the class Plan -/
structure PTxt (K : PySem.W.Frag) (mg : Str → Option Value) (C : Addr) : Prop where
  cl : Cls K C
  nF : NoAttr K C "flows"
  nS : NoAttr K C "starts"
  nB : NoAttr K C "blocks"
  len : mg "len" = none
  range : mg "range" = none
  list : mg "list" = none
  tuple : mg "tuple" = none
  enumerate : mg "enumerate" = none

/-- a method of a class, its promise -/
structure Mth (P : Program) (w : World) (K : PySem.W.Frag) (mg : Str → Option Value) (base : Heap) (CX : CXT) (C : Addr) (k : Nat) (m : Str) (ps : List Str) (sp : Sp) : Prop where
  ex : ∃ f fd, Meth K C m f ∧ FnOk P w K mg base CX k f fd ps sp ∧ Binds K fd ps []
/-- a def of the module, its promise -/
structure Dfn (P : Program) (w : World) (K : PySem.W.Frag) (mg : Str → Option Value) (base : Heap) (CX : CXT) (k : Nat) (x : Str) (ps : List Str) (sp : Sp) : Prop where
  ex : ∃ f fd, mg x = some (.ref f) ∧ PySem.W.keepIn K (.ref f) = true ∧ FnOk P w K mg base CX k f fd ps sp ∧ Binds K fd ps []
theorem p_none {m : Str} {fl st bl : Addr} (h : ((m == ("flows" : Str)) || (m == ("starts" : Str)) || (m == ("blocks" : Str))) = false := by decide +kernel) : (pFields fl st bl).lookup m = none := by
  rw [Bool.or_eq_false_iff, Bool.or_eq_false_iff] at h
  exact lk_none fl st bl h.1.1 h.1.2 h.2
theorem line1 : 1 ≤ sizeLine := len_line (by decide)
theorem line2 : 2 ≤ sizeLine := len_line (by decide)
theorem line3 : 3 ≤ sizeLine := len_line (by decide)
theorem line4 : 4 ≤ sizeLine := len_line (by decide)
theorem small62 {n : Nat} (h : n ≤ 1000000) : -(2 ^ 62) ≤ (n : Int) ∧ (n : Int) < 2 ^ 62 := by omega
theorem find_range_some {n i : Nat} {p : Nat → Bool} (hi : i < n) (h : p i = true) (hj : ∀ j, j < i → p j = false) : (List.range n).find? p = some i := by
  rw [List.find?_range_eq_some]
  exact ⟨by simpa using h, by simpa using hi, fun j hlt => by simp [hj j hlt]⟩
theorem find_range_none {n : Nat} {p : Nat → Bool} (hj : ∀ j, j < n → p j = false) : (List.range n).find? p = none := by
  rw [List.find?_eq_none]
  intro j hm
  rw [hj j (List.mem_range.mp hm)]
  exact Bool.false_ne_true
/-- an optional step, as a value -/
def OptS (H : Hp) (v : V) : Option Step → Prop
  | none => v = .non
  | some st => IsD H v (dStep st)
theorem get_map {α β : Type} {f : α → β} {l : List α} {i : Nat} {x : α} (h : l[i]? = some x) : (l.map f)[i]? = some (f x) := by
  rw [List.getElem?_map, h]
  rfl

/-! ### step_of -/
/-- self, state, arm: a plan, a state of as many spots, an arm -/
structure Asks (w : World) (C : Addr) (H : Hp) (p : Addr) (sv : V) (a : Nat) (P : Pln) (s : St) : Prop where
  pl : PlanAt w C H p P
  st : IsD H sv (dSt s)
  len : s.spots.length = P.flows.length
  arm : a < P.flows.length
theorem Asks.up {w : World} {C : Addr} {H H' : Hp} {p : Addr} {sv : V} {a : Nat} {P : Pln} {s : St} (h : Asks w C H p sv a P s) (t : Same H H') : Asks w C H' p sv a P s :=
  ⟨h.pl.up t, h.st.up t, h.len, h.arm⟩
def spStepOf (w : World) (C : Addr) : Sp := fun vs H Q _ => ∃ p sv a P s, vs = [.ref p, sv, .int (a : Nat)] ∧ Asks w C H p sv a P s ∧ ∀ v, OptS H v (stepOf P s a) → Q v H
section
variable {P : Program} {w : World} {K : PySem.W.Frag} {mg : Str → Option Value} {base : Heap} {C : Addr}
theorem scStepOf : FnScope ["self", "state", "arm", "at"] ["self", "state", "arm"] (defScope (pl 3)) := ⟨rfl, rfl, rfl, by decide +kernel, rfl, by decide +kernel, by decide +kernel⟩
theorem ok_step_of {f : Addr} {fd : FuncData} (F : Fun K "step_of" "Plan.step_of" (pl 3) f fd) (T : PTxt K mg C) : FnOk P w K mg base CX0 1 f fd ["self", "state", "arm"] (spStepOf w C) := by
  refine F.ok scStepOf (fun vs H Q E h => ?_) (fun cdv A outer s H vs Q E hr h => ?_)
  · obtain ⟨p, sv, a, P, s, rfl, _⟩ := h
    rfl
  · obtain ⟨p, sv, a, P, s, rfl, A, k⟩ := h
    obtain ⟨dx, fl, st, bl, fs, kvs, I⟩ := A.pl
    obtain ⟨q, l, g, vs, S⟩ := st_open A.st
    obtain ⟨flw, hf⟩ := get_some A.arm
    obtain ⟨x, hx⟩ := get_some (l := s.spots) (i := a) (by rw [A.len]; exact A.arm)
    obtain ⟨z, hz, hz2⟩ := S.spot hx
    obtain ⟨f', us, hf1, hf2, hf3⟩ := I.hfs.get hf
    refine ⟨_, pss_cons (ps_set (i := 3) scStepOf.nd rfl (Or.inl rfl) (pe_ix ix_tup (pe_ix ix_tup (pe_ix ix_tup (pv 1) pe_int (fun _ _ => rfl)) (pv 2) (fun _ _ => rfl)) pe_int (fun _ _ => rfl)))
      (pss_one (ps_ret (pe_ifExp (pt_cmpR op_lt (pv 3) (pe_callB call_len_seq (by rfl) T.len PySem.boot_len (pa_cons (pe_ix ix_list (pe_fld (pv 0) rfl) (pv 2) (fun _ _ => rfl)) pa_nil)) (nomark _))
        (pe_ix ix_list (pe_ix ix_list (pe_fld (pv 0) rfl) (pv 2) (fun _ _ => rfl)) (pv 3) (fun _ _ => rfl)) pe_non))), ?_⟩
    refine ⟨_, rfl, _, _, _, _, S.e, rfl, SqT.of S.hq, atI_nat (j := 0) rfl, _, rfl, _, _, _, _, rfl, rfl, SqT.of S.hl, atI_nat hz, _, _, _, _, rfl, rfl, SqT.of hz2, atI_nat (j := 0) rfl, ?_⟩
    refine ⟨_, rfl, _, rfl, p, C, dx, _, _, rfl, I.hp, T.cl, T.nF, lk_flows _ _ _, _, rfl, _, _, _, _, rfl, rfl, SqL.of I.hfl, atI_nat (get_map hf1), _, _, rfl, .inl (SqL.of hf2), _, _, rfl, rfl, _, rfl, ?_⟩
    have hul : us.length = flw.length := by rw [hf3.length, List.length_map]
    have e : stepOf P s a = flw[x.ix]? := by
      unfold stepOf
      rw [flowAt_eq hf, spotAt_eq hx]
    refine ite2 (fun hc => ?_) (fun hc => ?_)
    · have hlt : x.ix < flw.length := by
        have q := of_decide_eq_true hc
        omega
      obtain ⟨sp, hsp⟩ := get_some hlt
      obtain ⟨v, hv1, hv2⟩ := hf3.get (i := x.ix) (d := dStep sp) (get_map hsp)
      refine ⟨_, rfl, p, C, dx, _, _, rfl, I.hp, T.cl, T.nF, lk_flows _ _ _, _, rfl, _, _, _, _, rfl, rfl, SqL.of I.hfl, atI_nat (get_map hf1), _, rfl, _, _, _, _, rfl, rfl, SqL.of hf2, atI_nat hv1, ?_⟩
      refine k v ?_
      rw [e, hsp]
      exact hv2
    · refine k .non ?_
      have hge : flw.length ≤ x.ix := by
        have q : ¬ ((x.ix : Int) < (us.length : Int)) := fun z => hc (decide_eq_true z)
        omega
      rw [e, List.getElem?_eq_none hge]
      rfl
end
end Aw

/-! The plan's methods that make no state. -/
namespace Aw
open PySem PySem.Spec PyProof.Rows L2

def OptP (H : Hp) (v : V) : Option Place → Prop
  | none => v = .non
  | some pl => IsD H v (dPlace pl)
def OptI (v : V) : Option Nat → Prop
  | none => v = .non
  | some i => v = .int (i : Nat)
theorem OptP.up {H H' : Hp} {v : V} {o : Option Place} (h : OptP H v o) (s : Same H H') : OptP H' v o := by
  cases o with
  | none => exact h
  | some pl => exact IsD.up h s
theorem OptS.up {H H' : Hp} {v : V} {o : Option Step} (h : OptS H v o) (s : Same H H') : OptS H' v o := by
  cases o with
  | none => exact h
  | some pl => exact IsD.up h s
def spHasEnded (w : World) (C : Addr) : Sp := fun vs H Q _ => ∃ p sv a P s, vs = [.ref p, sv, .int (a : Nat)] ∧ Asks w C H p sv a P s ∧ Q (.bl (decide (endedAt P s a))) H
def spAllEnded (w : World) (C : Addr) : Sp := fun vs H Q _ => ∃ p sv P s, vs = [.ref p, sv] ∧ PlanAt w C H p P ∧ IsD H sv (dSt s) ∧ s.spots.length = P.flows.length ∧ ∀ b, (b = true ↔ allEnded P s) → Q (.bl b) H
def spRestOf (w : World) (C : Addr) : Sp := fun vs H Q _ => ∃ p sv a P s, vs = [.ref p, sv, .int (a : Nat)] ∧ Asks w C H p sv a P s ∧ ∀ v H', Same H H' → IsD H' v (dPlace (restOf s a)) → Q v H'
def spIsClear (w : World) (C : Addr) : Sp := fun vs H Q _ => ∃ p x y a pl o pl' P, vs = [.ref p, .int (a : Nat), x, .int (o : Nat), y] ∧ PlanAt w C H p P ∧ IsD H x (dPlace pl) ∧ IsD H y (dPlace pl') ∧ ∀ H', Same H H' → Q (.bl (!P.blk a pl o pl')) H'
def spWanted (w : World) (C : Addr) : Sp := fun vs H Q _ => ∃ p sv a P s, vs = [.ref p, sv, .int (a : Nat)] ∧ Asks w C H p sv a P s ∧ ∀ v H', Same H H' → OptP H' v (wanted P s a) → Q v H'
def spHinderedBy (w : World) (C : Addr) : Sp := fun vs H Q _ => ∃ p sv a P s, vs = [.ref p, sv, .int (a : Nat)] ∧ Asks w C H p sv a P s ∧ ∀ v H', Same H H' → OptI v (hindered P s a) → Q v H'
def spCanStep (w : World) (C : Addr) : Sp := fun vs H Q _ => ∃ p sv a P s, vs = [.ref p, sv, .int (a : Nat)] ∧ Asks w C H p sv a P s ∧ ∀ H', Same H H' → Q (.bl (canStep P s a)) H'

theorem depth_held (x : Option Str) : (dHeld x).key.depth = 0 := by cases x <;> rfl
theorem depth_place (pl : Place) : (dPlace pl).key.depth ≤ 2 := by
  cases pl with
  | rest p x => cases x <;> (show 1 ≤ 2) <;> decide
  | move p q x => cases x <;> (show 1 ≤ 2) <;> decide
theorem depth_blk (a : Nat) (pl : Place) (o : Nat) (pl' : Place) : (dBlk a pl o pl').key.depth ≤ 8 := by
  have h1 := depth_place pl
  have h2 := depth_place pl'
  show (max 0 (max (dPlace pl).key.depth (max 0 (max (dPlace pl').key.depth 0)))) + 1 ≤ 8
  omega
section
variable {P : Program} {w : World} {K : PySem.W.Frag} {mg : Str → Option Value} {base : Heap} {C : Addr}
theorem scHasEnded : FnScope ["self", "state", "arm"] ["self", "state", "arm"] (defScope (pl 4)) := ⟨rfl, rfl, rfl, by decide +kernel, rfl, by decide +kernel, by decide +kernel⟩
theorem ok_has_ended {f : Addr} {fd : FuncData} (F : Fun K "has_ended" "Plan.has_ended" (pl 4) f fd) (T : PTxt K mg C) : FnOk P w K mg base CX0 1 f fd ["self", "state", "arm"] (spHasEnded w C) := by
  refine F.ok scHasEnded (fun vs H Q E h => ?_) (fun cdv A outer s H vs Q E hr h => ?_)
  · obtain ⟨p, sv, a, P, s, rfl, _⟩ := h
    rfl
  · obtain ⟨p, sv, a, P, s, rfl, A, k⟩ := h
    obtain ⟨dx, fl, st, bl, fs, kvs, I⟩ := A.pl
    obtain ⟨q, l, g, vs, S⟩ := st_open A.st
    obtain ⟨flw, hf⟩ := get_some A.arm
    obtain ⟨x, hx⟩ := get_some (l := s.spots) (i := a) (by rw [A.len]; exact A.arm)
    obtain ⟨z, hz, hz2⟩ := S.spot hx
    obtain ⟨f', us, hf1, hf2, hf3⟩ := I.hfs.get hf
    refine ⟨_, pss_one (ps_ret (pe_cmpR op_ge (pe_ix ix_tup (pe_ix ix_tup (pe_ix ix_tup (pv 1) pe_int (fun _ _ => rfl)) (pv 2) (fun _ _ => rfl)) pe_int (fun _ _ => rfl))
      (pe_callB call_len_seq (by rfl) T.len PySem.boot_len (pa_cons (pe_ix ix_list (pe_fld (pv 0) rfl) (pv 2) (fun _ _ => rfl)) pa_nil)) (nomark _))), ?_⟩
    refine ⟨_, rfl, _, _, _, _, S.e, rfl, SqT.of S.hq, atI_nat (j := 0) rfl, _, rfl, _, _, _, _, rfl, rfl, SqT.of S.hl, atI_nat hz, _, _, _, _, rfl, rfl, SqT.of hz2, atI_nat (j := 0) rfl, ?_⟩
    refine ⟨_, rfl, p, C, dx, _, _, rfl, I.hp, T.cl, T.nF, lk_flows _ _ _, _, rfl, _, _, _, _, rfl, rfl, SqL.of I.hfl, atI_nat (get_map hf1), _, _, rfl, .inl (SqL.of hf2), _, _, rfl, rfl, ?_⟩
    have hul : us.length = flw.length := by rw [hf3.length, List.length_map]
    have e : decide ((us.length : Int) ≤ (x.ix : Int)) = decide (endedAt P s a) := by
      rw [decide_eq_decide]
      unfold endedAt
      rw [flowAt_eq hf, spotAt_eq hx, hul]
      omega
    show Q (.bl (decide ((us.length : Int) ≤ (x.ix : Int)))) H
    rw [e]
    exact k
theorem scAllEnded : FnScope ["self", "state", "arm"] ["self", "state"] (defScope (pl 5)) := ⟨rfl, rfl, rfl, by decide +kernel, rfl, by decide +kernel, by decide +kernel⟩
theorem ok_all_ended {f : Addr} {fd : FuncData} (F : Fun K "all_ended" "Plan.all_ended" (pl 5) f fd) (T : PTxt K mg C) (m1 : Mth P w K mg base CX0 C 1 "has_ended" ["self", "state", "arm"] (spHasEnded w C)) :
    FnOk P w K mg base CX0 2 f fd ["self", "state"] (spAllEnded w C) := by
  obtain ⟨f1, fd1, mm1, G1, b1⟩ := m1.ex
  refine F.ok scAllEnded (fun vs H Q E h => ?_) (fun cdv A outer s H vs Q E hr h => ?_)
  · obtain ⟨p, sv, P, s, rfl, _⟩ := h
    rfl
  · obtain ⟨p, sv, P, s, rfl, hP, hS, hlen, k⟩ := h
    obtain ⟨dx, fl, st, bl, fs, kvs, I⟩ := hP
    have hn4 := I.n4
    have hfl : fs.length = P.flows.length := I.hfs.len
    refine ⟨_, pss_cons (ps_for PassesOwn.never rfl (pi_range1 (by rfl) T.range (pa_cons (pe_callB call_len_seq (by rfl) T.len PySem.boot_len (pa_cons (pe_fld (pv 0) rfl) pa_nil)) pa_nil)) (pg_name (i := 2) scAllEnded.nd rfl (Or.inl rfl))
        (pss_one (ps_if (pt_not (pt_val (pe_meth (pv 0) T.cl mm1 G1 hr b1 .nil pass0 (pa_cons (pv 1) (pa_cons (pv 2) pa_nil))))) (pss_one (ps_ret pe_bl)) pss_nil)))
      (pss_one (ps_ret pe_bl)), ?_⟩
    refine ⟨_, rfl, p, C, dx, _, _, rfl, I.hp, T.cl, T.nF, lk_flows _ _ _, _, _, rfl, .inl (SqL.of I.hfl), _, rfl, ?_⟩
    rw [List.length_map, hfl]
    refine ⟨(small62 (by omega)).1, (small62 (by omega)).2, ?_⟩
    refine for_range (n := P.flows.length) (fun i σ H' => H' = H ∧ (∃ v, σ = [some (.ref p), some sv, v]) ∧ ∀ j, j < i → endedAt P s j) ⟨rfl, ⟨none, rfl⟩, fun j hj => absurd hj (Nat.not_lt_zero _)⟩ ?_ ?_
    · rintro i σ H' hi ⟨rfl, ⟨v, rfl⟩, hj⟩
      rw [Int.zero_add]
      refine ⟨_, rfl, p, dx, _, rfl, I.hp, p_none, _, rfl, _, rfl, p, sv, i, P, s, rfl, ⟨⟨dx, fl, st, bl, fs, kvs, I⟩, hS, hlen, hi⟩, _, rfl, ?_⟩
      by_cases he : endedAt P s i
      · rw [decide_eq_true he]
        refine iteF ⟨rfl, ⟨_, rfl⟩, fun j hlt => ?_⟩
        rcases Nat.lt_succ_iff_lt_or_eq.mp hlt with z | z
        · exact hj j z
        · rw [z]
          exact he
      · rw [decide_eq_false he]
        refine iteT (k false ⟨fun z => (nomatch z), fun z => absurd (z i hi) he⟩)
    · rintro σ H' ⟨rfl, ⟨v, rfl⟩, hj⟩
      exact k true ⟨fun _ a ha => hj a ha, fun _ => rfl⟩
theorem scRestOf : FnScope ["self", "state", "arm", "_", "point", "held"] ["self", "state", "arm"] (defScope (pl 6)) := ⟨rfl, rfl, rfl, by decide +kernel, rfl, by decide +kernel, by decide +kernel⟩
theorem ok_rest_of {f : Addr} {fd : FuncData} (F : Fun K "rest_of" "Plan.rest_of" (pl 6) f fd) (T : PTxt K mg C) : FnOk P w K mg base CX0 1 f fd ["self", "state", "arm"] (spRestOf w C) := by
  refine F.ok scRestOf (fun vs H Q E h => ?_) (fun cdv A outer s H vs Q E hr h => ?_)
  · obtain ⟨p, sv, a, P, s, rfl, _⟩ := h
    rfl
  · obtain ⟨p, sv, a, P, s, rfl, A, k⟩ := h
    obtain ⟨q, l, g, vs, S⟩ := st_open A.st
    obtain ⟨x, hx⟩ := get_some (l := s.spots) (i := a) (by rw [A.len]; exact A.arm)
    obtain ⟨z, hz, hz2⟩ := S.spot hx
    refine ⟨_, pss_cons (ps_asg (pe_ix ix_tup (pe_ix ix_tup (pv 1) pe_int (fun _ _ => rfl)) (pv 2) (fun _ _ => rfl))
        (pg_tup rfl (pgs_cons (pg_name (i := 3) scRestOf.nd rfl (Or.inl rfl)) (pgs_cons (pg_name (i := 4) scRestOf.nd rfl (Or.inl rfl)) (pgs_cons (pg_name (i := 5) scRestOf.nd rfl (Or.inl rfl)) pgs_nil)))))
      (pss_one (ps_ret (pe_tup (pa_cons pe_str (pa_cons (pv 4) (pa_cons (pv 5) pa_nil)))))), ?_⟩
    refine ⟨_, rfl, _, _, _, _, S.e, rfl, SqT.of S.hq, atI_nat (j := 0) rfl, _, rfl, _, _, _, _, rfl, rfl, SqT.of S.hl, atI_nat hz, _, _, rfl, SqT.of hz2, rfl, _, _, rfl, _, _, rfl, _, _, rfl, rfl, ?_⟩
    refine ⟨_, rfl, _, rfl, line3, fun r hr0 => ?_⟩
    refine k _ _ (same_new hr0) ?_
    unfold restOf
    rw [spotAt_eq hx]
    exact IsD.made hr0 (.cons (.str _) (.cons (.str _) (.cons (held_is _) .nil)))
theorem scIsClear : FnScope ["self", "arm", "place", "other", "other_place"] ["self", "arm", "place", "other", "other_place"] (defScope (pl 1)) := ⟨rfl, rfl, rfl, by decide +kernel, rfl, by decide +kernel, by decide +kernel⟩
theorem ok_is_clear {f : Addr} {fd : FuncData} (F : Fun K "is_clear" "Plan.is_clear" (pl 1) f fd) (T : PTxt K mg C) : FnOk P w K mg base CX0 1 f fd ["self", "arm", "place", "other", "other_place"] (spIsClear w C) := by
  refine F.ok scIsClear (fun vs H Q E h => ?_) (fun cdv A outer s H vs Q E hr h => ?_)
  · obtain ⟨p, x, y, a, pl, o, pl', P, rfl, _⟩ := h
    rfl
  · obtain ⟨p, x, y, a, pl, o, pl', P, rfl, hP, hx, hy, k⟩ := h
    obtain ⟨dx, fl, st, bl, fs, kvs, I⟩ := hP
    refine ⟨_, pss_one (ps_ret (pe_cmpR (op_notInN hr.units) (pe_tup (pa_cons (pv 1) (pa_cons (pv 2) (pa_cons (pv 3) (pa_cons (pv 4) pa_nil))))) (pe_fld (pv 0) rfl) rfl)), ?_⟩
    refine ⟨_, rfl, _, rfl, _, rfl, _, rfl, line4, fun r hr0 => ?_⟩
    have sm := same_new (H := H) (o := .tup [.int (a : Nat), x, .int (o : Nat), y]) hr0
    have I2 := I.up sm
    refine ⟨_, rfl, p, C, dx, _, _, rfl, I2.hp, T.cl, T.nB, lk_blocks _ _ _, r, bl, (dBlk a pl o pl').key, kvs, rfl, rfl, ?_, I2.hbl, ?_⟩
    · exact ⟨dBlk a pl o pl', IsD.made hr0 (.cons (.int _) (.cons hx (.cons (.int _) (.cons hy .nil)))), rfl, depth_blk _ _ _ _⟩
    · have z := k _ sm
      rw [I.blk] at z
      exact z
end
end Aw

/-! wanted, hindered_by, can_step. -/
namespace Aw
open PySem PySem.Spec PyProof.Rows L2

/-- the word of a step -/
def stepWord : Step → Str
  | .move _ => "move"
  | .hold _ => "hold"
  | .set _ _ => "set"
  | .wait _ _ => "wait"
  | .jump _ => "jump"
  | .iff _ _ => "if"
theorem step_open {H : Hp} {v : V} {st : Step} (h : IsD H v (dStep st)) : ∃ z w rest, v = .ref z ∧ H z = some (.tup (.str (stepWord st) :: w :: rest)) := by
  cases st with
  | move q =>
    obtain ⟨z, x, y, e, hz, hx, hy⟩ := h.tup2
    rw [hx.str_eq] at hz
    exact ⟨z, _, _, e, hz⟩
  | hold q =>
    obtain ⟨z, x, y, e, hz, hx, hy⟩ := h.tup2
    rw [hx.str_eq] at hz
    exact ⟨z, _, _, e, hz⟩
  | set g b =>
    obtain ⟨z, x, y, u, e, hz, hx, hy, _⟩ := h.tup3
    rw [hx.str_eq] at hz
    exact ⟨z, _, _, e, hz⟩
  | wait g b =>
    obtain ⟨z, x, y, u, e, hz, hx, hy, _⟩ := h.tup3
    rw [hx.str_eq] at hz
    exact ⟨z, _, _, e, hz⟩
  | jump n =>
    obtain ⟨z, x, y, e, hz, hx, hy⟩ := h.tup2
    rw [hx.str_eq] at hz
    exact ⟨z, _, _, e, hz⟩
  | iff i n =>
    obtain ⟨z, x, y, u, e, hz, hx, hy, _⟩ := h.tup3
    rw [hx.str_eq] at hz
    exact ⟨z, _, _, e, hz⟩
theorem step_move {H : Hp} {v : V} {q : Str} (h : IsD H v (dStep (.move q))) : ∃ z, v = .ref z ∧ H z = some (.tup [.str "move", .str q]) := by
  obtain ⟨z, x, y, e, hz, hx, hy⟩ := h.tup2
  rw [hx.str_eq, hy.str_eq] at hz
  exact ⟨z, e, hz⟩
theorem step_hold {H : Hp} {v : V} {q : Option Str} (h : IsD H v (dStep (.hold q))) : ∃ z, v = .ref z ∧ H z = some (.tup [.str "hold", vHeld q]) := by
  obtain ⟨z, x, y, e, hz, hx, hy⟩ := h.tup2
  rw [hx.str_eq, held_open hy] at hz
  exact ⟨z, e, hz⟩
theorem step_set {H : Hp} {v : V} {g : Str} {b : Bool} (h : IsD H v (dStep (.set g b))) : ∃ z, v = .ref z ∧ H z = some (.tup [.str "set", .str g, .bl b]) := by
  obtain ⟨z, x, y, u, e, hz, hx, hy, hu⟩ := h.tup3
  rw [hx.str_eq, hy.str_eq, hu.bl_eq] at hz
  exact ⟨z, e, hz⟩
theorem step_wait {H : Hp} {v : V} {g : Str} {b : Bool} (h : IsD H v (dStep (.wait g b))) : ∃ z, v = .ref z ∧ H z = some (.tup [.str "wait", .str g, .bl b]) := by
  obtain ⟨z, x, y, u, e, hz, hx, hy, hu⟩ := h.tup3
  rw [hx.str_eq, hy.str_eq, hu.bl_eq] at hz
  exact ⟨z, e, hz⟩
theorem step_jump {H : Hp} {v : V} {n : Nat} (h : IsD H v (dStep (.jump n))) : ∃ z, v = .ref z ∧ H z = some (.tup [.str "jump", .int (n : Nat)]) := by
  obtain ⟨z, x, y, e, hz, hx, hy⟩ := h.tup2
  rw [hx.str_eq, hy.int_eq] at hz
  exact ⟨z, e, hz⟩
theorem step_if {H : Hp} {v : V} {i : Str} {n : Nat} (h : IsD H v (dStep (.iff i n))) : ∃ z, v = .ref z ∧ H z = some (.tup [.str "if", .str i, .int (n : Nat)]) := by
  obtain ⟨z, x, y, u, e, hz, hx, hy, hu⟩ := h.tup3
  rw [hx.str_eq, hy.str_eq, hu.int_eq] at hz
  exact ⟨z, e, hz⟩
/-- a comparison of a step's word with a written one -/
theorem word_ne {x y : Str} (h : (x == y) = false) : decide (V.str x = V.str y) = false := by
  rw [dec_str]
  exact h
theorem word_eq {x : Str} : decide (V.str x = V.str x) = true := by simp
theorem dec_nat (i a : Nat) : decide (V.int (i : Nat) = V.int (a : Nat)) = decide (i = a) := by
  rw [decide_eq_decide]
  constructor
  · intro h
    have h2 := V.int.inj h
    omega
  · intro h
    rw [h]
theorem dec_ne (i a : Nat) : (!decide (V.int (i : Nat) = V.int (a : Nat))) = decide (i ≠ a) := by
  rw [dec_nat]
  by_cases e : i = a <;> simp [e]
def isHold : Step → Bool
  | .hold _ => true
  | _ => false
def isSet : Step → Bool
  | .set _ _ => true
  | _ => false
def isJump : Step → Bool
  | .jump _ => true
  | _ => false
theorem word_move (st : Step) : decide (V.str (stepWord st) = V.str "move") = isMove st := by
  cases st <;> first | exact word_eq | exact word_ne (by simp only [stepWord]; decide +kernel)
theorem word_hold (st : Step) : decide (V.str (stepWord st) = V.str "hold") = isHold st := by
  cases st <;> first | exact word_eq | exact word_ne (by simp only [stepWord]; decide +kernel)
theorem word_set (st : Step) : decide (V.str (stepWord st) = V.str "set") = isSet st := by
  cases st <;> first | exact word_eq | exact word_ne (by simp only [stepWord]; decide +kernel)
theorem word_wait (st : Step) : decide (V.str (stepWord st) = V.str "wait") = isWait st := by
  cases st <;> first | exact word_eq | exact word_ne (by simp only [stepWord]; decide +kernel)
theorem word_if (st : Step) : decide (V.str (stepWord st) = V.str "if") = isIf st := by
  cases st <;> first | exact word_eq | exact word_ne (by simp only [stepWord]; decide +kernel)
theorem word_jump (st : Step) : decide (V.str (stepWord st) = V.str "jump") = isJump st := by
  cases st <;> first | exact word_eq | exact word_ne (by simp only [stepWord]; decide +kernel)
theorem OptS.dec {H : Hp} {v : V} {o : Option Step} (h : OptS H v o) : decide (v = .non) = o.isNone := by
  cases o with
  | none => rw [show v = .non from h]; rfl
  | some st =>
    obtain ⟨z, w, r, e, _⟩ := step_open (show IsD H v (dStep st) from h)
    rw [e]
    rfl
theorem OptP.dec {H : Hp} {v : V} {o : Option Place} (h : OptP H v o) : decide (v = .non) = o.isNone := by
  cases o with
  | none => rw [show v = .non from h]; rfl
  | some pl =>
    have h2 : IsD H v (dPlace pl) := h
    cases pl with
    | rest p x =>
      obtain ⟨z, _, _, _, e, _⟩ := h2.tup3
      rw [e]
      rfl
    | move p q x =>
      obtain ⟨z, _, _, _, _, e, _⟩ := h2.tup4
      rw [e]
      rfl
theorem OptI.dec {v : V} {o : Option Nat} (h : OptI v o) : decide (v = .non) = o.isNone := by
  cases o with
  | none => rw [show v = .non from h]; rfl
  | some i => rw [show v = .int (i : Nat) from h]; rfl
section
variable {P : Program} {w : World} {K : PySem.W.Frag} {mg : Str → Option Value} {base : Heap} {C : Addr}
theorem scWanted : FnScope ["self", "state", "arm", "step", "_", "point", "held"] ["self", "state", "arm"] (defScope (pl 7)) := ⟨rfl, rfl, rfl, by decide +kernel, rfl, by decide +kernel, by decide +kernel⟩
theorem ok_wanted {f : Addr} {fd : FuncData} (F : Fun K "wanted" "Plan.wanted" (pl 7) f fd) (T : PTxt K mg C) (m1 : Mth P w K mg base CX0 C 1 "step_of" ["self", "state", "arm"] (spStepOf w C)) :
    FnOk P w K mg base CX0 2 f fd ["self", "state", "arm"] (spWanted w C) := by
  obtain ⟨f1, fd1, mm1, G1, b1⟩ := m1.ex
  refine F.ok scWanted (fun vs H Q E h => ?_) (fun cdv A outer s H vs Q E hr h => ?_)
  · obtain ⟨p, sv, a, P, s, rfl, _⟩ := h
    rfl
  · obtain ⟨p, sv, a, P, s, rfl, A, k⟩ := h
    obtain ⟨dx, fl, st, bl, fs, kvs, I⟩ := id A.pl
    obtain ⟨q, l, g, vs, S⟩ := st_open A.st
    obtain ⟨x, hx⟩ := get_some (l := s.spots) (i := a) (by rw [A.len]; exact A.arm)
    obtain ⟨z, hz, hz2⟩ := S.spot hx
    refine ⟨_, pss_cons (ps_set (i := 3) scWanted.nd rfl (Or.inl rfl) (pe_meth (pv 0) T.cl mm1 G1 hr b1 .nil pass0 (pa_cons (pv 1) (pa_cons (pv 2) pa_nil))))
      (pss_cons (ps_asg (pe_ix ix_tup (pe_ix ix_tup (pv 1) pe_int (fun _ _ => rfl)) (pv 2) (fun _ _ => rfl))
        (pg_tup rfl (pgs_cons (pg_name (i := 4) scWanted.nd rfl (Or.inl rfl)) (pgs_cons (pg_name (i := 5) scWanted.nd rfl (Or.inl rfl)) (pgs_cons (pg_name (i := 6) scWanted.nd rfl (Or.inl rfl)) pgs_nil)))))
      (pss_cons (ps_if (pt_cmpR op_isN (pv 3) pe_non (nomark _)) (pss_one (ps_ret pe_non)) pss_nil)
      (pss_cons (ps_if (pt_cmpR op_eq (pe_ix ix_tup (pv 3) pe_int (fun _ _ => rfl)) pe_str (nomark _)) (pss_one (ps_ret (pe_tup (pa_cons pe_str (pa_cons (pv 5) (pa_cons (pe_ix ix_tup (pv 3) pe_int (fun _ _ => rfl)) (pa_cons (pv 6) pa_nil))))))) pss_nil)
      (pss_one (ps_ret (pe_ifExp (pt_cmpR op_eq (pe_ix ix_tup (pv 3) pe_int (fun _ _ => rfl)) pe_str (nomark _)) (pe_tup (pa_cons pe_str (pa_cons (pv 5) (pa_cons (pe_ix ix_tup (pv 3) pe_int (fun _ _ => rfl)) pa_nil)))) pe_non)))))), ?_⟩
    refine ⟨_, rfl, p, dx, _, rfl, I.hp, p_none, _, rfl, _, rfl, p, sv, a, P, s, rfl, A, fun v hv => ?_⟩
    refine ⟨_, rfl, _, _, _, _, S.e, rfl, SqT.of S.hq, atI_nat (j := 0) rfl, _, rfl, _, _, _, _, rfl, rfl, SqT.of S.hl, atI_nat hz, _, _, rfl, SqT.of hz2, rfl, _, _, rfl, _, _, rfl, _, _, rfl, rfl, ?_⟩
    refine ⟨_, rfl, rfl, _, rfl, ?_⟩
    rw [hv.dec]
    have key : ∀ (o : Option Step), stepOf P s a = o → wanted P s a = wantedBy x o := fun o e => by
      unfold wanted
      rw [e, spotAt_eq hx]
    cases hst : stepOf P s a with
    | none =>
      refine iteT (k _ _ (Same.refl H) ?_)
      rw [key _ hst]
      exact rfl
    | some sp =>
      rw [hst] at hv
      refine iteF ?_
      obtain ⟨zz, ww, rr, ez, hzz⟩ := step_open (show IsD H v (dStep sp) from hv)
      refine ⟨_, rfl, _, _, _, _, ez, rfl, SqT.of hzz, atI_nat (j := 0) rfl, rfl, _, rfl, ?_⟩
      rw [word_move]
      cases sp with
      | move qq =>
        obtain ⟨z2, ez2, hz2'⟩ := step_move (show IsD H v (dStep (.move qq)) from hv)
        refine iteT ⟨_, rfl, _, rfl, _, _, _, _, ez2, rfl, SqT.of hz2', atI_nat (j := 1) rfl, _, rfl, line4, fun r hr0 => k _ _ (same_new hr0) ?_⟩
        rw [key _ hst]
        exact IsD.made hr0 (.cons (.str _) (.cons (.str _) (.cons (.str _) (.cons (held_is _) .nil))))
      | hold qq =>
        obtain ⟨z2, ez2, hz2'⟩ := step_hold (show IsD H v (dStep (.hold qq)) from hv)
        refine iteF ⟨_, rfl, _, _, _, _, ez, rfl, SqT.of hzz, atI_nat (j := 0) rfl, rfl, _, rfl, ?_⟩
        rw [word_hold]
        refine iteT ⟨_, rfl, _, rfl, _, _, _, _, ez2, rfl, SqT.of hz2', atI_nat (j := 1) rfl, line3, fun r hr0 => k _ _ (same_new hr0) ?_⟩
        rw [key _ hst]
        exact IsD.made hr0 (.cons (.str _) (.cons (.str _) (.cons (held_is _) .nil)))
      | _ =>
        refine iteF ⟨_, rfl, _, _, _, _, ez, rfl, SqT.of hzz, atI_nat (j := 0) rfl, rfl, _, rfl, ?_⟩
        rw [word_hold]
        refine iteF (k _ _ (Same.refl H) ?_)
        rw [key _ hst]
        exact rfl
theorem hindered_none {P : Pln} {s : St} {a : Nat} (h : wanted P s a = none) : hindered P s a = none := by
  unfold hindered
  rw [h]
theorem hindered_some {P : Pln} {s : St} {a : Nat} {pl : Place} (h : wanted P s a = some pl) : hindered P s a = (List.range P.flows.length).find? fun o => decide (o ≠ a) && P.blk a pl o (restOf s o) := by
  unfold hindered
  rw [h]
theorem scHinderedBy : FnScope ["self", "state", "arm", "place", "other"] ["self", "state", "arm"] (defScope (pl 8)) := ⟨rfl, rfl, rfl, by decide +kernel, rfl, by decide +kernel, by decide +kernel⟩
theorem ok_hindered_by {f : Addr} {fd : FuncData} (F : Fun K "hindered_by" "Plan.hindered_by" (pl 8) f fd) (T : PTxt K mg C) (m1 : Mth P w K mg base CX0 C 2 "wanted" ["self", "state", "arm"] (spWanted w C))
    (m2 : Mth P w K mg base CX0 C 1 "is_clear" ["self", "arm", "place", "other", "other_place"] (spIsClear w C)) (m3 : Mth P w K mg base CX0 C 1 "rest_of" ["self", "state", "arm"] (spRestOf w C)) :
    FnOk P w K mg base CX0 3 f fd ["self", "state", "arm"] (spHinderedBy w C) := by
  obtain ⟨f1, fd1, mm1, G1, b1⟩ := m1.ex
  obtain ⟨f2, fd2, mm2, G2, b2⟩ := m2.ex
  obtain ⟨f3, fd3, mm3, G3, b3⟩ := m3.ex
  refine F.ok scHinderedBy (fun vs H Q E h => ?_) (fun cdv A outer s H vs Q E hr h => ?_)
  · obtain ⟨p, sv, a, P, s, rfl, _⟩ := h
    rfl
  · obtain ⟨p, sv, a, P, s, rfl, A, k⟩ := h
    obtain ⟨dx, fl, st, bl, fs, kvs, I⟩ := id A.pl
    have hr1 : Room 1 _ := hr.mono (by decide)
    have hfl : fs.length = P.flows.length := I.hfs.len
    refine ⟨_, pss_cons (ps_set (i := 3) scHinderedBy.nd rfl (Or.inl rfl) (pe_meth (pv 0) T.cl mm1 G1 hr b1 .nil pass0 (pa_cons (pv 1) (pa_cons (pv 2) pa_nil))))
      (pss_cons (ps_if (pt_cmpR op_isN (pv 3) pe_non (nomark _)) (pss_one (ps_ret pe_non)) pss_nil)
      (pss_cons (ps_for PassesOwn.never rfl (pi_range1 (by rfl) T.range (pa_cons (pe_callB call_len_seq (by rfl) T.len PySem.boot_len (pa_cons (pe_fld (pv 0) rfl) pa_nil)) pa_nil)) (pg_name (i := 4) scHinderedBy.nd rfl (Or.inl rfl))
        (pss_one (ps_if (PW.pt (pw_and (pt_cmpR op_ne (pv 4) (pv 2) (nomark _)) (pw_and1 (pt_not (pt_val (pe_meth (pv 0) T.cl mm2 G2 hr1 b2 .nil pass0 (pa_cons (pv 2) (pa_cons (pv 3) (pa_cons (pv 4) (pa_cons (pe_meth (pv 0) T.cl mm3 G3 hr1 b3 .nil pass0 (pa_cons (pv 1) (pa_cons (pv 4) pa_nil))) pa_nil)))))))))) (pss_one (ps_ret (pv 4))) pss_nil)))
      (pss_one (ps_ret pe_non)))), ?_⟩
    refine ⟨_, rfl, p, dx, _, rfl, I.hp, p_none, _, rfl, _, rfl, p, sv, a, P, s, rfl, A, fun v H1 s1 hv => ?_⟩
    refine ⟨_, rfl, rfl, _, rfl, ?_⟩
    rw [hv.dec]
    cases hw : wanted P s a with
    | none =>
      refine iteT (k _ _ s1 ?_)
      rw [hindered_none hw]
      exact rfl
    | some pl =>
      rw [hw] at hv
      have hv1 : IsD H1 v (dPlace pl) := hv
      have kk := hindered_some hw
      have I1 := I.up s1
      refine iteF ⟨_, rfl, p, C, dx, _, _, rfl, I1.hp, T.cl, T.nF, lk_flows _ _ _, _, _, rfl, .inl (SqL.of I1.hfl), _, rfl, ?_⟩
      rw [List.length_map, hfl]
      refine ⟨(small62 (by have := I.n4; omega)).1, (small62 (by have := I.n4; omega)).2, ?_⟩
      refine for_range (n := P.flows.length) (fun i σ H' => Same H H' ∧ IsD H' v (dPlace pl) ∧ (∃ u, σ = [some (.ref p), some sv, some (.int (a : Nat)), some v, u]) ∧ ∀ j, j < i → (decide (j ≠ a) && P.blk a pl j (restOf s j)) = false) ⟨s1, hv1, ⟨none, rfl⟩, fun j hj => absurd hj (Nat.not_lt_zero _)⟩ ?_ ?_
      · rintro i σ H' hi ⟨s2, hv2, ⟨u, rfl⟩, hj⟩
        rw [Int.zero_add]
        refine ⟨_, rfl, _, rfl, rfl, _, rfl, ?_⟩
        rw [dec_ne]
        have next : (decide (i ≠ a) && P.blk a pl i (restOf s i)) = false → ∀ j, j < i + 1 → (decide (j ≠ a) && P.blk a pl j (restOf s j)) = false := fun z j hlt => by
          rcases Nat.lt_succ_iff_lt_or_eq.mp hlt with q | q
          · exact hj j q
          · rw [q]
            exact z
        by_cases e : i = a
        · rw [decide_eq_false (fun z => z e)]
          refine iteF (iteF ⟨s2, hv2, ⟨_, rfl⟩, next (by rw [decide_eq_false (fun z => z e)]; rfl)⟩)
        · have I2 := I.up s2
          rw [decide_eq_true e]
          refine iteT ⟨_, rfl, p, dx, _, rfl, I2.hp, p_none, _, rfl, _, rfl, _, rfl, _, rfl, p, dx, _, rfl, I2.hp, p_none, _, rfl, _, rfl, p, sv, i, P, s, rfl, ?_, fun rv H3 s3 hrv => ?_⟩
          · exact ⟨A.pl.up s2, A.st.up s2, A.len, hi⟩
          · refine ⟨p, v, rv, a, pl, i, restOf s i, P, rfl, (A.pl.up s2).up s3, hv2.up s3, hrv, fun H4 s4 => ⟨_, rfl, ?_⟩⟩
            cases hb : P.blk a pl i (restOf s i) with
            | true =>
              refine iteT ⟨_, rfl, k _ _ ((s2.trans s3).trans s4) ?_⟩
              rw [kk, find_range_some hi (by rw [hb, decide_eq_true e]; rfl) hj]
              exact rfl
            | false => exact iteF ⟨(s2.trans s3).trans s4, (hv2.up s3).up s4, ⟨_, rfl⟩, next (by rw [hb, Bool.and_false])⟩
      · rintro σ H' ⟨s2, hv2, ⟨u, rfl⟩, hj⟩
        refine k _ _ s2 ?_
        rw [kk, find_range_none hj]
        exact rfl
theorem in_strs (x : Str) (l : List Str) : inV (.str x) (l.map V.str) = decide (x ∈ l) := by
  unfold inV
  induction l with
  | nil => simp
  | cons y l ih =>
    rw [List.map_cons, List.any_cons, ih]
    show ((y == x) || decide (x ∈ l)) = decide (x ∈ y :: l)
    by_cases e : y = x
    · subst e
      simp
    · have e2 : (y == x) = false := beq_eq_false_iff_ne.mpr e
      have e3 : ¬ x = y := fun z => e z.symm
      rw [e2, Bool.false_or, decide_eq_decide]
      simp [e3]
theorem flat_strs (l : List Str) : (l.map V.str).all flatV = true := by
  rw [List.all_eq_true]
  intro v hv
  obtain ⟨x, _, rfl⟩ := List.mem_map.mp hv
  rfl
theorem scCanStep : FnScope ["self", "state", "arm", "step"] ["self", "state", "arm"] (defScope (pl 9)) := ⟨rfl, rfl, rfl, by decide +kernel, rfl, by decide +kernel, by decide +kernel⟩
theorem ok_can_step {f : Addr} {fd : FuncData} (F : Fun K "can_step" "Plan.can_step" (pl 9) f fd) (T : PTxt K mg C) (m1 : Mth P w K mg base CX0 C 1 "step_of" ["self", "state", "arm"] (spStepOf w C))
    (m2 : Mth P w K mg base CX0 C 3 "hindered_by" ["self", "state", "arm"] (spHinderedBy w C)) : FnOk P w K mg base CX0 4 f fd ["self", "state", "arm"] (spCanStep w C) := by
  obtain ⟨f1, fd1, mm1, G1, b1⟩ := m1.ex
  obtain ⟨f2, fd2, mm2, G2, b2⟩ := m2.ex
  refine F.ok scCanStep (fun vs H Q E h => ?_) (fun cdv A outer s H vs Q E hr h => ?_)
  · obtain ⟨p, sv, a, P, s, rfl, _⟩ := h
    rfl
  · obtain ⟨p, sv, a, P, s, rfl, A, k⟩ := h
    obtain ⟨dx, fl, st, bl, fs, kvs, I⟩ := id A.pl
    obtain ⟨q, l, g, vs, S⟩ := st_open A.st
    have hr1 : Room 1 _ := hr.mono (by decide)
    refine ⟨_, pss_cons (ps_set (i := 3) scCanStep.nd rfl (Or.inl rfl) (pe_meth (pv 0) T.cl mm1 G1 hr1 b1 .nil pass0 (pa_cons (pv 1) (pa_cons (pv 2) pa_nil))))
      (pss_cons (ps_if (pt_cmpR op_isN (pv 3) pe_non (nomark _)) (pss_one (ps_ret pe_bl)) pss_nil)
      (pss_cons (ps_if (pt_cmpR op_eq (pe_ix ix_tup (pv 3) pe_int (fun _ _ => rfl)) pe_str (nomark _))
        (pss_one (ps_ret (pe_cmpR op_eq (pe_cmpR op_in_seq (pe_ix ix_tup (pv 3) pe_int (fun _ _ => rfl)) (pe_ix ix_tup (pv 1) pe_int (fun _ _ => rfl)) (by rfl)) (pe_ix ix_tup (pv 3) pe_int (fun _ _ => rfl)) (nomark _)))) pss_nil)
      (pss_one (ps_ret (pe_cmpR op_isN (pe_meth (pv 0) T.cl mm2 G2 hr b2 .nil pass0 (pa_cons (pv 1) (pa_cons (pv 2) pa_nil))) pe_non (nomark _)))))), ?_⟩
    refine ⟨_, rfl, p, dx, _, rfl, I.hp, p_none, _, rfl, _, rfl, p, sv, a, P, s, rfl, A, fun v hv => ?_⟩
    refine ⟨_, rfl, rfl, _, rfl, ?_⟩
    rw [hv.dec]
    have key : ∀ (o : Option Step), stepOf P s a = o → canStep P s a = canStepBy P s a o := fun o e => by
      unfold canStep
      rw [e]
    cases hst : stepOf P s a with
    | none =>
      have z := k _ (Same.refl H)
      rw [key _ hst] at z
      exact iteT z
    | some sp =>
      rw [hst] at hv
      obtain ⟨zz, ww, rr, ez, hzz⟩ := step_open (show IsD H v (dStep sp) from hv)
      refine iteF ⟨_, rfl, _, _, _, _, ez, rfl, SqT.of hzz, atI_nat (j := 0) rfl, rfl, _, rfl, ?_⟩
      rw [word_wait]
      cases sp with
      | wait gg b =>
        obtain ⟨z2, ez2, hz2'⟩ := step_wait (show IsD H v (dStep (.wait gg b)) from hv)
        refine iteT ⟨_, rfl, _, _, _, _, ez2, rfl, SqT.of hz2', atI_nat (j := 1) rfl, ?_⟩
        refine ⟨_, rfl, _, _, _, _, S.e, rfl, SqT.of S.hq, atI_nat (j := 1) rfl, _, _, rfl, .inr (SqT.of S.hg), rfl, flat_strs _, ?_⟩
        refine ⟨_, rfl, _, _, _, _, ez2, rfl, SqT.of hz2', atI_nat (j := 2) rfl, rfl, ?_⟩
        have z := k _ (Same.refl H)
        rw [key _ hst] at z
        have e : decide (V.bl (inV (.str gg) (s.sig.map V.str)) = V.bl b) = (decide (gg ∈ s.sig) == b) := by rw [dec_bl, in_strs]
        show Q (.bl (decide (V.bl (inV (.str gg) (s.sig.map V.str)) = V.bl b))) H
        rw [e]
        exact z
      | _ =>
        refine iteF ⟨_, rfl, p, dx, _, rfl, I.hp, p_none, _, rfl, _, rfl, p, sv, a, P, s, rfl, A, fun v2 H2 s2 hv2 => ⟨rfl, ?_⟩⟩
        rw [hv2.dec]
        have z := k _ s2
        rw [key _ hst] at z
        exact z
end
end Aw

/-! landing, switched, stepped, outcomes. -/
namespace Aw
open PySem PySem.Spec PyProof.Rows L2

def spLanding : Sp := fun vs H Q _ => ∃ f us fl i, vs = [.ref f, .int (i : Nat)] ∧ H f = some (.lst us) ∧ IsDs H us (fl.map dStep) ∧ WfFlow fl ∧ i ≤ fl.length ∧ Q (.int (landing fl i : Nat)) H
def spSwitched : Sp := fun vs H Q _ => ∃ g n b sig, vs = [.ref g, .str n, .bl b] ∧ H g = some (.tup (sig.map V.str)) ∧ sig.length ≤ 100 ∧ ∀ v H', Same H H' → IsD H' v (dSig (switched sig n b)) → Q v H'
def spStepped (w : World) (C : Addr) : Sp := fun vs H Q _ => ∃ p sv a spv gv P s x sig, vs = [.ref p, sv, .int (a : Nat), spv, gv] ∧ Asks w C H p sv a P s ∧ IsD H spv (dSpot x) ∧ IsD H gv (dSig sig) ∧ WfFlow (flowAt P a) ∧ x.ix ≤ (flowAt P a).length ∧
  ∀ v H', Same H H' → IsD H' v (dSt (stepped P s a x sig)) → Q v H'
def spOutcomes (w : World) (C : Addr) : Sp := fun vs H Q _ => ∃ p sv a P s, vs = [.ref p, sv, .int (a : Nat)] ∧ Asks w C H p sv a P s ∧ WfP P ∧ WfS P s ∧ ∀ l us H', Same H H' → H l = none → H' l = some (.lst us) → IsDs H' us ((outs P s a).map dSt) → Q (.ref l) H'
structure DTxt (K : PySem.W.Frag) (mg : Str → Option Value) : Prop where
  len : mg "len" = none
  range : mg "range" = none
  list : mg "list" = none
  tuple : mg "tuple" = none
  enumerate : mg "enumerate" = none
theorem step_more {P : Pln} {s : St} {a : Nat} {x : Spot} {sig : List Str} : True := trivial
theorem set_map_dat {l : List Spot} {a : Nat} {y : Spot} : (l.set a y).map dSpot = (l.map dSpot).set a (dSpot y) := by rw [List.map_set]
section
variable {P : Program} {w : World} {K : PySem.W.Frag} {mg : Str → Option Value} {base : Heap} {C : Addr}
theorem scLanding : FnScope ["flow", "index"] ["flow", "index"] (defScope sLanding) := ⟨rfl, rfl, rfl, by decide +kernel, rfl, by decide +kernel, by decide +kernel⟩
theorem ok_landing {f : Addr} {fd : FuncData} (F : Fun K "landing" "landing" sLanding f fd) (T : DTxt K mg) : FnOk P w K mg base CX0 1 f fd ["flow", "index"] spLanding := by
  refine F.ok scLanding (fun vs H Q E h => ?_) (fun cdv A outer s H vs Q E hr h => ?_)
  · obtain ⟨f, us, fl, i, rfl, _⟩ := h
    rfl
  · obtain ⟨f, us, fl, i, rfl, hf, hu, wf, hi, k⟩ := h
    have hul : us.length = fl.length := by rw [hu.length, List.length_map]
    refine ⟨_, pss_cons (ps_while PassesOwn.never (PW.pt (pw_and (pt_cmpR op_lt (pv 1) (pe_callB call_len_seq (by rfl) T.len PySem.boot_len (pa_cons (pv 0) pa_nil)) (nomark _))
          (pw_and1 (pt_cmpR op_eq (pe_ix ix_tup (pe_ix ix_list (pv 0) (pv 1) (fun _ _ => rfl)) pe_int (fun _ _ => rfl)) pe_str (nomark _)))))
        (pss_one (ps_set (i := 1) scLanding.nd rfl (Or.inl rfl) (pe_ix ix_tup (pe_ix ix_list (pv 0) (pv 1) (fun _ _ => rfl)) pe_int (fun _ _ => rfl)))))
      (pss_one (ps_ret (pv 1))), ?_⟩
    refine ⟨fun m σ H' => H' = H ∧ ∃ j, σ = [some (.ref f), some (.int (j : Nat))] ∧ j ≤ fl.length ∧ m = fl.length - j ∧ landing fl j = landing fl i, ⟨_, rfl, i, rfl, hi, rfl, rfl⟩, ?_⟩
    rintro m σ H' ⟨rfl, j, rfl, hj, rfl, hl⟩
    refine ⟨_, rfl, _, rfl, _, _, rfl, .inl (SqL.of hf), _, _, rfl, rfl, _, rfl, ?_⟩
    have fin : (∀ n, fl[j]? ≠ some (.jump n)) → Q (.int (j : Nat)) H' := fun hn => by
      rw [← hl, landing_here hn] at k
      exact k
    refine ite2 (fun hc => ?_) (fun hc => ?_)
    · have hlt : j < fl.length := by
        have q := of_decide_eq_true hc
        omega
      obtain ⟨sp, hsp⟩ := get_some hlt
      obtain ⟨v, hv1, hv2⟩ := hu.get (i := j) (d := dStep sp) (get_map hsp)
      obtain ⟨zz, ww, rr, ez, hzz⟩ := step_open hv2
      refine ⟨_, rfl, _, rfl, _, _, _, _, rfl, rfl, SqL.of hf, atI_nat hv1, _, _, _, _, ez, rfl, SqT.of hzz, atI_nat (j := 0) rfl, rfl, _, rfl, ?_⟩
      rw [word_jump]
      cases sp with
      | jump n =>
        obtain ⟨z2, ez2, hz2⟩ := step_jump hv2
        have wj : j < n ∧ n ≤ fl.length := wf j _ hsp
        refine iteT ⟨fun σ' H'' => H'' = H' ∧ σ' = [some (.ref f), some (.int (n : Nat))], fun σ' H'' ⟨e1, e2⟩ => ⟨fl.length - n, by omega, e1, n, e2, wj.2, rfl, ?_⟩, ?_⟩
        · rw [← hl, landing_jump hsp wj.1]
        · exact ⟨_, rfl, _, rfl, _, _, _, _, rfl, rfl, SqL.of hf, atI_nat hv1, _, _, _, _, ez2, rfl, SqT.of hz2, atI_nat (j := 1) rfl, rfl, rfl⟩
      | _ => exact iteF ⟨_, rfl, fin fun n e => by rw [hsp] at e; cases e⟩
    · refine iteF ⟨_, rfl, fin fun n e => ?_⟩
      have q := (List.getElem?_eq_some_iff.mp e).1
      exact hc (decide_eq_true (by omega))
theorem scSwitched : FnScope ["signals", "name", "on", "other"] ["signals", "name", "on"] (defScope sSwitched) := ⟨rfl, rfl, rfl, by decide +kernel, rfl, by decide +kernel, by decide +kernel⟩
theorem filter_take {α : Type} {l : List α} {p : α → Bool} {i : Nat} {x : α} (h : l[i]? = some x) : (l.take (i + 1)).filter p = (l.take i).filter p ++ (if p x = true then [x] else []) := by
  have e : l.take (i + 1) = l.take i ++ [x] := by
    rw [List.take_succ, h]
    rfl
  rw [e, List.filter_append]
  congr 1
  rw [List.filter_cons, List.filter_nil]
theorem ok_switched {f : Addr} {fd : FuncData} (F : Fun K "switched" "switched" sSwitched f fd) (T : DTxt K mg) : FnOk P w K mg base CX0 1 f fd ["signals", "name", "on"] spSwitched := by
  refine F.ok scSwitched (fun vs H Q E h => ?_) (fun cdv A outer s H vs Q E hr h => ?_)
  · obtain ⟨g, n, b, sig, rfl, _⟩ := h
    rfl
  · obtain ⟨g, n, b, sig, rfl, hg, hz, k⟩ := h
    refine ⟨_, pss_cons (ps_if (pt_val (pv 2)) (pss_one (ps_ret (pe_ifExp (pt_cmpR op_in_seq (pv 1) (pv 0) (by rfl)) (pv 0) (pe_op op_catA (pv 0) (pe_tup (pa_cons (pv 1) pa_nil)))))) pss_nil)
      (pss_one (ps_ret (pe_callTy call_tuple_of (by rfl) T.tuple (by decide +kernel) (pa_cons (pe_lc (own := [("other", 3)]) (g := gName 3) rfl scSwitched.nd (pi_tup (pv 0)) (blkOk_by (N := ["signals", "name", "on", "other"]) (sc := defScope sSwitched) (by decide +kernel))
        (fun _ _ _ _ _ => pg_name (i := 3) scSwitched.nd rfl (Or.inl rfl)) (fun _ _ _ _ _ => pts_one (pt_cmpR op_ne (pv 3) (pv 1) (nomark _))) (fun _ _ _ _ _ => pv 3)) pa_nil)))), ?_⟩
    refine ⟨_, rfl, _, rfl, ?_⟩
    cases b with
    | true =>
      refine iteT ⟨_, rfl, _, rfl, g, sig.map V.str, rfl, .inr (SqT.of hg), rfl, flat_strs _, _, rfl, ?_⟩
      show if inV (V.str n) (sig.map V.str) = true then _ else _
      rw [in_strs]
      refine ite2 (fun hc => ?_) (fun hc => ?_)
      · refine ⟨_, rfl, k _ _ (Same.refl H) ?_⟩
        unfold switched
        rw [if_pos rfl, if_pos (of_decide_eq_true hc)]
        exact .tup hg (sig_is sig)
      · have hn : ¬ n ∈ sig := fun z => hc (decide_eq_true z)
        refine ⟨_, rfl, _, rfl, line1, fun r hr0 => ?_⟩
        have sm := same_new (H := H) (o := .tup [.str n]) hr0
        refine ⟨g, r, sig.map V.str, [.str n], rfl, rfl, SqT.of (sm _ _ hg), SqT.of upd_same, ?_, fun e => ?_, fun _ e => (nomatch e), fun _ _ q hq0 => ?_⟩
        · show (sig.map V.str).length + 1 ≤ sizeLine
          rw [List.length_map]
          exact len_line (by omega)
        · have e2 : sig = [] := by simpa using e
          refine k _ _ sm ?_
          unfold switched
          rw [if_pos rfl, if_neg hn, e2]
          exact .tup upd_same (.cons (.str n) .nil)
        · refine k _ _ (sm.new hq0) ?_
          unfold switched
          rw [if_pos rfl, if_neg hn]
          have z : IsDs (upd (upd H r (.tup [.str n])) q (.tup (sig.map V.str ++ [.str n]))) ((sig ++ [n]).map V.str) ((sig ++ [n]).map Dat.str) := sig_is _
          rw [List.map_append] at z
          exact .tup upd_same z
    | false =>
      refine iteF ⟨_, rfl, g, rfl, ⟨_, SqT.of hg⟩, fun D hD => ?_⟩
      refine lc_tup (K := K) (a := g) (xs := sig.map V.str) (fun i H' => Same H H' ∧ H' D = some (.lst (((sig.take i).filter fun o => decide (o ≠ n)).map V.str))) ⟨same_new hD, upd_same⟩ (fun i H' _ ⟨s1, _⟩ => SqT.of (s1 _ _ hg)) ?_ ?_
      · rintro i y H' hy ⟨s1, hD1⟩
        rw [List.getElem?_map] at hy
        cases hsi : sig[i]? with
        | none =>
          rw [hsi] at hy
          cases hy
        | some z =>
          rw [hsi] at hy
          have ey : y = V.str z := (Option.some.inj hy).symm
          subst ey
          have flt := filter_take (p := fun o => decide (o ≠ n)) hsi
          refine ⟨rfl, _, rfl, _, rfl, rfl, _, rfl, ?_⟩
          have ed : (!decide (V.str z = V.str n)) = decide (z ≠ n) := by
            rw [dec_str]
            by_cases e : z = n <;> simp [e]
          rw [ed]
          refine ite2 (fun hc => ?_) (fun hc => ?_)
          · refine ⟨_, rfl, _, hD1, ?_, s1.put hD, ?_⟩
            · rw [List.length_map]
              have h1 := List.length_filter_le (fun o => decide (o ≠ n)) (sig.take i)
              have h2 := List.length_take_le i sig
              have h3 : (sig.take i).length ≤ sig.length := by rw [List.length_take]; omega
              exact lt_line (by omega)
            · rw [upd_same, flt, if_pos hc, List.map_append]
              rfl
          · refine ⟨s1, ?_⟩
            rw [flt, if_neg hc, List.append_nil]
            exact hD1
      · rintro H' ⟨s1, hD1⟩
        rw [List.length_map, List.take_length] at hD1
        refine ⟨D, _, rfl, .inl ⟨SqL.of hD1, fun l hl => k _ _ (s1.new hl) ?_⟩⟩
        exact .tup upd_same (sig_is _)
end
end Aw

/-! stepped, outcomes, first_state, the making of a plan. -/
namespace Aw
open PySem PySem.Spec PyProof.Rows L2

theorem dSig_is {H : Hp} {g : Addr} {sig : List Str} (h : H g = some (.tup (sig.map V.str))) : IsD H (.ref g) (dSig sig) := .tup h (sig_is sig)
theorem sig_few : ∀ {l : List Str}, l.Nodup → (∀ g ∈ l, g ∈ sigs) → l.length ≤ 2
  | [], _, _ => Nat.zero_le _
  | [_], _, _ => by show 1 ≤ 2; omega
  | [_, _], _, _ => Nat.le_refl _
  | a :: b :: c :: r, nd, h => by
    have ha := sig_cases (h a (by simp))
    have hb := sig_cases (h b (by simp))
    have hc := sig_cases (h c (by simp))
    simp only [List.nodup_cons, List.mem_cons, not_or] at nd
    obtain ⟨⟨n1, n2, _⟩, ⟨n3, _⟩, _⟩ := nd
    rcases ha with rfl | rfl <;> rcases hb with rfl | rfl <;> rcases hc with rfl | rfl <;> first | exact absurd rfl n1 | exact absurd rfl n2 | exact absurd rfl n3
theorem ix_set {n a : Nat} (h : a < n) : ixN n (a : Nat) = some a := by
  unfold ixN
  rw [if_pos (by omega), if_pos (by omega)]
  rfl
section
variable {P : Program} {w : World} {K : PySem.W.Frag} {mg : Str → Option Value} {base : Heap} {C : Addr}
theorem scStepped : FnScope ["self", "state", "arm", "spot", "signals", "spots", "at", "point", "held"] ["self", "state", "arm", "spot", "signals"] (defScope (pl 10)) := ⟨rfl, rfl, rfl, by decide +kernel, rfl, by decide +kernel, by decide +kernel⟩
theorem ok_stepped {f : Addr} {fd : FuncData} (F : Fun K "stepped" "Plan.stepped" (pl 10) f fd) (T : PTxt K mg C) (d1 : Dfn P w K mg base CX0 1 "landing" ["flow", "index"] spLanding) :
    FnOk P w K mg base CX0 2 f fd ["self", "state", "arm", "spot", "signals"] (spStepped w C) := by
  obtain ⟨f1, fd1, g1, k1, G1, b1⟩ := d1.ex
  refine F.ok scStepped (fun vs H Q E h => ?_) (fun cdv A outer s H vs Q E hr h => ?_)
  · obtain ⟨p, sv, a, spv, gv, P, s, x, sig, rfl, _⟩ := h
    rfl
  · obtain ⟨p, sv, a, spv, gv, P, s, x, sig, rfl, A, hspv, hgv, wf, hix, k⟩ := h
    obtain ⟨dx, fl, st, bl, fs, kvs, I⟩ := id A.pl
    obtain ⟨q, l, g, vs, S⟩ := st_open A.st
    obtain ⟨flw, hf⟩ := get_some A.arm
    rw [flowAt_eq hf] at wf hix
    obtain ⟨f', us, hf1, hf2, hf3⟩ := I.hfs.get hf
    obtain ⟨z, i1, p1, u1, ez, hz, hi1, hp1, hu1⟩ := hspv.tup3
    rw [hi1.int_eq, hp1.str_eq, held_open hu1] at hz
    have hvl : vs.length = P.flows.length := by rw [S.len, A.len]
    refine ⟨_, pss_cons (ps_set (i := 5) scStepped.nd rfl (Or.inl rfl) (pe_callTy call_list_of (by rfl) T.list (by decide +kernel) (pa_cons (pe_ix ix_tup (pv 1) pe_int (fun _ _ => rfl)) pa_nil)))
      (pss_cons (ps_asg (pv 3) (pg_tup rfl (pgs_cons (pg_name (i := 6) scStepped.nd rfl (Or.inl rfl)) (pgs_cons (pg_name (i := 7) scStepped.nd rfl (Or.inl rfl)) (pgs_cons (pg_name (i := 8) scStepped.nd rfl (Or.inl rfl)) pgs_nil)))))
      (pss_cons (ps_asg (pe_tup (pa_cons (pe_call G1 (hr.mono (by decide)) (by rfl) g1 k1 b1 .nil pass0 (pa_cons (pe_ix ix_list (pe_fld (pv 0) rfl) (pv 2) (fun _ _ => rfl)) (pa_cons (pv 6) pa_nil))) (pa_cons (pv 7) (pa_cons (pv 8) pa_nil))))
        (pg_sub (pv 5) (pv 2) set_list))
      (pss_one (ps_ret (pe_tup (pa_cons (pe_callTy call_tuple_of (by rfl) T.tuple (by decide +kernel) (pa_cons (pv 5) pa_nil)) (pa_cons (pv 4) pa_nil))))))), ?_⟩
    refine ⟨_, rfl, _, _, _, _, S.e, rfl, SqT.of S.hq, atI_nat (j := 0) rfl, l, vs, rfl, .inr (SqT.of S.hl), fun L hL => ?_⟩
    have s1 := same_new (H := H) (o := .lst vs) hL
    have I1 := I.up s1
    refine ⟨_, rfl, z, _, ez, SqT.of (s1 _ _ hz), rfl, _, _, rfl, _, _, rfl, _, _, rfl, rfl, ?_⟩
    refine ⟨_, rfl, p, C, dx, _, _, rfl, I1.hp, T.cl, T.nF, lk_flows _ _ _, _, rfl, _, _, _, _, rfl, rfl, SqL.of I1.hfl, atI_nat (get_map hf1), _, rfl, ?_⟩
    refine ⟨f', us, flw, x.ix, rfl, s1 _ _ hf2, hf3.up s1, wf, hix, _, rfl, _, rfl, line3, fun r hr0 => ?_⟩
    have s2 := s1.new (o := .tup [.int (landing flw x.ix : Nat), .str x.pt, vHeld x.held]) hr0
    have nLr : L ≠ r := ne_of_none (upd_same (H := H) (o := .lst vs)) hr0
    refine ⟨_, rfl, _, rfl, L, vs, _, _, rfl, rfl, by rw [upd_ne nLr]; exact upd_same, ix_set (by rw [hvl]; exact A.arm), ?_⟩
    have s3 := s2.put (o := .lst (vs.set a (.ref r))) hL
    refine ⟨_, rfl, L, _, rfl, .inl ⟨SqL.of upd_same, fun m hm => ⟨_, rfl, line2, fun n hn => ?_⟩⟩⟩
    have s4 := s3.new (o := .tup (vs.set a (.ref r))) hm
    have s5 := s4.new (o := .tup [.ref m, gv]) hn
    refine k _ _ s5 ?_
    unfold stepped
    rw [flowAt_eq hf]
    have nrL : r ≠ L := Ne.symm nLr
    have hrt : upd (upd (upd H L (.lst vs)) r (.tup [.int (landing flw x.ix : Nat), .str x.pt, vHeld x.held])) L (.lst (vs.set a (.ref r))) r = some (.tup [.int (landing flw x.ix : Nat), .str x.pt, vHeld x.held]) := by
      rw [upd_ne nrL]
      exact upd_same
    have t4 := same_new (o := .tup (vs.set a (.ref r))) hm
    have t5 := t4.new (o := .tup [.ref m, gv]) hn
    refine .tup upd_same (.cons (.tup (vs := vs.set a (.ref r)) ?_ ?_) (.cons (hgv.up s5) .nil))
    · exact (same_new hn) _ _ upd_same
    · rw [set_map_dat]
      refine IsDs.set ?_ a (S.hv.up s5)
      exact .tup (t5 _ _ hrt) (.cons (.int _) (.cons (.str _) (.cons (held_is _) .nil)))
theorem int1 {H : Hp} (n : Nat) : IsD H (.int ((n : Nat) + 1)) (.int ((n + 1 : Nat) : Int)) := .int _
theorem scOutcomes : FnScope ["self", "state", "arm", "step", "at", "point", "held", "signals", "after"] ["self", "state", "arm"] (defScope (pl 11)) := ⟨rfl, rfl, rfl, by decide +kernel, rfl, by decide +kernel, by decide +kernel⟩
theorem ok_outcomes {f : Addr} {fd : FuncData} (F : Fun K "outcomes" "Plan.outcomes" (pl 11) f fd) (T : PTxt K mg C) (d1 : Dfn P w K mg base CX0 1 "switched" ["signals", "name", "on"] spSwitched)
    (m1 : Mth P w K mg base CX0 C 2 "stepped" ["self", "state", "arm", "spot", "signals"] (spStepped w C)) (m2 : Mth P w K mg base CX0 C 1 "step_of" ["self", "state", "arm"] (spStepOf w C)) :
    FnOk P w K mg base CX0 3 f fd ["self", "state", "arm"] (spOutcomes w C) := by
  obtain ⟨f1, fd1, mm1, G1, b1⟩ := m1.ex
  obtain ⟨f2, fd2, mm2, G2, b2⟩ := m2.ex
  obtain ⟨f3, fd3, g3, k3, G3, b3⟩ := d1.ex
  refine F.ok scOutcomes (fun vs H Q E h => ?_) (fun cdv A outer s H vs Q E hr h => ?_)
  · obtain ⟨p, sv, a, P, s, rfl, _⟩ := h
    rfl
  · obtain ⟨p, sv, a, P, s, rfl, A, W, S0, k⟩ := h
    obtain ⟨dx, fl, st, bl, fs, kvs, I⟩ := id A.pl
    obtain ⟨q, l, g, vs, S⟩ := st_open A.st
    obtain ⟨flw, hf⟩ := get_some A.arm
    obtain ⟨x, hx⟩ := get_some (l := s.spots) (i := a) (by rw [A.len]; exact A.arm)
    obtain ⟨z, hz, hz2⟩ := S.spot hx
    have wf : WfFlow (flowAt P a) := by
      rw [flowAt_eq hf]
      exact W.wf flw (mem_of_get hf)
    have hr1 : Room 1 _ := hr.mono (by decide)
    have eo : ∀ o, stepOf P s a = o → outs P s a = outsBy P s a x o := fun o e => by
      unfold outs
      rw [e, spotAt_eq hx]
    have e0 : stepOf P s a = flw[x.ix]? := by
      unfold stepOf
      rw [flowAt_eq hf, spotAt_eq hx]
    refine ⟨_, pss_cons (ps_set (i := 3) scOutcomes.nd rfl (Or.inl rfl) (pe_meth (pv 0) T.cl mm2 G2 hr1 b2 .nil pass0 (pa_cons (pv 1) (pa_cons (pv 2) pa_nil))))
      (pss_cons (ps_if (pt_cmpR op_isN (pv 3) pe_non (nomark _)) (pss_one (ps_ret (pe_lst pa_nil))) pss_nil)
      (pss_cons (ps_asg (pe_ix ix_tup (pe_ix ix_tup (pv 1) pe_int (fun _ _ => rfl)) (pv 2) (fun _ _ => rfl))
        (pg_tup rfl (pgs_cons (pg_name (i := 4) scOutcomes.nd rfl (Or.inl rfl)) (pgs_cons (pg_name (i := 5) scOutcomes.nd rfl (Or.inl rfl)) (pgs_cons (pg_name (i := 6) scOutcomes.nd rfl (Or.inl rfl)) pgs_nil)))))
      (pss_cons (ps_if (pt_cmpR op_eq (pe_ix ix_tup (pv 3) pe_int (fun _ _ => rfl)) pe_str (nomark _))
        (pss_one (ps_ret (pe_lst (pa_cons (pe_meth (pv 0) T.cl mm1 G1 hr b1 .nil pass0 (pa_cons (pv 1) (pa_cons (pv 2) (pa_cons (pe_tup (pa_cons (pe_op op_add (pv 4) pe_int) (pa_cons (pe_ix ix_tup (pv 3) pe_int (fun _ _ => rfl)) (pa_cons (pv 6) pa_nil)))) (pa_cons (pe_ix ix_tup (pv 1) pe_int (fun _ _ => rfl)) pa_nil))))) pa_nil)))) pss_nil)
      (pss_cons (ps_if (pt_cmpR op_eq (pe_ix ix_tup (pv 3) pe_int (fun _ _ => rfl)) pe_str (nomark _))
        (pss_one (ps_ret (pe_lst (pa_cons (pe_meth (pv 0) T.cl mm1 G1 hr b1 .nil pass0 (pa_cons (pv 1) (pa_cons (pv 2) (pa_cons (pe_tup (pa_cons (pe_op op_add (pv 4) pe_int) (pa_cons (pv 5) (pa_cons (pe_ix ix_tup (pv 3) pe_int (fun _ _ => rfl)) pa_nil)))) (pa_cons (pe_ix ix_tup (pv 1) pe_int (fun _ _ => rfl)) pa_nil))))) pa_nil)))) pss_nil)
      (pss_cons (ps_if (pt_cmpR op_eq (pe_ix ix_tup (pv 3) pe_int (fun _ _ => rfl)) pe_str (nomark _))
        (pss_cons (ps_set (i := 7) scOutcomes.nd rfl (Or.inl rfl) (pe_call G3 hr1 (by rfl) g3 k3 b3 .nil pass0 (pa_cons (pe_ix ix_tup (pv 1) pe_int (fun _ _ => rfl)) (pa_cons (pe_ix ix_tup (pv 3) pe_int (fun _ _ => rfl)) (pa_cons (pe_ix ix_tup (pv 3) pe_int (fun _ _ => rfl)) pa_nil)))))
        (pss_one (ps_ret (pe_lst (pa_cons (pe_meth (pv 0) T.cl mm1 G1 hr b1 .nil pass0 (pa_cons (pv 1) (pa_cons (pv 2) (pa_cons (pe_tup (pa_cons (pe_op op_add (pv 4) pe_int) (pa_cons (pv 5) (pa_cons (pv 6) pa_nil)))) (pa_cons (pv 7) pa_nil))))) pa_nil))))) pss_nil)
      (pss_cons (ps_set (i := 8) scOutcomes.nd rfl (Or.inl rfl) (pe_meth (pv 0) T.cl mm1 G1 hr b1 .nil pass0 (pa_cons (pv 1) (pa_cons (pv 2) (pa_cons (pe_tup (pa_cons (pe_op op_add (pv 4) pe_int) (pa_cons (pv 5) (pa_cons (pv 6) pa_nil)))) (pa_cons (pe_ix ix_tup (pv 1) pe_int (fun _ _ => rfl)) pa_nil))))))
      (pss_cons (ps_if (pt_cmpR op_eq (pe_ix ix_tup (pv 3) pe_int (fun _ _ => rfl)) pe_str (nomark _))
        (pss_one (ps_ret (pe_lst (pa_cons (pv 8) (pa_cons (pe_meth (pv 0) T.cl mm1 G1 hr b1 .nil pass0 (pa_cons (pv 1) (pa_cons (pv 2) (pa_cons (pe_tup (pa_cons (pe_ix ix_tup (pv 3) pe_int (fun _ _ => rfl)) (pa_cons (pv 5) (pa_cons (pv 6) pa_nil)))) (pa_cons (pe_ix ix_tup (pv 1) pe_int (fun _ _ => rfl)) pa_nil))))) pa_nil))))) pss_nil)
      (pss_one (ps_ret (pe_lst (pa_cons (pv 8) pa_nil))))))))))), ?_⟩
    refine ⟨_, rfl, p, dx, _, rfl, I.hp, p_none, _, rfl, _, rfl, p, sv, a, P, s, rfl, A, fun v hv => ?_⟩
    refine ⟨_, rfl, rfl, _, rfl, ?_⟩
    rw [hv.dec]
    cases hst : stepOf P s a with
    | none => exact iteT ⟨Nat.zero_le _, fun L hL => k L [] _ (same_new hL) hL upd_same (by rw [eo _ hst]; exact .nil)⟩
    | some sp =>
      rw [hst] at hv
      have hst2 := hst
      rw [e0] at hst2
      have hlt : x.ix < flw.length := (List.getElem?_eq_some_iff.mp hst2).1
      have hlt2 : x.ix + 1 ≤ (flowAt P a).length := by
        rw [flowAt_eq hf]
        exact hlt
      have wst := W.wf flw (mem_of_get hf) _ _ hst2
      obtain ⟨zz, ww, rr, ez, hzz⟩ := step_open (show IsD H v (dStep sp) from hv)
      refine iteF ⟨_, rfl, _, _, _, _, S.e, rfl, SqT.of S.hq, atI_nat (j := 0) rfl, _, rfl, _, _, _, _, rfl, rfl, SqT.of S.hl, atI_nat hz, _, _, rfl, SqT.of hz2, rfl, _, _, rfl, _, _, rfl, _, _, rfl, rfl, ?_⟩
      refine ⟨_, rfl, _, _, _, _, ez, rfl, SqT.of hzz, atI_nat (j := 0) rfl, rfl, _, rfl, ?_⟩
      rw [word_move]
      -- the one new state, in a new list
      have one : ∀ (H1 : Hp) (v1 : V) (o : St), Same H H1 → outs P s a = [o] → IsD H1 v1 (dSt o) → ∀ L, H1 L = none → Q (.ref L) (upd H1 L (.lst [v1])) := fun H1 v1 o s1 e h1 L hL =>
        k L [v1] _ (s1.new hL) (s1.free hL) upd_same (by rw [e]; exact .cons (h1.up (same_new hL)) .nil)
      -- from the test of hold on
      have isW : ∀ {w' : Str}, True := trivial
      cases sp with
      | move qq =>
        obtain ⟨z2, ez2, hz2'⟩ := step_move (show IsD H v (dStep (.move qq)) from hv)
        refine iteT ⟨_, rfl, p, dx, _, rfl, I.hp, p_none, _, rfl, _, rfl, _, rfl, _, _, rfl, rfl, _, rfl, _, _, _, _, ez2, rfl, SqT.of hz2', atI_nat (j := 1) rfl, _, rfl, line3, fun r hr0 => ?_⟩
        have s1 := same_new (H := H) (o := .tup [.int ((x.ix : Nat) + 1), .str qq, vHeld x.held]) hr0
        refine ⟨_, rfl, _, _, _, _, S.e, rfl, SqT.of (s1 _ _ S.hq), atI_nat (j := 1) rfl, p, sv, a, _, _, P, s, ⟨x.ix + 1, qq, x.held⟩, s.sig, rfl, A.up s1, IsD.made hr0 (.cons (int1 _) (.cons (.str _) (.cons (held_is _) .nil))), dSig_is (s1 _ _ S.hg), wf, hlt2, fun v1 H1 s2 h1 => ⟨line1, ?_⟩⟩
        exact one H1 v1 _ (s1.trans s2) (eo _ hst) h1
      | hold qq =>
        obtain ⟨z2, ez2, hz2'⟩ := step_hold (show IsD H v (dStep (.hold qq)) from hv)
        refine iteF ⟨_, rfl, _, _, _, _, ez, rfl, SqT.of hzz, atI_nat (j := 0) rfl, rfl, _, rfl, ?_⟩
        rw [word_hold]
        refine iteT ⟨_, rfl, p, dx, _, rfl, I.hp, p_none, _, rfl, _, rfl, _, rfl, _, _, rfl, rfl, _, rfl, _, rfl, _, _, _, _, ez2, rfl, SqT.of hz2', atI_nat (j := 1) rfl, line3, fun r hr0 => ?_⟩
        have s1 := same_new (H := H) (o := .tup [.int ((x.ix : Nat) + 1), .str x.pt, vHeld qq]) hr0
        refine ⟨_, rfl, _, _, _, _, S.e, rfl, SqT.of (s1 _ _ S.hq), atI_nat (j := 1) rfl, p, sv, a, _, _, P, s, ⟨x.ix + 1, x.pt, qq⟩, s.sig, rfl, A.up s1, IsD.made hr0 (.cons (int1 _) (.cons (.str _) (.cons (held_is _) .nil))), dSig_is (s1 _ _ S.hg), wf, hlt2, fun v1 H1 s2 h1 => ⟨line1, ?_⟩⟩
        exact one H1 v1 _ (s1.trans s2) (eo _ hst) h1
      | set gg b =>
        obtain ⟨z2, ez2, hz2'⟩ := step_set (show IsD H v (dStep (.set gg b)) from hv)
        refine iteF ⟨_, rfl, _, _, _, _, ez, rfl, SqT.of hzz, atI_nat (j := 0) rfl, rfl, _, rfl, ?_⟩
        rw [word_hold]
        refine iteF ⟨_, rfl, _, _, _, _, ez, rfl, SqT.of hzz, atI_nat (j := 0) rfl, rfl, _, rfl, ?_⟩
        rw [word_set]
        refine iteT ⟨_, rfl, _, _, _, _, S.e, rfl, SqT.of S.hq, atI_nat (j := 1) rfl, _, rfl, _, _, _, _, ez2, rfl, SqT.of hz2', atI_nat (j := 1) rfl, _, rfl, _, _, _, _, ez2, rfl, SqT.of hz2', atI_nat (j := 2) rfl, ?_⟩
        have hsl : s.sig.length ≤ 100 := by
          have h1 := sig_few S0.nd S0.sg
          omega
        refine ⟨g, gg, b, s.sig, rfl, S.hg, hsl, fun gv H0 s0 hgv => ?_⟩
        refine ⟨_, rfl, p, dx, _, rfl, (I.up s0).hp, p_none, _, rfl, _, rfl, _, rfl, _, _, rfl, rfl, _, rfl, _, rfl, line3, fun r hr0 => ?_⟩
        have s1 := s0.new (o := .tup [.int ((x.ix : Nat) + 1), .str x.pt, vHeld x.held]) hr0
        refine ⟨_, rfl, p, sv, a, _, _, P, s, ⟨x.ix + 1, x.pt, x.held⟩, _, rfl, A.up s1, IsD.made hr0 (.cons (int1 _) (.cons (.str _) (.cons (held_is _) .nil))), hgv.up (same_new hr0), wf, hlt2, fun v1 H1 s2 h1 => ⟨line1, ?_⟩⟩
        exact one H1 v1 _ (s1.trans s2) (eo _ hst) h1
      | iff ii n =>
        obtain ⟨z2, ez2, hz2'⟩ := step_if (show IsD H v (dStep (.iff ii n)) from hv)
        refine iteF ⟨_, rfl, _, _, _, _, ez, rfl, SqT.of hzz, atI_nat (j := 0) rfl, rfl, _, rfl, ?_⟩
        rw [word_hold]
        refine iteF ⟨_, rfl, _, _, _, _, ez, rfl, SqT.of hzz, atI_nat (j := 0) rfl, rfl, _, rfl, ?_⟩
        rw [word_set]
        refine iteF ⟨_, rfl, p, dx, _, rfl, I.hp, p_none, _, rfl, _, rfl, _, rfl, _, _, rfl, rfl, _, rfl, _, rfl, line3, fun r hr0 => ?_⟩
        have s1 := same_new (H := H) (o := .tup [.int ((x.ix : Nat) + 1), .str x.pt, vHeld x.held]) hr0
        refine ⟨_, rfl, _, _, _, _, S.e, rfl, SqT.of (s1 _ _ S.hq), atI_nat (j := 1) rfl, p, sv, a, _, _, P, s, ⟨x.ix + 1, x.pt, x.held⟩, s.sig, rfl, A.up s1, IsD.made hr0 (.cons (int1 _) (.cons (.str _) (.cons (held_is _) .nil))), dSig_is (s1 _ _ S.hg), wf, hlt2, fun v1 H1 s2 h1 => ?_⟩
        have s3 := s1.trans s2
        refine ⟨_, rfl, _, _, _, _, ez, rfl, SqT.of (s3 _ _ hzz), atI_nat (j := 0) rfl, rfl, _, rfl, ?_⟩
        rw [word_if]
        refine iteT ⟨_, rfl, _, rfl, p, dx, _, rfl, (I.up s3).hp, p_none, _, rfl, _, rfl, _, rfl, _, _, _, _, ez2, rfl, SqT.of (s3 _ _ hz2'), atI_nat (j := 2) rfl, _, rfl, _, rfl, line3, fun r2 hr2 => ?_⟩
        have s4 := s3.new (o := .tup [.int (n : Nat), .str x.pt, vHeld x.held]) hr2
        have s34 := same_new (H := H1) (o := .tup [.int (n : Nat), .str x.pt, vHeld x.held]) hr2
        refine ⟨_, rfl, _, _, _, _, S.e, rfl, SqT.of (s4 _ _ S.hq), atI_nat (j := 1) rfl, p, sv, a, _, _, P, s, ⟨n, x.pt, x.held⟩, s.sig, rfl, A.up s4, IsD.made hr2 (.cons (.int _) (.cons (.str _) (.cons (held_is _) .nil))), dSig_is (s4 _ _ S.hg), wf, by rw [flowAt_eq hf]; exact wst.2, fun v2 H2 s5 h2 => ⟨line2, fun L hL => ?_⟩⟩
        refine k L [v1, v2] _ ((s4.trans s5).new hL) ((s4.trans s5).free hL) upd_same ?_
        rw [eo _ hst]
        exact .cons ((h1.up (s34.trans s5)).up (same_new hL)) (.cons (h2.up (same_new hL)) .nil)
      | _ =>
        refine iteF ⟨_, rfl, _, _, _, _, ez, rfl, SqT.of hzz, atI_nat (j := 0) rfl, rfl, _, rfl, ?_⟩
        rw [word_hold]
        refine iteF ⟨_, rfl, _, _, _, _, ez, rfl, SqT.of hzz, atI_nat (j := 0) rfl, rfl, _, rfl, ?_⟩
        rw [word_set]
        refine iteF ⟨_, rfl, p, dx, _, rfl, I.hp, p_none, _, rfl, _, rfl, _, rfl, _, _, rfl, rfl, _, rfl, _, rfl, line3, fun r hr0 => ?_⟩
        have s1 := same_new (H := H) (o := .tup [.int ((x.ix : Nat) + 1), .str x.pt, vHeld x.held]) hr0
        refine ⟨_, rfl, _, _, _, _, S.e, rfl, SqT.of (s1 _ _ S.hq), atI_nat (j := 1) rfl, p, sv, a, _, _, P, s, ⟨x.ix + 1, x.pt, x.held⟩, s.sig, rfl, A.up s1, IsD.made hr0 (.cons (int1 _) (.cons (.str _) (.cons (held_is _) .nil))), dSig_is (s1 _ _ S.hg), wf, hlt2, fun v1 H1 s2 h1 => ?_⟩
        have s3 := s1.trans s2
        refine ⟨_, rfl, _, _, _, _, ez, rfl, SqT.of (s3 _ _ hzz), atI_nat (j := 0) rfl, rfl, _, rfl, ?_⟩
        rw [word_if]
        refine iteF ⟨_, rfl, line1, ?_⟩
        exact one H1 v1 _ s3 (eo _ hst) h1
end
end Aw

/-! first_state, the making of a plan. -/
namespace Aw
open PySem PySem.Spec PyProof.Rows L2

def first (P : Pln) : St := ⟨List.zipWith (fun fl p => ⟨landing fl 0, p, none⟩) P.flows P.starts, []⟩
theorem first_wf {P : Pln} (W : WfP P) : WfS P (first P) := by
  refine ⟨?_, ?_, List.nodup_nil, fun g h => nomatch h⟩
  · show (List.zipWith _ P.flows P.starts).length = _
    rw [List.length_zipWith, W.st]
    omega
  · intro a fl x hf hx
    have hx : (List.zipWith (fun fl p => (⟨landing fl 0, p, none⟩ : Spot)) P.flows P.starts)[a]? = some x := hx
    rw [List.getElem?_zipWith, hf] at hx
    cases hs : P.starts[a]? with
    | none =>
      rw [hs] at hx
      cases hx
    | some p =>
      rw [hs] at hx
      have e : (⟨landing fl 0, p, none⟩ : Spot) = x := Option.some.inj hx
      rw [← e]
      exact ⟨landing_top (W.wf fl (mem_of_get hf)) (Nat.zero_le _), W.sp p (mem_of_get hs), by simp [helds]⟩
/-- all but p stays -/
def But (p : Addr) (H H' : Hp) : Prop := ∀ b o, b ≠ p → H b = some o → H' b = some o
theorem But.trans {p : Addr} {H H1 H2 : Hp} (a : But p H H1) (b : But p H1 H2) : But p H H2 := fun c o n e => b c o n (a c o n e)
theorem _root_.L2.Same.but {p : Addr} {H H' : Hp} (s : Same H H') : But p H H' := fun b o _ e => s b o e
theorem But.put {p : Addr} {H : Hp} {o : HO} : But p H (upd H p o) := fun b u n e => by
  rw [upd_ne n]
  exact e
theorem But.tups {p : Addr} {H H' : Hp} (a : But p H H') {C dx : Addr} {fs : List (Str × V)} (hp : H p = some (.ins C dx fs)) : Tups H H' := fun b vs e => a b _ (ne_of e hp (fun z => nomatch z)) e
theorem But.lst {p : Addr} {H H' : Hp} (a : But p H H') {C dx : Addr} {fs : List (Str × V)} (hp : H p = some (.ins C dx fs)) {l : Addr} {vs : List V} (e : H l = some (.lst vs)) : H' l = some (.lst vs) := a l _ (ne_of e hp (fun z => nomatch z)) e
theorem But.flows {p : Addr} {H H' : Hp} (a : But p H H') {C dx : Addr} {fs : List (Str × V)} (hp : H p = some (.ins C dx fs)) : ∀ {as : List Addr} {fl : List (List Step)}, FlowsAt H as fl → FlowsAt H' as fl
  | _, _, .nil => .nil
  | _, _, .cons ⟨vs, h1, h2⟩ t => .cons ⟨vs, a.lst hp h1, h2.mono (a.tups hp)⟩ (But.flows a hp t)
theorem But.nd {w : World} {p : Addr} {H H' : Hp} (a : But p H H') {C dx : Addr} {fs : List (Str × V)} (hp : H p = some (.ins C dx fs)) {b : Addr} {kvs : List (NestedKey × Bool)} (h : NDict w H b kvs) : NDict w H' b kvs := by
  obtain ⟨xs, h1, h2, h3, h4, h5⟩ := h.ex
  exact ⟨xs, a b _ (ne_of h1 hp (fun z => nomatch z)) h1, h2, fun x hx => (h3 x hx).mono (a.tups hp), h4, h5⟩
theorem FlowsAt.snoc {H : Hp} {f : Addr} {fl : List Step} (h : ∃ vs, H f = some (.lst vs) ∧ IsDs H vs (fl.map dStep)) : ∀ {as : List Addr} {fs : List (List Step)}, FlowsAt H as fs → FlowsAt H (as ++ [f]) (fs ++ [fl])
  | _, _, .nil => .cons h .nil
  | _, _, .cons g t => .cons g (FlowsAt.snoc h t)
theorem take_more {α : Type} {l : List α} {i : Nat} {x : α} (h : l[i]? = some x) : l.take (i + 1) = l.take i ++ [x] := by
  rw [List.take_succ, h]
  rfl
theorem lt_of_2000 {n : Nat} (h : n ≤ 3000) : n < sizeLine := by
  rw [sizeLine_eq]
  omega
theorem two_fields (f g : Str) (x y : V) : (putF f x (putF g y [])).length < 1000 := by
  have h1 := length_putF f x (putF g y [])
  have h2 := length_putF g y []
  simp only [List.length_nil] at h2
  omega
theorem pf_is (fl st bl : Addr) : putF "blocks" (.ref bl) (putF "starts" (.ref st) (putF "flows" (.ref fl) [])) = pFields fl st bl := by
  have n1 : ¬ (("flows" : Str) = "starts") := by decide +kernel
  have n2 : ¬ (("flows" : Str) = "blocks") := by decide +kernel
  have n3 : ¬ (("starts" : Str) = "blocks") := by decide +kernel
  unfold putF putF putF
  simp only [n1, n2, n3, if_false, putF]
  rfl
def rListOf (K : PySem.W.Frag) : List V → Hp → VK → Prop := fun xs H Q => ∃ p ys, xs = [.ref p] ∧ (SqL K H p ys ∨ SqT K H p ys) ∧ ∀ l, H l = none → Q (.ref l) (upd H l (.lst ys))
theorem FlowsAt.at {H H' : Hp} (t : Tups H H') : ∀ {as : List Addr} {fs : List (List Step)}, (∀ f ∈ as, ∀ vs, H f = some (.lst vs) → H' f = some (.lst vs)) → FlowsAt H as fs → FlowsAt H' as fs
  | _, _, _, .nil => .nil
  | _, _, h, .cons ⟨vs, h1, h2⟩ r => .cons ⟨vs, h _ List.mem_cons_self vs h1, h2.mono t⟩ (FlowsAt.at t (fun f hf => h f (List.mem_cons_of_mem _ hf)) r)
theorem putLst_tups {H : Hp} {D : Addr} {xs ys : List V} (h : H D = some (.lst xs)) : Tups H (upd H D (.lst ys)) := fun b vs e => by
  rw [upd_ne (ne_of e h (fun z => nomatch z))]
  exact e
def spFirst (w : World) (C : Addr) : Sp := fun vs H Q _ => ∃ p P, vs = [.ref p] ∧ PlanAt w C H p P ∧ WfP P ∧ ∀ v H', Same H H' → IsD H' v (dSt (first P)) → Q v H'
def spPlanInit (w : World) (C : Addr) : Sp := fun vs H Q _ => ∃ p dx fl0 st0 bk0 fs0 flows starts bvs, vs = [.ref p, .ref fl0, .ref st0, .ref bk0] ∧ H p = some (.ins C dx []) ∧ H fl0 = some (.lst (fs0.map V.ref)) ∧ FlowsAt H fs0 flows ∧ H st0 = some (.lst (starts.map V.str)) ∧
  H bk0 = some (.lst bvs) ∧ (∀ v ∈ bvs, ∃ a pl o pl', IsD H v (dBlk a pl o pl')) ∧ bvs.length ≤ 1000 ∧ flows.length ≤ 4 ∧
  ∀ H' P', But p H H' → P'.flows = flows → P'.starts = starts → PlanAt w C H' p P' → Q .non H'
section
variable {P : Program} {w : World} {K : PySem.W.Frag} {mg : Str → Option Value} {base : Heap} {C : Addr}
theorem scFirst : FnScope ["self", "spots", "arm", "flow"] ["self"] (defScope (pl 2)) := ⟨rfl, rfl, rfl, by decide +kernel, rfl, by decide +kernel, by decide +kernel⟩
theorem ok_first {f : Addr} {fd : FuncData} (F : Fun K "first_state" "Plan.first_state" (pl 2) f fd) (T : PTxt K mg C) (d1 : Dfn P w K mg base CX0 1 "landing" ["flow", "index"] spLanding) :
    FnOk P w K mg base CX0 2 f fd ["self"] (spFirst w C) := by
  obtain ⟨f1, fd1, g1, k1, G1, b1⟩ := d1.ex
  refine F.ok scFirst (fun vs H Q E h => ?_) (fun cdv A outer s H vs Q E hr h => ?_)
  · obtain ⟨p, P, rfl, _⟩ := h
    rfl
  · obtain ⟨p, P, rfl, hP, W, k⟩ := h
    obtain ⟨dx, fl, st, bl, fs, kvs, I⟩ := id hP
    have hfl : fs.length = P.flows.length := I.hfs.len
    refine ⟨_, pss_cons (ps_set (i := 1) scFirst.nd rfl (Or.inl rfl) (pe_lst pa_nil))
      (pss_cons (ps_for PassesOwn.never rfl (pi_enum (by rfl) T.enumerate (pa_cons (pe_fld (pv 0) rfl) pa_nil)) (pg_tup rfl (pgs_cons (pg_name (i := 2) scFirst.nd rfl (Or.inl rfl)) (pgs_cons (pg_name (i := 3) scFirst.nd rfl (Or.inl rfl)) pgs_nil)))
        (pss_one (ps_expr (pe_bm PySem.F.plainAttrs_list PySem.F.slot_list_append PySem.F.type_list_append mt_append (pv 1)
          (pa_cons (pe_tup (pa_cons (pe_call G1 hr (by rfl) g1 k1 b1 .nil pass0 (pa_cons (pv 3) (pa_cons pe_int pa_nil))) (pa_cons (pe_ix ix_list (pe_fld (pv 0) rfl) (pv 2) (fun _ _ => rfl)) (pa_cons pe_non pa_nil)))) pa_nil)))))
      (pss_one (ps_ret (pe_tup (pa_cons (pe_callTy call_tuple_of (by rfl) T.tuple (by decide +kernel) (pa_cons (pv 1) pa_nil)) (pa_cons (pe_tup pa_nil) pa_nil)))))), ?_⟩
    refine ⟨Nat.zero_le _, fun L hL => ?_⟩
    have s1 := same_new (H := H) (o := .lst []) hL
    have I1 := I.up s1
    refine ⟨_, rfl, p, C, dx, _, _, rfl, I1.hp, T.cl, T.nF, lk_flows _ _ _, fl, _, rfl, SqL.of I1.hfl, ?_⟩
    refine for_it (walk_enum (K := K) (a := fl) (xs := fs.map V.ref)) (fun i σ H' => Same H H' ∧ ∃ u1 u2 vs, σ = [some (.ref p), some (.ref L), u1, u2] ∧ H' L = some (.lst vs) ∧ IsDs H' vs (((first P).spots.take i).map dSpot)) ⟨s1, none, none, [], rfl, upd_same, .nil⟩
      (fun i σ H' _ ⟨s2, _⟩ => SqL.of (s2 _ _ I.hfl)) ?_ ?_
    · rintro i y σ H2 H3 hi ⟨s2, u1, u2, vs, rfl, hL2, hvs⟩ ⟨Tt, x1, y1, rfl, hT, rfl, ex, ey⟩
      have ex2 : x1 = .int (i : Nat) := (Option.some.inj ex).symm
      subst ex2
      rw [List.length_map, hfl] at hi
      obtain ⟨flw, hf⟩ := get_some hi
      obtain ⟨f', us, hf1, hf2, hf3⟩ := I.hfs.get hf
      have ey2 : y1 = .ref f' := by
        have q := get_map (f := V.ref) hf1
        exact (Option.some.inj (q.symm.trans ey)).symm
      subst ey2
      obtain ⟨sp, hsp⟩ := get_some (l := P.starts) (i := i) (by rw [W.st]; exact hi)
      have s3 := s2.new (o := .tup [.int (i : Nat), .ref f']) hT
      have s23 := same_new (H := H2) (o := .tup [.int (i : Nat), .ref f']) hT
      have I3 := I.up s3
      have wf := W.wf flw (mem_of_get hf)
      have hfirst : (first P).spots[i]? = some ⟨landing flw 0, sp, none⟩ := by
        show (List.zipWith _ P.flows P.starts)[i]? = _
        rw [List.getElem?_zipWith, hf, hsp]
      refine ⟨Tt, _, rfl, SqT.of upd_same, rfl, _, _, rfl, _, _, rfl, rfl, ?_⟩
      refine ⟨_, rfl, .inl ⟨rfl, _, SqL.of (s23 _ _ hL2)⟩, _, rfl, f', us, flw, 0, rfl, s3 _ _ hf2, hf3.up s3, wf, Nat.zero_le _, ?_⟩
      refine ⟨_, rfl, p, C, dx, _, _, rfl, I3.hp, T.cl, T.nS, lk_starts _ _ _, _, rfl, _, _, _, _, rfl, rfl, SqL.of I3.hst, atI_nat (get_map hsp), line3, fun r hr0 => ?_⟩
      have s4 := s3.new (o := .tup [.int (landing flw 0 : Nat), .str sp, .non]) hr0
      have s24 := s23.new (o := .tup [.int (landing flw 0 : Nat), .str sp, .non]) hr0
      have hvl : vs.length ≤ 4 := by
        rw [hvs.length, List.length_map, List.length_take]
        have := I.n4
        omega
      refine ⟨L, vs, _, rfl, rfl, s24 _ _ hL2, lt_line (by omega), ?_⟩
      refine ⟨s4.put hL, _, _, _, rfl, upd_same, ?_⟩
      rw [take_more hfirst, List.map_append]
      have nT : ∀ b ws, upd (upd H2 Tt (.tup [.int (i : Nat), .ref f'])) r (.tup [.int (landing flw 0 : Nat), .str sp, .non]) b = some (.tup ws) → upd (upd (upd H2 Tt (.tup [.int (i : Nat), .ref f'])) r (.tup [.int (landing flw 0 : Nat), .str sp, .non])) L (.lst (vs ++ [.ref r])) b = some (.tup ws) := fun b ws e => by
        rw [upd_ne (ne_of e (s24 _ _ hL2) (fun z => nomatch z))]
        exact e
      refine IsDs.snoc ?_ ((hvs.up s24).mono nT)
      exact (IsD.made hr0 (.cons (.int _) (.cons (.str _) (.cons .non .nil)))).mono nT
    · rintro σ H' ⟨s2, u1, u2, vs, rfl, hL2, hvs⟩
      refine ⟨_, rfl, L, vs, rfl, .inl ⟨SqL.of hL2, fun m hm => ⟨Nat.zero_le _, fun e he => ⟨line2, fun n hn => ?_⟩⟩⟩⟩
      have t1 := same_new (H := H') (o := .tup vs) hm
      have t2 := same_new (H := upd H' m (.tup vs)) (o := .tup []) he
      have t3 := same_new (H := upd (upd H' m (.tup vs)) e (.tup [])) (o := .tup [.ref m, .ref e]) hn
      refine k _ _ (((s2.trans t1).trans t2).trans t3) ?_
      have hall : (first P).spots.take (fs.map V.ref).length = (first P).spots := by
        refine List.take_of_length_le ?_
        rw [List.length_map, hfl, (first_wf W).len]
        exact Nat.le_refl _
      rw [hall] at hvs
      exact .tup upd_same (.cons (.tup ((t2.trans t3) _ _ upd_same) (hvs.up (t1.trans (t2.trans t3)))) (.cons (.tup (t3 _ _ upd_same) .nil) .nil))
theorem scPlanInit : FnScope ["self", "flows", "starts", "blocked", "arm", "place", "other", "other_place", "flow"] ["self", "flows", "starts", "blocked"] (defScope (pl 0)) := ⟨rfl, rfl, rfl, by decide +kernel, rfl, by decide +kernel, by decide +kernel⟩
theorem ok_plan_init {f : Addr} {fd : FuncData} (F : Fun K "__init__" "Plan.__init__" (pl 0) f fd) (T : PTxt K mg C) : FnOk P w K mg base CX0 1 f fd ["self", "flows", "starts", "blocked"] (spPlanInit w C) := by
  refine F.ok scPlanInit (fun vs H Q E h => ?_) (fun cdv A outer s H vs Q E hr h => ?_)
  · obtain ⟨p, dx, fl0, st0, bk0, fs0, flows, starts, bvs, rfl, _⟩ := h
    rfl
  · obtain ⟨p, dx, fl0, st0, bk0, fs0, flows, starts, bvs, rfl, hp, hfl0, hfs0, hst0, hbk0, hbv, hbl, hn4, k⟩ := h
    have hfl : fs0.length = flows.length := hfs0.len
    refine ⟨_, pss_cons (ps_fld (pv 0) (pe_lc (own := [("flow", 8)]) (g := gName 8) (tt := tYes) rfl scPlanInit.nd (pi_list (pv 1)) (blkOk_by (N := ["self", "flows", "starts", "blocked", "arm", "place", "other", "other_place", "flow"]) (sc := defScope (pl 0)) (by decide +kernel))
          (fun _ _ _ _ _ => pg_name (i := 8) scPlanInit.nd rfl (Or.inl rfl)) (fun _ _ _ _ _ => pts_nil) (fun _ _ _ _ _ => pe_callTy (T := "list") (r := rListOf K) call_list_of (by rfl) T.list (by decide +kernel) (pa_cons (pv 8) pa_nil))) rfl)
      (pss_cons (ps_fld (pv 0) (pe_callTy call_list_of (by rfl) T.list (by decide +kernel) (pa_cons (pv 2) pa_nil)) rfl)
      (pss_cons (ps_fld (pv 0) pe_newN rfl)
      (pss_one (ps_for PassesOwn.never rfl (pi_list (pv 3)) (pg_tup rfl (pgs_cons (pg_name (i := 4) scPlanInit.nd rfl (Or.inl rfl)) (pgs_cons (pg_name (i := 5) scPlanInit.nd rfl (Or.inl rfl)) (pgs_cons (pg_name (i := 6) scPlanInit.nd rfl (Or.inl rfl)) (pgs_cons (pg_name (i := 7) scPlanInit.nd rfl (Or.inl rfl)) pgs_nil)))))
        (pss_cons (ps_asg pe_bl (pg_sub (pe_fld (pv 0) rfl) (pe_tup (pa_cons (pv 4) (pa_cons (pv 5) (pa_cons (pv 6) (pa_cons (pv 7) pa_nil))))) (set_N hr.units)))
        (pss_one (ps_asg pe_bl (pg_sub (pe_fld (pv 0) rfl) (pe_tup (pa_cons (pv 6) (pa_cons (pv 7) (pa_cons (pv 4) (pa_cons (pv 5) pa_nil))))) (set_N hr.units))))))))), ?_⟩
    -- the flows, each copied
    refine ⟨_, rfl, fl0, rfl, ⟨_, SqL.of hfl0⟩, fun D hD => ?_⟩
    refine lc_list (K := K) (a := fl0) (xs := fs0.map V.ref) (fun i H' => Same H H' ∧ ∃ gs : List Addr, H' D = some (.lst (gs.map V.ref)) ∧ FlowsAt H' gs (flows.take i) ∧ ∀ f ∈ gs, f ≠ D) ⟨same_new hD, [], upd_same, .nil, fun f hf => nomatch hf⟩ (fun i H' _ ⟨s1, _⟩ => SqL.of (s1 _ _ hfl0)) ?_ ?_
    · rintro i y H' hy ⟨s1, gs, hD1, hgs, hne⟩
      have hi : i < fs0.length := by
        have q := (List.getElem?_eq_some_iff.mp hy).1
        rw [List.length_map] at q
        exact q
      obtain ⟨flw, hf⟩ := get_some (l := flows) (i := i) (by rw [← hfl]; exact hi)
      obtain ⟨f', us, hf1, hf2, hf3⟩ := hfs0.get hf
      have ey : y = V.ref f' := (Option.some.inj ((get_map (f := V.ref) hf1).symm.trans hy)).symm
      subst ey
      have hgl : gs.length ≤ 4 := by
        rw [hgs.len, List.length_take]
        omega
      refine ⟨rfl, ?_⟩
      unfold tYes
      refine iteT ⟨_, rfl, f', us, rfl, .inl (SqL.of (s1 _ _ hf2)), fun l hl => ⟨_, (same_new hl) _ _ hD1, ?_, ?_⟩⟩
      · rw [List.length_map]
        exact lt_line (by omega)
      · have s2 := s1.new (o := .lst us) hl
        have nDl : l ≠ D := Ne.symm (ne_of_none hD1 hl)
        have hDl : upd H' l (.lst us) D = some (.lst (gs.map V.ref)) := (same_new hl) _ _ hD1
        have tt := putLst_tups (ys := gs.map V.ref ++ [.ref l]) hDl
        refine ⟨s2.put hD, gs ++ [l], ?_, ?_, ?_⟩
        · rw [upd_same, List.map_append]
          rfl
        · rw [take_more hf]
          refine FlowsAt.snoc ⟨us, ?_, ?_⟩ ?_
          · rw [upd_ne nDl]
            exact upd_same
          · exact (hf3.up s2).mono tt
          · refine FlowsAt.at tt (fun f hf vs e => ?_) (hgs.up (same_new hl))
            rw [upd_ne (hne f hf)]
            exact e
        · intro f hf
          rcases List.mem_append.mp hf with z | z
          · exact hne f z
          · rw [List.mem_singleton.mp z]
            exact nDl
    · rintro H1 ⟨s1, gs, hD1, hgs, hne⟩
      rw [List.length_map, hfl, List.take_length] at hgs
      have hp1 := s1 _ _ hp
      refine ⟨_, rfl, p, C, dx, _, rfl, hp1, T.cl, T.nF, (by decide), ?_⟩
      have a1 : But p H (upd H1 p (.ins C dx (putF "flows" (.ref D) []))) := s1.but.trans But.put
      have hp2 : upd H1 p (.ins C dx (putF "flows" (.ref D) [])) p = some (.ins C dx (putF "flows" (.ref D) [])) := upd_same
      have hgs2 := FlowsAt.at (But.put.tups hp1) (fun f _ vs e => But.put.lst hp1 e) hgs (H' := upd H1 p (.ins C dx (putF "flows" (.ref D) [])))
      have hD2 : upd H1 p (.ins C dx (putF "flows" (.ref D) [])) D = some (.lst (gs.map V.ref)) := But.put.lst hp1 hD1
      refine ⟨_, rfl, st0, starts.map V.str, rfl, .inl (SqL.of (a1.lst hp hst0)), fun S hS => ?_⟩
      generalize upd H1 p (.ins C dx (putF "flows" (.ref D) [])) = H2 at *
      have s3 := same_new (H := H2) (o := .lst (starts.map V.str)) hS
      refine ⟨_, rfl, p, C, dx, _, rfl, s3 _ _ hp2, T.cl, T.nS, (by show 1 < 1000; decide), ?_⟩
      have hp3 := s3 _ _ hp2
      have hS3 : upd H2 S (.lst (starts.map V.str)) S = some (.lst (starts.map V.str)) := upd_same
      have hD3 := s3 _ _ hD2
      have hgs3 := hgs2.up s3
      have a3 := a1.trans s3.but
      generalize upd H2 S (.lst (starts.map V.str)) = H3 at *
      have b4 : But p H3 (upd H3 p (.ins C dx (putF "starts" (.ref S) (putF "flows" (.ref D) [])))) := But.put
      have hp4 : upd H3 p (.ins C dx (putF "starts" (.ref S) (putF "flows" (.ref D) []))) p = some (.ins C dx (putF "starts" (.ref S) (putF "flows" (.ref D) []))) := upd_same
      have hS4 := b4.lst hp3 hS3
      have hD4 := b4.lst hp3 hD3
      have hgs4 := b4.flows hp3 hgs3
      have a4 := a3.trans b4
      generalize upd H3 p (.ins C dx (putF "starts" (.ref S) (putF "flows" (.ref D) []))) = H4 at *
      intro B hB H5 s5 n5 hN5
      refine ⟨_, rfl, p, C, dx, _, rfl, s5 _ _ hp4, T.cl, T.nB, (two_fields _ _ _ _), ?_⟩
      have hp5 := s5 _ _ hp4
      have hS5 := s5 _ _ hS4
      have hD5 := s5 _ _ hD4
      have hgs5 := hgs4.up s5
      have a5 := a4.trans s5.but
      rw [pf_is]
      have b6 : But p H5 (upd H5 p (.ins C dx (pFields D S B))) := But.put
      have hp6 : upd H5 p (.ins C dx (pFields D S B)) p = some (.ins C dx (pFields D S B)) := upd_same
      have hS6 := b6.lst hp5 hS5
      have hD6 := b6.lst hp5 hD5
      have hgs6 := b6.flows hp5 hgs5
      have hN6 := b6.nd hp5 hN5
      have a6 := a5.trans b6
      have hBn : H B = none := by
        cases q : H B with
        | none => rfl
        | some o =>
          by_cases e : B = p
          · rw [e, hp4] at hB
            cases hB
          · rw [a4 B o e q] at hB
            cases hB
      generalize upd H5 p (.ins C dx (pFields D S B)) = H6 at *
      have nBp : B ≠ p := fun e => by
        rw [e] at hBn
        rw [hBn] at hp
        cases hp
      refine ⟨_, rfl, bk0, rfl, ⟨_, SqL.of (a6.lst hp hbk0)⟩, ?_⟩
      refine for_list (K := K) (a := bk0) (xs := bvs) (fun i σ H' => (∃ u1 u2 u3 u4, σ = [some (.ref p), some (.ref fl0), some (.ref st0), some (.ref bk0), u1, u2, u3, u4, none]) ∧ But p H H' ∧ H' p = some (.ins C dx (pFields D S B)) ∧ H' D = some (.lst (gs.map V.ref)) ∧ FlowsAt H' gs flows ∧
        H' S = some (.lst (starts.map V.str)) ∧ ∃ kvs, NDict w H' B kvs ∧ kvs.length ≤ 2 * i)
        ⟨⟨_, _, _, _, rfl⟩, a6, hp6, hD6, hgs6, hS6, [], hN6, Nat.zero_le _⟩ (fun i σ H' _ ⟨_, a, _⟩ => SqL.of (a.lst hp hbk0)) ?_ ?_
      · rintro i y σ H' hy ⟨⟨u1, u2, u3, u4, rfl⟩, a7, hp7, hD7, hgs7, hS7, kvs, hN7, hk7⟩
        have hi : i < bvs.length := (List.getElem?_eq_some_iff.mp hy).1
        obtain ⟨a, pl, o, pl', hb⟩ := hbv y (mem_of_get hy)
        have hb := hb.mono (a7.tups hp)
        obtain ⟨z, x1, x2, x3, x4, ez, hz, h1, h2, h3, h4⟩ := hb.tup4
        refine ⟨z, _, ez, SqT.of hz, rfl, _, _, rfl, _, _, rfl, _, _, rfl, _, _, rfl, rfl, ?_⟩
        refine ⟨_, rfl, p, C, dx, _, _, rfl, hp7, T.cl, T.nB, lk_blocks _ _ _, _, rfl, _, rfl, _, rfl, _, rfl, line4, fun r hr0 => ?_⟩
        have t1 := same_new (H := H') (o := .tup [x1, x2, x3, x4]) hr0
        have k1 : KeyAt (upd H' r (.tup [x1, x2, x3, x4])) r (dBlk a pl o pl').key := ⟨dBlk a pl o pl', IsD.made hr0 (.cons h1 (.cons h2 (.cons h3 (.cons h4 .nil)))), rfl, depth_blk _ _ _ _⟩
        refine ⟨B, r, (dBlk a pl o pl').key, true, kvs, rfl, rfl, rfl, k1, hN7.up t1, Nat.lt_of_le_of_lt (Nat.succ_le_succ hk7) (lt_of_2000 (by omega)), fun H8 n8 hN8 => ?_⟩
        have c8 : ∀ c u, c ≠ B → H' c = some u → H8 c = some u := fun c u hc e => by
          rw [n8 c hc]
          exact t1 c u e
        have nd : ∀ {c u}, H' c = some u → (∀ xs, u ≠ NDO w B xs) → c ≠ B := fun {c u} e ne q => by
          obtain ⟨xs, q1, _⟩ := hN7.ex
          rw [q, q1] at e
          exact ne xs (Option.some.inj e).symm
        have t8 : Tups H' H8 := fun c vs e => c8 c _ (nd e fun xs q => nomatch q) e
        have hp8 := c8 p _ (Ne.symm nBp) hp7
        have hD8 := c8 D _ (nd hD7 fun xs q => nomatch q) hD7
        have hS8 := c8 S _ (nd hS7 fun xs q => nomatch q) hS7
        have hgs8 := FlowsAt.at t8 (fun f _ vs e => c8 f _ (nd e fun xs q => nomatch q) e) hgs7
        have a8 : But p H H8 := fun c u hc e => c8 c u (fun q => by rw [q, hBn] at e; cases e) (a7 c u hc e)
        refine ⟨_, rfl, p, C, dx, _, _, rfl, hp8, T.cl, T.nB, lk_blocks _ _ _, _, rfl, _, rfl, _, rfl, _, rfl, line4, fun r2 hr2 => ?_⟩
        have t2 := same_new (H := H8) (o := .tup [x3, x4, x1, x2]) hr2
        have k2 : KeyAt (upd H8 r2 (.tup [x3, x4, x1, x2])) r2 (dBlk o pl' a pl).key := ⟨dBlk o pl' a pl, IsD.made hr2 (.cons (h3.mono t8) (.cons (h4.mono t8) (.cons (h1.mono t8) (.cons (h2.mono t8) .nil)))), rfl, depth_blk _ _ _ _⟩
        have l8 := putB_len kvs (dBlk a pl o pl').key true
        refine ⟨B, r2, (dBlk o pl' a pl).key, true, _, rfl, rfl, rfl, k2, hN8.up t2, lt_of_2000 (by omega), fun H9 n9 hN9 => ?_⟩
        have c9 : ∀ c u, c ≠ B → H8 c = some u → H9 c = some u := fun c u hc e => by
          rw [n9 c hc]
          exact t2 c u e
        have nd9 : ∀ {c u}, H8 c = some u → (∀ xs, u ≠ NDO w B xs) → c ≠ B := fun {c u} e ne q => by
          obtain ⟨xs, q1, _⟩ := hN8.ex
          rw [q, q1] at e
          exact ne xs (Option.some.inj e).symm
        have t9 : Tups H8 H9 := fun c vs e => c9 c _ (nd9 e fun xs q => nomatch q) e
        have l9 := putB_len (putB kvs (dBlk a pl o pl').key true) (dBlk o pl' a pl).key true
        refine ⟨⟨_, _, _, _, rfl⟩, fun c u hc e => c9 c u (fun q => by rw [q, hBn] at e; cases e) (a8 c u hc e), c9 p _ (Ne.symm nBp) hp8, c9 D _ (nd9 hD8 fun xs q => nomatch q) hD8,
          FlowsAt.at t9 (fun f _ vs e => c9 f _ (nd9 e fun xs q => nomatch q) e) hgs8, c9 S _ (nd9 hS8 fun xs q => nomatch q) hS8, _, hN9, by omega⟩
      · rintro σ H' ⟨⟨u1, u2, u3, u4, rfl⟩, a7, hp7, hD7, hgs7, hS7, kvs, hN7, hk7⟩
        exact k H' ⟨flows, starts, fun a pl o pl' => (look kvs (dBlk a pl o pl').key).isSome⟩ a7 rfl rfl ⟨dx, D, S, B, gs, kvs, hp7, hD7, hgs7, hS7, hN7, rfl, hn4⟩
end
end Aw

/-! The search on the heap; its small methods. -/
namespace Aw
open PySem PySem.Spec PyProof.Rows L2

/-! ### sorted signals -/
theorem canon_len {l : List Str} (nd : l.Nodup) (h : ∀ g ∈ l, g ∈ sigs) : l = [] ∨ l = [("s" : Str)] ∨ l = [("t" : Str)] ∨ l = [("s" : Str), ("t" : Str)] ∨ l = [("t" : Str), ("s" : Str)] := by
  have h2 := sig_few nd h
  match l, nd, h, h2 with
  | [], _, _, _ => exact .inl rfl
  | [a], _, h, _ =>
    rcases sig_cases (h a (by simp)) with rfl | rfl
    · exact .inr (.inl rfl)
    · exact .inr (.inr (.inl rfl))
  | [a, b], nd, h, _ =>
    simp only [List.nodup_cons, List.mem_singleton] at nd
    rcases sig_cases (h a (by simp)) with rfl | rfl <;> rcases sig_cases (h b (by simp)) with rfl | rfl
    · exact absurd rfl nd.1
    · exact .inr (.inr (.inr (.inl rfl)))
    · exact .inr (.inr (.inr (.inr rfl)))
    · exact absurd rfl nd.1
  | _ :: _ :: _ :: _, _, _, h2 => simp at h2
theorem sorted_ts : sortedS [("t" : Str), ("s" : Str)] = false := by decide +kernel
theorem canon0 : canon [] = [] := by decide +kernel
theorem canon1 : canon [("s" : Str)] = [("s" : Str)] := by decide +kernel
theorem canon2 : canon [("t" : Str)] = [("t" : Str)] := by decide +kernel
theorem canon3 : canon [("s" : Str), ("t" : Str)] = [("s" : Str), ("t" : Str)] := by decide +kernel
theorem canon_perm {l m : List Str} (p : l.Perm m) : canon l = canon m := by
  unfold canon
  refine List.filter_congr fun g _ => ?_
  rw [decide_eq_decide]
  exact p.mem_iff
theorem sorted_canon {l ys : List Str} (nd : l.Nodup) (h : ∀ g ∈ l, g ∈ sigs) (p : ys.Perm l) (s : sortedS ys = true) : ys = canon l := by
  rw [← canon_perm p]
  have nd2 : ys.Nodup := p.nodup_iff.mpr nd
  have h2 : ∀ g ∈ ys, g ∈ sigs := fun g hg => h g (p.mem_iff.mp hg)
  rcases canon_len nd2 h2 with e | e | e | e | e
  · rw [e, canon0]
  · rw [e, canon1]
  · rw [e, canon2]
  · rw [e, canon3]
  · rw [e, sorted_ts] at s
    cases s

def sFields (p d : Addr) : List (Str × V) := [("plan", .ref p), ("known", .ref d)]
theorem sf_is (p d : Addr) : putF "known" (.ref d) (putF "plan" (.ref p) []) = sFields p d := by
  have n1 : ¬ (("plan" : Str) = "known") := by decide +kernel
  unfold putF putF
  simp only [n1, if_false, putF]
  rfl
theorem lk_plan (p d : Addr) : (sFields p d).lookup ("plan" : Str) = some (.ref p) := by
  unfold sFields
  rw [List.lookup_cons]
  simp
theorem n_kp : (("known" : Str) == ("plan" : Str)) = false := by decide +kernel
theorem lk_known (p d : Addr) : (sFields p d).lookup ("known" : Str) = some (.ref d) := by
  unfold sFields
  simp only [List.lookup_cons, n_kp]
  simp
theorem s_none {m : Str} {p d : Addr} (h : ((m == ("plan" : Str)) || (m == ("known" : Str))) = false := by decide +kernel) : (sFields p d).lookup m = none := by
  rw [Bool.or_eq_false_iff] at h
  unfold sFields
  simp only [List.lookup_cons, h.1, h.2]
  rfl
structure STxt (K : PySem.W.Frag) (mg : Str → Option Value) (C : Addr) : Prop where
  cl : Cls K C
  nP : NoAttr K C "plan"
  nK : NoAttr K C "known"
  len : mg "len" = none
  range : mg "range" = none
  list : mg "list" = none
  tuple : mg "tuple" = none
  sorted : mg "sorted" = none
  all : mg "all" = none
/-- a search that knows kvs -/
structure SrchIn (w : World) (CS CP : Addr) (H : Hp) (x : Addr) (P : Pln) (kvs : List (NestedKey × Bool)) (dx p d : Addr) : Prop where
  hx : H x = some (.ins CS dx (sFields p d))
  pl : PlanAt w CP H p P
  nd : NDict w H d kvs
theorem SrchIn.up {w : World} {CS CP : Addr} {H H' : Hp} {x : Addr} {P : Pln} {kvs : List (NestedKey × Bool)} {dx p d : Addr} (h : SrchIn w CS CP H x P kvs dx p d) (s : Same H H') : SrchIn w CS CP H' x P kvs dx p d :=
  ⟨s _ _ h.hx, h.pl.up s, h.nd.up s⟩
/-- what can be reached by one step of some arm that can step -/
def Succ (P : Pln) (s o : St) : Prop := ∃ a, a < P.flows.length ∧ canStep P s a = true ∧ o ∈ outs P s a
def spSearchInit (w : World) (CS : Addr) : Sp := fun vs H Q _ => ∃ x p dx, vs = [.ref x, .ref p] ∧ H x = some (.ins CS dx []) ∧ ∀ H' d, But x H H' → H d = none → H' x = some (.ins CS dx (sFields p d)) → NDict w H' d [] → Q .non H'
def spKeyOf : Sp := fun vs H Q _ => ∃ x sv s, vs = [x, sv] ∧ IsD H sv (dSt s) ∧ s.sig.Nodup ∧ (∀ g ∈ s.sig, g ∈ sigs) ∧ ∀ q H', Same H H' → IsD H' (.ref q) (dKey s) → Q (.ref q) H'
def spOpen (w : World) (CS CP : Addr) : Sp := fun vs H Q _ => ∃ x sv s P kvs dx p d, vs = [.ref x, sv] ∧ SrchIn w CS CP H x P kvs dx p d ∧ IsD H sv (dSt s) ∧ WfP P ∧ WfS P s ∧
  ∀ v H', Same H H' → ((v = .non ∧ ∀ o, Succ P s o → (look kvs (kSt o)).isSome = true) ∨ ∃ o, Succ P s o ∧ look kvs (kSt o) = none ∧ IsD H' v (dSt o) ∧ v ≠ .non) → Q v H'
def spGood (w : World) (CS CP : Addr) : Sp := fun vs H Q _ => ∃ x sv s P kvs dx p d, vs = [.ref x, sv] ∧ SrchIn w CS CP H x P kvs dx p d ∧ IsD H sv (dSt s) ∧ WfP P ∧ WfS P s ∧ Known P kvs ∧ (∀ o, Succ P s o → (look kvs (kSt o)).isSome = true) ∧
  ∀ v H', Same H H' → (decide (v = .non) = false ↔ ∃ a, a < P.flows.length ∧ canStep P s a = true ∧ ∀ o ∈ outs P s a, Safe P o) → Q v H'
theorem depth_spots : ∀ l : List Spot, (dSpots l).key.depth ≤ 2 := by
  intro l
  have key : ∀ l : List Spot, NestedKey.depthAll (Dat.keys (l.map dSpot)) ≤ 1 := by
    intro l
    induction l with
    | nil => exact Nat.zero_le _
    | cons x l ih =>
      have h1 : (dSpot x).key.depth ≤ 1 := by
        obtain ⟨i, p, h⟩ := x
        cases h <;> exact Nat.le_refl _
      show max (dSpot x).key.depth (NestedKey.depthAll (Dat.keys (l.map dSpot))) ≤ 1
      omega
  have h := key l
  show NestedKey.depthAll (Dat.keys (l.map dSpot)) + 1 ≤ 2
  omega
theorem depth_sig : ∀ l : List Str, (dSig l).key.depth ≤ 1 := by
  intro l
  have key : ∀ l : List Str, NestedKey.depthAll (Dat.keys (l.map Dat.str)) ≤ 0 := by
    intro l
    induction l with
    | nil => exact Nat.le_refl _
    | cons x l ih =>
      show max 0 (NestedKey.depthAll (Dat.keys (l.map Dat.str))) ≤ 0
      omega
  have h := key l
  show NestedKey.depthAll (Dat.keys (l.map Dat.str)) + 1 ≤ 1
  omega
theorem depth_key (s : St) : (kSt s).depth ≤ 8 := by
  have h1 := depth_spots s.spots
  have h2 := depth_sig (canon s.sig)
  show max (dSpots s.spots).key.depth (max (dSig (canon s.sig)).key.depth 0) + 1 ≤ 8
  omega
theorem key_at {H : Hp} {q : Addr} {s : St} (h : IsD H (.ref q) (dKey s)) : KeyAt H q (kSt s) := ⟨_, h, rfl, depth_key s⟩
section
variable {P : Program} {w : World} {K : PySem.W.Frag} {mg : Str → Option Value} {base : Heap} {CS CP : Addr}
theorem scSearchInit : FnScope ["self", "plan"] ["self", "plan"] (defScope (se 0)) := ⟨rfl, rfl, rfl, by decide +kernel, rfl, by decide +kernel, by decide +kernel⟩
theorem ok_search_init {f : Addr} {fd : FuncData} (F : Fun K "__init__" "Search.__init__" (se 0) f fd) (T : STxt K mg CS) : FnOk P w K mg base CX0 1 f fd ["self", "plan"] (spSearchInit w CS) := by
  refine F.ok scSearchInit (fun vs H Q E h => ?_) (fun cdv A outer s H vs Q E hr h => ?_)
  · obtain ⟨x, p, dx, rfl, _⟩ := h
    rfl
  · obtain ⟨x, p, dx, rfl, hx, k⟩ := h
    refine ⟨_, pss_cons (ps_fld (pv 0) (pv 1) rfl) (pss_one (ps_fld (pv 0) pe_newN rfl)), ?_⟩
    refine ⟨_, rfl, _, rfl, x, CS, dx, _, rfl, hx, T.cl, T.nP, (by decide), ?_⟩
    have b1 : But x H (upd H x (.ins CS dx (putF "plan" (.ref p) []))) := But.put
    have hx1 : upd H x (.ins CS dx (putF "plan" (.ref p) [])) x = some (.ins CS dx (putF "plan" (.ref p) [])) := upd_same
    generalize upd H x (.ins CS dx (putF "plan" (.ref p) [])) = H1 at *
    intro d hd H2 s2 n2 hN2
    have hx2 := s2 _ _ hx1
    refine ⟨_, rfl, x, CS, dx, _, rfl, hx2, T.cl, T.nK, (by exact Nat.lt_of_le_of_lt (length_putF _ _ _) (by decide)), ?_⟩
    rw [sf_is]
    have b3 : But x H2 (upd H2 x (.ins CS dx (sFields p d))) := But.put
    have hdn : H d = none := by
      cases q : H d with
      | none => rfl
      | some o =>
        by_cases e : d = x
        · rw [e, hx1] at hd
          cases hd
        · rw [b1 d o e q] at hd
          cases hd
    exact k _ d ((b1.trans s2.but).trans b3) hdn upd_same (b3.nd hx2 hN2)
theorem scKeyOf : FnScope ["self", "state"] ["self", "state"] (defScope (se 1)) := ⟨rfl, rfl, rfl, by decide +kernel, rfl, by decide +kernel, by decide +kernel⟩
theorem ok_key_of {f : Addr} {fd : FuncData} (F : Fun K "key_of" "Search.key_of" (se 1) f fd) (T : STxt K mg CS) : FnOk P w K mg base CX0 1 f fd ["self", "state"] spKeyOf := by
  refine F.ok scKeyOf (fun vs H Q E h => ?_) (fun cdv A outer s H vs Q E hr h => ?_)
  · obtain ⟨x, sv, s, rfl, _⟩ := h
    rfl
  · obtain ⟨x, sv, s, rfl, hs, nd, sg, k⟩ := h
    obtain ⟨q, l, g, vs, S⟩ := st_open hs
    refine ⟨_, pss_one (ps_ret (pe_tup (pa_cons (pe_ix ix_tup (pv 1) pe_int (fun _ _ => rfl)) (pa_cons (pe_callTy call_tuple_of (by rfl) T.tuple (by decide +kernel) (pa_cons (pe_callB cr_sortedS (by rfl) T.sorted (by decide +kernel)
      (pa_cons (pe_callTy call_list_of (by rfl) T.list (by decide +kernel) (pa_cons (pe_ix ix_tup (pv 1) pe_int (fun _ _ => rfl)) pa_nil)) pa_nil)) pa_nil)) pa_nil)))), ?_⟩
    refine ⟨_, rfl, _, _, _, _, S.e, rfl, SqT.of S.hq, atI_nat (j := 0) rfl, _, rfl, _, _, _, _, S.e, rfl, SqT.of S.hq, atI_nat (j := 1) rfl, g, _, rfl, .inr (SqT.of S.hg), fun L hL => ?_⟩
    have s1 := same_new (H := H) (o := .lst (s.sig.map V.str)) hL
    refine ⟨L, s.sig, rfl, SqL.of upd_same, Nat.lt_of_le_of_lt (sig_few nd sg) (by decide), fun ys M pm so hM => ?_⟩
    have ey := sorted_canon nd sg pm so
    subst ey
    have s2 := s1.new (o := .lst ((canon s.sig).map V.str)) hM
    refine ⟨M, _, rfl, .inl ⟨SqL.of upd_same, fun N hN => ⟨line2, fun r hr0 => ?_⟩⟩⟩
    have s3 := s2.new (o := .tup ((canon s.sig).map V.str)) hN
    have s4 := s3.new (o := .tup [.ref l, .ref N]) hr0
    refine k r _ s4 ?_
    exact .tup upd_same (.cons (.tup (s4 _ _ S.hl) (S.hv.up s4)) (.cons (.tup ((same_new hr0) _ _ upd_same) (sig_is _)) .nil))
end
end Aw

/-! open_outcome, good_arm. -/
namespace Aw
open PySem PySem.Spec PyProof.Rows L2
section
variable {P : Program} {w : World} {K : PySem.W.Frag} {mg : Str → Option Value} {base : Heap} {CS CP : Addr}
theorem outs_succ {P : Pln} {s : St} {a : Nat} (ha : a < P.flows.length) (hc : canStep P s a = true) {o : St} (ho : o ∈ outs P s a) : Succ P s o := ⟨a, ha, hc, ho⟩
theorem succ_wf {P : Pln} {s o : St} (W : WfP P) (S : WfS P s) (h : Succ P s o) : WfS P o ∧ stepsLeft P o < stepsLeft P s := by
  obtain ⟨a, ha, _, ho⟩ := h
  exact outs_wf W S ha ho
theorem outs_few (P : Pln) (s : St) (a : Nat) : (outs P s a).length ≤ 2 := by
  unfold outs
  cases stepOf P s a with
  | none => exact Nat.zero_le _
  | some st => cases st <;> simp [outsBy]
theorem st_ref {H : Hp} {v : V} {s : St} (h : IsD H v (dSt s)) : v ≠ .non := by
  obtain ⟨q, _, _, _, S⟩ := st_open h
  rw [S.e]
  exact fun e => nomatch e
theorem scOpen : FnScope ["self", "state", "arm", "outcome"] ["self", "state"] (defScope (se 2)) := ⟨rfl, rfl, rfl, by decide +kernel, rfl, by decide +kernel, by decide +kernel⟩
theorem ok_open {f : Addr} {fd : FuncData} (F : Fun K "open_outcome" "Search.open_outcome" (se 2) f fd) (T : STxt K mg CS) (TP : PTxt K mg CP)
    (m1 : Mth P w K mg base CX0 CP 4 "can_step" ["self", "state", "arm"] (spCanStep w CP)) (m2 : Mth P w K mg base CX0 CP 3 "outcomes" ["self", "state", "arm"] (spOutcomes w CP)) (m3 : Mth P w K mg base CX0 CS 1 "key_of" ["self", "state"] spKeyOf) :
    FnOk P w K mg base CX0 5 f fd ["self", "state"] (spOpen w CS CP) := by
  obtain ⟨f1, fd1, mm1, G1, b1⟩ := m1.ex
  obtain ⟨f2, fd2, mm2, G2, b2⟩ := m2.ex
  obtain ⟨f3, fd3, mm3, G3, b3⟩ := m3.ex
  refine F.ok scOpen (fun vs H Q E h => ?_) (fun cdv A outer s H vs Q E hr h => ?_)
  · obtain ⟨x, sv, s, P, kvs, dx, p, d, rfl, _⟩ := h
    rfl
  · obtain ⟨x, sv, s, P, kvs, dx, p, d, rfl, S, hs, W, wf, k⟩ := h
    obtain ⟨dxp, fl, st, bl, fs, kvp, I⟩ := id S.pl
    have hfl : fs.length = P.flows.length := I.hfs.len
    have hn4 := I.n4
    have hr3 : Room 3 _ := hr.mono (by decide)
    have hr1 : Room 1 _ := hr.mono (by decide)
    refine ⟨_, pss_cons (ps_for PassesOwn.never rfl (pi_range1 (by rfl) T.range (pa_cons (pe_callB call_len_seq (by rfl) T.len PySem.boot_len (pa_cons (pe_fld (pe_fld (pv 0) rfl) rfl) pa_nil)) pa_nil)) (pg_name (i := 2) scOpen.nd rfl (Or.inl rfl))
        (pss_one (ps_if (pt_val (pe_meth (pe_fld (pv 0) rfl) TP.cl mm1 G1 hr b1 .nil pass0 (pa_cons (pv 1) (pa_cons (pv 2) pa_nil))))
          (pss_one (ps_for PassesOwn.never rfl (pi_list (pe_meth (pe_fld (pv 0) rfl) TP.cl mm2 G2 hr3 b2 .nil pass0 (pa_cons (pv 1) (pa_cons (pv 2) pa_nil)))) (pg_name (i := 3) scOpen.nd rfl (Or.inl rfl))
            (pss_one (ps_if (pt_cmpR (op_notInN hr.units) (pe_meth (pv 0) T.cl mm3 G3 hr1 b3 .nil pass0 (pa_cons (pv 3) pa_nil)) (pe_fld (pv 0) rfl) rfl) (pss_one (ps_ret (pv 3))) pss_nil)))) pss_nil)))
      (pss_one (ps_ret pe_non)), ?_⟩
    refine ⟨_, rfl, x, CS, dx, _, _, rfl, S.hx, T.cl, T.nP, lk_plan _ _, p, CP, dxp, _, _, rfl, I.hp, TP.cl, TP.nF, lk_flows _ _ _, _, _, rfl, .inl (SqL.of I.hfl), _, rfl, ?_⟩
    rw [List.length_map, hfl]
    refine ⟨(small62 (by omega)).1, (small62 (by omega)).2, ?_⟩
    refine for_range (n := P.flows.length) (fun i σ H' => Same H H' ∧ (∃ u2 u3, σ = [some (.ref x), some sv, u2, u3]) ∧ ∀ a, a < i → canStep P s a = true → ∀ o ∈ outs P s a, (look kvs (kSt o)).isSome = true) ⟨Same.refl H, ⟨none, none, rfl⟩, fun a ha => absurd ha (Nat.not_lt_zero _)⟩ ?_ ?_
    · rintro i σ H' hi ⟨s1, ⟨u2, u3, rfl⟩, hj⟩
      rw [Int.zero_add]
      have S1 := S.up s1
      have I1 := I.up s1
      have A1 : Asks w CP H' p sv i P s := ⟨S1.pl, hs.up s1, wf.len, hi⟩
      refine ⟨_, rfl, x, CS, dx, _, _, rfl, S1.hx, T.cl, T.nP, lk_plan _ _, p, dxp, _, rfl, I1.hp, p_none, _, rfl, _, rfl, p, sv, i, P, s, rfl, A1, fun H2 s2 => ⟨_, rfl, ?_⟩⟩
      have s12 := s1.trans s2
      have next : canStep P s i = true → (∀ o ∈ outs P s i, (look kvs (kSt o)).isSome = true) → ∀ a, a < i + 1 → canStep P s a = true → ∀ o ∈ outs P s a, (look kvs (kSt o)).isSome = true := fun _ z a ha hc => by
        rcases Nat.lt_succ_iff_lt_or_eq.mp ha with q | q
        · exact hj a q hc
        · rw [q]
          exact z
      cases hc : canStep P s i with
      | false =>
        refine iteF ⟨s12, ⟨_, _, rfl⟩, fun a ha hca => ?_⟩
        rcases Nat.lt_succ_iff_lt_or_eq.mp ha with q | q
        · exact hj a q hca
        · rw [q, hc] at hca
          cases hca
      | true =>
        have S2 := S.up s12
        have I2 := I.up s12
        refine iteT ⟨_, rfl, x, CS, dx, _, _, rfl, S2.hx, T.cl, T.nP, lk_plan _ _, p, dxp, _, rfl, I2.hp, p_none, _, rfl, _, rfl, p, sv, i, P, s, rfl, A1.up s2, W, wf, fun l us H3 s3 hl0 hl hus => ⟨l, rfl, ⟨_, SqL.of hl⟩, ?_⟩⟩
        have s13 := s12.trans s3
        refine for_list (K := K) (a := l) (xs := us) (fun j σ H4 => Same H3 H4 ∧ (∃ u3, σ = [some (.ref x), some sv, some (.int (i : Nat)), u3]) ∧ ∀ m o, m < j → (outs P s i)[m]? = some o → (look kvs (kSt o)).isSome = true) ⟨Same.refl H3, ⟨_, rfl⟩, fun m o hm => absurd hm (Nat.not_lt_zero _)⟩ (fun j σ H4 _ ⟨q, _⟩ => SqL.of (q _ _ hl)) ?_ ?_
        · rintro j y σ H4 hy ⟨s4, ⟨u3', rfl⟩, hm⟩
          have hjl : j < (outs P s i).length := by
            have q := (List.getElem?_eq_some_iff.mp hy).1
            rw [hus.length, List.length_map] at q
            exact q
          obtain ⟨o, ho⟩ := get_some hjl
          obtain ⟨y2, hy2, hyo⟩ := hus.get (i := j) (d := dSt o) (get_map ho)
          have ey : y = y2 := Option.some.inj (hy.symm.trans hy2)
          subst ey
          have s14 := s13.trans s4
          have S4 := S.up s14
          have su := outs_succ hi hc (mem_of_get ho)
          have wo := (succ_wf W wf su).1
          refine ⟨_, rfl, x, dx, _, rfl, S4.hx, s_none, _, rfl, _, y, o, rfl, hyo.up s4, wo.nd, wo.sg, fun q H5 s5 hq => ?_⟩
          have S5 := S4.up s5
          refine ⟨_, rfl, x, CS, dx, _, _, rfl, S5.hx, T.cl, T.nK, lk_known _ _, q, d, kSt o, kvs, rfl, rfl, key_at hq, S5.nd, _, rfl, ?_⟩
          cases hlk : look kvs (kSt o) with
          | none =>
            refine iteT ⟨_, rfl, k y H5 (s14.trans s5) (.inr ⟨o, su, hlk, hyo.up (s4.trans s5), st_ref hyo⟩)⟩
          | some b =>
            refine iteF ⟨s4.trans s5, ⟨_, rfl⟩, fun m o' hm' ho' => ?_⟩
            rcases Nat.lt_succ_iff_lt_or_eq.mp hm' with z | z
            · exact hm m o' z ho'
            · subst z
              have e := Option.some.inj (ho.symm.trans ho')
              rw [← e, hlk]
              rfl
        · rintro σ H4 ⟨s4, ⟨u3', rfl⟩, hm⟩
          rw [hus.length, List.length_map] at hm
          refine ⟨s13.trans s4, ⟨_, _, rfl⟩, next hc fun o ho => ?_⟩
          obtain ⟨m, hm1, hm2⟩ := List.mem_iff_getElem.mp ho
          exact hm m o hm1 (by rw [List.getElem?_eq_getElem hm1, hm2])
    · rintro σ H' ⟨s1, ⟨u2, u3, rfl⟩, hj⟩
      exact k _ H' s1 (.inl ⟨rfl, fun o ⟨a, ha, hc, ho⟩ => hj a ha hc o ho⟩)
theorem scGood : FnScope ["self", "state", "arm", "outcomes", "outcome"] ["self", "state"] (defScope (se 3)) := ⟨rfl, rfl, rfl, by decide +kernel, rfl, by decide +kernel, by decide +kernel⟩
theorem ok_good {f : Addr} {fd : FuncData} (F : Fun K "good_arm" "Search.good_arm" (se 3) f fd) (T : STxt K mg CS) (TP : PTxt K mg CP)
    (m1 : Mth P w K mg base CX0 CP 4 "can_step" ["self", "state", "arm"] (spCanStep w CP)) (m2 : Mth P w K mg base CX0 CP 3 "outcomes" ["self", "state", "arm"] (spOutcomes w CP)) (m3 : Mth P w K mg base CX0 CS 1 "key_of" ["self", "state"] spKeyOf) :
    FnOk P w K mg base CX0 5 f fd ["self", "state"] (spGood w CS CP) := by
  obtain ⟨f1, fd1, mm1, G1, b1⟩ := m1.ex
  obtain ⟨f2, fd2, mm2, G2, b2⟩ := m2.ex
  obtain ⟨f3, fd3, mm3, G3, b3⟩ := m3.ex
  refine F.ok scGood (fun vs H Q E h => ?_) (fun cdv A outer s H vs Q E hr h => ?_)
  · obtain ⟨x, sv, s, P, kvs, dx, p, d, rfl, _⟩ := h
    rfl
  · obtain ⟨x, sv, s, P, kvs, dx, p, d, rfl, S, hs, W, wf, kn, all, k⟩ := h
    obtain ⟨dxp, fl, st, bl, fs, kvp, I⟩ := id S.pl
    have hfl : fs.length = P.flows.length := I.hfs.len
    have hn4 := I.n4
    have hr3 : Room 3 _ := hr.mono (by decide)
    have hr1 : Room 1 _ := hr.mono (by decide)
    refine ⟨_, pss_cons (ps_for PassesOwn.never rfl (pi_range1 (by rfl) T.range (pa_cons (pe_callB call_len_seq (by rfl) T.len PySem.boot_len (pa_cons (pe_fld (pe_fld (pv 0) rfl) rfl) pa_nil)) pa_nil)) (pg_name (i := 2) scGood.nd rfl (Or.inl rfl))
        (pss_one (ps_if (pt_val (pe_meth (pe_fld (pv 0) rfl) TP.cl mm1 G1 hr b1 .nil pass0 (pa_cons (pv 1) (pa_cons (pv 2) pa_nil))))
          (pss_cons (ps_set (i := 3) scGood.nd rfl (Or.inl rfl) (pe_meth (pe_fld (pv 0) rfl) TP.cl mm2 G2 hr3 b2 .nil pass0 (pa_cons (pv 1) (pa_cons (pv 2) pa_nil))))
          (pss_one (ps_if (pt_val (pe_callB (cr_all rfl) (by rfl) T.all (by decide +kernel) (pa_cons (pe_lc (own := [("outcome", 4)]) (g := gName 4) (tt := tYes) (te := tGetN w (tFld K (tVar 0) "known") (tMeth CS "key_of" spKeyOf [] E0 (tVar 0) (tCons (tVar 4) tNil))) rfl scGood.nd (pi_list (pv 3))
              (blkOk_by (N := ["self", "state", "arm", "outcomes", "outcome"]) (sc := defScope (se 3)) (by decide +kernel)) (fun _ _ _ _ _ => pg_name (i := 4) scGood.nd rfl (Or.inl rfl)) (fun _ _ _ _ _ => pts_nil)
              (fun _ _ _ _ _ => pe_getN hr.units (pe_fld (pv 0) rfl) (pe_meth (pv 0) T.cl mm3 G3 hr1 b3 .nil pass0 (pa_cons (pv 4) pa_nil)) (fun _ _ => rfl))) pa_nil))) (pss_one (ps_ret (pv 2))) pss_nil))) pss_nil)))
      (pss_one (ps_ret pe_non)), ?_⟩
    refine ⟨_, rfl, x, CS, dx, _, _, rfl, S.hx, T.cl, T.nP, lk_plan _ _, p, CP, dxp, _, _, rfl, I.hp, TP.cl, TP.nF, lk_flows _ _ _, _, _, rfl, .inl (SqL.of I.hfl), _, rfl, ?_⟩
    rw [List.length_map, hfl]
    refine ⟨(small62 (by omega)).1, (small62 (by omega)).2, ?_⟩
    refine for_range (n := P.flows.length) (fun i σ H' => Same H H' ∧ (∃ u2 u3, σ = [some (.ref x), some sv, u2, u3, none]) ∧ ∀ a, a < i → canStep P s a = true → ¬ ∀ o ∈ outs P s a, Safe P o) ⟨Same.refl H, ⟨none, none, rfl⟩, fun a ha => absurd ha (Nat.not_lt_zero _)⟩ ?_ ?_
    · rintro i σ H' hi ⟨s1, ⟨u2, u3, rfl⟩, hj⟩
      rw [Int.zero_add]
      have S1 := S.up s1
      have I1 := I.up s1
      have A1 : Asks w CP H' p sv i P s := ⟨S1.pl, hs.up s1, wf.len, hi⟩
      refine ⟨_, rfl, x, CS, dx, _, _, rfl, S1.hx, T.cl, T.nP, lk_plan _ _, p, dxp, _, rfl, I1.hp, p_none, _, rfl, _, rfl, p, sv, i, P, s, rfl, A1, fun H2 s2 => ⟨_, rfl, ?_⟩⟩
      have s12 := s1.trans s2
      cases hc : canStep P s i with
      | false =>
        refine iteF ⟨s12, ⟨_, _, rfl⟩, fun a ha hca => ?_⟩
        rcases Nat.lt_succ_iff_lt_or_eq.mp ha with q | q
        · exact hj a q hca
        · rw [q, hc] at hca
          cases hca
      | true =>
        have S2 := S.up s12
        have I2 := I.up s12
        refine iteT ⟨_, rfl, x, CS, dx, _, _, rfl, S2.hx, T.cl, T.nP, lk_plan _ _, p, dxp, _, rfl, I2.hp, p_none, _, rfl, _, rfl, p, sv, i, P, s, rfl, A1.up s2, W, wf, fun l us H3 s3 hl0 hl hus => ?_⟩
        have s13 := s12.trans s3
        refine ⟨_, rfl, l, rfl, ⟨_, SqL.of hl⟩, fun D hD => ?_⟩
        refine lc_list (K := K) (a := l) (xs := us) (fun j H4 => Same H3 H4 ∧ H4 D = some (.lst ((((outs P s i).take j).map (safeB P)).map V.bl))) ⟨same_new hD, upd_same⟩ (fun j H4 _ ⟨q, _⟩ => SqL.of (q _ _ hl)) ?_ ?_
        · rintro j y H4 hy ⟨s4, hD4⟩
          have hjl : j < (outs P s i).length := by
            have q := (List.getElem?_eq_some_iff.mp hy).1
            rw [hus.length, List.length_map] at q
            exact q
          obtain ⟨o, ho⟩ := get_some hjl
          obtain ⟨y2, hy2, hyo⟩ := hus.get (i := j) (d := dSt o) (get_map ho)
          have ey : y = y2 := Option.some.inj (hy.symm.trans hy2)
          subst ey
          have s14 := s13.trans s4
          have S4 := S.up s14
          have su := outs_succ hi hc (mem_of_get ho)
          have wo := (succ_wf W wf su).1
          refine ⟨rfl, ?_⟩
          unfold tYes
          refine iteT ⟨_, rfl, x, CS, dx, _, _, rfl, S4.hx, T.cl, T.nK, lk_known _ _, _, rfl, x, dx, _, rfl, S4.hx, s_none, _, rfl, _, y, o, rfl, hyo.up s4, wo.nd, wo.sg, fun q H5 s5 hq => ?_⟩
          have S5 := S4.up s5
          obtain ⟨b, hb⟩ := Option.isSome_iff_exists.mp (all o su)
          have eb := look_safe kn wo hb
          refine ⟨d, q, kSt o, kvs, b, rfl, rfl, key_at hq, S5.nd, hb, _, s5 _ _ hD4, ?_, (s4.trans s5).put hD, ?_⟩
          · have ol : (outs P s i).length ≤ 2 := outs_few P s i
            rw [List.length_map, List.length_map, List.length_take]
            exact lt_line (by omega)
          · rw [upd_same, take_more ho, List.map_append, List.map_append, eb]
            rfl
        · rintro H4 ⟨s4, hD4⟩
          rw [hus.length, List.length_map, List.take_length] at hD4
          refine ⟨D, _, rfl, SqL.of hD4, _, rfl, ?_⟩
          have e : ((outs P s i).map (safeB P)).all id = true ↔ ∀ o ∈ outs P s i, Safe P o := by
            rw [List.all_eq_true]
            constructor
            · intro h o ho
              exact safeB_true.mp (h _ (List.mem_map_of_mem ho))
            · intro h b hb
              obtain ⟨o, ho, rfl⟩ := List.mem_map.mp hb
              exact safeB_true.mpr (h o ho)
          cases hall : ((outs P s i).map (safeB P)).all id with
          | true =>
            refine iteT ⟨_, rfl, k _ H4 (s13.trans s4) ?_⟩
            exact ⟨fun _ => ⟨i, hi, hc, e.mp hall⟩, fun _ => rfl⟩
          | false =>
            refine iteF ⟨s13.trans s4, ⟨_, _, rfl⟩, fun a ha hca => ?_⟩
            rcases Nat.lt_succ_iff_lt_or_eq.mp ha with q | q
            · exact hj a q hca
            · rw [q]
              intro z
              rw [e.mpr z] at hall
              cases hall
    · rintro σ H' ⟨s1, ⟨u2, u3, rfl⟩, hj⟩
      refine k _ H' s1 ⟨fun z => (nomatch z), fun ⟨a, ha, hc, ho⟩ => absurd ho (hj a ha hc)⟩
end
end Aw

/-! is_safe. -/
namespace Aw
open PySem PySem.Spec PyProof.Rows L2

/-- all but d stays -/
def spIsSafe (w : World) (CS CP : Addr) : Sp := fun vs H Q _ => ∃ x sv s P kvs dx p d H0, vs = [.ref x, sv] ∧ H x = some (.ins CS dx (sFields p d)) ∧ Same H0 H ∧ H0 d = none ∧ PlanAt w CP H0 p P ∧ NDict w H d kvs ∧ Known P kvs ∧ WfP P ∧ WfS P s ∧ IsD H sv (dSt s) ∧
  ∀ H' kvs', But d H H' → NDict w H' d kvs' → Known P kvs' → Q (.bl (safeB P s)) H'
theorem IsDs.unsnoc {H : Hp} : ∀ {ds : List Dat} {d : Dat} {vs : List V}, IsDs H vs (ds ++ [d]) → ∃ us v, vs = us ++ [v] ∧ IsDs H us ds ∧ IsD H v d
  | [], d, _, .cons h t => by
    cases t
    exact ⟨[], _, rfl, .nil, h⟩
  | e :: ds, d, _, .cons h t => by
    obtain ⟨us, v, e1, h1, h2⟩ := IsDs.unsnoc (ds := ds) t
    subst e1
    exact ⟨_ :: us, v, rfl, .cons h h1, h2⟩
theorem But.nd_tups {w : World} {d : Addr} {H H' : Hp} {kvs : List (NestedKey × Bool)} (b : But d H H') (h : NDict w H d kvs) : Tups H H' := fun a vs e => b a _ (fun q => by
  obtain ⟨xs, h1, _⟩ := h.ex
  rw [q, h1] at e
  cases e) e
/-- strictly falling numbers below 33: few -/
theorem falling {P : Pln} : ∀ {ss : List St}, ss.Pairwise (fun a b => stepsLeft P b < stepsLeft P a) → (ss.map (stepsLeft P)).Nodup
  | [], _ => List.nodup_nil
  | s :: ss, h => by
    rw [List.pairwise_cons] at h
    rw [List.map_cons, List.nodup_cons]
    refine ⟨fun hm => ?_, falling h.2⟩
    obtain ⟨t, ht, e⟩ := List.mem_map.mp hm
    have := h.1 t ht
    omega
theorem few_stack {P : Pln} (W : WfP P) {ss : List St} (h : ss.Pairwise (fun a b => stepsLeft P b < stepsLeft P a)) : ss.length ≤ 33 := by
  have q := pigeon 33 (ss.map (stepsLeft P)) (falling h) (fun x hx => by
    obtain ⟨t, _, e⟩ := List.mem_map.mp hx
    have := stepsLeft_le W t
    omega)
  rw [List.length_map] at q
  exact q
def mu (ss : List St) (kvs : List (NestedKey × Bool)) : Nat := if ss = [] then 0 else (keyMost + 1 - kvs.length) * 40 + (40 - ss.length) + 1
/-- the while's invariant -/
structure Lp (w : World) (P : Pln) (s : St) (H : Hp) (L d : Addr) (H' : Hp) (ss : List St) (vs : List V) (kvs : List (NestedKey × Bool)) : Prop where
  but : But d H H'
  hL : H' L = some (.lst vs)
  hv : IsDs H' vs (ss.map dSt)
  nd : NDict w H' d kvs
  kn : Known P kvs
  wf : ∀ t ∈ ss, WfS P t
  pw : ss.Pairwise (fun a b => stepsLeft P b < stepsLeft P a)
  un : ∀ t ∈ ss.tail, look kvs (kSt t) = none
  fin : ss = [] → (look kvs (kSt s)).isSome = true
  hd : ∀ t, ss.head? = some t → t = s
theorem key_line {n : Nat} (h : n ≤ keyMost) : n + 1 < sizeLine := by
  rw [sizeLine_eq]
  unfold keyMost at h
  omega
theorem tail_snoc {α : Type} {l : List α} {x : α} : (l ++ [x]).tail = if l.isEmpty = true then [] else l.tail ++ [x] := by
  cases l <;> rfl
theorem mu_push {ss : List St} {kvs : List (NestedKey × Bool)} {o : St} (hne : ss ≠ []) (h : (ss ++ [o]).length ≤ 33) : mu (ss ++ [o]) kvs < mu ss kvs := by
  unfold mu
  have e : ss ++ [o] ≠ [] := by simp
  rw [if_neg e, if_neg hne]
  simp only [List.length_append, List.length_singleton] at h ⊢
  omega
theorem mu_pop {ss : List St} {kvs kvs' : List (NestedKey × Bool)} {t : St} (h : (ss ++ [t]).length ≤ 33) (hk : kvs.length ≤ keyMost) (hk' : kvs'.length = kvs.length + 1 ∨ ss = []) : mu ss kvs' < mu (ss ++ [t]) kvs := by
  unfold mu
  have e : ss ++ [t] ≠ [] := by simp
  rw [if_neg e]
  split
  · omega
  · rename_i hne
    rcases hk' with q | q
    · simp only [List.length_append, List.length_singleton] at h ⊢
      omega
    · exact absurd q hne
section
variable {P : Program} {w : World} {K : PySem.W.Frag} {mg : Str → Option Value} {base : Heap} {CS CP : Addr}
theorem scIsSafe : FnScope ["self", "state", "stack", "present", "key", "missing"] ["self", "state"] (defScope (se 4)) := ⟨rfl, rfl, rfl, by decide +kernel, rfl, by decide +kernel, by decide +kernel⟩
theorem ok_is_safe {f : Addr} {fd : FuncData} (F : Fun K "is_safe" "Search.is_safe" (se 4) f fd) (T : STxt K mg CS) (TP : PTxt K mg CP)
    (m1 : Mth P w K mg base CX0 CS 1 "key_of" ["self", "state"] spKeyOf) (m2 : Mth P w K mg base CX0 CS 5 "open_outcome" ["self", "state"] (spOpen w CS CP)) (m3 : Mth P w K mg base CX0 CS 5 "good_arm" ["self", "state"] (spGood w CS CP))
    (m4 : Mth P w K mg base CX0 CP 2 "all_ended" ["self", "state"] (spAllEnded w CP)) : FnOk P w K mg base CX0 6 f fd ["self", "state"] (spIsSafe w CS CP) := by
  obtain ⟨f1, fd1, mm1, G1, b1⟩ := m1.ex
  obtain ⟨f2, fd2, mm2, G2, b2⟩ := m2.ex
  obtain ⟨f3, fd3, mm3, G3, b3⟩ := m3.ex
  obtain ⟨f4, fd4, mm4, G4, b4⟩ := m4.ex
  refine F.ok scIsSafe (fun vs H Q E h => ?_) (fun cdv A outer s H vs Q E hr h => ?_)
  · obtain ⟨x, sv, s, P, kvs, dx, p, d, H0, rfl, _⟩ := h
    rfl
  · obtain ⟨x, sv, s, P, kvs0, dx, p, d, H0, rfl, hx, s0, hd0, pl0, nd0, kn0, W, wf, hs, k⟩ := h
    have hr1 : Room 1 _ := hr.mono (by decide)
    have hr2 : Room 2 _ := hr.mono (by decide)
    refine ⟨_, pss_cons (ps_set (i := 2) scIsSafe.nd rfl (Or.inl rfl) (pe_lst (pa_cons (pv 1) pa_nil)))
      (pss_cons (ps_while PassesOwn.never (pt_cmpR op_gt (pe_callB call_len_seq (by rfl) T.len PySem.boot_len (pa_cons (pv 2) pa_nil)) pe_int (nomark _))
        (pss_cons (ps_set (i := 3) scIsSafe.nd rfl (Or.inl rfl) (pe_ix ix_list (pv 2) (pe_un un_neg pe_int) (fun _ _ => rfl)))
        (pss_cons (ps_set (i := 4) scIsSafe.nd rfl (Or.inl rfl) (pe_meth (pv 0) T.cl mm1 G1 hr1 b1 .nil pass0 (pa_cons (pv 3) pa_nil)))
        (pss_cons (ps_set (i := 5) scIsSafe.nd rfl (Or.inl rfl) (pe_ifExp (pt_cmpR (op_inN hr.units) (pv 4) (pe_fld (pv 0) rfl) rfl) pe_non (pe_meth (pv 0) T.cl mm2 G2 hr b2 .nil pass0 (pa_cons (pv 3) pa_nil))))
        (pss_cons (ps_if (pt_cmpR op_notN (pv 5) pe_non (nomark _)) (pss_cons (ps_expr (pe_bm PySem.F.plainAttrs_list PySem.F.slot_list_append PySem.F.type_list_append mt_append (pv 2) (pa_cons (pv 5) pa_nil))) (pss_one ps_continue)) pss_nil)
        (pss_cons (ps_if (pt_cmpR (op_notInN hr.units) (pv 4) (pe_fld (pv 0) rfl) rfl)
          (pss_one (ps_asg (pe_or (pe_meth (pe_fld (pv 0) rfl) TP.cl mm4 G4 hr2 b4 .nil pass0 (pa_cons (pv 3) pa_nil)) (pe_one (pe_cmpR op_notN (pe_meth (pv 0) T.cl mm3 G3 hr b3 .nil pass0 (pa_cons (pv 3) pa_nil)) pe_non (nomark _))))
            (pg_sub (pe_fld (pv 0) rfl) (pv 4) (set_N hr.units)))) pss_nil)
        (pss_one (ps_expr (pe_bm0 PySem.F.plainAttrs_list PySem.F.slot_list_pop PySem.F.type_list_pop mt_pop (pv 2))))))))))
      (pss_one (ps_ret (pe_getN hr.units (pe_fld (pv 0) rfl) (pe_meth (pv 0) T.cl mm1 G1 hr1 b1 .nil pass0 (pa_cons (pv 1) pa_nil)) (fun _ _ => rfl))))), ?_⟩
    refine ⟨_, rfl, line1, fun L hL => ?_⟩
    have hxd : x ≠ d := fun e => by
      obtain ⟨xs, h1, _⟩ := nd0.ex
      rw [← e, hx] at h1
      cases h1
    have hLd : L ≠ d := fun e => by
      obtain ⟨xs, h1, _⟩ := nd0.ex
      rw [e, h1] at hL
      cases hL
    have sL := same_new (H := H) (o := .lst [sv]) hL
    refine ⟨fun m σ H' => ∃ ss vs kvs u3 u4 u5, σ = [some (.ref x), some sv, some (.ref L), u3, u4, u5] ∧ Lp w P s H L d H' ss vs kvs ∧ m = mu ss kvs, ⟨_, [s], [sv], kvs0, none, none, none, rfl, ?_, rfl⟩, ?_⟩
    · refine ⟨sL.but, upd_same, .cons (hs.up sL) .nil, nd0.up sL, kn0, ?_, List.pairwise_singleton _ _, fun t ht => (nomatch ht), fun e => (nomatch e), ?_⟩
      · intro t ht
        rw [List.mem_singleton.mp ht]
        exact wf
      · intro t ht
        exact (Option.some.inj ht).symm
    · rintro m σ H1 ⟨ss, vs, kvs, u3, u4, u5, rfl, I, rfl⟩
      have hx1 : H1 x = some (.ins CS dx (sFields p d)) := I.but x _ hxd hx
      have hs1 : IsD H1 sv (dSt s) := hs.mono (I.but.nd_tups nd0)
      have pl1 : PlanAt w CP H1 p P := pl0.up fun b o e => I.but b o (fun q => by rw [q, hd0] at e; cases e) (s0 b o e)
      refine ⟨_, rfl, L, vs, rfl, .inl (SqL.of I.hL), _, _, rfl, rfl, _, rfl, ?_⟩
      have hvl : vs.length = ss.length := by rw [I.hv.length, List.length_map]
      have e0 : decide ((0 : Int) < ((vs.length : Nat) : Int)) = !ss.isEmpty := by
        cases ss with
        | nil => simp [hvl]
        | cons t r =>
          rw [decide_eq_true (by rw [hvl, List.length_cons]; omega)]
          rfl
      show if decide ((0 : Int) < ((vs.length : Nat) : Int)) = true then _ else _
      rw [e0]
      rcases List.eq_nil_or_concat ss with e | ⟨ss0, t, e⟩
      · subst e
        obtain ⟨b, hb⟩ := Option.isSome_iff_exists.mp (I.fin rfl)
        refine iteF ⟨_, rfl, x, CS, dx, _, _, rfl, hx1, T.cl, T.nK, lk_known _ _, _, rfl, x, dx, _, rfl, hx1, s_none, _, rfl, _, sv, s, rfl, hs1, wf.nd, wf.sg, fun q H2 s2 hq => ?_⟩
        refine ⟨d, q, kSt s, kvs, b, rfl, rfl, key_at hq, I.nd.up s2, hb, ?_⟩
        rw [look_safe I.kn wf hb]
        exact k H2 kvs (I.but.trans s2.but) (I.nd.up s2) I.kn
      · rw [List.concat_eq_append] at e
        subst e
        have hv := I.hv
        rw [List.map_append] at hv
        obtain ⟨us, v, ev, hus, hvt⟩ := IsDs.unsnoc (ds := ss0.map dSt) (d := dSt t) hv
        subst ev
        have wt : WfS P t := I.wf t (by simp)
        have hlen := few_stack W I.pw
        have hkl := known_few W I.kn
        have hne : (!(ss0 ++ [t]).isEmpty) = true := by cases ss0 <;> rfl
        rw [hne]
        refine iteT ⟨fun σ' H'' => ∃ ss' vs' kvs' u3 u4 u5, σ' = [some (.ref x), some sv, some (.ref L), u3, u4, u5] ∧ Lp w P s H L d H'' ss' vs' kvs' ∧ mu ss' kvs' < mu (ss0 ++ [t]) kvs,
          fun σ' H'' ⟨ss', vs', kvs', u3, u4, u5, e1, I', l'⟩ => ⟨mu ss' kvs', l', ss', vs', kvs', u3, u4, u5, e1, I', rfl⟩, ?_⟩
        refine ⟨_, rfl, _, rfl, L, _, _, _, rfl, rfl, SqL.of I.hL, atI_last us v, ?_⟩
        refine ⟨_, rfl, x, dx, _, rfl, hx1, s_none, _, rfl, _, v, t, rfl, hvt, wt.nd, wt.sg, fun q H2 s2 hq => ?_⟩
        have hx2 := s2 _ _ hx1
        have nd2 := I.nd.up s2
        have pl2 := pl1.up s2
        have hvt2 := hvt.up s2
        refine ⟨_, rfl, _, rfl, x, CS, dx, _, _, rfl, hx2, T.cl, T.nK, lk_known _ _, q, d, kSt t, kvs, rfl, rfl, key_at hq, nd2, _, rfl, ?_⟩
        -- what is left when the top is known
        have pop : ∀ (H3 : Hp) (kvs3 : List (NestedKey × Bool)), But d H2 H3 → NDict w H3 d kvs3 → Known P kvs3 → (look kvs3 (kSt t)).isSome = true → (∀ r ∈ ss0.tail, look kvs3 (kSt r) = none) → (kvs3.length = kvs.length + 1 ∨ ss0 = []) →
            Lp w P s H L d (upd H3 L (.lst us)) ss0 us kvs3 ∧ mu ss0 kvs3 < mu (ss0 ++ [t]) kvs := by
          intro H3 kvs3 b3 n3 k3 hk hun hmu
          have hL3 : H3 L = some (.lst (us ++ [v])) := b3 L _ hLd (s2 _ _ I.hL)
          have t3 : Tups H2 H3 := b3.nd_tups nd2
          have t4 : Tups H3 (upd H3 L (.lst us)) := putLst_tups hL3
          refine ⟨⟨?_, upd_same, (hus.up s2).mono (t3.trans t4), ?_, k3, fun r hr => I.wf r (List.mem_append_left _ hr), (List.pairwise_append.mp I.pw).1, hun, ?_, ?_⟩, mu_pop hlen hkl hmu⟩
          · intro b o hb e
            rw [upd_ne (ne_of_none e hL)]
            exact b3 b o hb (s2 b o (I.but b o hb e))
          · exact n3.mono t4 (upd_ne (Ne.symm hLd))
          · intro e
            subst e
            have z := I.hd t rfl
            rw [← z]
            exact hk
          · intro r hr
            refine I.hd r ?_
            cases ss0 with
            | nil => cases hr
            | cons a l => exact hr
        have hL2 := s2 _ _ I.hL
        have last : ∀ (a : List V), (a ++ [v])[(a ++ [v]).length - 1]? = some v := fun a => by simp
        cases hlk : look kvs (kSt t) with
        | some b =>
          -- known already: the bottom alone
          have hs0 : ss0 = [] := by
            cases ss0 with
            | nil => rfl
            | cons a l =>
              have z := I.un t (by simp)
              rw [hlk] at z
              cases z
          refine iteT ⟨_, rfl, rfl, _, rfl, iteF ⟨_, rfl, _, rfl, x, CS, dx, _, _, rfl, hx2, T.cl, T.nK, lk_known _ _, q, d, kSt t, kvs, rfl, rfl, key_at hq, nd2, _, rfl, ?_⟩⟩
          rw [hlk]
          refine iteF ⟨_, rfl, .inl ⟨rfl, _, SqL.of hL2⟩, L, us ++ [v], v, rfl, rfl, hL2, last us, ?_⟩
          rw [List.dropLast_concat]
          obtain ⟨p1, p2⟩ := pop H2 kvs (fun _ _ _ e => e) nd2 I.kn (by rw [hlk]; rfl) (by rw [hs0]; exact fun r hr => nomatch hr) (.inr hs0)
          exact ⟨ss0, us, kvs, _, _, _, rfl, p1, p2⟩
        | none =>
          refine iteF ⟨_, rfl, x, dx, _, rfl, hx2, s_none, _, rfl, x, v, t, P, kvs, dx, p, d, rfl, ⟨hx2, pl2, nd2⟩, hvt2, W, wt, fun mv H3 s3 hm => ?_⟩
          have s23 := s2.trans s3
          have hL3 := s3 _ _ hL2
          rcases hm with ⟨rfl, hall⟩ | ⟨o, hso, hko, hmo, hmn⟩
          · -- nothing is missing
            have hx3 := s3 _ _ hx2
            have nd3 := nd2.up s3
            have pl3 := pl2.up s3
            have hvt3 := hvt2.up s3
            refine ⟨_, rfl, rfl, _, rfl, iteF ⟨_, rfl, _, rfl, x, CS, dx, _, _, rfl, hx3, T.cl, T.nK, lk_known _ _, q, d, kSt t, kvs, rfl, rfl, key_at (hq.up s3), nd3, _, rfl, ?_⟩⟩
            rw [hlk]
            refine iteT ⟨_, rfl, x, CS, dx, _, _, rfl, hx3, T.cl, T.nP, lk_plan _ _, p, ?_⟩
            obtain ⟨dxp, fl, st, bl, fs, kvp, IP⟩ := id pl3
            refine ⟨dxp, _, rfl, IP.hp, p_none, _, rfl, p, v, P, t, rfl, pl3, hvt3, wt.len, fun b hb => ⟨b, rfl, ?_⟩⟩
            -- behind the store: the top is known, and goes
            have stored : ∀ (H4 H5 : Hp), Same H3 H4 → (∀ c, c ≠ d → H5 c = H4 c) → NDict w H5 d (putB kvs (kSt t) (safeB P t)) → H5 L = some (.lst (us ++ [v])) ∧ (Lp w P s H L d (upd H5 L (.lst us)) ss0 us (putB kvs (kSt t) (safeB P t)) ∧ mu ss0 (putB kvs (kSt t) (safeB P t)) < mu (ss0 ++ [t]) kvs) := by
              intro H4 H5 s4 n5 hN5
              have b5 : But d H2 H5 := fun c o hc e => by
                rw [n5 c hc]
                exact s4 c o (s3 c o e)
              refine ⟨b5 L _ hLd hL2, ?_⟩
              rw [putB_new hlk] at hN5 ⊢
              refine pop H5 _ b5 hN5 (I.kn.snoc wt hlk) ?_ (fun r hr => ?_) (.inl (by rw [List.length_append]; rfl))
              · rw [look_snoc hlk, if_pos rfl]
                rfl
              · rw [look_snoc hlk]
                have hr0 : r ∈ ss0 := List.mem_of_mem_tail hr
                have q2 := (List.pairwise_append.mp I.pw).2.2 r hr0 t (List.mem_singleton.mpr rfl)
                rw [if_neg (fun e => by have := left_key (P := P) e; omega)]
                refine I.un r ?_
                cases ss0 with
                | nil => cases hr
                | cons a l => exact List.mem_append_left _ hr
            have kl : kvs.length + 1 < sizeLine := key_line hkl
            cases b with
            | true =>
              have es : true = safeB P t := (safeB_true.mpr (.ended (hb.mp rfl))).symm
              refine iteT ⟨_, rfl, x, CS, dx, _, _, rfl, hx3, T.cl, T.nK, lk_known _ _, _, rfl, d, q, kSt t, true, kvs, rfl, rfl, rfl, key_at (hq.up s3), nd3, kl, fun H5 n5 hN5 => ?_⟩
              rw [es] at hN5
              obtain ⟨hL5, p1, p2⟩ := stored H3 H5 (Same.refl H3) n5 hN5
              refine ⟨_, rfl, .inl ⟨rfl, _, SqL.of hL5⟩, L, us ++ [v], v, rfl, rfl, hL5, last us, ?_⟩
              rw [List.dropLast_concat]
              exact ⟨ss0, us, _, _, _, _, rfl, p1, p2⟩
            | false =>
              refine iteF ⟨_, rfl, x, dx, _, rfl, hx3, s_none, _, rfl, x, v, t, P, kvs, dx, p, d, rfl, ⟨hx3, pl3, nd3⟩, hvt3, W, wt, I.kn, hall, fun gv H4 s4 hg => ⟨rfl, ?_⟩⟩
              have es : (!decide (gv = .non)) = safeB P t := by
                rw [Bool.eq_iff_iff, safeB_true, safe_iff]
                have hne : ¬ allEnded P t := fun z => by
                  have q2 := hb.mpr z
                  cases q2
                constructor
                · intro z
                  refine .inr (hg.mp ?_)
                  cases e : decide (gv = V.non) with
                  | false => rfl
                  | true =>
                    rw [e] at z
                    cases z
                · rintro (z | z)
                  · exact absurd z hne
                  · rw [hg.mpr z]
                    rfl
              have hx4 := s4 _ _ hx3
              refine ⟨_, rfl, x, CS, dx, _, _, rfl, hx4, T.cl, T.nK, lk_known _ _, _, rfl, d, q, kSt t, _, kvs, rfl, rfl, rfl, key_at (hq.up (s3.trans s4)), nd3.up s4, kl, fun H5 n5 hN5 => ?_⟩
              rw [es] at hN5
              obtain ⟨hL5, p1, p2⟩ := stored H4 H5 s4 n5 hN5
              refine ⟨_, rfl, .inl ⟨rfl, _, SqL.of hL5⟩, L, us ++ [v], v, rfl, rfl, hL5, last us, ?_⟩
              rw [List.dropLast_concat]
              exact ⟨ss0, us, _, _, _, _, rfl, p1, p2⟩
          · -- a missing one is pushed
            refine ⟨_, rfl, rfl, _, rfl, ?_⟩
            rw [decide_eq_false hmn]
            refine iteT ⟨_, rfl, .inl ⟨rfl, _, SqL.of hL3⟩, _, rfl, L, us ++ [v], mv, rfl, rfl, hL3, ?_, ?_⟩
            · rw [hvl]
              exact lt_line (by omega)
            · obtain ⟨wo, lo⟩ := succ_wf W wt hso
              have pw2 : ((ss0 ++ [t]) ++ [o]).Pairwise (fun a b => stepsLeft P b < stepsLeft P a) := by
                refine List.pairwise_append.mpr ⟨I.pw, List.pairwise_singleton _ _, fun r hr c hc => ?_⟩
                rw [List.mem_singleton.mp hc]
                rcases List.mem_append.mp hr with z | z
                · have q2 := (List.pairwise_append.mp I.pw).2.2 r z t (List.mem_singleton.mpr rfl)
                  omega
                · rw [List.mem_singleton.mp z]
                  exact lo
              have t4 : Tups H3 (upd H3 L (.lst (us ++ [v] ++ [mv]))) := putLst_tups hL3
              refine ⟨(ss0 ++ [t]) ++ [o], us ++ [v] ++ [mv], kvs, _, _, _, rfl, ⟨?_, upd_same, ?_, ?_, I.kn, ?_, pw2, ?_, fun e => ?_, ?_⟩, mu_push (by simp) (few_stack W pw2)⟩
              · intro b o' hb e
                rw [upd_ne (ne_of_none e hL)]
                exact s23 b o' (I.but b o' hb e)
              · rw [List.map_append]
                exact IsDs.snoc (hmo.mono t4) ((I.hv.up s23).mono t4)
              · exact (I.nd.up s23).mono t4 (upd_ne (Ne.symm hLd))
              · intro r hr
                rcases List.mem_append.mp hr with z | z
                · exact I.wf r z
                · rw [List.mem_singleton.mp z]
                  exact wo
              · intro r hr
                rw [tail_snoc] at hr
                have hf : (ss0 ++ [t]).isEmpty = false := by cases ss0 <;> rfl
                rw [hf, if_neg Bool.false_ne_true] at hr
                rcases List.mem_append.mp hr with z | z
                · exact I.un r z
                · rw [List.mem_singleton.mp z]
                  exact hko
              · simp at e
              · intro r hr
                refine I.hd r ?_
                cases ss0 <;> exact hr
end
end Aw

/-! The runner on the heap; its small methods. -/
namespace Aw
open PySem PySem.Spec PyProof.Rows L2

def rFields (p : Addr) (sv : V) (ev : Int) (m h : Addr) : List (Str × V) := [("plan", .ref p), ("state", sv), ("events", .int ev), ("moving", .ref m), ("halted", .ref h)]
theorem q_sp : (("state" : Str) == ("plan" : Str)) = false := by decide +kernel
theorem q_ep : (("events" : Str) == ("plan" : Str)) = false := by decide +kernel
theorem q_es : (("events" : Str) == ("state" : Str)) = false := by decide +kernel
theorem q_mp : (("moving" : Str) == ("plan" : Str)) = false := by decide +kernel
theorem q_ms : (("moving" : Str) == ("state" : Str)) = false := by decide +kernel
theorem q_me : (("moving" : Str) == ("events" : Str)) = false := by decide +kernel
theorem q_hp : (("halted" : Str) == ("plan" : Str)) = false := by decide +kernel
theorem q_hs : (("halted" : Str) == ("state" : Str)) = false := by decide +kernel
theorem q_he : (("halted" : Str) == ("events" : Str)) = false := by decide +kernel
theorem q_hm : (("halted" : Str) == ("moving" : Str)) = false := by decide +kernel
theorem rl_plan {p : Addr} {sv : V} {ev : Int} {m h : Addr} : (rFields p sv ev m h).lookup ("plan" : Str) = some (.ref p) := by
  unfold rFields
  rw [List.lookup_cons]
  simp
theorem rl_state {p : Addr} {sv : V} {ev : Int} {m h : Addr} : (rFields p sv ev m h).lookup ("state" : Str) = some sv := by
  unfold rFields
  simp only [List.lookup_cons, q_sp]
  simp
theorem rl_events {p : Addr} {sv : V} {ev : Int} {m h : Addr} : (rFields p sv ev m h).lookup ("events" : Str) = some (.int ev) := by
  unfold rFields
  simp only [List.lookup_cons, q_ep, q_es]
  simp
theorem rl_moving {p : Addr} {sv : V} {ev : Int} {m h : Addr} : (rFields p sv ev m h).lookup ("moving" : Str) = some (.ref m) := by
  unfold rFields
  simp only [List.lookup_cons, q_mp, q_ms, q_me]
  simp
theorem rl_halted {p : Addr} {sv : V} {ev : Int} {m h : Addr} : (rFields p sv ev m h).lookup ("halted" : Str) = some (.ref h) := by
  unfold rFields
  simp only [List.lookup_cons, q_hp, q_hs, q_he, q_hm]
  simp
theorem r_none {x : Str} {p : Addr} {sv : V} {ev : Int} {m h : Addr} (q : ((x == ("plan" : Str)) || (x == ("state" : Str)) || (x == ("events" : Str)) || (x == ("moving" : Str)) || (x == ("halted" : Str))) = false := by decide +kernel) : (rFields p sv ev m h).lookup x = none := by
  simp only [Bool.or_eq_false_iff] at q
  obtain ⟨⟨⟨⟨h1, h2⟩, h3⟩, h4⟩, h5⟩ := q
  unfold rFields
  simp only [List.lookup_cons, h1, h2, h3, h4, h5]
  rfl
theorem ne_of_beq {x y : Str} (h : (x == y) = false) : ¬ x = y := beq_eq_false_iff_ne.mp h
theorem rp_state {p : Addr} {sv sv' : V} {ev : Int} {m h : Addr} : putF "state" sv' (rFields p sv ev m h) = rFields p sv' ev m h := by
  unfold rFields
  have n1 : ¬ (("plan" : Str) = "state") := by decide +kernel
  simp only [putF, n1, if_false, if_true]
theorem rp_events {p : Addr} {sv : V} {ev ev' : Int} {m h : Addr} : putF "events" (.int ev') (rFields p sv ev m h) = rFields p sv ev' m h := by
  unfold rFields
  have n1 : ¬ (("plan" : Str) = "events") := by decide +kernel
  have n2 : ¬ (("state" : Str) = "events") := by decide +kernel
  simp only [putF, n1, n2, if_false, if_true]
theorem rp_moving {p : Addr} {sv : V} {ev : Int} {m m' h : Addr} : putF "moving" (.ref m') (rFields p sv ev m h) = rFields p sv ev m' h := by
  unfold rFields
  have n1 : ¬ (("plan" : Str) = "moving") := by decide +kernel
  have n2 : ¬ (("state" : Str) = "moving") := by decide +kernel
  have n3 : ¬ (("events" : Str) = "moving") := by decide +kernel
  simp only [putF, n1, n2, n3, if_false, if_true]
theorem rp_halted {p : Addr} {sv : V} {ev : Int} {m h h' : Addr} : putF "halted" (.ref h') (rFields p sv ev m h) = rFields p sv ev m h' := by
  unfold rFields
  have n1 : ¬ (("plan" : Str) = "halted") := by decide +kernel
  have n2 : ¬ (("state" : Str) = "halted") := by decide +kernel
  have n3 : ¬ (("events" : Str) = "halted") := by decide +kernel
  have n4 : ¬ (("moving" : Str) = "halted") := by decide +kernel
  simp only [putF, n1, n2, n3, n4, if_false, if_true]
theorem rf_len {p : Addr} {sv : V} {ev : Int} {m h : Addr} : (rFields p sv ev m h).length < 1000 := by
  show 5 < 1000
  decide
structure RTxt (K : PySem.W.Frag) (mg : Str → Option Value) (C : Addr) : Prop where
  cl : Cls K C
  nP : NoAttr K C "plan"
  nS : NoAttr K C "state"
  nE : NoAttr K C "events"
  nM : NoAttr K C "moving"
  nH : NoAttr K C "halted"
  len : mg "len" = none
  range : mg "range" = none
  list : mg "list" = none
  enumerate : mg "enumerate" = none
/-- a runner at r: over H0 (the plan), its own parts at r, m, h -/
structure RunIn (w : World) (CR CP : Addr) (H0 H : Hp) (r : Addr) (P : Pln) (R : Rn) (dx p m h : Addr) (sv : V) (ev : Int) : Prop where
  hr : H r = some (.ins CR dx (rFields p sv ev m h))
  s0 : Same H0 H
  pl0 : PlanAt w CP H0 p P
  r0 : H0 r = none
  m0 : H0 m = none
  h0 : H0 h = none
  st : IsD H sv (dSt R.st)
  hm : H m = some (.lst (R.mov.map V.bl))
  hh : H h = some (.lst (R.hal.map V.bl))
  ne : m ≠ h
theorem RunIn.pl {w : World} {CR CP : Addr} {H0 H : Hp} {r : Addr} {P : Pln} {R : Rn} {dx p m h : Addr} {sv : V} {ev : Int} (I : RunIn w CR CP H0 H r P R dx p m h sv ev) : PlanAt w CP H p P := I.pl0.up I.s0
theorem RunIn.up {w : World} {CR CP : Addr} {H0 H H' : Hp} {r : Addr} {P : Pln} {R : Rn} {dx p m h : Addr} {sv : V} {ev : Int} (I : RunIn w CR CP H0 H r P R dx p m h sv ev) (s : Same H H') : RunIn w CR CP H0 H' r P R dx p m h sv ev :=
  ⟨s _ _ I.hr, I.s0.trans s, I.pl0, I.r0, I.m0, I.h0, I.st.up s, s _ _ I.hm, s _ _ I.hh, I.ne⟩
/-- all but the runner's parts stays -/
def But3 (r m h : Addr) (H H' : Hp) : Prop := ∀ b o, b ≠ r → b ≠ m → b ≠ h → H b = some o → H' b = some o
theorem But3.trans {r m h : Addr} {H H1 H2 : Hp} (a : But3 r m h H H1) (b : But3 r m h H1 H2) : But3 r m h H H2 := fun c o n1 n2 n3 e => b c o n1 n2 n3 (a c o n1 n2 n3 e)
theorem _root_.L2.Same.but3 {r m h : Addr} {H H' : Hp} (s : Same H H') : But3 r m h H H' := fun b o _ _ _ e => s b o e
theorem RunIn.tups {w : World} {CR CP : Addr} {H0 H H' : Hp} {r : Addr} {P : Pln} {R : Rn} {dx p m h : Addr} {sv : V} {ev : Int} (I : RunIn w CR CP H0 H r P R dx p m h sv ev) (b : But3 r m h H H') : Tups H H' := fun a vs e =>
  b a _ (ne_of e I.hr (fun z => nomatch z)) (ne_of e I.hm (fun z => nomatch z)) (ne_of e I.hh (fun z => nomatch z)) e
theorem RunIn.base {w : World} {CR CP : Addr} {H0 H H' : Hp} {r : Addr} {P : Pln} {R : Rn} {dx p m h : Addr} {sv : V} {ev : Int} (I : RunIn w CR CP H0 H r P R dx p m h sv ev) (b : But3 r m h H H') : Same H0 H' := fun a o e =>
  b a o (ne_of_none e I.r0) (ne_of_none e I.m0) (ne_of_none e I.h0) (I.s0 a o e)
theorem RunIn.rm {w : World} {CR CP : Addr} {H0 H : Hp} {r : Addr} {P : Pln} {R : Rn} {dx p m h : Addr} {sv : V} {ev : Int} (I : RunIn w CR CP H0 H r P R dx p m h sv ev) : r ≠ m := ne_of I.hr I.hm (fun z => nomatch z)
theorem RunIn.rh {w : World} {CR CP : Addr} {H0 H : Hp} {r : Addr} {P : Pln} {R : Rn} {dx p m h : Addr} {sv : V} {ev : Int} (I : RunIn w CR CP H0 H r P R dx p m h sv ev) : r ≠ h := ne_of I.hr I.hh (fun z => nomatch z)
/-- the runner's own object is written -/
theorem RunIn.putR {w : World} {CR CP : Addr} {H0 H : Hp} {r : Addr} {P : Pln} {R : Rn} {dx p m h : Addr} {sv : V} {ev : Int} (I : RunIn w CR CP H0 H r P R dx p m h sv ev) {sv' : V} {ev' : Int} {st' : St} (hs : IsD H sv' (dSt st')) :
    RunIn w CR CP H0 (upd H r (.ins CR dx (rFields p sv' ev' m h))) r P { R with st := st' } dx p m h sv' ev' ∧ But3 r m h H (upd H r (.ins CR dx (rFields p sv' ev' m h))) := by
  have b : But3 r m h H (upd H r (.ins CR dx (rFields p sv' ev' m h))) := fun c o n1 _ _ e => by
    rw [upd_ne n1]
    exact e
  exact ⟨⟨upd_same, I.base b, I.pl0, I.r0, I.m0, I.h0, hs.mono (I.tups b), by rw [upd_ne (Ne.symm I.rm)]; exact I.hm, by rw [upd_ne (Ne.symm I.rh)]; exact I.hh, I.ne⟩, b⟩
theorem RunIn.putM {w : World} {CR CP : Addr} {H0 H : Hp} {r : Addr} {P : Pln} {R : Rn} {dx p m h : Addr} {sv : V} {ev : Int} (I : RunIn w CR CP H0 H r P R dx p m h sv ev) (mov : List Bool) :
    RunIn w CR CP H0 (upd H m (.lst (mov.map V.bl))) r P { R with mov := mov } dx p m h sv ev ∧ But3 r m h H (upd H m (.lst (mov.map V.bl))) := by
  have b : But3 r m h H (upd H m (.lst (mov.map V.bl))) := fun c o _ n2 _ e => by
    rw [upd_ne n2]
    exact e
  exact ⟨⟨by rw [upd_ne I.rm]; exact I.hr, I.base b, I.pl0, I.r0, I.m0, I.h0, I.st.mono (I.tups b), upd_same, by rw [upd_ne (Ne.symm I.ne)]; exact I.hh, I.ne⟩, b⟩
theorem RunIn.putH {w : World} {CR CP : Addr} {H0 H : Hp} {r : Addr} {P : Pln} {R : Rn} {dx p m h : Addr} {sv : V} {ev : Int} (I : RunIn w CR CP H0 H r P R dx p m h sv ev) (hal : List Bool) :
    RunIn w CR CP H0 (upd H h (.lst (hal.map V.bl))) r P { R with hal := hal } dx p m h sv ev ∧ But3 r m h H (upd H h (.lst (hal.map V.bl))) := by
  have b : But3 r m h H (upd H h (.lst (hal.map V.bl))) := fun c o _ _ n3 e => by
    rw [upd_ne n3]
    exact e
  exact ⟨⟨by rw [upd_ne I.rh]; exact I.hr, I.base b, I.pl0, I.r0, I.m0, I.h0, I.st.mono (I.tups b), by rw [upd_ne I.ne]; exact I.hm, upd_same, I.ne⟩, b⟩
/-- an arm of a well-formed runner -/
structure ArmOf (w : World) (CR CP : Addr) (H0 H : Hp) (r : Addr) (P : Pln) (R : Rn) (dx p m h : Addr) (sv : V) (ev : Int) (a : Nat) : Prop where
  run : RunIn w CR CP H0 H r P R dx p m h sv ev
  W : WfP P
  ok : RunOk P R
  arm : a < P.flows.length
theorem ArmOf.up {w : World} {CR CP : Addr} {H0 H H' : Hp} {r : Addr} {P : Pln} {R : Rn} {dx p m h : Addr} {sv : V} {ev : Int} {a : Nat} (I : ArmOf w CR CP H0 H r P R dx p m h sv ev a) (s : Same H H') : ArmOf w CR CP H0 H' r P R dx p m h sv ev a :=
  ⟨I.run.up s, I.W, I.ok, I.arm⟩
theorem ArmOf.asks {w : World} {CR CP : Addr} {H0 H : Hp} {r : Addr} {P : Pln} {R : Rn} {dx p m h : Addr} {sv : V} {ev : Int} {a : Nat} (I : ArmOf w CR CP H0 H r P R dx p m h sv ev a) : Asks w CP H p sv a P R.st :=
  ⟨I.run.pl, I.run.st, I.ok.wf.len, I.arm⟩
def spCheckArm (w : World) (CR CP : Addr) : Sp := fun vs H Q _ => ∃ H0 r P R dx p m h sv ev a, vs = [.ref r, .int (a : Nat)] ∧ ArmOf w CR CP H0 H r P R dx p m h sv ev a ∧ Q .non H
def spIsHalted (w : World) (CR CP : Addr) : Sp := fun vs H Q _ => ∃ H0 r P R dx p m h sv ev a, vs = [.ref r, .int (a : Nat)] ∧ ArmOf w CR CP H0 H r P R dx p m h sv ev a ∧ ∀ b, R.hal[a]? = some b → Q (.bl b) H
def spUnderWay (w : World) (CR CP : Addr) : Sp := fun vs H Q _ => ∃ H0 r P R dx p m h sv ev a, vs = [.ref r, .int (a : Nat)] ∧ ArmOf w CR CP H0 H r P R dx p m h sv ev a ∧ ∀ b, R.mov[a]? = some b → Q (.bl b) H
def spPlaceOf (w : World) (CR CP : Addr) : Sp := fun vs H Q _ => ∃ H0 r P R dx p m h sv ev a, vs = [.ref r, .int (a : Nat)] ∧ ArmOf w CR CP H0 H r P R dx p m h sv ev a ∧ ∀ v H', Same H H' → OptP H' v (placeOf P R a) → Q v H'
section
variable {P : Program} {w : World} {K : PySem.W.Frag} {mg : Str → Option Value} {base : Heap} {CR CP : Addr}
theorem scCheckArm : FnScope ["self", "arm"] ["self", "arm"] (defScope (ru 1)) := ⟨rfl, rfl, rfl, by decide +kernel, rfl, by decide +kernel, by decide +kernel⟩
theorem ok_check_arm {f : Addr} {fd : FuncData} (F : Fun K "check_arm" "Runner.check_arm" (ru 1) f fd) (T : RTxt K mg CR) : FnOk P w K mg base CX0 1 f fd ["self", "arm"] (spCheckArm w CR CP) := by
  refine F.ok scCheckArm (fun vs H Q E h => ?_) (fun cdv A outer s H vs Q E hr h => ?_)
  · obtain ⟨H0, r, P, R, dx, p, m, h, sv, ev, a, rfl, _⟩ := h
    rfl
  · obtain ⟨H0, r, P, R, dx, p, m, h, sv, ev, a, rfl, A, k⟩ := h
    refine ⟨_, pss_one (ps_if (pt_not (pt_chain op_le op_lt pe_int (pv 1) (pe_callB call_len_seq (by rfl) T.len PySem.boot_len (pa_cons (pe_fld (pv 0) rfl) pa_nil)))) (pss_one ps_never) pss_nil), ?_⟩
    refine ⟨_, rfl, _, _, rfl, rfl, _, rfl, ?_⟩
    have h1 : decide ((0 : Int) ≤ ((a : Nat) : Int)) = true := decide_eq_true (by omega)
    rw [h1]
    refine iteT ⟨_, rfl, r, CR, dx, _, _, rfl, A.run.hr, T.cl, T.nM, rl_moving, m, _, rfl, .inl (SqL.of A.run.hm), _, _, rfl, rfl, _, rfl, ?_⟩
    have h2 : decide (((a : Nat) : Int) < (((R.mov.map V.bl).length : Nat) : Int)) = true := decide_eq_true (by rw [List.length_map, A.ok.ml]; have := A.arm; omega)
    rw [h2]
    exact iteF k
theorem scIsHalted : FnScope ["self", "arm"] ["self", "arm"] (defScope (ru 3)) := ⟨rfl, rfl, rfl, by decide +kernel, rfl, by decide +kernel, by decide +kernel⟩
theorem ok_is_halted {f : Addr} {fd : FuncData} (F : Fun K "is_halted" "Runner.is_halted" (ru 3) f fd) (T : RTxt K mg CR) (m1 : Mth P w K mg base CX0 CR 1 "check_arm" ["self", "arm"] (spCheckArm w CR CP)) : FnOk P w K mg base CX0 2 f fd ["self", "arm"] (spIsHalted w CR CP) := by
  obtain ⟨f1, fd1, mm1, G1, b1⟩ := m1.ex
  refine F.ok scIsHalted (fun vs H Q E h => ?_) (fun cdv A outer s H vs Q E hr h => ?_)
  · obtain ⟨H0, r, P, R, dx, p, m, h, sv, ev, a, rfl, _⟩ := h
    rfl
  · obtain ⟨H0, r, P, R, dx, p, m, h, sv, ev, a, rfl, A, k⟩ := h
    obtain ⟨b, hb⟩ := get_some (l := R.hal) (i := a) (by rw [A.ok.hl]; exact A.arm)
    refine ⟨_, pss_cons (ps_expr (pe_meth (pv 0) T.cl mm1 G1 hr b1 .nil pass0 (pa_cons (pv 1) pa_nil))) (pss_one (ps_ret (pe_ix ix_list (pe_fld (pv 0) rfl) (pv 1) (fun _ _ => rfl)))), ?_⟩
    refine ⟨_, rfl, r, dx, _, rfl, A.run.hr, r_none, _, rfl, H0, r, P, R, dx, p, m, h, sv, ev, a, rfl, A, ?_⟩
    exact ⟨_, rfl, r, CR, dx, _, _, rfl, A.run.hr, T.cl, T.nH, rl_halted, _, rfl, _, _, _, _, rfl, rfl, SqL.of A.run.hh, atI_nat (get_map hb), k b hb⟩
theorem scUnderWay : FnScope ["self", "arm"] ["self", "arm"] (defScope (ru 4)) := ⟨rfl, rfl, rfl, by decide +kernel, rfl, by decide +kernel, by decide +kernel⟩
theorem ok_under_way {f : Addr} {fd : FuncData} (F : Fun K "is_under_way" "Runner.is_under_way" (ru 4) f fd) (T : RTxt K mg CR) (m1 : Mth P w K mg base CX0 CR 1 "check_arm" ["self", "arm"] (spCheckArm w CR CP)) : FnOk P w K mg base CX0 2 f fd ["self", "arm"] (spUnderWay w CR CP) := by
  obtain ⟨f1, fd1, mm1, G1, b1⟩ := m1.ex
  refine F.ok scUnderWay (fun vs H Q E h => ?_) (fun cdv A outer s H vs Q E hr h => ?_)
  · obtain ⟨H0, r, P, R, dx, p, m, h, sv, ev, a, rfl, _⟩ := h
    rfl
  · obtain ⟨H0, r, P, R, dx, p, m, h, sv, ev, a, rfl, A, k⟩ := h
    obtain ⟨b, hb⟩ := get_some (l := R.mov) (i := a) (by rw [A.ok.ml]; exact A.arm)
    refine ⟨_, pss_cons (ps_expr (pe_meth (pv 0) T.cl mm1 G1 hr b1 .nil pass0 (pa_cons (pv 1) pa_nil))) (pss_one (ps_ret (pe_ix ix_list (pe_fld (pv 0) rfl) (pv 1) (fun _ _ => rfl)))), ?_⟩
    refine ⟨_, rfl, r, dx, _, rfl, A.run.hr, r_none, _, rfl, H0, r, P, R, dx, p, m, h, sv, ev, a, rfl, A, ?_⟩
    exact ⟨_, rfl, r, CR, dx, _, _, rfl, A.run.hr, T.cl, T.nM, rl_moving, _, rfl, _, _, _, _, rfl, rfl, SqL.of A.run.hm, atI_nat (get_map hb), k b hb⟩
theorem scPlaceOf : FnScope ["self", "arm"] ["self", "arm"] (defScope (ru 2)) := ⟨rfl, rfl, rfl, by decide +kernel, rfl, by decide +kernel, by decide +kernel⟩
theorem ok_place_of {f : Addr} {fd : FuncData} (F : Fun K "place_of" "Runner.place_of" (ru 2) f fd) (T : RTxt K mg CR) (TP : PTxt K mg CP) (m1 : Mth P w K mg base CX0 CR 1 "check_arm" ["self", "arm"] (spCheckArm w CR CP))
    (m2 : Mth P w K mg base CX0 CP 2 "wanted" ["self", "state", "arm"] (spWanted w CP)) (m3 : Mth P w K mg base CX0 CP 1 "rest_of" ["self", "state", "arm"] (spRestOf w CP)) : FnOk P w K mg base CX0 3 f fd ["self", "arm"] (spPlaceOf w CR CP) := by
  obtain ⟨f1, fd1, mm1, G1, b1⟩ := m1.ex
  obtain ⟨f2, fd2, mm2, G2, b2⟩ := m2.ex
  obtain ⟨f3, fd3, mm3, G3, b3⟩ := m3.ex
  refine F.ok scPlaceOf (fun vs H Q E h => ?_) (fun cdv A outer s H vs Q E hr h => ?_)
  · obtain ⟨H0, r, P, R, dx, p, m, h, sv, ev, a, rfl, _⟩ := h
    rfl
  · obtain ⟨H0, r, P, R, dx, p, m, h, sv, ev, a, rfl, A, k⟩ := h
    obtain ⟨b, hb⟩ := get_some (l := R.mov) (i := a) (by rw [A.ok.ml]; exact A.arm)
    obtain ⟨dxp, fl, st, bl, fs, kvp, IP⟩ := id A.run.pl
    have hr1 : Room 1 _ := hr.mono (by decide)
    refine ⟨_, pss_cons (ps_expr (pe_meth (pv 0) T.cl mm1 G1 hr1 b1 .nil pass0 (pa_cons (pv 1) pa_nil))) (pss_one (ps_ret (pe_ifExp (pt_val (pe_ix ix_list (pe_fld (pv 0) rfl) (pv 1) (fun _ _ => rfl)))
      (pe_meth (pe_fld (pv 0) rfl) TP.cl mm2 G2 hr b2 .nil pass0 (pa_cons (pe_fld (pv 0) rfl) (pa_cons (pv 1) pa_nil))) (pe_meth (pe_fld (pv 0) rfl) TP.cl mm3 G3 hr1 b3 .nil pass0 (pa_cons (pe_fld (pv 0) rfl) (pa_cons (pv 1) pa_nil)))))), ?_⟩
    refine ⟨_, rfl, r, dx, _, rfl, A.run.hr, r_none, _, rfl, H0, r, P, R, dx, p, m, h, sv, ev, a, rfl, A, ?_⟩
    refine ⟨_, rfl, r, CR, dx, _, _, rfl, A.run.hr, T.cl, T.nM, rl_moving, _, rfl, _, _, _, _, rfl, rfl, SqL.of A.run.hm, atI_nat (get_map hb), _, rfl, ?_⟩
    cases b with
    | true =>
      refine iteT ⟨_, rfl, r, CR, dx, _, _, rfl, A.run.hr, T.cl, T.nP, rl_plan, p, dxp, _, rfl, IP.hp, p_none, _, rfl, r, CR, dx, _, _, rfl, A.run.hr, T.cl, T.nS, rl_state, _, rfl, p, sv, a, P, R.st, rfl, A.asks, fun v H' s' hv => k v H' s' ?_⟩
      unfold placeOf
      rw [if_pos hb]
      exact hv
    | false =>
      refine iteF ⟨_, rfl, r, CR, dx, _, _, rfl, A.run.hr, T.cl, T.nP, rl_plan, p, dxp, _, rfl, IP.hp, p_none, _, rfl, r, CR, dx, _, _, rfl, A.run.hr, T.cl, T.nS, rl_state, _, rfl, p, sv, a, P, R.st, rfl, A.asks, fun v H' s' hv => k v H' s' ?_⟩
      unfold placeOf
      rw [if_neg (by rw [hb]; exact fun z => nomatch z)]
      exact hv
end
end Aw

/-! state_ahead, in_the_way, is_held_back. -/
namespace Aw
open PySem PySem.Spec PyProof.Rows L2

theorem moved_wf {fl : List Step} (wf : WfFlow fl) {x : Spot} (h : WfSpot fl x) : WfSpot fl (movedSpot fl x) := by
  unfold movedSpot
  cases e : fl[x.ix]? with
  | none => exact h
  | some st =>
    cases st with
    | move q =>
      have hlt : x.ix < fl.length := (List.getElem?_eq_some_iff.mp e).1
      exact ⟨landing_top wf hlt, wf _ _ e, h.held⟩
    | _ => exact h
theorem ahead_wf {P : Pln} (W : WfP P) {s : St} (S : WfS P s) (mov : List Bool) : WfS P (ahead P s mov) := by
  refine ⟨ahead_len S.len mov, fun a fl x hf hx => ?_, S.nd, S.sg⟩
  by_cases hm : mov[a]? = some true
  · rw [ahead_yes S.len hm, flowAt_eq hf] at hx
    cases hs : s.spots[a]? with
    | none =>
      rw [hs] at hx
      cases hx
    | some y =>
      rw [hs] at hx
      rw [← Option.some.inj hx]
      exact moved_wf (W.wf fl (mem_of_get hf)) (S.sp a fl y hf hs)
  · rw [ahead_no S.len hm] at hx
    exact S.sp a fl x hf hx
def spAhead (w : World) (CR CP : Addr) : Sp := fun vs H Q _ => ∃ H0 r P R dx p m h sv ev, vs = [.ref r] ∧ RunIn w CR CP H0 H r P R dx p m h sv ev ∧ WfP P ∧ RunOk P R ∧ ∀ v H', Same H H' → IsD H' v (dSt (ahead P R.st R.mov)) → Q v H'
def spInTheWay (w : World) (CR CP : Addr) : Sp := fun vs H Q _ => ∃ H0 r P R dx p m h sv ev a, vs = [.ref r, .int (a : Nat)] ∧ ArmOf w CR CP H0 H r P R dx p m h sv ev a ∧ ∀ v H', Same H H' → OptI v (inWay P R a) → Q v H'
def spHeldBack (w : World) (CR CP : Addr) : Sp := fun vs H Q _ => ∃ H0 r P R dx p m h sv ev a, vs = [.ref r, .int (a : Nat)] ∧ ArmOf w CR CP H0 H r P R dx p m h sv ev a ∧ ∀ H', Same H H' → Q (.bl (heldBack P R a)) H'
theorem placeOf_some {P : Pln} {R : Rn} (ok : RunOk P R) (o : Nat) : ∃ pl, placeOf P R o = some pl := by
  unfold placeOf
  by_cases h : R.mov[o]? = some true
  · rw [if_pos h]
    obtain ⟨q, e⟩ := ok.mv o h
    unfold wanted
    rw [e]
    exact ⟨_, rfl⟩
  · rw [if_neg h]
    exact ⟨_, rfl⟩
/-- a fresh search: what was tracked stays -/
theorem made_same {H H' : Hp} {x dx C : Addr} (hx : H x = none) (hdx : H dx = none) (b : But x (upd (upd H dx (.own x)) x (.ins C dx [])) H') : Same H H' := fun c o e => by
  have n1 : c ≠ x := ne_of_none e hx
  have n2 : c ≠ dx := ne_of_none e hdx
  exact b c o n1 (by rw [upd_ne n1, upd_ne n2]; exact e)
theorem made_free {H : Hp} {x dx d : Addr} {o1 o2 : HO} (hd : upd (upd H dx o1) x o2 d = none) : H d = none := by
  by_cases n1 : d = x
  · rw [n1, upd_same] at hd
    cases hd
  · rw [upd_ne n1] at hd
    by_cases n2 : d = dx
    · rw [n2, upd_same] at hd
      cases hd
    · rw [upd_ne n2] at hd
      exact hd
theorem inWay_none {P : Pln} {R : Rn} {a : Nat} (h : wanted P R.st a = none) : inWay P R a = none := by
  unfold inWay
  rw [h]
theorem inWay_some {P : Pln} {R : Rn} {a : Nat} {pl : Place} (h : wanted P R.st a = some pl) : inWay P R a = (List.range P.flows.length).find? fun o => decide (o ≠ a) && match placeOf P R o with
    | some pl' => P.blk a pl o pl'
    | none => false := by
  unfold inWay
  rw [h] <;> rfl
section
variable {P : Program} {w : World} {K : PySem.W.Frag} {mg : Str → Option Value} {base : Heap} {CR CS CP : Addr}
theorem scAhead : FnScope ["self", "state", "arm", "moving"] ["self"] (defScope (ru 5)) := ⟨rfl, rfl, rfl, by decide +kernel, rfl, by decide +kernel, by decide +kernel⟩
theorem ok_ahead {f : Addr} {fd : FuncData} (F : Fun K "state_ahead" "Runner.state_ahead" (ru 5) f fd) (T : RTxt K mg CR) (TP : PTxt K mg CP) (m1 : Mth P w K mg base CX0 CP 3 "outcomes" ["self", "state", "arm"] (spOutcomes w CP)) : FnOk P w K mg base CX0 4 f fd ["self"] (spAhead w CR CP) := by
  obtain ⟨f1, fd1, mm1, G1, b1⟩ := m1.ex
  refine F.ok scAhead (fun vs H Q E h => ?_) (fun cdv A outer s H vs Q E hr h => ?_)
  · obtain ⟨H0, r, P, R, dx, p, m, h, sv, ev, rfl, _⟩ := h
    rfl
  · obtain ⟨H0, r, P, R, dx, p, m, h, sv, ev, rfl, A, W, ok, k⟩ := h
    obtain ⟨dxp, fl, st, bl, fs, kvp, IP⟩ := id A.pl
    refine ⟨_, pss_cons (ps_set (i := 1) scAhead.nd rfl (Or.inl rfl) (pe_fld (pv 0) rfl))
      (pss_cons (ps_for PassesOwn.never rfl (pi_enum (by rfl) T.enumerate (pa_cons (pe_fld (pv 0) rfl) pa_nil)) (pg_tup rfl (pgs_cons (pg_name (i := 2) scAhead.nd rfl (Or.inl rfl)) (pgs_cons (pg_name (i := 3) scAhead.nd rfl (Or.inl rfl)) pgs_nil)))
        (pss_one (ps_if (pt_val (pv 3)) (pss_one (ps_set (i := 1) scAhead.nd rfl (Or.inl rfl) (pe_ix ix_list (pe_meth (pe_fld (pv 0) rfl) TP.cl mm1 G1 hr b1 .nil pass0 (pa_cons (pv 1) (pa_cons (pv 2) pa_nil))) pe_int (fun _ _ => rfl)))) pss_nil)))
      (pss_one (ps_ret (pv 1)))), ?_⟩
    refine ⟨_, rfl, r, CR, dx, _, _, rfl, A.hr, T.cl, T.nS, rl_state, ?_⟩
    refine ⟨_, rfl, r, CR, dx, _, _, rfl, A.hr, T.cl, T.nM, rl_moving, m, _, rfl, SqL.of A.hm, ?_⟩
    refine for_it (walk_enum (K := K) (a := m) (xs := R.mov.map V.bl)) (fun i σ H' => Same H H' ∧ ∃ u2 u3 v, σ = [some (.ref r), some v, u2, u3] ∧ IsD H' v (dSt (ahead P R.st (R.mov.take i)))) ⟨Same.refl H, none, none, sv, rfl, ?_⟩ (fun i σ H' _ ⟨s2, _⟩ => SqL.of (s2 _ _ A.hm)) ?_ ?_
    · rw [List.take_zero, ahead_none ok.wf.len (fun a => by simp)]
      exact A.st
    · rintro i y σ H2 H3 hi ⟨s2, u2, u3, v, rfl, hv⟩ ⟨Tt, x1, y1, rfl, hT, rfl, ex, ey⟩
      have ex2 : x1 = .int (i : Nat) := (Option.some.inj ex).symm
      subst ex2
      rw [List.length_map] at hi
      obtain ⟨b, hb⟩ := get_some hi
      have hiP : i < P.flows.length := by rw [← ok.ml]; exact hi
      have ey2 : y1 = .bl b := (Option.some.inj ((get_map (f := V.bl) hb).symm.trans ey)).symm
      subst ey2
      have s3 := s2.new (o := .tup [.int (i : Nat), .bl b]) hT
      have hv3 := hv.up (same_new (o := .tup [.int (i : Nat), .bl b]) hT)
      have wfi := ahead_wf W ok.wf (R.mov.take i)
      refine ⟨Tt, _, rfl, SqT.of upd_same, rfl, _, _, rfl, _, _, rfl, rfl, ?_⟩
      refine ⟨_, rfl, _, rfl, ?_⟩
      cases b with
      | true =>
        obtain ⟨q, eq⟩ := ok.mv i hb
        have eo := ahead_take_yes ok.wf.len hb hiP eq
        have A3 := A.up s3
        have IP3 := IP.up s3
        refine iteT ⟨_, rfl, r, CR, dx, _, _, rfl, A3.hr, T.cl, T.nP, rl_plan, p, dxp, _, rfl, IP3.hp, p_none, _, rfl, _, rfl, p, v, i, P, _, rfl, ⟨A3.pl, hv3, wfi.len, hiP⟩, W, wfi, fun l us H4 s4 hl0 hl hus => ?_⟩
        rw [eo] at hus
        cases hus with
        | cons h1 h2 =>
          cases h2
          exact ⟨l, _, _, _, rfl, rfl, SqL.of hl, atI_nat (j := 0) rfl, s3.trans s4, _, _, _, rfl, h1⟩
      | false =>
        refine iteF ⟨s3, _, _, _, rfl, ?_⟩
        rw [ahead_take_no ok.wf.len hb hiP]
        exact hv3
    · rintro σ H' ⟨s2, u2, u3, v, rfl, hv⟩
      rw [List.length_map, List.take_length] at hv
      exact ⟨_, rfl, k v H' s2 hv⟩
theorem scInTheWay : FnScope ["self", "arm", "place", "other"] ["self", "arm"] (defScope (ru 6)) := ⟨rfl, rfl, rfl, by decide +kernel, rfl, by decide +kernel, by decide +kernel⟩
theorem ok_in_the_way {f : Addr} {fd : FuncData} (F : Fun K "in_the_way" "Runner.in_the_way" (ru 6) f fd) (T : RTxt K mg CR) (TP : PTxt K mg CP) (m1 : Mth P w K mg base CX0 CP 2 "wanted" ["self", "state", "arm"] (spWanted w CP))
    (m2 : Mth P w K mg base CX0 CP 1 "is_clear" ["self", "arm", "place", "other", "other_place"] (spIsClear w CP)) (m3 : Mth P w K mg base CX0 CR 3 "place_of" ["self", "arm"] (spPlaceOf w CR CP)) : FnOk P w K mg base CX0 4 f fd ["self", "arm"] (spInTheWay w CR CP) := by
  obtain ⟨f1, fd1, mm1, G1, b1⟩ := m1.ex
  obtain ⟨f2, fd2, mm2, G2, b2⟩ := m2.ex
  obtain ⟨f3, fd3, mm3, G3, b3⟩ := m3.ex
  refine F.ok scInTheWay (fun vs H Q E h => ?_) (fun cdv A outer s H vs Q E hr h => ?_)
  · obtain ⟨H0, r, P, R, dx, p, m, h, sv, ev, a, rfl, _⟩ := h
    rfl
  · obtain ⟨H0, r, P, R, dx, p, m, h, sv, ev, a, rfl, A, k⟩ := h
    obtain ⟨dxp, fl, st, bl, fs, kvp, IP⟩ := id A.run.pl
    have hr1 : Room 1 _ := hr.mono (by decide)
    have hr2 : Room 2 _ := hr.mono (by decide)
    refine ⟨_, pss_cons (ps_set (i := 2) scInTheWay.nd rfl (Or.inl rfl) (pe_meth (pe_fld (pv 0) rfl) TP.cl mm1 G1 hr2 b1 .nil pass0 (pa_cons (pe_fld (pv 0) rfl) (pa_cons (pv 1) pa_nil))))
      (pss_cons (ps_if (pt_cmpR op_isN (pv 2) pe_non (nomark _)) (pss_one (ps_ret pe_non)) pss_nil)
      (pss_cons (ps_for PassesOwn.never rfl (pi_range1 (by rfl) T.range (pa_cons (pe_callB call_len_seq (by rfl) T.len PySem.boot_len (pa_cons (pe_fld (pv 0) rfl) pa_nil)) pa_nil)) (pg_name (i := 3) scInTheWay.nd rfl (Or.inl rfl))
        (pss_one (ps_if (PW.pt (pw_and (pt_cmpR op_ne (pv 3) (pv 1) (nomark _)) (pw_and1 (pt_not (pt_val (pe_meth (pe_fld (pv 0) rfl) TP.cl mm2 G2 hr1 b2 .nil pass0 (pa_cons (pv 1) (pa_cons (pv 2) (pa_cons (pv 3) (pa_cons (pe_meth (pv 0) T.cl mm3 G3 hr b3 .nil pass0 (pa_cons (pv 3) pa_nil)) pa_nil)))))))))) (pss_one (ps_ret (pv 3))) pss_nil)))
      (pss_one (ps_ret pe_non)))), ?_⟩
    refine ⟨_, rfl, r, CR, dx, _, _, rfl, A.run.hr, T.cl, T.nP, rl_plan, p, dxp, _, rfl, IP.hp, p_none, _, rfl, r, CR, dx, _, _, rfl, A.run.hr, T.cl, T.nS, rl_state, _, rfl, p, sv, a, P, R.st, rfl, A.asks, fun v H1 s1 hv => ?_⟩
    refine ⟨_, rfl, rfl, _, rfl, ?_⟩
    rw [hv.dec]
    cases hw : wanted P R.st a with
    | none =>
      refine iteT (k _ _ s1 ?_)
      rw [inWay_none hw]
      exact rfl
    | some pl =>
      rw [hw] at hv
      have hv1 : IsD H1 v (dPlace pl) := hv
      have kk := inWay_some hw
      have A1 := A.up s1
      have hn4 := IP.n4
      refine iteF ⟨_, rfl, r, CR, dx, _, _, rfl, A1.run.hr, T.cl, T.nM, rl_moving, m, _, rfl, .inl (SqL.of A1.run.hm), _, rfl, ?_⟩
      rw [List.length_map, A.ok.ml]
      refine ⟨(small62 (by omega)).1, (small62 (by omega)).2, ?_⟩
      refine for_range (n := P.flows.length) (fun i σ H' => Same H H' ∧ IsD H' v (dPlace pl) ∧ (∃ u, σ = [some (.ref r), some (.int (a : Nat)), some v, u]) ∧ ∀ j, j < i → (decide (j ≠ a) && match placeOf P R j with
          | some pl' => P.blk a pl j pl'
          | none => false) = false) ⟨s1, hv1, ⟨none, rfl⟩, fun j hj => absurd hj (Nat.not_lt_zero _)⟩ ?_ ?_
      · rintro i σ H' hi ⟨s2, hv2, ⟨u, rfl⟩, hj⟩
        rw [Int.zero_add]
        refine ⟨_, rfl, _, rfl, rfl, _, rfl, ?_⟩
        rw [dec_ne]
        have next : (decide (i ≠ a) && match placeOf P R i with
            | some pl' => P.blk a pl i pl'
            | none => false) = false → ∀ j, j < i + 1 → (decide (j ≠ a) && match placeOf P R j with
            | some pl' => P.blk a pl j pl'
            | none => false) = false := fun z j hlt => by
          rcases Nat.lt_succ_iff_lt_or_eq.mp hlt with q | q
          · exact hj j q
          · rw [q]
            exact z
        by_cases e : i = a
        · rw [decide_eq_false (fun z => z e)]
          refine iteF (iteF ⟨s2, hv2, ⟨_, rfl⟩, next (by rw [decide_eq_false (fun z => z e)]; rfl)⟩)
        · have A2 := A.up s2
          have IP2 := IP.up s2
          obtain ⟨pl', hpl'⟩ := placeOf_some A.ok i
          rw [decide_eq_true e]
          refine iteT ⟨_, rfl, r, CR, dx, _, _, rfl, A2.run.hr, T.cl, T.nP, rl_plan, p, dxp, _, rfl, IP2.hp, p_none, _, rfl, _, rfl, _, rfl, _, rfl, r, dx, _, rfl, A2.run.hr, r_none, _, rfl, H0, r, P, R, dx, p, m, h, sv, ev, i, rfl, ⟨A2.run, A2.W, A2.ok, hi⟩, fun rv H3 s3 hrv => ?_⟩
          rw [hpl'] at hrv
          refine ⟨p, v, rv, a, pl, i, pl', P, rfl, (A2.up s3).run.pl, hv2.up s3, hrv, fun H4 s4 => ⟨_, rfl, ?_⟩⟩
          cases hb : P.blk a pl i pl' with
          | true =>
            refine iteT ⟨_, rfl, k _ _ ((s2.trans s3).trans s4) ?_⟩
            rw [kk, find_range_some hi (by rw [hpl', decide_eq_true e]; exact hb) hj]
            exact rfl
          | false => exact iteF ⟨(s2.trans s3).trans s4, (hv2.up s3).up s4, ⟨_, rfl⟩, next (by rw [hpl']; show (_ && P.blk a pl i pl') = false; rw [hb, Bool.and_false])⟩
      · rintro σ H' ⟨s2, hv2, ⟨u, rfl⟩, hj⟩
        refine k _ _ s2 ?_
        rw [kk, find_range_none hj]
        exact rfl
theorem scHeldBack : FnScope ["self", "arm", "search", "outcome"] ["self", "arm"] (defScope (ru 7)) := ⟨rfl, rfl, rfl, by decide +kernel, rfl, by decide +kernel, by decide +kernel⟩
/-- a class that is made by its __init__ -/
structure Mkr (P : Program) (w : World) (K : PySem.W.Frag) (mg : Str → Option Value) (base : Heap) (CX : CXT) (x : Str) (C : Addr) (k : Nat) (ps : List Str) (sp : Sp) : Prop where
  ex : ∃ f fd, Mk K C f ∧ mg x = some (.ref C) ∧ FnOk P w K mg base CX k f fd ps sp ∧ Binds K fd ps []
theorem ok_held_back {f : Addr} {fd : FuncData} (F : Fun K "is_held_back" "Runner.is_held_back" (ru 7) f fd) (T : RTxt K mg CR) (TP : PTxt K mg CP) (TS : STxt K mg CS) (c1 : Mkr P w K mg base CX0 "Search" CS 1 ["self", "plan"] (spSearchInit w CS))
    (m1 : Mth P w K mg base CX0 CP 3 "outcomes" ["self", "state", "arm"] (spOutcomes w CP)) (m2 : Mth P w K mg base CX0 CR 4 "state_ahead" ["self"] (spAhead w CR CP)) (m3 : Mth P w K mg base CX0 CS 6 "is_safe" ["self", "state"] (spIsSafe w CS CP)) :
    FnOk P w K mg base CX0 7 f fd ["self", "arm"] (spHeldBack w CR CP) := by
  obtain ⟨f1, fd1, mm1, G1, b1⟩ := m1.ex
  obtain ⟨f2, fd2, mm2, G2, b2⟩ := m2.ex
  obtain ⟨f3, fd3, mm3, G3, b3⟩ := m3.ex
  obtain ⟨f4, fd4, M4, g4, G4, b4⟩ := c1.ex
  refine F.ok scHeldBack (fun vs H Q E h => ?_) (fun cdv A outer s H vs Q E hr h => ?_)
  · obtain ⟨H0, r, P, R, dx, p, m, h, sv, ev, a, rfl, _⟩ := h
    rfl
  · obtain ⟨H0, r, P, R, dx, p, m, h, sv, ev, a, rfl, A, k⟩ := h
    obtain ⟨dxp, fl, st, bl, fs, kvp, IP⟩ := id A.run.pl
    refine ⟨_, pss_cons (ps_set (i := 2) scHeldBack.nd rfl (Or.inl rfl) (pe_make M4 G4 (hr.mono (by decide)) (by rfl) g4 b4 .nil pass0 (pa_cons (pe_fld (pv 0) rfl) pa_nil)))
      (pss_cons (ps_for PassesOwn.never rfl (pi_list (pe_meth (pe_fld (pv 0) rfl) TP.cl mm1 G1 (hr.mono (by decide)) b1 .nil pass0 (pa_cons (pe_meth0 (pv 0) T.cl mm2 G2 (hr.mono (by decide)) b2 .nil pass0) (pa_cons (pv 1) pa_nil)))) (pg_name (i := 3) scHeldBack.nd rfl (Or.inl rfl))
        (pss_one (ps_if (pt_not (pt_val (pe_meth (pv 2) TS.cl mm3 G3 hr b3 .nil pass0 (pa_cons (pv 3) pa_nil)))) (pss_one (ps_ret pe_bl)) pss_nil)))
      (pss_one (ps_ret pe_bl))), ?_⟩
    refine ⟨_, rfl, r, CR, dx, _, _, rfl, A.run.hr, T.cl, T.nP, rl_plan, fun x dxs hx hdx ne => ?_⟩
    refine ⟨x, p, dxs, rfl, upd_same, fun H1 d b1' hd0 hx1 hN1 => ⟨rfl, ?_⟩⟩
    have s1 := made_same hx hdx b1'
    have hd := made_free hd0
    have A1 := A.up s1
    have IP1 := IP.up s1
    refine ⟨_, rfl, r, CR, dx, _, _, rfl, A1.run.hr, T.cl, T.nP, rl_plan, p, dxp, _, rfl, IP1.hp, p_none, _, rfl, r, dx, _, rfl, A1.run.hr, r_none, H0, r, P, R, dx, p, m, h, sv, ev, rfl, A1.run, A1.W, A1.ok, fun av H2 s2 hav => ?_⟩
    have A2 := A1.up s2
    have wfa := ahead_wf A.W A.ok.wf R.mov
    refine ⟨_, rfl, p, av, a, P, _, rfl, ⟨A2.run.pl, hav, wfa.len, A.arm⟩, A.W, wfa, fun l us H3 s3 hl0 hl hus => ⟨l, rfl, ⟨_, SqL.of hl⟩, ?_⟩⟩
    have s13 := s1.trans (s2.trans s3)
    have hx3 := (s2.trans s3) _ _ hx1
    have hN3 := hN1.up (s2.trans s3)
    have ld : l ≠ d := fun e => by
      obtain ⟨xs, q, _⟩ := hN3.ex
      rw [e, q] at hl
      cases hl
    have xd : x ≠ d := fun e => by
      obtain ⟨xs, q, _⟩ := hN3.ex
      rw [← e, hx3] at q
      cases q
    have kn0 : Known P [] := ⟨List.nodup_nil, fun kv h => nomatch h⟩
    refine for_list (K := K) (a := l) (xs := us) (fun j σ H4 => (∃ u3, σ = [some (.ref r), some (.int (a : Nat)), some (.ref x), u3]) ∧ But d H3 H4 ∧ (∃ kvs, NDict w H4 d kvs ∧ Known P kvs) ∧ ∀ i o, i < j → (outs P (ahead P R.st R.mov) a)[i]? = some o → safeB P o = true)
      ⟨⟨_, rfl⟩, fun _ _ _ e => e, ⟨[], hN3, kn0⟩, fun i o hi => absurd hi (Nat.not_lt_zero _)⟩ (fun j σ H4 _ ⟨_, b, _⟩ => SqL.of (b l _ ld hl)) ?_ ?_
    · rintro j y σ H4 hy ⟨⟨u3, rfl⟩, b4', ⟨kvs, hN4, kn4⟩, hj⟩
      have hjl : j < (outs P (ahead P R.st R.mov) a).length := by
        have q := (List.getElem?_eq_some_iff.mp hy).1
        rw [hus.length, List.length_map] at q
        exact q
      obtain ⟨o, ho⟩ := get_some hjl
      obtain ⟨y2, hy2, hyo⟩ := hus.get (i := j) (d := dSt o) (get_map ho)
      have ey : y = y2 := Option.some.inj (hy.symm.trans hy2)
      subst ey
      have wo := (outs_wf A.W wfa A.arm (mem_of_get ho)).1
      have s4 : Same H H4 := fun c u e => b4' c u (fun q => by rw [q, hd] at e; cases e) (s13 c u e)
      have hx4 := b4' x _ xd hx3
      refine ⟨_, rfl, x, dxs, _, rfl, hx4, s_none, _, rfl, x, y, o, P, kvs, dxs, p, d, H, rfl, hx4, s4, hd, A.run.pl, hN4, kn4, A.W, wo, hyo.mono (b4'.nd_tups hN3), fun H5 kvs5 b5 hN5 kn5 => ⟨_, rfl, ?_⟩⟩
      have b35 := b4'.trans b5
      have s5 : Same H H5 := fun c u e => b35 c u (fun q => by rw [q, hd] at e; cases e) (s13 c u e)
      cases hb : safeB P o with
      | true =>
        refine iteF ⟨⟨_, rfl⟩, b35, ⟨kvs5, hN5, kn5⟩, fun i o' hi ho' => ?_⟩
        rcases Nat.lt_succ_iff_lt_or_eq.mp hi with z | z
        · exact hj i o' z ho'
        · subst z
          rw [← Option.some.inj (ho.symm.trans ho')]
          exact hb
      | false =>
        have e : heldBack P R a = true := by
          unfold heldBack
          exact List.any_eq_true.mpr ⟨o, mem_of_get ho, by rw [hb]; rfl⟩
        have z := k H5 s5
        rw [e] at z
        exact iteT z
    · rintro σ H4 ⟨⟨u3, rfl⟩, b4', _, hj⟩
      rw [hus.length, List.length_map] at hj
      have e : heldBack P R a = false := held_not fun o ho => by
        obtain ⟨i, hi, eo⟩ := List.mem_iff_getElem.mp ho
        exact safeB_true.mp (hj i o hi (by rw [List.getElem?_eq_getElem hi, eo]))
      have z := k H4 (fun c u e => b4' c u (fun q => by rw [q, hd] at e; cases e) (s13 c u e))
      rw [e] at z
      exact z
end
end Aw

/-! may, check_told. -/
namespace Aw
open PySem PySem.Spec PyProof.Rows L2

noncomputable def mayT (P : Pln) (r : Rn) (a : Nat) (st : Step) : Word :=
  if isWait st = true ∧ canStep P r.st a = false then .signal else
  if heldBack P r a = true then .back else
  if isMove st = true then .begin else
  if isIf st = true then .read else .goon
noncomputable def mayS (P : Pln) (r : Rn) (a : Nat) (st : Step) : Word :=
  if r.hal[a]? = some true ∧ isMove st = true then .halted else
  match inWay P r a with
  | some o => .inway o
  | none => mayT P r a st
theorem may_way {P : Pln} {r : Rn} {a : Nat} (h : r.mov[a]? = some true) : may P r a = .way := by
  unfold may
  rw [if_pos h]
theorem may_ended {P : Pln} {r : Rn} {a : Nat} (h : r.mov[a]? ≠ some true) (e : stepOf P r.st a = none) : may P r a = .ended := by
  unfold may
  rw [if_neg h, e]
theorem may_step {P : Pln} {r : Rn} {a : Nat} {st : Step} (h : r.mov[a]? ≠ some true) (e : stepOf P r.st a = some st) : may P r a = mayS P r a st := by
  unfold may
  rw [if_neg h, e]
  rfl
theorem mayS_halted {P : Pln} {r : Rn} {a : Nat} {st : Step} (h : r.hal[a]? = some true ∧ isMove st = true) : mayS P r a st = .halted := if_pos h
theorem mayS_way {P : Pln} {r : Rn} {a : Nat} {st : Step} {o : Nat} (h : ¬ (r.hal[a]? = some true ∧ isMove st = true)) (e : inWay P r a = some o) : mayS P r a st = .inway o := by
  unfold mayS
  rw [if_neg h, e]
theorem mayS_go {P : Pln} {r : Rn} {a : Nat} {st : Step} (h : ¬ (r.hal[a]? = some true ∧ isMove st = true)) (e : inWay P r a = none) : mayS P r a st = mayT P r a st := by
  unfold mayS
  rw [if_neg h, e]
def wordStr : Word → Str
  | .way => "under way"
  | .ended => "ended"
  | .halted => "halted"
  | .inway _ => "in the way"
  | .signal => "signal"
  | .back => "held back"
  | .begin => "begin"
  | .read => "read"
  | .goon => "go on"
def wordOther : Word → Dat
  | .inway o => .int (o : Nat)
  | _ => .non
def dWord (x : Word) : Dat := .tup [.str (wordStr x), wordOther x]
theorem word_begin {x : Word} (h : wordStr x = "begin") : x = .begin := by
  cases x with
  | begin => rfl
  | _ => exact absurd h (by simp only [wordStr]; decide +kernel)
theorem word_read {x : Word} (h : wordStr x = "read") : x = .read := by
  cases x with
  | read => rfl
  | _ => exact absurd h (by simp only [wordStr]; decide +kernel)
theorem word_goon {x : Word} (h : wordStr x = "go on") : x = .goon := by
  cases x with
  | goon => rfl
  | _ => exact absurd h (by simp only [wordStr]; decide +kernel)
theorem mayT_free {P : Pln} {r : Rn} {a : Nat} {st : Step} (h : (mayT P r a st).free) : heldBack P r a = false ∧ mayT P r a st = (if isMove st = true then .begin else if isIf st = true then .read else .goon) := by
  unfold mayT at h ⊢
  by_cases h1 : isWait st = true ∧ canStep P r.st a = false
  · rw [if_pos h1] at h
    exact h.elim
  · rw [if_neg h1] at h ⊢
    by_cases h2 : heldBack P r a = true
    · rw [if_pos h2] at h
      exact h.elim
    · rw [if_neg h2]
      exact ⟨Bool.eq_false_iff.mpr h2, rfl⟩
theorem may_free {P : Pln} {r : Rn} {a : Nat} (h : (may P r a).free) : r.mov[a]? ≠ some true ∧ heldBack P r a = false ∧ ∃ st, stepOf P r.st a = some st ∧ may P r a = (if isMove st = true then .begin else if isIf st = true then .read else .goon) := by
  by_cases hm : r.mov[a]? = some true
  · rw [may_way hm] at h
    exact h.elim
  · refine ⟨hm, ?_⟩
    cases hst : stepOf P r.st a with
    | none =>
      rw [may_ended hm hst] at h
      exact h.elim
    | some st =>
      rw [may_step hm hst] at h ⊢
      by_cases hh : r.hal[a]? = some true ∧ isMove st = true
      · rw [mayS_halted hh] at h
        exact h.elim
      · cases hw : inWay P r a with
        | some o =>
          rw [mayS_way hh hw] at h
          exact h.elim
        | none =>
          rw [mayS_go hh hw] at h ⊢
          obtain ⟨h1, h2⟩ := mayT_free h
          exact ⟨h1, st, rfl, h2⟩
/-- what the text says of an own error class -/
structure ETxt (K : PySem.W.Frag) (mg : Str → Option Value) (x : Str) (C : Addr) : Prop where
  g : mg x = some (.ref C)
  ex : PySem.W.excIn K C [.type "ValueError", .type "Exception", .type "BaseException", .type "object"] "ValueError.__new__" = true
  kp : PySem.W.keepIn K (.ref C) = true
  sub : PySem.W.subIn K (.ref C) (.type "BaseException") = some true
  ty : PySem.W.typeIn K (.ref C) = some (.type "type")
def spMay (w : World) (CR CP : Addr) : Sp := fun vs H Q _ => ∃ H0 r P R dx p m h sv ev a, vs = [.ref r, .int (a : Nat)] ∧ ArmOf w CR CP H0 H r P R dx p m h sv ev a ∧ ∀ v H', Same H H' → IsD H' v (dWord (may P R a)) → Q v H'
def spTold (w : World) (CR CP CN : Addr) : Sp := fun vs H Q E => ∃ H0 r P R dx p m h sv ev a wd, vs = [.ref r, .int (a : Nat), .str wd] ∧ ArmOf w CR CP H0 H r P R dx p m h sv ev a ∧
  (wordStr (may P R a) = wd → ∀ H', Same H H' → Q .non H') ∧ ∀ H', Same H H' → E (.ref CN) none H'
def tRetW (x : Str) : TS := tRet (tTup (tCons (tC (.str x)) (tCons (tC .non) tNil)))
def tWord (K : PySem.W.Frag) (x : Str) : TT := tTest (tOp rEq (tOp (rIxT K) (tVar 2) (tC (.int 0))) (tC (.str x)))
def tHeld (w : World) (K : PySem.W.Frag) (CR CP : Addr) : TS :=
  tSeq (tIfS (tB (tMeth CR "is_held_back" (spHeldBack w CR CP) [] E0 (tVar 0) (tCons (tVar 1) tNil))) (tRetW "held back") tNext)
    (tSeq (tIfS (tWord K "move") (tRetW "begin") tNext) (tRet (tIf (tWord K "if") (tTup (tCons (tC (.str "read")) (tCons (tC .non) tNil))) (tTup (tCons (tC (.str "go on")) (tCons (tC .non) tNil))))))
def tGo (w : World) (K : PySem.W.Frag) (CR CP : Addr) : TS :=
  tSeq (tAsg (tMeth CR "in_the_way" (spInTheWay w CR CP) [] E0 (tVar 0) (tCons (tVar 1) tNil)) (gName 3))
    (tSeq (tIfS (tTest (tOp (fun x y H Q => y = .non ∧ Q (.bl (!decide (x = .non))) H) (tVar 3) (tC .non))) (tRet (tTup (tCons (tC (.str "in the way")) (tCons (tVar 3) tNil)))) tNext)
      (tSeq (tIfS (tAnd (tWord K "wait") (tNot (tB (tMeth CP "can_step" (spCanStep w CP) [] E0 (tFld K (tVar 0) "plan") (tCons (tFld K (tVar 0) "state") (tCons (tVar 1) tNil)))))) (tRetW "signal") tNext) (tHeld w K CR CP)))
section
variable {P : Program} {w : World} {K : PySem.W.Frag} {mg : Str → Option Value} {base : Heap} {CR CS CP CN : Addr}
theorem scMay : FnScope ["self", "arm", "step", "other"] ["self", "arm"] (defScope (ru 8)) := ⟨rfl, rfl, rfl, by decide +kernel, rfl, by decide +kernel, by decide +kernel⟩
theorem ok_may {f : Addr} {fd : FuncData} (F : Fun K "may" "Runner.may" (ru 8) f fd) (T : RTxt K mg CR) (TP : PTxt K mg CP) (m1 : Mth P w K mg base CX0 CR 1 "check_arm" ["self", "arm"] (spCheckArm w CR CP)) (m2 : Mth P w K mg base CX0 CP 1 "step_of" ["self", "state", "arm"] (spStepOf w CP))
    (m3 : Mth P w K mg base CX0 CR 4 "in_the_way" ["self", "arm"] (spInTheWay w CR CP)) (m4 : Mth P w K mg base CX0 CP 4 "can_step" ["self", "state", "arm"] (spCanStep w CP)) (m5 : Mth P w K mg base CX0 CR 7 "is_held_back" ["self", "arm"] (spHeldBack w CR CP)) :
    FnOk P w K mg base CX0 8 f fd ["self", "arm"] (spMay w CR CP) := by
  obtain ⟨f1, fd1, mm1, G1, b1⟩ := m1.ex
  obtain ⟨f2, fd2, mm2, G2, b2⟩ := m2.ex
  obtain ⟨f3, fd3, mm3, G3, b3⟩ := m3.ex
  obtain ⟨f4, fd4, mm4, G4, b4⟩ := m4.ex
  obtain ⟨f5, fd5, mm5, G5, b5⟩ := m5.ex
  refine F.ok scMay (fun vs H Q E h => ?_) (fun cdv A outer s H vs Q E hr h => ?_)
  · obtain ⟨H0, r, P, R, dx, p, m, h, sv, ev, a, rfl, _⟩ := h
    rfl
  · obtain ⟨H0, r, P, R, dx, p, m, h, sv, ev, a, rfl, A, k⟩ := h
    obtain ⟨b, hb⟩ := get_some (l := R.mov) (i := a) (by rw [A.ok.ml]; exact A.arm)
    obtain ⟨c, hc⟩ := get_some (l := R.hal) (i := a) (by rw [A.ok.hl]; exact A.arm)
    obtain ⟨dxp, fl, st, bl, fs, kvp, IP⟩ := id A.run.pl
    refine ⟨_, pss_cons (ps_expr (pe_meth (pv 0) T.cl mm1 G1 (hr.mono (by decide)) b1 .nil pass0 (pa_cons (pv 1) pa_nil)))
      (pss_cons (ps_if (pt_val (pe_ix ix_list (pe_fld (pv 0) rfl) (pv 1) (fun _ _ => rfl))) (pss_one (ps_ret (pe_tup (pa_cons pe_str (pa_cons pe_non pa_nil))))) pss_nil)
      (pss_cons (ps_set (i := 2) scMay.nd rfl (Or.inl rfl) (pe_meth (pe_fld (pv 0) rfl) TP.cl mm2 G2 (hr.mono (by decide)) b2 .nil pass0 (pa_cons (pe_fld (pv 0) rfl) (pa_cons (pv 1) pa_nil))))
      (pss_cons (ps_if (pt_cmpR op_isN (pv 2) pe_non (nomark _)) (pss_one (ps_ret (pe_tup (pa_cons pe_str (pa_cons pe_non pa_nil))))) pss_nil)
      (pss_cons (ps_if (PW.pt (pw_and (pt_val (pe_ix ix_list (pe_fld (pv 0) rfl) (pv 1) (fun _ _ => rfl))) (pw_and1 (pt_cmpR op_eq (pe_ix ix_tup (pv 2) pe_int (fun _ _ => rfl)) pe_str (nomark _))))) (pss_one (ps_ret (pe_tup (pa_cons pe_str (pa_cons pe_non pa_nil))))) pss_nil)
      (pss_cons (ps_set (i := 3) scMay.nd rfl (Or.inl rfl) (pe_meth (pv 0) T.cl mm3 G3 (hr.mono (by decide)) b3 .nil pass0 (pa_cons (pv 1) pa_nil)))
      (pss_cons (ps_if (pt_cmpR op_notN (pv 3) pe_non (nomark _)) (pss_one (ps_ret (pe_tup (pa_cons pe_str (pa_cons (pv 3) pa_nil))))) pss_nil)
      (pss_cons (ps_if (PW.pt (pw_and (pt_cmpR op_eq (pe_ix ix_tup (pv 2) pe_int (fun _ _ => rfl)) pe_str (nomark _)) (pw_and1 (pt_not (pt_val (pe_meth (pe_fld (pv 0) rfl) TP.cl mm4 G4 (hr.mono (by decide)) b4 .nil pass0 (pa_cons (pe_fld (pv 0) rfl) (pa_cons (pv 1) pa_nil)))))))) (pss_one (ps_ret (pe_tup (pa_cons pe_str (pa_cons pe_non pa_nil))))) pss_nil)
      (pss_cons (ps_if (pt_val (pe_meth (pv 0) T.cl mm5 G5 hr b5 .nil pass0 (pa_cons (pv 1) pa_nil))) (pss_one (ps_ret (pe_tup (pa_cons pe_str (pa_cons pe_non pa_nil))))) pss_nil)
      (pss_cons (ps_if (pt_cmpR op_eq (pe_ix ix_tup (pv 2) pe_int (fun _ _ => rfl)) pe_str (nomark _)) (pss_one (ps_ret (pe_tup (pa_cons pe_str (pa_cons pe_non pa_nil))))) pss_nil)
      (pss_one (ps_ret (pe_ifExp (pt_cmpR op_eq (pe_ix ix_tup (pv 2) pe_int (fun _ _ => rfl)) pe_str (nomark _)) (pe_tup (pa_cons pe_str (pa_cons pe_non pa_nil))) (pe_tup (pa_cons pe_str (pa_cons pe_non pa_nil))))))))))))))), ?_⟩
    -- a word told
    have fin : ∀ (x : Word) (s : Str) (H1 : Hp), may P R a = x → wordStr x = s → wordOther x = .non → Same H H1 → 2 ≤ sizeLine ∧ ∀ q, H1 q = none → Q (.ref q) (upd H1 q (.tup [.str s, .non])) := fun x s H1 e es eo s1 =>
      ⟨line2, fun q hq => k _ _ (s1.new hq) (by
        rw [e]
        unfold dWord
        rw [es, eo]
        exact IsD.made hq (.cons (.str _) (.cons .non .nil)))⟩
    refine ⟨_, rfl, r, dx, _, rfl, A.run.hr, r_none, _, rfl, H0, r, P, R, dx, p, m, h, sv, ev, a, rfl, A, ?_⟩
    refine ⟨_, rfl, r, CR, dx, _, _, rfl, A.run.hr, T.cl, T.nM, rl_moving, _, rfl, _, _, _, _, rfl, rfl, SqL.of A.run.hm, atI_nat (get_map hb), _, rfl, ?_⟩
    cases b with
    | true => exact iteT (fin .way _ H (may_way hb) rfl rfl (Same.refl H))
    | false =>
      have hmn : R.mov[a]? ≠ some true := by
        rw [hb]
        exact fun z => nomatch z
      refine iteF ⟨_, rfl, r, CR, dx, _, _, rfl, A.run.hr, T.cl, T.nP, rl_plan, p, dxp, _, rfl, IP.hp, p_none, _, rfl, r, CR, dx, _, _, rfl, A.run.hr, T.cl, T.nS, rl_state, _, rfl, p, sv, a, P, R.st, rfl, A.asks, fun v hv => ?_⟩
      refine ⟨_, rfl, rfl, _, rfl, ?_⟩
      rw [hv.dec]
      cases hst : stepOf P R.st a with
      | none => exact iteT (fin .ended _ H (may_ended hmn hst) rfl rfl (Same.refl H))
      | some sp =>
        rw [hst] at hv
        obtain ⟨zz, ww, rr, ez, hzz⟩ := step_open (show IsD H v (dStep sp) from hv)
        have em := may_step hmn hst
        refine iteF ⟨_, rfl, r, CR, dx, _, _, rfl, A.run.hr, T.cl, T.nH, rl_halted, _, rfl, _, _, _, _, rfl, rfl, SqL.of A.run.hh, atI_nat (get_map hc), _, rfl, ?_⟩
        -- from the way on
        have go : ¬ (R.hal[a]? = some true ∧ isMove sp = true) → tGo w K CR CP { nx := fun _ H' => Q .non H', rt := Q } [some (.ref r), some (.int (a : Nat)), some v, none] H := fun hh => by
          refine ⟨_, rfl, r, dx, _, rfl, A.run.hr, r_none, _, rfl, H0, r, P, R, dx, p, m, h, sv, ev, a, rfl, A, fun ov H1 s1 ho => ?_⟩
          refine ⟨_, rfl, rfl, _, rfl, ?_⟩
          rw [ho.dec]
          cases hw : inWay P R a with
          | some o =>
            rw [hw] at ho
            have eo : ov = .int (o : Nat) := ho
            refine iteT ⟨_, rfl, line2, fun q hq => k _ _ (s1.new hq) ?_⟩
            rw [em, mayS_way hh hw, eo]
            exact IsD.made hq (.cons (.str _) (.cons (.int _) .nil))
          | none =>
            have em2 : may P R a = mayT P R a sp := em.trans (mayS_go hh hw)
            have A1 := A.up s1
            have IP1 := IP.up s1
            have hzz1 := s1 _ _ hzz
            refine iteF ⟨_, rfl, _, _, _, _, ez, rfl, SqT.of hzz1, atI_nat (j := 0) rfl, rfl, _, rfl, ?_⟩
            rw [word_wait]
            -- behind the signal
            have held : ∀ H2, Same H H2 → ¬ (isWait sp = true ∧ canStep P R.st a = false) → tHeld w K CR CP { nx := fun _ H' => Q .non H', rt := Q } [some (.ref r), some (.int (a : Nat)), some v, some ov] H2 := fun H2 s2 hsg => by
              have A2 := A.up s2
              refine ⟨_, rfl, r, dx, _, rfl, A2.run.hr, r_none, _, rfl, H0, r, P, R, dx, p, m, h, sv, ev, a, rfl, A2, fun H3 s3 => ⟨_, rfl, ?_⟩⟩
              have s23 := s2.trans s3
              have hzz3 := s23 _ _ hzz
              cases hk : heldBack P R a with
              | true =>
                refine iteT (fin .back _ H3 ?_ rfl rfl s23)
                rw [em2]
                unfold mayT
                rw [if_neg hsg, if_pos hk]
              | false =>
                have em3 : may P R a = (if isMove sp = true then .begin else if isIf sp = true then .read else .goon) := by
                  rw [em2]
                  unfold mayT
                  rw [if_neg hsg, if_neg (by rw [hk]; exact Bool.false_ne_true)]
                refine iteF ⟨_, rfl, _, _, _, _, ez, rfl, SqT.of hzz3, atI_nat (j := 0) rfl, rfl, _, rfl, ?_⟩
                rw [word_move]
                cases h1 : isMove sp with
                | true => exact iteT (fin .begin _ H3 (by rw [em3, h1]; rfl) rfl rfl s23)
                | false =>
                  refine iteF ⟨_, rfl, _, _, _, _, ez, rfl, SqT.of hzz3, atI_nat (j := 0) rfl, rfl, _, rfl, ?_⟩
                  rw [word_if]
                  cases h2 : isIf sp with
                  | true => exact iteT (fin .read _ H3 (by rw [em3, h1, h2]; rfl) rfl rfl s23)
                  | false => exact iteF (fin .goon _ H3 (by rw [em3, h1, h2]; rfl) rfl rfl s23)
            cases hwt : isWait sp with
            | false => exact iteF (iteF (held H1 s1 (by rw [hwt]; exact fun z => Bool.false_ne_true z.1)))
            | true =>
              refine iteT ⟨_, rfl, r, CR, dx, _, _, rfl, A1.run.hr, T.cl, T.nP, rl_plan, p, dxp, _, rfl, IP1.hp, p_none, _, rfl, r, CR, dx, _, _, rfl, A1.run.hr, T.cl, T.nS, rl_state, _, rfl, p, sv, a, P, R.st, rfl, A1.asks, fun H2 s2 => ⟨_, rfl, ?_⟩⟩
              cases hcs : canStep P R.st a with
              | false =>
                refine iteT (fin .signal _ H2 ?_ rfl rfl (s1.trans s2))
                rw [em2]
                unfold mayT
                rw [if_pos ⟨hwt, hcs⟩]
              | true => exact iteF (held H2 (s1.trans s2) (by rw [hcs]; exact fun z => Bool.noConfusion z.2))
        cases c with
        | false => exact iteF (iteF (go (by rw [hc]; exact fun z => nomatch z.1)))
        | true =>
          refine iteT ⟨_, rfl, _, _, _, _, ez, rfl, SqT.of hzz, atI_nat (j := 0) rfl, rfl, _, rfl, ?_⟩
          rw [word_move]
          cases h1 : isMove sp with
          | true => exact iteT (fin .halted _ H (em.trans (mayS_halted ⟨hc, h1⟩)) rfl rfl (Same.refl H))
          | false => exact iteF (go (by rw [h1]; exact fun z => Bool.false_ne_true z.2))
end
end Aw

/-! check_told and the events. -/
namespace Aw
open PySem PySem.Spec PyProof.Rows L2

/-! ### a method called with keywords -/
def tMethK (C : Addr) (m : Str) (n j : Nat) (sp : Sp) (gV : List V → List V → List V) (E : XK) (ta : TE) (t tk : TA) : TE := fun σ H Q => ta σ H fun x H1 => ∃ a dx fs, x = .ref a ∧ H1 a = some (.ins C dx fs) ∧ fs.lookup m = none ∧
  t σ H1 fun vs H2 => tk σ H2 fun zs H3 => (x :: vs).length = n ∧ zs.length = j ∧ sp (gV (x :: vs) zs) H3 Q E
theorem pe_methK {X : Cx} {CX : CXT} {k n : Nat} {f C : Addr} {fd : FuncData} {ps ks : List Str} {sp : Sp} {E : XK} {m : Str} {pos apos : Pos} {e o : Expr} {es : List Expr} {kws : List Keyword} {ta : TE} {t tk : TA} {g : List Value → List Value → List Value} {gV : List V → List V → List V} {pl : Sem Bool}
    (he : PE X o ta) (c : Cls X.K C) (hm : Meth X.K C m f) (F : FnOk X.prog X.w X.K X.mg X.base CX k f fd ps sp) (hr : Room k X.A) (hb : KBn X.K fd ps n ks g gV) (hx : Passes CX X E) (ha : PA X (e :: es) t) (hkw : PK X kws tk)
    (hall : (backToKw pos (keywordEach kws X.env)).all (·.1.isSome) = true := by rfl) (hks : (backToKw pos (keywordEach kws X.env)).filterMap (·.1) = ks := by rfl)
    (hst : starEach (e :: es) X.env = (false, eval e X.env) :: starEach es X.env := by rfl)
    (hpl : ((backTo pos (starEach (e :: es) X.env)).any (·.1) || (backToKw pos (keywordEach kws X.env)).any (·.1.isNone)) = false := by rfl)
    (ht : eval (.Call (.Attribute o m apos) (e :: es) kws pos) X.env = (do
      let ov ← eval o X.env
      standAt apos.atName
      let (f, first) ← holding [ov] (getMethod ov m pl)
      callWith pos f first (backTo pos (starEach (e :: es) X.env)) (backToKw pos (keywordEach kws X.env))) := by rfl) :
    PE X (.Call (.Attribute o m apos) (e :: es) kws pos) (tMethK C m n ks.length sp gV E ta t tk) := by
  refine ⟨fun pins s σ H Q I h => ?_⟩
  refine PySem.W.methodCall_KW (pl := pl) (thn (he.run pins s σ H _ I h) fun u s1 ⟨x, H1, I1, rx, a, dx, fs, ex, ea, l, q⟩ => ?_) ht
  subst ex
  obtain rfl : u = Value.ref a := rx
  refine getmeth_ok I1 ea c hm l ?_
  refine PySem.W.callWith_KW (first := [.ref a]) (h₀ := X.base) I.ok.mod.kin hm.kp hall (thn (ha.run pos pins s1 σ H1 _ I1 q) fun us s2 ⟨vs, H2, I2, r, q2⟩ => ?_) hpl hst
  refine thn (hkw.run pos pins s2 σ H2 _ I2 q2) fun ws s3 ⟨zs, H3, I3, rz, l1, l2, q3⟩ => ⟨I3.kIn, ?_⟩
  rw [hks]
  exact run_fnN (us := .ref a :: us) (vs := .ref a :: vs) F hr hb hx I3 (.cons rfl r) rz l1 l2 q3

/-- an event of an arm: it happens, and the runner is one again; or it cannot happen now -/
def EvQ (w : World) (CR CP CN : Addr) (H0 : Hp) (H : Hp) (r : Addr) (P : Pln) (dx p m h : Addr) (Q : VK) (E : XK) : Prop :=
  (∀ H' R' sv' ev', But3 r m h H H' → RunIn w CR CP H0 H' r P R' dx p m h sv' ev' → RunOk P R' → Q .non H') ∧ ∀ H', Same H H' → E (.ref CN) none H'
def spEvent (w : World) (CR CP CN : Addr) : Sp := fun vs H Q E => ∃ H0 r P R dx p m h sv ev a, vs = [.ref r, .int (a : Nat)] ∧ ArmOf w CR CP H0 H r P R dx p m h sv ev a ∧ EvQ w CR CP CN H0 H r P dx p m h Q E
def spRead (w : World) (CR CP CN : Addr) : Sp := fun vs H Q E => ∃ H0 r P R dx p m h sv ev a b, vs = [.ref r, .int (a : Nat), .bl b] ∧ ArmOf w CR CP H0 H r P R dx p m h sv ev a ∧ EvQ w CR CP CN H0 H r P dx p m h Q E
/-- halt, free: what becomes of the halted ones -/
def spHal (w : World) (CR CP CN : Addr) (b : Bool) : Sp := fun vs H Q E => ∃ H0 r P R dx p m h sv ev a, vs = [.ref r, .int (a : Nat)] ∧ ArmOf w CR CP H0 H r P R dx p m h sv ev a ∧
  (R.hal[a]? = some (!b) → ∀ H', But3 r m h H H' → RunIn w CR CP H0 H' r P { R with hal := R.hal.set a b } dx p m h sv ev → Q .non H') ∧ (R.hal[a]? = some b → ∀ H', Same H H' → E (.ref CN) none H')
theorem outs_move1 {P : Pln} {s : St} {a : Nat} {st : Step} (h : stepOf P s a = some st) : ∃ o rest, outs P s a = o :: rest := by
  unfold outs
  rw [h]
  cases st <;> exact ⟨_, _, rfl⟩
theorem outs_if {P : Pln} {s : St} {a : Nat} {i : Str} {n : Nat} (h : stepOf P s a = some (.iff i n)) : ∃ o1 o2, outs P s a = [o1, o2] := by
  unfold outs
  rw [h]
  exact ⟨_, _, rfl⟩
theorem isMove_eq {st : Step} (h : isMove st = true) : ∃ q, st = .move q := by
  cases st with
  | move q => exact ⟨q, rfl⟩
  | _ => cases h
theorem isIf_eq {st : Step} (h : isIf st = true) : ∃ i n, st = .iff i n := by
  cases st with
  | iff i n => exact ⟨i, n, rfl⟩
  | _ => cases h
/-- what is told when a move may begin, an input may be read, a step may be done -/
theorem told_begin {P : Pln} {r : Rn} {a : Nat} (h : wordStr (may P r a) = "begin") : r.mov[a]? ≠ some true ∧ heldBack P r a = false ∧ ∃ q, stepOf P r.st a = some (.move q) := by
  have e := word_begin h
  obtain ⟨h1, h2, st, h3, h4⟩ := may_free (P := P) (r := r) (a := a) (by rw [e]; exact True.intro)
  refine ⟨h1, h2, ?_⟩
  rw [e] at h4
  cases hm : isMove st with
  | true =>
    obtain ⟨q, rfl⟩ := isMove_eq hm
    exact ⟨q, h3⟩
  | false =>
    rw [hm] at h4
    cases hi : isIf st <;> rw [hi] at h4 <;> cases h4
theorem told_read {P : Pln} {r : Rn} {a : Nat} (h : wordStr (may P r a) = "read") : r.mov[a]? ≠ some true ∧ heldBack P r a = false ∧ ∃ i n, stepOf P r.st a = some (.iff i n) := by
  have e := word_read h
  obtain ⟨h1, h2, st, h3, h4⟩ := may_free (P := P) (r := r) (a := a) (by rw [e]; exact True.intro)
  refine ⟨h1, h2, ?_⟩
  rw [e] at h4
  cases hm : isMove st with
  | true =>
    rw [hm] at h4
    cases h4
  | false =>
    rw [hm] at h4
    cases hi : isIf st with
    | true =>
      obtain ⟨i, n, rfl⟩ := isIf_eq hi
      exact ⟨i, n, h3⟩
    | false =>
      rw [hi] at h4
      cases h4
theorem told_go {P : Pln} {r : Rn} {a : Nat} (h : wordStr (may P r a) = "go on") : r.mov[a]? ≠ some true ∧ heldBack P r a = false ∧ ∃ st, stepOf P r.st a = some st := by
  have e := word_goon h
  obtain ⟨h1, h2, st, h3, h4⟩ := may_free (P := P) (r := r) (a := a) (by rw [e]; exact True.intro)
  exact ⟨h1, h2, st, h3⟩
theorem map_set_bl {l : List Bool} {a : Nat} {b : Bool} : (l.set a b).map V.bl = (l.map V.bl).set a (.bl b) := by rw [List.map_set]
section
variable {P : Program} {w : World} {K : PySem.W.Frag} {mg : Str → Option Value} {base : Heap} {CR CS CP CN : Addr}
theorem scTold : FnScope ["self", "arm", "word", "told", "_"] ["self", "arm", "word"] (defScope (ru 9)) := ⟨rfl, rfl, rfl, by decide +kernel, rfl, by decide +kernel, by decide +kernel⟩
theorem ok_told {f : Addr} {fd : FuncData} (F : Fun K "check_told" "Runner.check_told" (ru 9) f fd) (T : RTxt K mg CR) (TN : ETxt K mg "NotNow" CN) (m1 : Mth P w K mg base CX0 CR 8 "may" ["self", "arm"] (spMay w CR CP)) :
    FnOk P w K mg base (L2.CX P w) 9 f fd ["self", "arm", "word"] (spTold w CR CP CN) := by
  obtain ⟨f1, fd1, mm1, G1, b1⟩ := m1.ex
  refine F.okX scTold (fun vs H Q E h => ?_) (fun cdv A outer s H vs Q E hr h => ?_)
  · obtain ⟨H0, r, P, R, dx, p, m, h, sv, ev, a, wd, rfl, _⟩ := h
    rfl
  · obtain ⟨H0, r, P, R, dx, p, m, h, sv, ev, a, wd, rfl, A, k1, k2⟩ := h
    refine ⟨_, pss_cons (ps_asg (pe_meth (pv 0) T.cl mm1 G1 hr b1 .nil pass0 (pa_cons (pv 1) pa_nil)) (pg_tup rfl (pgs_cons (pg_name (i := 3) scTold.nd rfl (Or.inl rfl)) (pgs_cons (pg_name (i := 4) scTold.nd rfl (Or.inl rfl)) pgs_nil))))
      (pss_one (ps_if (pt_cmpR op_ne (pv 3) (pv 2) (nomark _)) (pss_one (ps_raise rfl (takes_of rfl rfl rfl rfl) (pmk_ownA PySem.F.excBase_ValueError TN.ex TN.g TN.kp (raises_own TN.sub TN.ty) (by rfl) (pa_cons (pe_joined1 (pe_fmt (pv 3))) pa_nil)))) pss_nil)), ?_⟩
    refine ⟨_, rfl, r, dx, _, rfl, A.run.hr, r_none, _, rfl, H0, r, P, R, dx, p, m, h, sv, ev, a, rfl, A, fun v H1 s1 hv => ?_⟩
    obtain ⟨z, x1, x2, ez, hz, h1, h2⟩ := hv.tup2
    rw [h1.str_eq] at hz
    refine ⟨z, _, ez, SqT.of hz, rfl, _, _, rfl, _, _, rfl, rfl, ?_⟩
    refine ⟨_, rfl, _, rfl, rfl, _, rfl, ?_⟩
    have ed : decide (V.str (wordStr (may P R a)) = V.str wd) = decide (wordStr (may P R a) = wd) := by
      rw [decide_eq_decide]
      exact ⟨fun z => V.str.inj z, fun z => by rw [z]⟩
    rw [ed]
    by_cases e : wordStr (may P R a) = wd
    · rw [decide_eq_true e]
      exact iteF (k1 e H1 s1)
    · rw [decide_eq_false e]
      have hl : (wordStr (may P R a)).length ≤ sizeLine := by
        have q : (wordStr (may P R a)).length ≤ 10 := by cases may P R a <;> (simp only [wordStr]; decide +kernel)
        exact len_line (by omega)
      refine iteT ⟨_, rfl, .inl ⟨_, rfl, hl, line1, k2 H1 s1⟩⟩
theorem scBegin : FnScope ["self", "arm"] ["self", "arm"] (defScope (ru 10)) := ⟨rfl, rfl, rfl, by decide +kernel, rfl, by decide +kernel, by decide +kernel⟩
theorem ok_begin {f : Addr} {fd : FuncData} (F : Fun K "begin" "Runner.begin" (ru 10) f fd) (T : RTxt K mg CR) (m1 : Mth P w K mg base (L2.CX P w) CR 9 "check_told" ["self", "arm", "word"] (spTold w CR CP CN)) :
    FnOk P w K mg base (L2.CX P w) 10 f fd ["self", "arm"] (spEvent w CR CP CN) := by
  obtain ⟨f1, fd1, mm1, G1, b1⟩ := m1.ex
  refine F.okX scBegin (fun vs H Q E h => ?_) (fun cdv A outer s H vs Q E hr h => ?_)
  · obtain ⟨H0, r, P, R, dx, p, m, h, sv, ev, a, rfl, _⟩ := h
    rfl
  · obtain ⟨H0, r, P, R, dx, p, m, h, sv, ev, a, rfl, A, k1, k2⟩ := h
    refine ⟨_, pss_cons (ps_expr (pe_meth (E := E) (pv 0) T.cl mm1 G1 hr b1 .nil (passes_call (takes_of rfl rfl rfl rfl) fun _ _ _ _ z => z) (pa_cons (pv 1) (pa_cons pe_str pa_nil))))
      (pss_cons (ps_asg pe_bl (pg_sub (pe_fld (pv 0) rfl) (pv 1) set_list))
      (pss_one (ps_fld (pv 0) (pe_op op_add (pe_fld (pv 0) rfl) pe_int) rfl))), ?_⟩
    refine ⟨_, rfl, r, dx, _, rfl, A.run.hr, r_none, _, rfl, H0, r, P, R, dx, p, m, h, sv, ev, a, _, rfl, A, fun e H1 s1 => ?_, k2⟩
    obtain ⟨hm, hb, q, hq⟩ := told_begin e
    have I1 := A.run.up s1
    obtain ⟨I2, b2⟩ := I1.putM (R.mov.set a true)
    rw [map_set_bl] at I2 b2
    refine ⟨_, rfl, r, CR, dx, _, _, rfl, I1.hr, T.cl, T.nM, rl_moving, _, rfl, m, _, _, _, rfl, rfl, I1.hm, ix_set (by rw [List.length_map, A.ok.ml]; exact A.arm), ?_⟩
    refine ⟨_, rfl, r, CR, dx, _, _, rfl, I2.hr, T.cl, T.nE, rl_events, _, _, rfl, rfl, _, rfl, r, CR, dx, _, rfl, I2.hr, T.cl, T.nE, rf_len, ?_⟩
    rw [rp_events]
    obtain ⟨I3, b3⟩ := I2.putR (ev' := ev + 1) I2.st
    exact k1 _ _ _ _ ((s1.but3.trans b2).trans b3) I3 (A.ok.begins A.arm hm hq (not_held hb))
theorem scEnd : FnScope ["self", "arm"] ["self", "arm"] (defScope (ru 11)) := ⟨rfl, rfl, rfl, by decide +kernel, rfl, by decide +kernel, by decide +kernel⟩
theorem ok_end {f : Addr} {fd : FuncData} (F : Fun K "end" "Runner.end" (ru 11) f fd) (T : RTxt K mg CR) (TP : PTxt K mg CP) (TN : ETxt K mg "NotNow" CN) (m1 : Mth P w K mg base CX0 CR 1 "check_arm" ["self", "arm"] (spCheckArm w CR CP))
    (m2 : Mth P w K mg base CX0 CP 3 "outcomes" ["self", "state", "arm"] (spOutcomes w CP)) : FnOk P w K mg base (L2.CX P w) 4 f fd ["self", "arm"] (spEvent w CR CP CN) := by
  obtain ⟨f1, fd1, mm1, G1, b1⟩ := m1.ex
  obtain ⟨f2, fd2, mm2, G2, b2⟩ := m2.ex
  refine F.okX scEnd (fun vs H Q E h => ?_) (fun cdv A outer s H vs Q E hr h => ?_)
  · obtain ⟨H0, r, P, R, dx, p, m, h, sv, ev, a, rfl, _⟩ := h
    rfl
  · obtain ⟨H0, r, P, R, dx, p, m, h, sv, ev, a, rfl, A, k1, k2⟩ := h
    obtain ⟨b, hb⟩ := get_some (l := R.mov) (i := a) (by rw [A.ok.ml]; exact A.arm)
    obtain ⟨c, hc⟩ := get_some (l := R.hal) (i := a) (by rw [A.ok.hl]; exact A.arm)
    refine ⟨_, pss_cons (ps_expr (pe_meth (pv 0) T.cl mm1 G1 (hr.mono (by decide)) b1 .nil pass0 (pa_cons (pv 1) pa_nil)))
      (pss_cons (ps_if (PW.pt (pw_or (pt_not (pt_val (pe_ix ix_list (pe_fld (pv 0) rfl) (pv 1) (fun _ _ => rfl)))) (pw_or1 (pt_val (pe_ix ix_list (pe_fld (pv 0) rfl) (pv 1) (fun _ _ => rfl))))))
        (pss_one (ps_raise rfl (takes_of rfl rfl rfl rfl) (pmk_own PySem.F.excBase_ValueError TN.ex TN.g TN.kp (raises_own TN.sub TN.ty) (by rfl)))) pss_nil)
      (pss_cons (ps_asg pe_bl (pg_sub (pe_fld (pv 0) rfl) (pv 1) set_list))
      (pss_cons (ps_fld (pv 0) (pe_ix ix_list (pe_meth (pe_fld (pv 0) rfl) TP.cl mm2 G2 hr b2 .nil pass0 (pa_cons (pe_fld (pv 0) rfl) (pa_cons (pv 1) pa_nil))) pe_int (fun _ _ => rfl)) rfl)
      (pss_one (ps_fld (pv 0) (pe_op op_add (pe_fld (pv 0) rfl) pe_int) rfl))))), ?_⟩
    refine ⟨_, rfl, r, dx, _, rfl, A.run.hr, r_none, _, rfl, H0, r, P, R, dx, p, m, h, sv, ev, a, rfl, A, ?_⟩
    refine ⟨_, rfl, r, CR, dx, _, _, rfl, A.run.hr, T.cl, T.nM, rl_moving, _, rfl, _, _, _, _, rfl, rfl, SqL.of A.run.hm, atI_nat (get_map hb), _, rfl, ?_⟩
    cases b with
    | false => exact iteT (iteT (k2 H (Same.refl H)))
    | true =>
      refine iteF ⟨_, rfl, r, CR, dx, _, _, rfl, A.run.hr, T.cl, T.nH, rl_halted, _, rfl, _, _, _, _, rfl, rfl, SqL.of A.run.hh, atI_nat (get_map hc), _, rfl, ?_⟩
      cases c with
      | true => exact iteT (k2 H (Same.refl H))
      | false =>
        obtain ⟨I2, b2'⟩ := A.run.putM (R.mov.set a false)
        rw [map_set_bl] at I2 b2'
        obtain ⟨o, eo, ok'⟩ := A.ok.ends A.W A.arm hb
        refine iteF ⟨_, rfl, r, CR, dx, _, _, rfl, A.run.hr, T.cl, T.nM, rl_moving, _, rfl, m, _, _, _, rfl, rfl, A.run.hm, ix_set (by rw [List.length_map, A.ok.ml]; exact A.arm), ?_⟩
        obtain ⟨dxp, fl, st, bl, fs, kvp, IP⟩ := id I2.pl
        refine ⟨_, rfl, r, CR, dx, _, _, rfl, I2.hr, T.cl, T.nP, rl_plan, p, dxp, _, rfl, IP.hp, p_none, _, rfl, r, CR, dx, _, _, rfl, I2.hr, T.cl, T.nS, rl_state, _, rfl, p, sv, a, P, R.st, rfl, ⟨I2.pl, I2.st, A.ok.wf.len, A.arm⟩, A.W, A.ok.wf, fun l us H3 s3 hl0 hl hus => ?_⟩
        rw [eo] at hus
        cases hus with
        | cons h1 h2 =>
          cases h2
          have I3 := I2.up s3
          refine ⟨l, _, _, _, rfl, rfl, SqL.of hl, atI_nat (j := 0) rfl, _, rfl, r, CR, dx, _, rfl, I3.hr, T.cl, T.nS, rf_len, ?_⟩
          rw [rp_state]
          obtain ⟨I4, b4⟩ := I3.putR (ev' := ev) h1
          refine ⟨_, rfl, r, CR, dx, _, _, rfl, I4.hr, T.cl, T.nE, rl_events, _, _, rfl, rfl, _, rfl, r, CR, dx, _, rfl, I4.hr, T.cl, T.nE, rf_len, ?_⟩
          rw [rp_events]
          obtain ⟨I5, b5⟩ := I4.putR (ev' := ev + 1) I4.st
          exact k1 _ _ _ _ (((b2'.trans s3.but3).trans b4).trans b5) I5 ok'
theorem scGoOn : FnScope ["self", "arm"] ["self", "arm"] (defScope (ru 12)) := ⟨rfl, rfl, rfl, by decide +kernel, rfl, by decide +kernel, by decide +kernel⟩
theorem ok_go_on {f : Addr} {fd : FuncData} (F : Fun K "go_on" "Runner.go_on" (ru 12) f fd) (T : RTxt K mg CR) (TP : PTxt K mg CP) (m1 : Mth P w K mg base (L2.CX P w) CR 9 "check_told" ["self", "arm", "word"] (spTold w CR CP CN))
    (m2 : Mth P w K mg base CX0 CP 3 "outcomes" ["self", "state", "arm"] (spOutcomes w CP)) : FnOk P w K mg base (L2.CX P w) 10 f fd ["self", "arm"] (spEvent w CR CP CN) := by
  obtain ⟨f1, fd1, mm1, G1, b1⟩ := m1.ex
  obtain ⟨f2, fd2, mm2, G2, b2⟩ := m2.ex
  refine F.okX scGoOn (fun vs H Q E h => ?_) (fun cdv A outer s H vs Q E hr h => ?_)
  · obtain ⟨H0, r, P, R, dx, p, m, h, sv, ev, a, rfl, _⟩ := h
    rfl
  · obtain ⟨H0, r, P, R, dx, p, m, h, sv, ev, a, rfl, A, k1, k2⟩ := h
    refine ⟨_, pss_cons (ps_expr (pe_meth (E := E) (pv 0) T.cl mm1 G1 hr b1 .nil (passes_call (takes_of rfl rfl rfl rfl) fun _ _ _ _ z => z) (pa_cons (pv 1) (pa_cons pe_str pa_nil))))
      (pss_cons (ps_fld (pv 0) (pe_ix ix_list (pe_meth (pe_fld (pv 0) rfl) TP.cl mm2 G2 (hr.mono (by decide)) b2 .nil pass0 (pa_cons (pe_fld (pv 0) rfl) (pa_cons (pv 1) pa_nil))) pe_int (fun _ _ => rfl)) rfl)
      (pss_one (ps_fld (pv 0) (pe_op op_add (pe_fld (pv 0) rfl) pe_int) rfl))), ?_⟩
    refine ⟨_, rfl, r, dx, _, rfl, A.run.hr, r_none, _, rfl, H0, r, P, R, dx, p, m, h, sv, ev, a, _, rfl, A, fun e H1 s1 => ?_, k2⟩
    obtain ⟨hm, hb, st, hst⟩ := told_go e
    obtain ⟨o, rest, eo⟩ := outs_move1 hst
    have I1 := A.run.up s1
    obtain ⟨dxp, fl, st', bl, fs, kvp, IP⟩ := id I1.pl
    refine ⟨_, rfl, r, CR, dx, _, _, rfl, I1.hr, T.cl, T.nP, rl_plan, p, dxp, _, rfl, IP.hp, p_none, _, rfl, r, CR, dx, _, _, rfl, I1.hr, T.cl, T.nS, rl_state, _, rfl, p, sv, a, P, R.st, rfl, ⟨I1.pl, I1.st, A.ok.wf.len, A.arm⟩, A.W, A.ok.wf, fun l us H3 s3 hl0 hl hus => ?_⟩
    rw [eo] at hus
    cases hus with
    | cons h1 h2 =>
      have I3 := I1.up s3
      refine ⟨l, _, _, _, rfl, rfl, SqL.of hl, atI_nat (j := 0) rfl, _, rfl, r, CR, dx, _, rfl, I3.hr, T.cl, T.nS, rf_len, ?_⟩
      rw [rp_state]
      obtain ⟨I4, b4⟩ := I3.putR (ev' := ev) h1
      refine ⟨_, rfl, r, CR, dx, _, _, rfl, I4.hr, T.cl, T.nE, rl_events, _, _, rfl, rfl, _, rfl, r, CR, dx, _, rfl, I4.hr, T.cl, T.nE, rf_len, ?_⟩
      rw [rp_events]
      obtain ⟨I5, b5⟩ := I4.putR (ev' := ev + 1) I4.st
      exact k1 _ _ _ _ ((((s1.trans s3).but3).trans b4).trans b5) I5 (A.ok.goes A.W A.arm hm (not_held hb) o (by rw [eo]; exact List.mem_cons_self))
theorem scRead : FnScope ["self", "arm", "on"] ["self", "arm", "on"] (defScope (ru 13)) := ⟨rfl, rfl, rfl, by decide +kernel, rfl, by decide +kernel, by decide +kernel⟩
theorem ok_read {f : Addr} {fd : FuncData} (F : Fun K "read_input" "Runner.read_input" (ru 13) f fd) (T : RTxt K mg CR) (TP : PTxt K mg CP) (m1 : Mth P w K mg base (L2.CX P w) CR 9 "check_told" ["self", "arm", "word"] (spTold w CR CP CN))
    (m2 : Mth P w K mg base CX0 CP 3 "outcomes" ["self", "state", "arm"] (spOutcomes w CP)) : FnOk P w K mg base (L2.CX P w) 10 f fd ["self", "arm", "on"] (spRead w CR CP CN) := by
  obtain ⟨f1, fd1, mm1, G1, b1⟩ := m1.ex
  obtain ⟨f2, fd2, mm2, G2, b2⟩ := m2.ex
  refine F.okX scRead (fun vs H Q E h => ?_) (fun cdv A outer s H vs Q E hr h => ?_)
  · obtain ⟨H0, r, P, R, dx, p, m, h, sv, ev, a, b, rfl, _⟩ := h
    rfl
  · obtain ⟨H0, r, P, R, dx, p, m, h, sv, ev, a, b, rfl, A, k1, k2⟩ := h
    refine ⟨_, pss_cons (ps_expr (pe_meth (E := E) (pv 0) T.cl mm1 G1 hr b1 .nil (passes_call (takes_of rfl rfl rfl rfl) fun _ _ _ _ z => z) (pa_cons (pv 1) (pa_cons pe_str pa_nil))))
      (pss_cons (ps_fld (pv 0) (pe_ix ix_list (pe_meth (pe_fld (pv 0) rfl) TP.cl mm2 G2 (hr.mono (by decide)) b2 .nil pass0 (pa_cons (pe_fld (pv 0) rfl) (pa_cons (pv 1) pa_nil))) (pe_ifExp (pt_val (pv 2)) pe_int pe_int) (fun _ _ => rfl)) rfl)
      (pss_one (ps_fld (pv 0) (pe_op op_add (pe_fld (pv 0) rfl) pe_int) rfl))), ?_⟩
    refine ⟨_, rfl, r, dx, _, rfl, A.run.hr, r_none, _, rfl, H0, r, P, R, dx, p, m, h, sv, ev, a, _, rfl, A, fun e H1 s1 => ?_, k2⟩
    obtain ⟨hm, hb, i, n, hst⟩ := told_read e
    obtain ⟨o1, o2, eo⟩ := outs_if hst
    have I1 := A.run.up s1
    obtain ⟨dxp, fl, st', bl, fs, kvp, IP⟩ := id I1.pl
    refine ⟨_, rfl, r, CR, dx, _, _, rfl, I1.hr, T.cl, T.nP, rl_plan, p, dxp, _, rfl, IP.hp, p_none, _, rfl, r, CR, dx, _, _, rfl, I1.hr, T.cl, T.nS, rl_state, _, rfl, p, sv, a, P, R.st, rfl, ⟨I1.pl, I1.st, A.ok.wf.len, A.arm⟩, A.W, A.ok.wf, fun l us H3 s3 hl0 hl hus => ?_⟩
    rw [eo] at hus
    obtain ⟨y1, y2, eu, h1, h2⟩ := hus.two
    subst eu
    have I3 := I1.up s3
    have fin : ∀ (y : V) (o : St), IsD H3 y (dSt o) → o ∈ outs P R.st a → ∀ H5 ev', H5 = upd (upd H3 r (.ins CR dx (rFields p y ev m h))) r (.ins CR dx (rFields p y ev' m h)) → Q .non H5 := fun y o hy ho H5 ev' e5 => by
      obtain ⟨I4, b4⟩ := I3.putR (ev' := ev) hy
      obtain ⟨I5, b5⟩ := I4.putR (ev' := ev') I4.st
      rw [e5]
      exact k1 _ _ _ _ ((((s1.trans s3).but3).trans b4).trans b5) I5 (A.ok.goes A.W A.arm hm (not_held hb) o ho)
    refine ⟨_, rfl, ?_⟩
    refine ⟨_, rfl, ?_⟩
    cases b with
    | true =>
      refine iteT ⟨l, _, _, _, rfl, rfl, SqL.of hl, atI_nat (j := 0) rfl, _, rfl, r, CR, dx, _, rfl, I3.hr, T.cl, T.nS, rf_len, ?_⟩
      rw [rp_state]
      refine ⟨_, rfl, r, CR, dx, _, _, rfl, upd_same, T.cl, T.nE, rl_events, _, _, rfl, rfl, _, rfl, r, CR, dx, _, rfl, upd_same, T.cl, T.nE, rf_len, ?_⟩
      rw [rp_events]
      exact fin y1 o1 h1 (by rw [eo]; exact List.mem_cons_self) _ _ rfl
    | false =>
      refine iteF ⟨l, _, _, _, rfl, rfl, SqL.of hl, atI_nat (j := 1) rfl, _, rfl, r, CR, dx, _, rfl, I3.hr, T.cl, T.nS, rf_len, ?_⟩
      rw [rp_state]
      refine ⟨_, rfl, r, CR, dx, _, _, rfl, upd_same, T.cl, T.nE, rl_events, _, _, rfl, rfl, _, rfl, r, CR, dx, _, rfl, upd_same, T.cl, T.nE, rf_len, ?_⟩
      rw [rp_events]
      exact fin y2 o2 h2 (by rw [eo]; simp) _ _ rfl
theorem scHalt : FnScope ["self", "arm"] ["self", "arm"] (defScope (ru 14)) := ⟨rfl, rfl, rfl, by decide +kernel, rfl, by decide +kernel, by decide +kernel⟩
theorem ok_halt {f : Addr} {fd : FuncData} (F : Fun K "halt" "Runner.halt" (ru 14) f fd) (T : RTxt K mg CR) (TN : ETxt K mg "NotNow" CN) (m1 : Mth P w K mg base CX0 CR 1 "check_arm" ["self", "arm"] (spCheckArm w CR CP)) :
    FnOk P w K mg base (L2.CX P w) 4 f fd ["self", "arm"] (spHal w CR CP CN true) := by
  obtain ⟨f1, fd1, mm1, G1, b1⟩ := m1.ex
  refine F.okX scHalt (fun vs H Q E h => ?_) (fun cdv A outer s H vs Q E hr h => ?_)
  · obtain ⟨H0, r, P, R, dx, p, m, h, sv, ev, a, rfl, _⟩ := h
    rfl
  · obtain ⟨H0, r, P, R, dx, p, m, h, sv, ev, a, rfl, A, k1, k2⟩ := h
    obtain ⟨c, hc⟩ := get_some (l := R.hal) (i := a) (by rw [A.ok.hl]; exact A.arm)
    refine ⟨_, pss_cons (ps_expr (pe_meth (pv 0) T.cl mm1 G1 (hr.mono (by decide)) b1 .nil pass0 (pa_cons (pv 1) pa_nil)))
      (pss_cons (ps_if (pt_val (pe_ix ix_list (pe_fld (pv 0) rfl) (pv 1) (fun _ _ => rfl)))
        (pss_one (ps_raise rfl (takes_of rfl rfl rfl rfl) (pmk_own PySem.F.excBase_ValueError TN.ex TN.g TN.kp (raises_own TN.sub TN.ty) (by rfl)))) pss_nil)
      (pss_one (ps_asg pe_bl (pg_sub (pe_fld (pv 0) rfl) (pv 1) set_list)))), ?_⟩
    refine ⟨_, rfl, r, dx, _, rfl, A.run.hr, r_none, _, rfl, H0, r, P, R, dx, p, m, h, sv, ev, a, rfl, A, ?_⟩
    refine ⟨_, rfl, r, CR, dx, _, _, rfl, A.run.hr, T.cl, T.nH, rl_halted, _, rfl, _, _, _, _, rfl, rfl, SqL.of A.run.hh, atI_nat (get_map hc), _, rfl, ?_⟩
    cases c with
    | true => exact iteT (k2 hc H (Same.refl H))
    | false =>
      obtain ⟨I2, b2⟩ := A.run.putH (R.hal.set a true)
      rw [map_set_bl] at I2 b2
      exact iteF ⟨_, rfl, r, CR, dx, _, _, rfl, A.run.hr, T.cl, T.nH, rl_halted, _, rfl, h, _, _, _, rfl, rfl, A.run.hh, ix_set (by rw [List.length_map, A.ok.hl]; exact A.arm), k1 hc _ b2 I2⟩
theorem scFree : FnScope ["self", "arm"] ["self", "arm"] (defScope (ru 15)) := ⟨rfl, rfl, rfl, by decide +kernel, rfl, by decide +kernel, by decide +kernel⟩
theorem ok_free {f : Addr} {fd : FuncData} (F : Fun K "free" "Runner.free" (ru 15) f fd) (T : RTxt K mg CR) (TN : ETxt K mg "NotNow" CN) (m1 : Mth P w K mg base CX0 CR 1 "check_arm" ["self", "arm"] (spCheckArm w CR CP)) :
    FnOk P w K mg base (L2.CX P w) 4 f fd ["self", "arm"] (spHal w CR CP CN false) := by
  obtain ⟨f1, fd1, mm1, G1, b1⟩ := m1.ex
  refine F.okX scFree (fun vs H Q E h => ?_) (fun cdv A outer s H vs Q E hr h => ?_)
  · obtain ⟨H0, r, P, R, dx, p, m, h, sv, ev, a, rfl, _⟩ := h
    rfl
  · obtain ⟨H0, r, P, R, dx, p, m, h, sv, ev, a, rfl, A, k1, k2⟩ := h
    obtain ⟨c, hc⟩ := get_some (l := R.hal) (i := a) (by rw [A.ok.hl]; exact A.arm)
    refine ⟨_, pss_cons (ps_expr (pe_meth (pv 0) T.cl mm1 G1 (hr.mono (by decide)) b1 .nil pass0 (pa_cons (pv 1) pa_nil)))
      (pss_cons (ps_if (pt_not (pt_val (pe_ix ix_list (pe_fld (pv 0) rfl) (pv 1) (fun _ _ => rfl))))
        (pss_one (ps_raise rfl (takes_of rfl rfl rfl rfl) (pmk_own PySem.F.excBase_ValueError TN.ex TN.g TN.kp (raises_own TN.sub TN.ty) (by rfl)))) pss_nil)
      (pss_one (ps_asg pe_bl (pg_sub (pe_fld (pv 0) rfl) (pv 1) set_list)))), ?_⟩
    refine ⟨_, rfl, r, dx, _, rfl, A.run.hr, r_none, _, rfl, H0, r, P, R, dx, p, m, h, sv, ev, a, rfl, A, ?_⟩
    refine ⟨_, rfl, r, CR, dx, _, _, rfl, A.run.hr, T.cl, T.nH, rl_halted, _, rfl, _, _, _, _, rfl, rfl, SqL.of A.run.hh, atI_nat (get_map hc), _, rfl, ?_⟩
    cases c with
    | false => exact iteT (k2 hc H (Same.refl H))
    | true =>
      obtain ⟨I2, b2⟩ := A.run.putH (R.hal.set a false)
      rw [map_set_bl] at I2 b2
      exact iteF ⟨_, rfl, r, CR, dx, _, _, rfl, A.run.hr, T.cl, T.nH, rl_halted, _, rfl, h, _, _, _, rfl, rfl, A.run.hh, ix_set (by rw [List.length_map, A.ok.hl]; exact A.arm), k1 hc _ b2 I2⟩
end
end Aw

/-! The making of a runner, fork, is_over. -/
namespace Aw
open PySem PySem.Spec PyProof.Rows L2

def spIsOver (w : World) (CR CP : Addr) : Sp := fun vs H Q _ => ∃ H0 r P R dx p m h sv ev, vs = [.ref r] ∧ RunIn w CR CP H0 H r P R dx p m h sv ev ∧ RunOk P R ∧ ∀ b, (b = true ↔ allEnded P R.st) → Q (.bl b) H
/-- the runner at its beginning -/
def rn0 (P : Pln) : Rn := ⟨first P, List.replicate P.flows.length false, List.replicate P.flows.length false⟩
theorem rn0_ok {P : Pln} (W : WfP P) (h : Safe P (first P)) : RunOk P (rn0 P) := by
  have hm : ∀ (a : Nat), (List.replicate P.flows.length false)[a]? ≠ some true := fun a => by
    rw [List.getElem?_replicate]
    split <;> simp
  refine ⟨first_wf W, List.length_replicate, List.length_replicate, fun a ha => absurd ha (hm a), ?_⟩
  show Safe P (ahead P (first P) (List.replicate P.flows.length false))
  rw [ahead_none (first_wf W).len hm]
  exact h
def spRunInit (w : World) (CR CP CS CE : Addr) : Sp := fun vs H Q E => ∃ H0 r p P dx, vs = [.ref r, .ref p] ∧ H r = some (.ins CR dx []) ∧ Same H0 H ∧ H0 r = none ∧ PlanAt w CP H0 p P ∧ WfP P ∧
  (Safe P (first P) → ∀ H' m h sv, Same H0 H' → RunIn w CR CP H0 H' r P (rn0 P) dx p m h sv 0 → Q .non H') ∧ (¬ Safe P (first P) → ∀ H', Same H0 H' → E (.ref CE) none H')
def spFork (w : World) (CR CP : Addr) : Sp := fun vs H Q _ => ∃ H0 r P R dx p m h sv ev, vs = [.ref r] ∧ RunIn w CR CP H0 H r P R dx p m h sv ev ∧ WfP P ∧ Safe P (first P) ∧
  ∀ H' r2 dx2 m2 h2 sv2 ev2, Same H H' → RunIn w CR CP H H' r2 P R dx2 p m2 h2 sv2 ev2 → Q (.ref r2) H'
theorem rf_is (p : Addr) (sv : V) (ev : Int) (m h : Addr) : putF "halted" (.ref h) (putF "moving" (.ref m) (putF "events" (.int ev) (putF "state" sv (putF "plan" (.ref p) [])))) = rFields p sv ev m h := by
  have n1 : ¬ (("plan" : Str) = "state") := by decide +kernel
  have n2 : ¬ (("plan" : Str) = "events") := by decide +kernel
  have n3 : ¬ (("state" : Str) = "events") := by decide +kernel
  have n4 : ¬ (("plan" : Str) = "moving") := by decide +kernel
  have n5 : ¬ (("state" : Str) = "moving") := by decide +kernel
  have n6 : ¬ (("events" : Str) = "moving") := by decide +kernel
  have n7 : ¬ (("plan" : Str) = "halted") := by decide +kernel
  have n8 : ¬ (("state" : Str) = "halted") := by decide +kernel
  have n9 : ¬ (("events" : Str) = "halted") := by decide +kernel
  have n0 : ¬ (("moving" : Str) = "halted") := by decide +kernel
  simp only [putF, n1, n2, n3, n4, n5, n6, n7, n8, n9, n0, if_false]
  rfl
theorem len_put {n : Nat} {f : Str} {x : V} {l : List (Str × V)} (h : l.length ≤ n) : (putF f x l).length ≤ n + 1 := Nat.le_trans (length_putF f x l) (Nat.succ_le_succ h)
theorem but_free {r : Addr} {H H1 : Hp} (b : But r H H1) {o : HO} (hr : H1 r = some o) {d : Addr} (hd : H1 d = none) : H d = none := by
  cases q : H d with
  | none => rfl
  | some u =>
    by_cases e : d = r
    · rw [e, hr] at hd
      cases hd
    · rw [b d u e q] at hd
      cases hd
section
variable {P : Program} {w : World} {K : PySem.W.Frag} {mg : Str → Option Value} {base : Heap} {CR CS CP CE : Addr}
theorem scIsOver : FnScope ["self"] ["self"] (defScope (ru 16)) := ⟨rfl, rfl, rfl, by decide +kernel, rfl, by decide +kernel, by decide +kernel⟩
theorem ok_is_over {f : Addr} {fd : FuncData} (F : Fun K "is_over" "Runner.is_over" (ru 16) f fd) (T : RTxt K mg CR) (TP : PTxt K mg CP) (m1 : Mth P w K mg base CX0 CP 2 "all_ended" ["self", "state"] (spAllEnded w CP)) : FnOk P w K mg base CX0 3 f fd ["self"] (spIsOver w CR CP) := by
  obtain ⟨f1, fd1, mm1, G1, b1⟩ := m1.ex
  refine F.ok scIsOver (fun vs H Q E h => ?_) (fun cdv A outer s H vs Q E hr h => ?_)
  · obtain ⟨H0, r, P, R, dx, p, m, h, sv, ev, rfl, _⟩ := h
    rfl
  · obtain ⟨H0, r, P, R, dx, p, m, h, sv, ev, rfl, A, ok, k⟩ := h
    obtain ⟨dxp, fl, st, bl, fs, kvp, IP⟩ := id A.pl
    refine ⟨_, pss_one (ps_ret (pe_meth (pe_fld (pv 0) rfl) TP.cl mm1 G1 hr b1 .nil pass0 (pa_cons (pe_fld (pv 0) rfl) pa_nil))), ?_⟩
    exact ⟨_, rfl, r, CR, dx, _, _, rfl, A.hr, T.cl, T.nP, rl_plan, p, dxp, _, rfl, IP.hp, p_none, _, rfl, r, CR, dx, _, _, rfl, A.hr, T.cl, T.nS, rl_state, p, sv, P, R.st, rfl, A.pl, A.st, ok.wf.len, k⟩
theorem scRunInit : FnScope ["self", "plan", "_"] ["self", "plan"] (defScope (ru 0)) := ⟨rfl, rfl, rfl, by decide +kernel, rfl, by decide +kernel, by decide +kernel⟩
theorem ok_run_init {f : Addr} {fd : FuncData} (F : Fun K "__init__" "Runner.__init__" (ru 0) f fd) (T : RTxt K mg CR) (TP : PTxt K mg CP) (TS : STxt K mg CS) (TE : ETxt K mg "NotSafe" CE) (c1 : Mkr P w K mg base CX0 "Search" CS 1 ["self", "plan"] (spSearchInit w CS))
    (m1 : Mth P w K mg base CX0 CP 2 "first_state" ["self"] (spFirst w CP)) (m2 : Mth P w K mg base CX0 CS 6 "is_safe" ["self", "state"] (spIsSafe w CS CP)) :
    FnOk P w K mg base (L2.CX P w) 7 f fd ["self", "plan"] (spRunInit w CR CP CS CE) := by
  obtain ⟨f1, fd1, mm1, G1, b1⟩ := m1.ex
  obtain ⟨f2, fd2, mm2, G2, b2⟩ := m2.ex
  obtain ⟨f4, fd4, M4, g4, G4, b4⟩ := c1.ex
  refine F.okX scRunInit (fun vs H Q E h => ?_) (fun cdv A outer s H vs Q E hr h => ?_)
  · obtain ⟨H0, r, p, P, dx, rfl, _⟩ := h
    rfl
  · obtain ⟨H0, r, p, P, dx, rfl, hr0, s0, r0, pl0, W, k1, k2⟩ := h
    refine ⟨_, pss_cons (ps_fld (pv 0) (pv 1) rfl)
      (pss_cons (ps_fld (pv 0) (pe_meth0 (pv 1) TP.cl mm1 G1 (hr.mono (by decide)) b1 .nil pass0) rfl)
      (pss_cons (ps_fld (pv 0) pe_int rfl)
      (pss_cons (ps_fld (pv 0) (pe_lc (own := [("_", 2)]) (g := gName 2) (tt := tYes) (te := tC (.bl false)) rfl scRunInit.nd (pi_list (pe_fld (pv 1) rfl)) (blkOk_by (N := ["self", "plan", "_"]) (sc := defScope (ru 0)) (by decide +kernel))
          (fun _ _ _ _ _ => pg_name (i := 2) scRunInit.nd rfl (Or.inl rfl)) (fun _ _ _ _ _ => pts_nil) (fun _ _ _ _ _ => pe_bl)) rfl)
      (pss_cons (ps_fld (pv 0) (pe_lc (own := [("_", 2)]) (g := gName 2) (tt := tYes) (te := tC (.bl false)) rfl scRunInit.nd (pi_list (pe_fld (pv 1) rfl)) (blkOk_by (N := ["self", "plan", "_"]) (sc := defScope (ru 0)) (by decide +kernel))
          (fun _ _ _ _ _ => pg_name (i := 2) scRunInit.nd rfl (Or.inl rfl)) (fun _ _ _ _ _ => pts_nil) (fun _ _ _ _ _ => pe_bl)) rfl)
      (pss_one (ps_if (pt_not (pt_val (pe_meth (pe_make M4 G4 (hr.mono (by decide)) (by rfl) g4 b4 .nil pass0 (pa_cons (pv 1) pa_nil)) TS.cl mm2 G2 hr b2 .nil pass0 (pa_cons (pe_fld (pv 0) rfl) pa_nil))))
        (pss_one (ps_raise rfl (takes_of rfl rfl rfl rfl) (pmk_own PySem.F.excBase_ValueError TE.ex TE.g TE.kp (raises_own TE.sub TE.ty) (by rfl)))) pss_nil)))))), ?_⟩
    have l0 : ([] : List (Str × V)).length ≤ 0 := Nat.le_refl _
    have l1 := len_put (f := "plan") (x := .ref p) l0
    -- self.plan
    refine ⟨_, rfl, _, rfl, r, CR, dx, _, rfl, hr0, T.cl, T.nP, (by decide), ?_⟩
    have s1 : Same H0 (upd H r (.ins CR dx (putF "plan" (.ref p) []))) := s0.put r0
    have hr1 : upd H r (.ins CR dx (putF "plan" (.ref p) [])) r = some (.ins CR dx (putF "plan" (.ref p) [])) := upd_same
    generalize upd H r (.ins CR dx (putF "plan" (.ref p) [])) = H1 at *
    -- self.state
    obtain ⟨dxp, fl, st, bl, fs, kvp, IP0⟩ := id pl0
    have hfl : fs.length = P.flows.length := IP0.hfs.len
    refine ⟨_, rfl, p, dxp, _, rfl, (IP0.up s1).hp, p_none, p, P, rfl, pl0.up s1, W, fun sv H2 s2 hsv => ?_⟩
    have s02 := s1.trans s2
    have hr2 := s2 _ _ hr1
    have l2 := len_put (f := "state") (x := sv) l1
    refine ⟨_, rfl, r, CR, dx, _, rfl, hr2, T.cl, T.nS, (by omega), ?_⟩
    have s3 : Same H0 (upd H2 r (.ins CR dx (putF "state" sv (putF "plan" (.ref p) [])))) := s02.put r0
    have hr3 : upd H2 r (.ins CR dx (putF "state" sv (putF "plan" (.ref p) []))) r = some (.ins CR dx (putF "state" sv (putF "plan" (.ref p) []))) := upd_same
    have hsv3 := hsv.mono (But.tups But.put hr2) (H' := upd H2 r (.ins CR dx (putF "state" sv (putF "plan" (.ref p) []))))
    generalize upd H2 r (.ins CR dx (putF "state" sv (putF "plan" (.ref p) []))) = H3 at *
    -- self.events
    have l3 := len_put (f := "events") (x := .int 0) l2
    refine ⟨_, rfl, r, CR, dx, _, rfl, hr3, T.cl, T.nE, (by omega), ?_⟩
    have s4 : Same H0 (upd H3 r (.ins CR dx (putF "events" (.int 0) (putF "state" sv (putF "plan" (.ref p) []))))) := s3.put r0
    have hr4 : upd H3 r (.ins CR dx (putF "events" (.int 0) (putF "state" sv (putF "plan" (.ref p) [])))) r = some (.ins CR dx (putF "events" (.int 0) (putF "state" sv (putF "plan" (.ref p) [])))) := upd_same
    have hsv4 := hsv3.mono (But.tups But.put hr3) (H' := upd H3 r (.ins CR dx (putF "events" (.int 0) (putF "state" sv (putF "plan" (.ref p) [])))))
    generalize upd H3 r (.ins CR dx (putF "events" (.int 0) (putF "state" sv (putF "plan" (.ref p) [])))) = H4 at *
    -- self.moving
    have IP4 := IP0.up s4
    refine ⟨_, rfl, p, CP, dxp, _, _, rfl, IP4.hp, TP.cl, TP.nF, lk_flows _ _ _, fl, rfl, ⟨_, SqL.of IP4.hfl⟩, fun M hM => ?_⟩
    refine lc_list (K := K) (a := fl) (xs := fs.map V.ref) (fun i H' => Same H4 H' ∧ H' M = some (.lst ((List.replicate i false).map V.bl))) ⟨same_new hM, upd_same⟩ (fun i H' _ ⟨q, _⟩ => SqL.of (q _ _ IP4.hfl)) ?_ ?_
    · rintro i y H' hy ⟨q, hMi⟩
      have hi : i < fs.length := by
        have z := (List.getElem?_eq_some_iff.mp hy).1
        rw [List.length_map] at z
        exact z
      have hn4 := IP0.n4
      refine ⟨rfl, ?_⟩
      unfold tYes
      refine iteT ⟨_, hMi, ?_, q.put hM, ?_⟩
      · rw [List.length_map, List.length_replicate]
        exact lt_line (by omega)
      · rw [upd_same, List.replicate_succ', List.map_append]
        rfl
    rintro H5 ⟨s45, hM5⟩
    rw [List.length_map, hfl] at hM5
    have s5 := s4.trans s45
    have hr5 := s45 _ _ hr4
    have hsv5 := hsv4.up s45
    have M0 : H0 M = none := s4.free hM
    have nMr : M ≠ r := ne_of hM5 hr5 (fun z => nomatch z)
    have l4 := len_put (f := "moving") (x := .ref M) l3
    refine ⟨_, rfl, r, CR, dx, _, rfl, hr5, T.cl, T.nM, (by omega), ?_⟩
    have s6 : Same H0 (upd H5 r (.ins CR dx (putF "moving" (.ref M) (putF "events" (.int 0) (putF "state" sv (putF "plan" (.ref p) [])))))) := s5.put r0
    have hr6 : upd H5 r (.ins CR dx (putF "moving" (.ref M) (putF "events" (.int 0) (putF "state" sv (putF "plan" (.ref p) []))))) r = some (.ins CR dx (putF "moving" (.ref M) (putF "events" (.int 0) (putF "state" sv (putF "plan" (.ref p) []))))) := upd_same
    have hsv6 := hsv5.mono (But.tups But.put hr5) (H' := upd H5 r (.ins CR dx (putF "moving" (.ref M) (putF "events" (.int 0) (putF "state" sv (putF "plan" (.ref p) []))))))
    have hM6 : upd H5 r (.ins CR dx (putF "moving" (.ref M) (putF "events" (.int 0) (putF "state" sv (putF "plan" (.ref p) []))))) M = some (.lst ((List.replicate P.flows.length false).map V.bl)) := by
      rw [upd_ne nMr]
      exact hM5
    generalize upd H5 r (.ins CR dx (putF "moving" (.ref M) (putF "events" (.int 0) (putF "state" sv (putF "plan" (.ref p) []))))) = H6 at *
    -- self.halted
    have IP6 := IP0.up s6
    refine ⟨_, rfl, p, CP, dxp, _, _, rfl, IP6.hp, TP.cl, TP.nF, lk_flows _ _ _, fl, rfl, ⟨_, SqL.of IP6.hfl⟩, fun G hG => ?_⟩
    refine lc_list (K := K) (a := fl) (xs := fs.map V.ref) (fun i H' => Same H6 H' ∧ H' G = some (.lst ((List.replicate i false).map V.bl))) ⟨same_new hG, upd_same⟩ (fun i H' _ ⟨q, _⟩ => SqL.of (q _ _ IP6.hfl)) ?_ ?_
    · rintro i y H' hy ⟨q, hGi⟩
      have hi : i < fs.length := by
        have z := (List.getElem?_eq_some_iff.mp hy).1
        rw [List.length_map] at z
        exact z
      have hn4 := IP0.n4
      refine ⟨rfl, ?_⟩
      unfold tYes
      refine iteT ⟨_, hGi, ?_, q.put hG, ?_⟩
      · rw [List.length_map, List.length_replicate]
        exact lt_line (by omega)
      · rw [upd_same, List.replicate_succ', List.map_append]
        rfl
    rintro H7 ⟨s67, hG7⟩
    rw [List.length_map, hfl] at hG7
    have s7 := s6.trans s67
    have hr7 := s67 _ _ hr6
    have hsv7 := hsv6.up s67
    have hM7 := s67 _ _ hM6
    have G0 : H0 G = none := s6.free hG
    have nGr : G ≠ r := ne_of hG7 hr7 (fun z => nomatch z)
    have nMG : M ≠ G := ne_of_none hM6 hG
    refine ⟨_, rfl, r, CR, dx, _, rfl, hr7, T.cl, T.nH, (by omega), ?_⟩
    rw [rf_is]
    have s8 : Same H0 (upd H7 r (.ins CR dx (rFields p sv 0 M G))) := s7.put r0
    have I8 : RunIn w CR CP H0 (upd H7 r (.ins CR dx (rFields p sv 0 M G))) r P (rn0 P) dx p M G sv 0 :=
      ⟨upd_same, s8, pl0, r0, M0, G0, hsv7.mono (But.tups But.put hr7), by rw [upd_ne nMr]; exact hM7, by rw [upd_ne nGr]; exact hG7, nMG⟩
    generalize upd H7 r (.ins CR dx (rFields p sv 0 M G)) = H8 at *
    -- Search(plan).is_safe(self.state)
    refine ⟨_, rfl, fun x dxs hx hdx ne => ⟨x, p, dxs, rfl, upd_same, fun H9 d b9 hd0 hx9 hN9 => ⟨rfl, ?_⟩⟩⟩
    have s9 := made_same hx hdx b9
    have hd8 := made_free hd0
    have I9 := I8.up s9
    have kn0 : Known P [] := ⟨List.nodup_nil, fun kv h => nomatch h⟩
    refine ⟨x, dxs, _, rfl, hx9, s_none, _, rfl, r, CR, dx, _, _, rfl, I9.hr, T.cl, T.nS, rl_state, x, sv, first P, P, [], dxs, p, d, H8, rfl, hx9, s9, hd8, I8.pl, hN9, kn0, W, first_wf W, I9.st, fun H10 kvs b10 hN10 kn10 => ⟨_, rfl, ?_⟩⟩
    have s10 : Same H8 H10 := fun c u e => b10 c u (fun q => by rw [q, hd8] at e; cases e) (s9 c u e)
    cases hs : safeB P (first P) with
    | true => exact iteF (k1 (safeB_true.mp hs) H10 M G sv (s8.trans s10) (I8.up s10))
    | false =>
      refine iteT (k2 (fun z => ?_) H10 (s8.trans s10))
      rw [safeB_true.mpr z] at hs
      cases hs
theorem scFork : FnScope ["self", "other"] ["self"] (defScope (ru 17)) := ⟨rfl, rfl, rfl, by decide +kernel, rfl, by decide +kernel, by decide +kernel⟩
theorem ok_fork {f : Addr} {fd : FuncData} (F : Fun K "fork" "Runner.fork" (ru 17) f fd) (T : RTxt K mg CR) (c1 : Mkr P w K mg base (L2.CX P w) "Runner" CR 7 ["self", "plan"] (spRunInit w CR CP CS CE)) :
    FnOk P w K mg base CX0 9 f fd ["self"] (spFork w CR CP) := by
  obtain ⟨f4, fd4, M4, g4, G4, b4⟩ := c1.ex
  refine F.ok scFork (fun vs H Q E h => ?_) (fun cdv A outer s H vs Q E hr h => ?_)
  · obtain ⟨H0, r, P, R, dx, p, m, h, sv, ev, rfl, _⟩ := h
    rfl
  · obtain ⟨H0, r, P, R, dx, p, m, h, sv, ev, rfl, A, W, hs, k⟩ := h
    refine ⟨_, pss_cons (ps_set (i := 1) scFork.nd rfl (Or.inl rfl) (pe_make M4 G4 hr (by rfl) g4 b4 .nil passL (pa_cons (pe_fld (pv 0) rfl) pa_nil)))
      (pss_cons (ps_fld (pv 1) (pe_fld (pv 0) rfl) rfl)
      (pss_cons (ps_fld (pv 1) (pe_fld (pv 0) rfl) rfl)
      (pss_cons (ps_fld (pv 1) (pe_callTy call_list_of (by rfl) T.list (by decide +kernel) (pa_cons (pe_fld (pv 0) rfl) pa_nil)) rfl)
      (pss_cons (ps_fld (pv 1) (pe_callTy call_list_of (by rfl) T.list (by decide +kernel) (pa_cons (pe_fld (pv 0) rfl) pa_nil)) rfl)
      (pss_one (ps_ret (pv 1))))))), ?_⟩
    refine ⟨_, rfl, r, CR, dx, _, _, rfl, A.hr, T.cl, T.nP, rl_plan, fun x dxs hx hdx ne => ?_⟩
    have sb : Same H (upd (upd H dxs (.own x)) x (.ins CR dxs [])) := fun c o e => by
      rw [upd_ne (ne_of_none e hx), upd_ne (ne_of_none e hdx)]
      exact e
    refine ⟨H, x, p, P, dxs, rfl, upd_same, sb, hx, A.pl, W, fun _ H1 m1 h1 sv1 s1 I1 => ⟨rfl, ?_⟩, fun z => absurd hs z⟩
    have A1 := A.up s1
    -- other.state = self.state
    refine ⟨_, rfl, r, CR, dx, _, _, rfl, A1.hr, T.cl, T.nS, rl_state, _, rfl, x, CR, dxs, _, rfl, I1.hr, T.cl, T.nS, rf_len, ?_⟩
    rw [rp_state]
    obtain ⟨I2, b2⟩ := I1.putR (ev' := 0) A1.st
    have A2 := A.up I2.s0
    -- other.events = self.events
    refine ⟨_, rfl, r, CR, dx, _, _, rfl, A2.hr, T.cl, T.nE, rl_events, _, rfl, x, CR, dxs, _, rfl, I2.hr, T.cl, T.nE, rf_len, ?_⟩
    rw [rp_events]
    obtain ⟨I3, b3⟩ := I2.putR (ev' := ev) I2.st
    have A3 := A.up I3.s0
    generalize upd (upd H1 x (.ins CR dxs (rFields p sv 0 m1 h1))) x (.ins CR dxs (rFields p sv ev m1 h1)) = H3 at *
    -- other.moving = list(self.moving)
    refine ⟨_, rfl, r, CR, dx, _, _, rfl, A3.hr, T.cl, T.nM, rl_moving, m, _, rfl, .inl (SqL.of A3.hm), fun M hM => ?_⟩
    have s4 := same_new (H := H3) (o := .lst (R.mov.map V.bl)) hM
    have I4 := I3.up s4
    have hM4 : upd H3 M (.lst (R.mov.map V.bl)) M = some (.lst (R.mov.map V.bl)) := upd_same
    have M0 : H M = none := I3.s0.free hM
    generalize upd H3 M (.lst (R.mov.map V.bl)) = H4 at *
    refine ⟨_, rfl, x, CR, dxs, _, rfl, I4.hr, T.cl, T.nM, rf_len, ?_⟩
    rw [rp_moving]
    have nMx : M ≠ x := ne_of hM4 I4.hr (fun z => nomatch z)
    have s5 : Same H (upd H4 x (.ins CR dxs (rFields p sv ev M h1))) := I4.s0.put hx
    have hx5 : upd H4 x (.ins CR dxs (rFields p sv ev M h1)) x = some (.ins CR dxs (rFields p sv ev M h1)) := upd_same
    have hM5 : upd H4 x (.ins CR dxs (rFields p sv ev M h1)) M = some (.lst (R.mov.map V.bl)) := by
      rw [upd_ne nMx]
      exact hM4
    generalize upd H4 x (.ins CR dxs (rFields p sv ev M h1)) = H5 at *
    have A5 := A.up s5
    -- other.halted = list(self.halted)
    refine ⟨_, rfl, r, CR, dx, _, _, rfl, A5.hr, T.cl, T.nH, rl_halted, h, _, rfl, .inl (SqL.of A5.hh), fun G hG => ?_⟩
    have s6 := same_new (H := H5) (o := .lst (R.hal.map V.bl)) hG
    have hG6 : upd H5 G (.lst (R.hal.map V.bl)) G = some (.lst (R.hal.map V.bl)) := upd_same
    have hM6 := s6 _ _ hM5
    have hx6 := s6 _ _ hx5
    have s06 := s5.trans s6
    have G0 : H G = none := s5.free hG
    have nMG : M ≠ G := ne_of_none hM5 hG
    generalize upd H5 G (.lst (R.hal.map V.bl)) = H6 at *
    refine ⟨_, rfl, x, CR, dxs, _, rfl, hx6, T.cl, T.nH, rf_len, ?_⟩
    rw [rp_halted]
    have nGx : G ≠ x := ne_of hG6 hx6 (fun z => nomatch z)
    have s7 : Same H (upd H6 x (.ins CR dxs (rFields p sv ev M G))) := s06.put hx
    refine ⟨_, rfl, k _ x dxs M G sv ev s7 ⟨upd_same, s7, A.pl, hx, M0, G0, A.st.up s7, ?_, ?_, nMG⟩⟩
    · rw [upd_ne nMx]
      exact hM6
    · rw [upd_ne nGx]
      exact hG6
end
end Aw

/-! The law's digits. -/
namespace Aw
open PySem PySem.Spec PyProof.Rows L2

/-! ### * of great ints -/
def CMulV (i j : Int) : Prop := i.natAbs.log2 + j.natAbs.log2 < 100000000
theorem bits_up (x : Int) : Builtin.Int.intBits x ≤ x.natAbs.log2 + 1 := by
  unfold Builtin.Int.intBits
  split <;> omega
theorem CMulV.ok {i j : Int} (h : CMulV i j) : IntMulOk i j := fun both => by
  have small : i.natAbs.log2 + j.natAbs.log2 < 100000000 := h
  have bi := bits_up i
  have bj := bits_up j
  have big := (Bool.and_eq_true_iff.mp both).2
  unfold Builtin.Int.intTooBig at big
  have past := of_decide_eq_true big
  have line : bitsLine = 134217728 := by decide
  rw [line] at past
  omega
theorem op_mulV {X : Cx} : OpR X (binaryOp .Mult) (rI CMulV fun i j => .int (i * j)) := opI fun _ _ _ _ _ _ _ hc q => mul_int q hc.ok
theorem mulV {i j : Int} {a b : Nat} (ha : i.natAbs < 2 ^ a) (hb : j.natAbs < 2 ^ b) (h0 : 0 < a) (h1 : 0 < b) (h : a + b ≤ 100000000) : CMulV i j := by
  have x := PySem.Flt.log2_lt_of h0 ha
  have y := PySem.Flt.log2_lt_of h1 hb
  unfold CMulV
  omega
theorem mulS {i j : Int} (ha : i.natAbs < 2 ^ 62) (hb : j.natAbs < 2 ^ 62) : CMulV i j := mulV ha hb (by decide) (by decide) (by decide)
theorem bits_lt {z : Int} {b : Nat} (h : Builtin.Int.intBits z ≤ b) : z.natAbs < 2 ^ b := by
  unfold Builtin.Int.intBits at h
  by_cases e : z = 0
  · subst e
    exact Nat.two_pow_pos b
  · have q : (z == 0) = false := beq_eq_false_iff_ne.mpr e
    rw [q] at h
    have h2 : z.natAbs.log2 + 1 ≤ b := h
    exact (Nat.log2_lt (by omega)).mp (by omega)
theorem seq_by {t1 t2 : TS} {D : Ends} {σ : L2.St} {H : Hp} (I : L2.St → Hp → Prop) (hI : ∀ σ' H', I σ' H' → t2 D σ' H') (h : ∀ N : L2.St → Hp → Prop, (∀ σ' H', I σ' H' → N σ' H') → t1 { D with nx := N } σ H) : tSeq t1 t2 D σ H := h _ hI

/-! ### the promises -/
abbrev sNumber : Stmt := top 16
abbrev sDigits : Stmt := top 17
abbrev sDigit : Stmt := top 18
/-- what the text says of the names that the law asks -/
structure LTxt (mg : Str → Option Value) : Prop where
  len : mg "len" = none
  int : mg "int" = none
  range : mg "range" = none
  list : mg "list" = none
def spNumber (K : PySem.W.Frag) : Sp := fun vs H Q _ => ∃ (a : Addr) (ns : List Int) (k b : Nat), vs = [.ref a, .int (k : Nat)] ∧ SqL K H a (ns.map V.int) ∧ k < 1000 ∧ b ≤ 50000000 ∧ (∀ n ∈ ns, Int.natAbs n < 2 ^ b) ∧ ∀ m : Int, 0 ≤ m → m.natAbs < 2 ^ (b + 63) → Q (.int m) H
def spDigits (K : PySem.W.Frag) : Sp := fun vs H Q _ => ∃ (a : Addr) (ns : List Int) (b : Nat), vs = [.ref a, .int 0, .int 20] ∧ SqL K H a (ns.map V.int) ∧ b ≤ 50000000 ∧ (∀ n ∈ ns, Int.natAbs n < 2 ^ b) ∧ ∀ (n : Int) p, 0 ≤ n → H p = none → Q (.ref p) (upd H p (.lst [.int n]))
/-- a list of one number, not below 0 -/
def DigAt (H : Hp) (d : Addr) : Prop := ∃ n : Int, 0 ≤ n ∧ H d = some (.lst [.int n])
def spDigit : Sp := fun vs H Q _ => ∃ d m, vs = [.ref d, .int (m : Nat)] ∧ DigAt H d ∧ 0 < m ∧ m < 1000 ∧ ∀ v H', v < m → But d H H' → DigAt H' d → Q (.int (v : Nat)) H'
section
variable {P : Program} {w : World} {K : PySem.W.Frag} {mg : Str → Option Value} {base : Heap}
theorem scNumber : FnScope ["_law_script", "_law_k", "_law_cell", "_law_mixed", "_law_again"] ["_law_script", "_law_k"] (defScope sNumber) := ⟨rfl, rfl, rfl, by decide +kernel, rfl, by decide +kernel, by decide +kernel⟩
theorem ok_number {f : Addr} {fd : FuncData} (F : Fun K "_law_number" "_law_number" sNumber f fd) (T : LTxt mg) : FnOk P w K mg base CX0 1 f fd ["_law_script", "_law_k"] (spNumber K) := by
  refine F.ok scNumber (fun vs H Q E h => ?_) (fun cdv A outer s H vs Q E hr h => ?_)
  · obtain ⟨a, ns, k, b, rfl, _⟩ := h
    rfl
  · obtain ⟨a, ns, k, b, rfl, hS, hk, hb, hn, q⟩ := h
    refine ⟨_, pss_cons (ps_set (i := 2) scNumber.nd rfl (Or.inl rfl) pe_int)
      (pss_cons (ps_if (pt_cmpR op_lt (pv 1) (pe_callB call_len_seq (by rfl) T.len PySem.boot_len (pa_cons (pv 0) pa_nil)) (nomark _)) (pss_one (ps_set (i := 2) scNumber.nd rfl (Or.inl rfl) (pe_ix ix_list (pv 0) (pv 1) (fun _ _ => rfl)))) pss_nil)
      (pss_cons (ps_if (pt_cmpR op_lt (pv 2) pe_int (nomark _)) (pss_one (ps_set (i := 2) scNumber.nd rfl (Or.inl rfl) (pe_op op_sub pe_int (pe_op op_mulV pe_int (pv 2))))) pss_nil)
      (pss_cons (ps_if (pt_cmpR op_ge (pv 2) pe_int (nomark _)) (pss_one (ps_ret (pv 2))) pss_nil)
      (pss_cons (ps_set (i := 3) scNumber.nd rfl (Or.inl rfl) (pe_op op_mod (pe_callTy call_int1 (by rfl) T.int (by decide +kernel) (pa_cons (pe_op op_add (pe_op op_mulV (pe_op op_add (pv 2) pe_int) pe_int) (pe_op op_mulV (pe_op op_add (pv 1) pe_int) pe_int)) pa_nil)) pe_int))
      (pss_cons (ps_set (i := 4) scNumber.nd rfl (Or.inl rfl) (pe_op op_mod (pe_callTy call_int1 (by rfl) T.int (by decide +kernel) (pa_cons (pe_op op_add (pe_op op_mulV (pv 3) pe_int) (pe_op op_mulV (pe_op op_add (pv 2) pe_int) (pe_op op_add (pv 1) pe_int))) pa_nil)) pe_int))
      (pss_one (ps_ret (pe_op op_add (pe_op op_mulV (pv 3) pe_int) (pv 4))))))))), ?_⟩
    have hpos : 0 < 2 ^ b := Nat.two_pow_pos b
    refine seq_by (fun σ' H' => σ' = [some (.ref a), some (.int (k : Nat)), some (.int 0), none, none] ∧ H = H') ?_ (fun N hN => hN _ _ ⟨rfl, rfl⟩)
    rintro _ _ ⟨rfl, rfl⟩
    refine seq_by (fun σ' H' => ∃ c : Int, c.natAbs < 2 ^ b ∧ σ' = [some (.ref a), some (.int (k : Nat)), some (.int c), none, none] ∧ H = H') ?_ (fun N hN => ?_)
    rotate_left
    · refine ⟨_, rfl, _, rfl, _, _, rfl, .inl hS, _, _, rfl, rfl, _, rfl, ?_⟩
      refine ite2 (fun hc => ?_) (fun hc => hN _ _ ⟨0, by simpa using hpos, rfl, rfl⟩)
      have hlt : k < ns.length := by
        have z := of_decide_eq_true hc
        rw [List.length_map] at z
        omega
      obtain ⟨c, hc2⟩ := get_some hlt
      exact ⟨_, rfl, _, rfl, _, _, _, _, rfl, rfl, hS, atI_nat (get_map hc2), hN _ _ ⟨c, hn c (mem_of_get hc2), rfl, rfl⟩⟩
    rintro _ _ ⟨c, hc, rfl, rfl⟩
    refine seq_by (fun σ' H' => ∃ c : Int, 0 ≤ c ∧ c.natAbs < 2 ^ (b + 1) ∧ σ' = [some (.ref a), some (.int (k : Nat)), some (.int c), none, none] ∧ H = H') ?_ (fun N hN => ?_)
    rotate_left
    · refine ⟨_, rfl, _, _, rfl, rfl, _, rfl, ?_⟩
      have e2 : 2 ^ (b + 1) = 2 * 2 ^ b := by rw [Nat.pow_succ, Nat.mul_comm]
      refine ite2 (fun h0 => ?_) (fun h0 => hN _ _ ⟨c, ?_, ?_, rfl, rfl⟩)
      · have h0 : c < 0 := of_decide_eq_true h0
        refine ⟨_, rfl, _, _, rfl, rfl, ?_, _, _, rfl, rfl, hN _ _ ⟨1 - 2 * c, ?_, ?_, rfl, rfl⟩⟩
        · refine mulV (a := 2) (b := b + 1) (by decide) ?_ (by decide) (by omega) (by omega)
          rw [e2]
          omega
        · omega
        · rw [e2]
          omega
      · have h0 : ¬ c < 0 := fun z => h0 (decide_eq_true z)
        omega
      · rw [e2]
        omega
    rintro _ _ ⟨c, h0, hc, rfl, rfl⟩
    have e63 : 2 ^ (b + 63) = 2 ^ (b + 1) * 2 ^ 62 := by rw [← Nat.pow_add]
    have hp1 : 0 < 2 ^ (b + 1) := Nat.two_pow_pos _
    refine ⟨_, rfl, _, _, rfl, rfl, _, rfl, ?_⟩
    refine ite2 (fun hc2 => ⟨_, rfl, q c h0 ?_⟩) (fun hc2 => ?_)
    · rw [e63]
      generalize 2 ^ (b + 1) = B at *
      omega
    have hc2 : c < 1000000000 := by
      have z : ¬ (1000000000 ≤ c) := fun z => hc2 (decide_eq_true z)
      omega
    have p7 : (0 : Int) < 2147483647 := by decide
    have p9 : (0 : Int) < 2147483399 := by decide
    refine ⟨_, rfl, _, _, rfl, rfl, _, _, rfl, rfl, mulS (by omega) (by decide), _, rfl, _, _, rfl, rfl, _, _, rfl, rfl, mulS (by omega) (by decide), _, _, rfl, rfl, .inl ⟨_, rfl, _, _, rfl, rfl, p7, ?_⟩⟩
    refine ⟨_, rfl, _, _, rfl, rfl, mulS ?_ (by decide), _, rfl, _, _, rfl, rfl, _, rfl, _, _, rfl, rfl, _, _, rfl, rfl, mulS (by omega) (by omega), _, _, rfl, rfl, .inl ⟨_, rfl, _, _, rfl, rfl, p9, ?_⟩⟩
    · show Int.natAbs (((c + 17) * 48271 + ((k : Int) + 3) * 69621) % 2147483647) < _
      omega
    refine ⟨_, rfl, _, _, rfl, rfl, mulS ?_ (by decide), _, rfl, _, _, rfl, rfl, ?_⟩
    · show Int.natAbs (((c + 17) * 48271 + ((k : Int) + 3) * 69621) % 2147483647) < _
      omega
    show Q (.int ((((c + 17) * 48271 + ((k : Int) + 3) * 69621) % 2147483647) * 2147483399 + ((((c + 17) * 48271 + ((k : Int) + 3) * 69621) % 2147483647) * 40692 + (c + 5) * ((k : Int) + 11)) % 2147483399)) H
    generalize hM : ((c + 17) * 48271 + ((k : Int) + 3) * 69621) % 2147483647 = M
    have hM1 : 0 ≤ M ∧ M < 2147483647 := by omega
    have hA0 := Int.emod_nonneg (M * 40692 + (c + 5) * ((k : Int) + 11)) (b := 2147483399) (by decide)
    have hA1 := Int.emod_lt_of_pos (M * 40692 + (c + 5) * ((k : Int) + 11)) p9
    generalize (M * 40692 + (c + 5) * ((k : Int) + 11)) % 2147483399 = A2 at *
    refine q _ (by omega) ?_
    rw [e63]
    generalize 2 ^ (b + 1) = B at *
    omega
theorem scDigits : FnScope ["_law_script", "_law_first", "_law_count", "_law_number_here", "_law_k"] ["_law_script", "_law_first", "_law_count"] (defScope sDigits) := ⟨rfl, rfl, rfl, by decide +kernel, rfl, by decide +kernel, by decide +kernel⟩
theorem ok_digits {f : Addr} {fd : FuncData} (F : Fun K "_law_digits" "_law_digits" sDigits f fd) (T : LTxt mg) (d1 : Dfn P w K mg base CX0 1 "_law_number" ["_law_script", "_law_k"] (spNumber K)) : FnOk P w K mg base CX0 2 f fd ["_law_script", "_law_first", "_law_count"] (spDigits K) := by
  obtain ⟨f1, fd1, g1, k1, G1, b1⟩ := d1.ex
  refine F.ok scDigits (fun vs H Q E h => ?_) (fun cdv A outer s H vs Q E hr h => ?_)
  · obtain ⟨a, ns, b, rfl, _⟩ := h
    rfl
  · obtain ⟨a, ns, b, rfl, hS, hb, hn, q⟩ := h
    refine ⟨_, pss_cons (ps_set (i := 3) scDigits.nd rfl (Or.inl rfl) pe_int)
      (pss_cons (ps_for PassesOwn.never rfl (pi_range1 (by rfl) T.range (pa_cons (pv 2) pa_nil)) (pg_name (i := 4) scDigits.nd rfl (Or.inl rfl))
        (pss_one (ps_set (i := 3) scDigits.nd rfl (Or.inl rfl) (pe_op op_add (pe_op op_mulV (pv 3) pe_int) (pe_call G1 hr (by rfl) g1 k1 b1 .nil pass0 (pa_cons (pv 0) (pa_cons (pe_op op_sub (pe_op op_sub (pe_op op_add (pv 1) (pv 2)) pe_int) (pv 4)) pa_nil)))))))
      (pss_one (ps_ret (pe_lst (pa_cons (pv 3) pa_nil))))), ?_⟩
    refine ⟨_, rfl, _, rfl, (by decide), (by decide), ?_⟩
    refine for_range (n := 20) (fun i σ H' => H = H' ∧ ∃ (n : Int) (u : Option V), 0 ≤ n ∧ n.natAbs < 2 ^ (b + 64 + 63 * i) ∧ σ = [some (.ref a), some (.int 0), some (.int 20), some (.int n), u]) ⟨rfl, 0, none, Int.le_refl 0, Nat.two_pow_pos _, rfl⟩ ?_ ?_
    · rintro i σ H' hi ⟨rfl, n, u, h0, hn1, rfl⟩
      rw [Int.zero_add]
      refine ⟨_, rfl, _, _, rfl, rfl, ?_, _, rfl, _, rfl, _, rfl, _, _, rfl, rfl, _, _, rfl, rfl, _, rfl, _, _, rfl, rfl, ?_⟩
      · exact mulV (b := 63) hn1 (by decide) (by omega) (by decide) (by omega)
      · have e : (0 + 20 - 1 - (i : Int)) = ((19 - i : Nat) : Int) := by omega
        refine ⟨a, ns, 19 - i, b, (by show [V.ref a, V.int (0 + 20 - 1 - (i : Int))] = _; rw [e]), hS, by omega, hb, hn, fun m hm0 hm => ⟨_, _, rfl, rfl, rfl, _, _, by omega, ?_, rfl⟩⟩
        have e1 : 2 ^ (b + 64 + 63 * (i + 1)) = 2 ^ (b + 64 + 63 * i) * 2 ^ 63 := by
          rw [← Nat.pow_add]
          congr 1
        have e2 : 2 ^ (b + 63) ≤ 2 ^ (b + 64 + 63 * i) := Nat.pow_le_pow_right (by decide) (by omega)
        rw [e1]
        generalize 2 ^ (b + 64 + 63 * i) = B at *
        omega
    · rintro σ H' ⟨rfl, n, u, h0, hn1, rfl⟩
      exact ⟨_, rfl, line1, fun p hp => q n p h0 hp⟩
theorem scDigit : FnScope ["_law_digits_here", "_law_many", "_law_value"] ["_law_digits_here", "_law_many"] (defScope sDigit) := ⟨rfl, rfl, rfl, by decide +kernel, rfl, by decide +kernel, by decide +kernel⟩
theorem ok_digit {f : Addr} {fd : FuncData} (F : Fun K "_law_digit" "_law_digit" sDigit f fd) (T : LTxt mg) : FnOk P w K mg base CX0 1 f fd ["_law_digits_here", "_law_many"] spDigit := by
  refine F.ok scDigit (fun vs H Q E h => ?_) (fun cdv A outer s H vs Q E hr h => ?_)
  · obtain ⟨d, m, rfl, _⟩ := h
    rfl
  · obtain ⟨d, m, rfl, ⟨n, h0, hd⟩, hm, hm2, q⟩ := h
    refine ⟨_, pss_cons (ps_set (i := 2) scDigit.nd rfl (Or.inl rfl) (pe_op op_mod (pe_callTy call_int1 (by rfl) T.int (by decide +kernel) (pa_cons (pe_ix ix_list (pv 0) pe_int (fun _ _ => rfl)) pa_nil)) (pv 1)))
      (pss_cons (ps_asg (pe_op op_fdiv (pe_callTy call_int1 (by rfl) T.int (by decide +kernel) (pa_cons (pe_ix ix_list (pv 0) pe_int (fun _ _ => rfl)) pa_nil)) (pv 1)) (pg_sub (pv 0) pe_int set_list))
      (pss_one (ps_ret (pv 2)))), ?_⟩
    refine ⟨_, rfl, _, _, _, _, rfl, rfl, SqL.of hd, atI_nat (j := 0) rfl, .inl ⟨_, rfl, _, rfl, _, _, rfl, rfl, by omega, ?_⟩⟩
    refine ⟨_, rfl, _, _, _, _, rfl, rfl, SqL.of hd, atI_nat (j := 0) rfl, .inl ⟨_, rfl, _, rfl, _, _, rfl, rfl, ⟨by omega, by omega⟩, ?_⟩⟩
    refine ⟨_, rfl, d, _, 0, 0, rfl, rfl, hd, rfl, _, rfl, ?_⟩
    have hv1 : 0 ≤ n % (m : Int) := Int.emod_nonneg _ (by omega)
    have hv2 : n % (m : Int) < m := Int.emod_lt_of_pos _ (by omega)
    have e : n % (m : Int) = ((n % (m : Int)).toNat : Nat) := by omega
    show Q (.int (n % (m : Int))) _
    rw [e]
    exact q _ _ (by omega) But.put ⟨n / (m : Int), Int.ediv_nonneg h0 (by omega), upd_same⟩
end
end Aw

/-! The law's steps and places. -/
namespace Aw
open PySem PySem.Spec PyProof.Rows L2

abbrev sStep : Stmt := top 19
abbrev sPlace : Stmt := top 20
def spStep : Sp := fun vs H Q _ => ∃ (d g : Addr) (i n : Nat) (gs : List Str), vs = [.ref d, .int (i : Nat), .int (n : Nat), .ref g] ∧ DigAt H d ∧ g ≠ d ∧ H g = some (.lst (gs.map V.str)) ∧ 0 < gs.length ∧ gs.length < 900 ∧ (∀ x ∈ gs, x ∈ sigs) ∧ i < n ∧ n < 900 ∧
  ∀ v H' st, But d H H' → DigAt H' d → WfStep n i st → IsD H' v (dStep st) → Q v H'
/-- a place of the law's own points and things -/
def WfPl : Place → Prop
  | .rest p x => p ∈ pts ∧ x ∈ helds
  | .move p q x => p ∈ pts ∧ q ∈ pts ∧ x ∈ helds
def spPlace : Sp := fun vs H Q _ => ∃ d, vs = [.ref d] ∧ DigAt H d ∧ ∀ v H' pl, But d H H' → DigAt H' d → WfPl pl → IsD H' v (dPlace pl) → Q v H'
theorem DigAt.new {H : Hp} {d p : Addr} {o : HO} (h : DigAt H d) (hp : H p = none) : DigAt (upd H p o) d := by
  obtain ⟨n, h0, h1⟩ := h
  exact ⟨n, h0, same_new hp _ _ h1⟩
theorem DigAt.there {H : Hp} {d : Addr} (h : DigAt H d) : ∃ o, H d = some o := by
  obtain ⟨n, _, h1⟩ := h
  exact ⟨_, h1⟩
theorem But.refl (d : Addr) (H : Hp) : But d H H := fun _ _ _ e => e
theorem But.new {d p : Addr} {H H' : Hp} {o : HO} (b : But d H H') (hp : H' p = none) : But d H (upd H' p o) := b.trans (same_new hp).but
theorem _root_.L2.Same.butd {d p : Addr} {H H' : Hp} (s : Same H H') : But d H H' := s.but
/-- tuples stay where all but a list stays -/
theorem DigAt.tups {H H' : Hp} {d : Addr} (h : DigAt H d) (b : But d H H') : Tups H H' := fun c vs e => by
  obtain ⟨n, _, h1⟩ := h
  exact b c _ (ne_of e h1 (fun z => nomatch z)) e
theorem DigAt.free {H H' : Hp} {d c : Addr} (h' : DigAt H' d) (b : But d H H') (hc : H' c = none) : H c = none := by
  obtain ⟨n, _, h1⟩ := h'
  exact but_free b h1 hc
section
variable {P : Program} {w : World} {K : PySem.W.Frag} {mg : Str → Option Value} {base : Heap}
/-- one of some things by a digit -/
theorem pick {H : Hp} {d : Addr} {t : TA} {xs : List V} {σ : L2.St} {Q : VK} {m : Int} {i : Nat} (ht : ∀ F : List V → Hp → Prop, F xs H → t σ H F) (h0 : 0 < xs.length) (h9 : xs.length < 900) (hm : m = ((xs.length : Nat) : Int)) (hs : σ[i]? = some (some (.ref d))) (hD : DigAt H d)
    (h : ∀ (j : Nat) v H', xs[j]? = some v → But d H H' → DigAt H' d → Q v H') : tOp (rIxL K) (tLst t) (tCall spDigit [] E0 (tCons (tVar i) (tCons (tC (.int m)) tNil))) σ H Q := by
  refine ht _ ⟨len_line (by omega), fun p hp => ?_⟩
  subst hm
  refine ⟨_, hs, d, xs.length, rfl, hD.new hp, h0, by omega, fun v H' hv b hd => ?_⟩
  obtain ⟨x, hx⟩ := get_some hv
  have hpd : p ≠ d := fun e => by
    obtain ⟨o, ho⟩ := hD.there
    rw [e, ho] at hp
    cases hp
  refine ⟨p, xs, (v : Nat), x, rfl, rfl, SqL.of (b p _ hpd upd_same), atI_nat hx, h v x H' hx ((same_new hp).but.trans b) hd⟩
theorem two_of {α : Type} {a b x : α} {j : Nat} (h : [a, b][j]? = some x) : x = a ∨ x = b := by
  match j, h with
  | 0, h => exact .inl (Option.some.inj h).symm
  | 1, h => exact .inr (Option.some.inj h).symm
  | j + 2, h => simp at h
theorem pick_pt {H : Hp} {d : Addr} {σ : L2.St} {Q : VK} {a b : Str} (hs : σ[0]? = some (some (.ref d))) (ha : a ∈ pts) (hb : b ∈ pts) (hD : DigAt H d) (h : ∀ x H', x ∈ pts → But d H H' → DigAt H' d → Q (.str x) H') :
    tOp (rIxL K) (tLst (tCons (tC (.str a)) (tCons (tC (.str b)) tNil))) (tCall spDigit [] E0 (tCons (tVar 0) (tCons (tC (.int 2)) tNil))) σ H Q := by
  refine pick (xs := [.str a, .str b]) (fun F q => q) (Nat.zero_lt_succ 1) (show 2 < 900 by decide) rfl hs hD fun j v H' hj b' hd => ?_
  rcases two_of hj with e | e
  · rw [e]
    exact h a H' ha b' hd
  · rw [e]
    exact h b H' hb b' hd
theorem pick_held {H : Hp} {d : Addr} {σ : L2.St} {Q : VK} {a : Str} (hs : σ[0]? = some (some (.ref d))) (ha : some a ∈ helds) (hD : DigAt H d) (h : ∀ x H', x ∈ helds → But d H H' → DigAt H' d → Q (vHeld x) H') :
    tOp (rIxL K) (tLst (tCons (tC .non) (tCons (tC (.str a)) tNil))) (tCall spDigit [] E0 (tCons (tVar 0) (tCons (tC (.int 2)) tNil))) σ H Q := by
  refine pick (xs := [.non, .str a]) (fun F q => q) (Nat.zero_lt_succ 1) (show 2 < 900 by decide) rfl hs hD fun j v H' hj b' hd => ?_
  rcases two_of hj with e | e
  · rw [e]
    exact h none H' (by simp [helds]) b' hd
  · rw [e]
    exact h (some a) H' ha b' hd
theorem p_in : ("p" : Str) ∈ pts := by simp [pts]
theorem q_in : ("q" : Str) ∈ pts := by simp [pts]
theorem x_in : some ("x" : Str) ∈ helds := by simp [helds]
theorem scStep : FnScope ["_law_digits_here", "_law_index", "_law_size", "_law_signals", "_law_kind", "_law_ahead", "_law_signal"] ["_law_digits_here", "_law_index", "_law_size", "_law_signals"] (defScope sStep) := ⟨rfl, rfl, rfl, by decide +kernel, rfl, by decide +kernel, by decide +kernel⟩
theorem ok_step {f : Addr} {fd : FuncData} (F : Fun K "_law_step" "_law_step" sStep f fd) (T : LTxt mg) (d1 : Dfn P w K mg base CX0 1 "_law_digit" ["_law_digits_here", "_law_many"] spDigit) :
    FnOk P w K mg base CX0 2 f fd ["_law_digits_here", "_law_index", "_law_size", "_law_signals"] spStep := by
  obtain ⟨f1, fd1, g1, k1, G1, b1⟩ := d1.ex
  refine F.ok scStep (fun vs H Q E h => ?_) (fun cdv A outer s H vs Q E hr h => ?_)
  · obtain ⟨d, g, i, n, gs, rfl, _⟩ := h
    rfl
  · obtain ⟨d, g, i, n, gs, rfl, hD, hgd, hg, hg0, hg9, hgs, hi, hn, k⟩ := h
    refine ⟨_, pss_cons (ps_set (i := 4) scStep.nd rfl (Or.inl rfl) (pe_call G1 hr (by rfl) g1 k1 b1 .nil pass0 (pa_cons (pv 0) (pa_cons pe_int pa_nil))))
      (pss_cons (ps_set (i := 5) scStep.nd rfl (Or.inl rfl) (pe_op op_add (pe_op op_add (pv 1) pe_int) (pe_call G1 hr (by rfl) g1 k1 b1 .nil pass0 (pa_cons (pv 0) (pa_cons (pe_op op_sub (pv 2) (pv 1)) pa_nil)))))
      (pss_cons (ps_set (i := 6) scStep.nd rfl (Or.inl rfl) (pe_ix ix_list (pv 3) (pe_call G1 hr (by rfl) g1 k1 b1 .nil pass0 (pa_cons (pv 0) (pa_cons (pe_callB call_len_seq (by rfl) T.len PySem.boot_len (pa_cons (pv 3) pa_nil)) pa_nil))) (fun _ _ => rfl)))
      (pss_cons (ps_if (pt_cmpR op_lt (pv 4) pe_int (nomark _)) (pss_one (ps_ret (pe_tup (pa_cons pe_str (pa_cons (pe_ix ix_list (pe_lst (pa_cons pe_str (pa_cons pe_str pa_nil))) (pe_call G1 hr (by rfl) g1 k1 b1 .nil pass0 (pa_cons (pv 0) (pa_cons pe_int pa_nil))) (fun _ _ => rfl)) pa_nil))))) pss_nil)
      (pss_cons (ps_if (pt_cmpR op_eq (pv 4) pe_int (nomark _)) (pss_one (ps_ret (pe_tup (pa_cons pe_str (pa_cons (pe_ix ix_list (pe_lst (pa_cons pe_non (pa_cons pe_str pa_nil))) (pe_call G1 hr (by rfl) g1 k1 b1 .nil pass0 (pa_cons (pv 0) (pa_cons pe_int pa_nil))) (fun _ _ => rfl)) pa_nil))))) pss_nil)
      (pss_cons (ps_if (pt_cmpR op_eq (pv 4) pe_int (nomark _)) (pss_one (ps_ret (pe_tup (pa_cons pe_str (pa_cons (pv 6) (pa_cons (pe_cmpR op_gt (pe_call G1 hr (by rfl) g1 k1 b1 .nil pass0 (pa_cons (pv 0) (pa_cons pe_int pa_nil))) pe_int (nomark _)) pa_nil)))))) pss_nil)
      (pss_cons (ps_if (pt_cmpR op_eq (pv 4) pe_int (nomark _)) (pss_one (ps_ret (pe_tup (pa_cons pe_str (pa_cons (pv 6) (pa_cons (pe_cmpR op_gt (pe_call G1 hr (by rfl) g1 k1 b1 .nil pass0 (pa_cons (pv 0) (pa_cons pe_int pa_nil))) pe_int (nomark _)) pa_nil)))))) pss_nil)
      (pss_cons (ps_if (pt_cmpR op_eq (pv 4) pe_int (nomark _)) (pss_one (ps_ret (pe_tup (pa_cons pe_str (pa_cons (pv 5) pa_nil))))) pss_nil)
      (pss_cons (ps_if (pt_cmpR op_eq (pv 4) pe_int (nomark _)) (pss_one (ps_ret (pe_tup (pa_cons pe_str (pa_cons pe_str (pa_cons (pv 5) pa_nil)))))) pss_nil)
      (pss_one (ps_ret (pe_tup (pa_cons pe_str (pa_cons (pe_ix ix_list (pe_lst (pa_cons pe_str (pa_cons pe_str pa_nil))) (pe_op op_mod (pv 1) pe_int) (fun _ _ => rfl)) pa_nil))))))))))))), ?_⟩
    refine ⟨_, rfl, d, 9, rfl, hD, by decide, by decide, fun kd H1 hkd b1' hD1 => ?_⟩
    refine ⟨_, rfl, _, _, rfl, rfl, _, rfl, _, rfl, _, rfl, _, _, rfl, rfl, ?_⟩
    have e1 : (n : Int) - (i : Int) = ((n - i : Nat) : Int) := by omega
    refine ⟨d, n - i, (by show [V.ref d, V.int ((n : Int) - (i : Int))] = _; rw [e1]), hD1, by omega, by omega, fun ad H2 had b2' hD2 => ?_⟩
    refine ⟨_, _, rfl, rfl, ?_⟩
    have e2 : (i : Int) + 1 + (ad : Int) = ((i + 1 + ad : Nat) : Int) := by omega
    have b02 := b1'.trans b2'
    have hg2 := b02 g _ hgd hg
    refine ⟨_, rfl, _, rfl, _, rfl, _, _, rfl, .inl (SqL.of hg2), d, gs.length, (by show [V.ref d, V.int (((gs.map V.str).length : Nat) : Int)] = _; rw [List.length_map]), hD2, hg0, by omega, fun sg H3 hsg b3' hD3 => ?_⟩
    obtain ⟨sgn, hsgn⟩ := get_some hsg
    have b03 := b02.trans b3'
    have sin := hgs sgn (mem_of_get hsgn)
    refine ⟨g, gs.map V.str, _, .str sgn, rfl, rfl, SqL.of (b03 g _ hgd hg), atI_nat (get_map hsgn), ?_⟩
    have fin : ∀ (H' : Hp) (vs : List V) (ds : List Dat) (st : Step) (p : Addr), But d H3 H' → DigAt H' d → H' p = none → WfStep n i st → IsDs H' vs ds → dStep st = .tup ds → Q (.ref p) (upd H' p (.tup vs)) := fun H' vs ds st p b hd hp wf hv e => by
      refine k _ _ st ((b03.trans b).new hp) (hd.new hp) wf ?_
      rw [e]
      exact IsD.made hp hv
    have ahead : i < i + 1 + ad ∧ i + 1 + ad ≤ n := by omega
    have isA : ∀ H' : Hp, IsD H' (.int ((i : Int) + 1 + (ad : Int))) (.int ((i + 1 + ad : Nat) : Int)) := fun H' => by
      rw [e2]
      exact .int _
    refine ⟨_, rfl, _, _, rfl, rfl, _, rfl, ?_⟩
    refine ite2 (fun _ => ?_) (fun _ => ?_)
    · exact pick_pt rfl p_in q_in hD3 fun x H4 hx b4 hD4 => ⟨line2, fun p hp => fin H4 _ _ (.move x) p b4 hD4 hp hx (.cons (.str _) (.cons (.str _) .nil)) rfl⟩
    refine ⟨_, rfl, rfl, _, rfl, ?_⟩
    refine ite2 (fun _ => ?_) (fun _ => ?_)
    · exact pick_held rfl x_in hD3 fun x H4 hx b4 hD4 => ⟨line2, fun p hp => fin H4 _ _ (.hold x) p b4 hD4 hp hx (.cons (.str _) (.cons (held_is x) .nil)) rfl⟩
    refine ⟨_, rfl, rfl, _, rfl, ?_⟩
    refine ite2 (fun _ => ?_) (fun _ => ?_)
    · exact ⟨_, rfl, _, rfl, d, 4, rfl, hD3, by decide, by decide, fun z H4 hz b4 hD4 => ⟨_, _, rfl, rfl, line3, fun p hp => fin H4 _ _ (.set sgn _) p b4 hD4 hp sin (.cons (.str _) (.cons (.str _) (.cons (.bl _) .nil))) rfl⟩⟩
    refine ⟨_, rfl, rfl, _, rfl, ?_⟩
    refine ite2 (fun _ => ?_) (fun _ => ?_)
    · exact ⟨_, rfl, _, rfl, d, 4, rfl, hD3, by decide, by decide, fun z H4 hz b4 hD4 => ⟨_, _, rfl, rfl, line3, fun p hp => fin H4 _ _ (.wait sgn _) p b4 hD4 hp sin (.cons (.str _) (.cons (.str _) (.cons (.bl _) .nil))) rfl⟩⟩
    refine ⟨_, rfl, rfl, _, rfl, ?_⟩
    refine ite2 (fun _ => ?_) (fun _ => ?_)
    · exact ⟨_, rfl, line2, fun p hp => fin H3 _ _ (.jump (i + 1 + ad)) p (But.refl _ _) hD3 hp ahead (.cons (.str _) (.cons (isA _) .nil)) rfl⟩
    refine ⟨_, rfl, rfl, _, rfl, ?_⟩
    refine ite2 (fun _ => ?_) (fun _ => ?_)
    · exact ⟨_, rfl, line3, fun p hp => fin H3 _ _ (.iff "i" (i + 1 + ad)) p (But.refl _ _) hD3 hp ahead (.cons (.str _) (.cons (.str _) (.cons (isA _) .nil))) rfl⟩
    refine ⟨line2, fun l hl => ⟨_, rfl, _, _, rfl, rfl, (by show (0 : Int) < 2; decide), ?_⟩⟩
    have hl2 : upd H3 l (.lst [.str "q", .str "p"]) l = some (.lst [.str "q", .str "p"]) := upd_same
    have hmod : (i : Int) % 2 = 0 ∨ (i : Int) % 2 = 1 := by omega
    obtain ⟨x, hx, hat⟩ : ∃ x : Str, x ∈ pts ∧ atI [V.str "q", V.str "p"] ((i : Int) % 2) = some (V.str x) := by
      rcases hmod with e | e
      · exact ⟨"q", q_in, by rw [e]; rfl⟩
      · exact ⟨"p", p_in, by rw [e]; rfl⟩
    exact ⟨l, _, _, .str x, rfl, rfl, SqL.of hl2, hat, line2, fun p hp => fin _ _ _ (.move x) p (same_new hl).but (hD3.new hl) hp hx (.cons (.str _) (.cons (.str _) .nil)) rfl⟩
theorem scPlace : FnScope ["_law_digits_here", "_law_point", "_law_held"] ["_law_digits_here"] (defScope sPlace) := ⟨rfl, rfl, rfl, by decide +kernel, rfl, by decide +kernel, by decide +kernel⟩
theorem ok_place {f : Addr} {fd : FuncData} (F : Fun K "_law_place" "_law_place" sPlace f fd) (d1 : Dfn P w K mg base CX0 1 "_law_digit" ["_law_digits_here", "_law_many"] spDigit) :
    FnOk P w K mg base CX0 2 f fd ["_law_digits_here"] spPlace := by
  obtain ⟨f1, fd1, g1, k1, G1, b1⟩ := d1.ex
  refine F.ok scPlace (fun vs H Q E h => ?_) (fun cdv A outer s H vs Q E hr h => ?_)
  · obtain ⟨d, rfl, _⟩ := h
    rfl
  · obtain ⟨d, rfl, hD, k⟩ := h
    refine ⟨_, pss_cons (ps_set (i := 1) scPlace.nd rfl (Or.inl rfl) (pe_ix ix_list (pe_lst (pa_cons pe_str (pa_cons pe_str pa_nil))) (pe_call G1 hr (by rfl) g1 k1 b1 .nil pass0 (pa_cons (pv 0) (pa_cons pe_int pa_nil))) (fun _ _ => rfl)))
      (pss_cons (ps_set (i := 2) scPlace.nd rfl (Or.inl rfl) (pe_ix ix_list (pe_lst (pa_cons pe_non (pa_cons pe_str pa_nil))) (pe_call G1 hr (by rfl) g1 k1 b1 .nil pass0 (pa_cons (pv 0) (pa_cons pe_int pa_nil))) (fun _ _ => rfl)))
      (pss_cons (ps_if (pt_cmpR op_eq (pe_call G1 hr (by rfl) g1 k1 b1 .nil pass0 (pa_cons (pv 0) (pa_cons pe_int pa_nil))) pe_int (nomark _)) (pss_one (ps_ret (pe_tup (pa_cons pe_str (pa_cons (pv 1) (pa_cons (pv 2) pa_nil)))))) pss_nil)
      (pss_one (ps_ret (pe_tup (pa_cons pe_str (pa_cons (pv 1) (pa_cons (pe_ix ix_list (pe_lst (pa_cons pe_str (pa_cons pe_str pa_nil))) (pe_call G1 hr (by rfl) g1 k1 b1 .nil pass0 (pa_cons (pv 0) (pa_cons pe_int pa_nil))) (fun _ _ => rfl)) (pa_cons (pv 2) pa_nil))))))))), ?_⟩
    refine pick_pt rfl p_in q_in hD fun x H1 hx b1' hD1 => ?_
    refine pick_held rfl x_in hD1 fun y H2 hy b2' hD2 => ?_
    have b02 := b1'.trans b2'
    refine ⟨_, rfl, d, 2, rfl, hD2, by decide, by decide, fun z H3 hz b3' hD3 => ⟨rfl, _, rfl, ?_⟩⟩
    have b03 := b02.trans b3'
    refine ite2 (fun _ => ?_) (fun _ => ?_)
    · exact ⟨_, rfl, _, rfl, line3, fun p hp => k _ _ (.rest x y) (b03.new hp) (hD3.new hp) ⟨hx, hy⟩ (IsD.made hp (.cons (.str _) (.cons (.str _) (.cons (held_is y) .nil))))⟩
    · refine ⟨_, rfl, ?_⟩
      exact pick_pt rfl p_in q_in hD3 fun u H4 hu b4' hD4 => ⟨_, rfl, line4, fun p hp => k _ _ (.move x u y) ((b03.trans b4').new hp) (hD4.new hp) ⟨hx, hu, hy⟩ (IsD.made hp (.cons (.str _) (.cons (.str _) (.cons (.str _) (.cons (held_is y) .nil)))))⟩
end
end Aw

/-! The law's plan. -/
namespace Aw
open PySem PySem.Spec PyProof.Rows L2

abbrev sLawPlan : Stmt := top 21
/-- a blocked pair of two of n arms -/
def IsBlk (H : Hp) (n : Nat) (v : V) : Prop := ∃ a pl o pl', a < n ∧ o < n ∧ WfPl pl ∧ WfPl pl' ∧ IsD H v (dBlk a pl o pl')
theorem IsBlk.mono {H H' : Hp} {n : Nat} {v : V} (h : IsBlk H n v) (t : Tups H H') : IsBlk H' n v := by
  obtain ⟨a, pl, o, pl', h1, h2, w1, w2, h3⟩ := h
  exact ⟨a, pl, o, pl', h1, h2, w1, w2, h3.mono t⟩
structure WfPlan (flows : List (List Step)) (starts : List Str) : Prop where
  n1 : 1 ≤ flows.length
  n4 : flows.length ≤ 4
  fl8 : ∀ fl ∈ flows, fl.length ≤ 8
  wf : ∀ fl ∈ flows, WfFlow fl
  st : starts.length = flows.length
  sp : ∀ x ∈ starts, x ∈ pts
theorem WfPlan.p {flows : List (List Step)} {starts : List Str} (h : WfPlan flows starts) {P : Pln} (e1 : P.flows = flows) (e2 : P.starts = starts) : WfP P := by
  subst e1
  subst e2
  exact ⟨h.n1, h.n4, h.fl8, h.wf, h.st, h.sp⟩
/-- the made plan's parts -/
structure PlanMade (H : Hp) (d r fl st bl : Addr) (fs : List Addr) (flows : List (List Step)) (starts : List Str) (bvs : List V) : Prop where
  hr : H r = some (.tup [.ref fl, .ref st, .ref bl])
  hfl : H fl = some (.lst (fs.map V.ref))
  hfs : FlowsAt H fs flows
  hst : H st = some (.lst (starts.map V.str))
  hbl : H bl = some (.lst bvs)
  hbv : ∀ v ∈ bvs, IsBlk H flows.length v
  len : bvs.length ≤ 8
  wf : WfPlan flows starts
  away : (∀ f ∈ fs, f ≠ d) ∧ fl ≠ d ∧ st ≠ d ∧ bl ≠ d
def spLawPlan : Sp := fun vs H Q _ => ∃ d, vs = [.ref d] ∧ DigAt H d ∧ ∀ H' r fl st bl fs flows starts bvs, But d H H' → DigAt H' d → PlanMade H' d r fl st bl fs flows starts bvs → Q (.ref r) H'
theorem But.putNew {d L : Addr} {H H' : Hp} {o : HO} (b : But d H H') (h : H L = none) : But d H (upd H' L o) := fun c u n e => by
  rw [upd_ne (ne_of_none e h)]
  exact b c u n e
theorem FlowsAt.away {H H' : Hp} {d : Addr} (t : Tups H H') (b : But d H H') {as : List Addr} {fs : List (List Step)} (h : FlowsAt H as fs) (hd : ∀ f ∈ as, f ≠ d) : FlowsAt H' as fs :=
  FlowsAt.at t (fun f hf vs e => b f _ (hd f hf) e) h
/-- a list grows -/
theorem FlowsAt.grow {H : Hp} {L : Addr} {xs ys : List V} (hL : H L = some (.lst xs)) {as : List Addr} {fs : List (List Step)} (h : FlowsAt H as fs) (hd : ∀ f ∈ as, f ≠ L) : FlowsAt (upd H L (.lst ys)) as fs :=
  FlowsAt.at (putLst_tups hL) (fun f hf vs e => by rw [upd_ne (hd f hf)]; exact e) h
theorem DigAt.put {H : Hp} {d L : Addr} {o : HO} (h : DigAt H d) (n : d ≠ L) : DigAt (upd H L o) d := by
  obtain ⟨m, h0, h1⟩ := h
  exact ⟨m, h0, by rw [upd_ne n]; exact h1⟩
theorem arms_of {j : Nat} {v : V} (h : [V.int 2, .int 3, .int 2, .int 1, .int 2, .int 3, .int 4][j]? = some v) : ∃ n : Nat, 1 ≤ n ∧ n ≤ 4 ∧ v = .int (n : Nat) := by
  match j, h with
  | 0, h => exact ⟨2, by decide, by decide, (Option.some.inj h).symm⟩
  | 1, h => exact ⟨3, by decide, by decide, (Option.some.inj h).symm⟩
  | 2, h => exact ⟨2, by decide, by decide, (Option.some.inj h).symm⟩
  | 3, h => exact ⟨1, by decide, by decide, (Option.some.inj h).symm⟩
  | 4, h => exact ⟨2, by decide, by decide, (Option.some.inj h).symm⟩
  | 5, h => exact ⟨3, by decide, by decide, (Option.some.inj h).symm⟩
  | 6, h => exact ⟨4, by decide, by decide, (Option.some.inj h).symm⟩
  | j + 7, h => simp at h
theorem most_of {n : Nat} (h1 : 1 ≤ n) (h4 : n ≤ 4) : ∃ m : Nat, 1 ≤ m ∧ m ≤ 8 ∧ [V.int 0, .int 8, .int 5, .int 2, .int 1][n]? = some (.int (m : Nat)) := by
  match n, h1, h4 with
  | 1, _, _ => exact ⟨8, by decide, by decide, rfl⟩
  | 2, _, _ => exact ⟨5, by decide, by decide, rfl⟩
  | 3, _, _ => exact ⟨2, by decide, by decide, rfl⟩
  | 4, _, _ => exact ⟨1, by decide, by decide, rfl⟩
  | n + 5, _, h => omega
theorem wf_more {k t : Nat} {steps : List Step} {st : Step} (hl : steps.length = t) (h : ∀ (j : Nat) (s : Step), steps[j]? = some s → WfStep k j s) (hs : WfStep k t st) : ∀ (j : Nat) (s : Step), (steps ++ [st])[j]? = some s → WfStep k j s := by
  intro j s e
  by_cases hj : j < steps.length
  · rw [List.getElem?_append_left hj] at e
    exact h j s e
  · rw [List.getElem?_append_right (by omega)] at e
    have hz : j - steps.length = 0 := by
      have q := (List.getElem?_eq_some_iff.mp e).1
      simp only [List.length_cons, List.length_nil] at q
      omega
    rw [hz] at e
    have e2 : st = s := Option.some.inj e
    have e3 : j = t := by omega
    rw [← e2, e3]
    exact hs
section
variable {P : Program} {w : World} {K : PySem.W.Frag} {mg : Str → Option Value} {base : Heap}
theorem scLawPlan : FnScope ["_law_digits_here", "_law_arms", "_law_most", "_law_signals", "_law_flows", "_law_arm", "_law_size", "_law_starts", "_law_blocked", "_law_k", "_law_other", "_law_place_here", "_law_index"] ["_law_digits_here"] (defScope sLawPlan) := ⟨rfl, rfl, rfl, by decide +kernel, rfl, by decide +kernel, by decide +kernel⟩
theorem ok_law_plan {f : Addr} {fd : FuncData} (F : Fun K "_law_plan" "_law_plan" sLawPlan f fd) (T : LTxt mg) (d1 : Dfn P w K mg base CX0 1 "_law_digit" ["_law_digits_here", "_law_many"] spDigit)
    (d2 : Dfn P w K mg base CX0 2 "_law_step" ["_law_digits_here", "_law_index", "_law_size", "_law_signals"] spStep) (d3 : Dfn P w K mg base CX0 2 "_law_place" ["_law_digits_here"] spPlace) :
    FnOk P w K mg base CX0 3 f fd ["_law_digits_here"] spLawPlan := by
  obtain ⟨f1, fd1, g1, k1, G1, b1⟩ := d1.ex
  obtain ⟨f2, fd2, g2, k2, G2, b2⟩ := d2.ex
  obtain ⟨f3, fd3, g3, k3, G3, b3⟩ := d3.ex
  refine F.ok scLawPlan (fun vs H Q E h => ?_) (fun cdv A outer s H vs Q E hr h => ?_)
  · obtain ⟨d, rfl, _⟩ := h
    rfl
  · obtain ⟨d, rfl, hD, k⟩ := h
    have hr1 := hr.mono (show 1 ≤ 2 by decide)
    refine ⟨_, pss_cons (ps_set (i := 1) scLawPlan.nd rfl (Or.inl rfl) (pe_ix ix_list (pe_lst (pa_cons pe_int (pa_cons pe_int (pa_cons pe_int (pa_cons pe_int (pa_cons pe_int (pa_cons pe_int (pa_cons pe_int pa_nil)))))))) (pe_call G1 hr1 (by rfl) g1 k1 b1 .nil pass0 (pa_cons (pv 0) (pa_cons pe_int pa_nil))) (fun _ _ => rfl)))
      (pss_cons (ps_set (i := 2) scLawPlan.nd rfl (Or.inl rfl) (pe_ix ix_list (pe_lst (pa_cons pe_int (pa_cons pe_int (pa_cons pe_int (pa_cons pe_int (pa_cons pe_int pa_nil)))))) (pv 1) (fun _ _ => rfl)))
      (pss_cons (ps_set (i := 3) scLawPlan.nd rfl (Or.inr rfl) (pe_lst (pa_cons pe_str (pa_cons pe_str pa_nil))))
      (pss_cons (ps_if (pt_cmpR op_gt (pv 1) pe_int (nomark _)) (pss_one (ps_set (i := 3) scLawPlan.nd rfl (Or.inr rfl) (pe_lst (pa_cons pe_str pa_nil)))) pss_nil)
      (pss_cons (ps_set (i := 4) scLawPlan.nd rfl (Or.inl rfl) (pe_lst pa_nil))
      (pss_cons (ps_for PassesOwn.never rfl (pi_range1 (by rfl) T.range (pa_cons (pv 1) pa_nil)) (pg_name (i := 5) scLawPlan.nd rfl (Or.inl rfl))
        (pss_cons (ps_set (i := 6) scLawPlan.nd rfl (Or.inr rfl) (pe_op op_sub (pv 2) (pe_op op_mod (pe_call G1 hr1 (by rfl) g1 k1 b1 .nil pass0 (pa_cons (pv 0) (pa_cons (pe_op op_add (pv 2) pe_int) pa_nil))) pe_int)))
        (pss_one (ps_expr (pe_bm PySem.F.plainAttrs_list PySem.F.slot_list_append PySem.F.type_list_append mt_append (pv 4)
          (pa_cons (pe_lc (own := [("_law_index", 12)]) (g := gName 12) (tt := tYes) (te := tCall spStep [] E0 (tCons (tVar 0) (tCons (tVar 12) (tCons (tVar 6) (tCons (tVar 3) tNil))))) rfl scLawPlan.nd (pi_range1 (by rfl) T.range (pa_cons (pv 6) pa_nil)) (blkOk_by (N := ["_law_digits_here", "_law_arms", "_law_most", "_law_signals", "_law_flows", "_law_arm", "_law_size", "_law_starts", "_law_blocked", "_law_k", "_law_other", "_law_place_here", "_law_index"]) (sc := defScope sLawPlan) (by decide +kernel))
            (fun _ _ _ _ _ => pg_name (i := 12) scLawPlan.nd rfl (Or.inl rfl)) (fun _ _ _ _ _ => pts_nil) (fun _ _ _ _ _ => pe_call G2 hr (by rfl) g2 k2 b2 .nil pass0 (pa_cons (pv 0) (pa_cons (pv 12) (pa_cons (pv 6) (pa_cons (pv 3) pa_nil)))))) pa_nil))))))
      (pss_cons (ps_setLc (i := 7) (own := [("_law_arm", 5)]) (g := gName 5) (tt := tYes) (te := tOp (rIxL K) (tLst (tCons (tC (.str "p")) (tCons (tC (.str "q")) tNil))) (tCall spDigit [] E0 (tCons (tVar 0) (tCons (tC (.int 2)) tNil)))) rfl scLawPlan.nd rfl rfl (sw_true rfl rfl rfl rfl) (pi_range1 (by rfl) T.range (pa_cons (pv 1) pa_nil)) (blkOk_by (N := ["_law_digits_here", "_law_arms", "_law_most", "_law_signals", "_law_flows", "_law_arm", "_law_size", "_law_starts", "_law_blocked", "_law_k", "_law_other", "_law_place_here", "_law_index"]) (sc := defScope sLawPlan) (by decide +kernel))
            (fun _ _ _ _ _ => pg_name (i := 5) scLawPlan.nd rfl (Or.inl rfl)) (fun _ _ _ _ _ => pts_nil) (fun _ _ _ _ _ => pe_ix ix_list (pe_lst (pa_cons pe_str (pa_cons pe_str pa_nil))) (pe_call G1 hr1 (by rfl) g1 k1 b1 .nil pass0 (pa_cons (pv 0) (pa_cons pe_int pa_nil))) (fun _ _ => rfl)))
      (pss_cons (ps_set (i := 8) scLawPlan.nd rfl (Or.inl rfl) (pe_lst pa_nil))
      (pss_cons (ps_for PassesOwn.never rfl (pi_range1 (by rfl) T.range (pa_cons (pe_call G1 hr1 (by rfl) g1 k1 b1 .nil pass0 (pa_cons (pv 0) (pa_cons pe_int pa_nil))) pa_nil)) (pg_name (i := 9) scLawPlan.nd rfl (Or.inl rfl))
        (pss_cons (ps_set (i := 5) scLawPlan.nd rfl (Or.inl rfl) (pe_call G1 hr1 (by rfl) g1 k1 b1 .nil pass0 (pa_cons (pv 0) (pa_cons (pv 1) pa_nil))))
        (pss_cons (ps_set (i := 10) scLawPlan.nd rfl (Or.inl rfl) (pe_call G1 hr1 (by rfl) g1 k1 b1 .nil pass0 (pa_cons (pv 0) (pa_cons (pv 1) pa_nil))))
        (pss_cons (ps_set (i := 11) scLawPlan.nd rfl (Or.inl rfl) (pe_call G3 hr (by rfl) g3 k3 b3 .nil pass0 (pa_cons (pv 0) pa_nil)))
        (pss_one (ps_if (pt_cmpR op_ne (pv 5) (pv 10) (nomark _))
          (pss_one (ps_expr (pe_bm PySem.F.plainAttrs_list PySem.F.slot_list_append PySem.F.type_list_append mt_append (pv 8)
            (pa_cons (pe_tup (pa_cons (pv 5) (pa_cons (pv 11) (pa_cons (pv 10) (pa_cons (pe_call G3 hr (by rfl) g3 k3 b3 .nil pass0 (pa_cons (pv 0) pa_nil)) pa_nil))))) pa_nil)))) pss_nil))))))
      (pss_one (ps_ret (pe_tup (pa_cons (pv 4) (pa_cons (pv 7) (pa_cons (pv 8) pa_nil)))))))))))))), ?_⟩
    have hnd : ∀ {H' : Hp} {c : Addr}, DigAt H' d → H' c = none → c ≠ d := fun {H' c} h hc e => by
      obtain ⟨o, ho⟩ := h.there
      rw [e, ho] at hc
      cases hc
    refine pick (i := 0) (xs := [.int 2, .int 3, .int 2, .int 1, .int 2, .int 3, .int 4]) (fun F q => q) (Nat.zero_lt_succ _) (show 7 < 900 by decide) rfl rfl hD fun j v H1 hj b1' hD1 => ?_
    obtain ⟨n, hn1, hn4, rfl⟩ := arms_of hj
    obtain ⟨m, hm1, hm8, hmost⟩ := most_of hn1 hn4
    refine ⟨len_line (show 5 ≤ 1000 by decide), fun q0 hq0 => ⟨_, rfl, q0, _, _, _, rfl, rfl, SqL.of upd_same, atI_nat hmost, ?_⟩⟩
    have b2' := b1'.new (o := .lst [V.int 0, .int 8, .int 5, .int 2, .int 1]) hq0
    have hD2 := hD1.new (o := .lst [V.int 0, .int 8, .int 5, .int 2, .int 1]) hq0
    generalize upd H1 q0 (.lst [V.int 0, .int 8, .int 5, .int 2, .int 1]) = H2 at *
    refine ⟨line2, fun g0 hg0 => ?_⟩
    refine seq_by (fun σ' H' => σ' = [some (.ref d), some (.int (n : Nat)), some (.int (m : Nat)), some (.ref g0), none, none, none, none, none, none, none, none, none] ∧ H' = upd H2 g0 (.lst [V.str "s", .str "t"])) ?_ (fun N hN => hN _ _ ⟨rfl, rfl⟩)
    rintro _ _ ⟨rfl, rfl⟩
    refine seq_by (fun σ' H' => ∃ (g : Addr) (gs : List Str), σ' = [some (.ref d), some (.int (n : Nat)), some (.int (m : Nat)), some (.ref g), none, none, none, none, none, none, none, none, none] ∧ But d H H' ∧ DigAt H' d ∧ g ≠ d ∧ H' g = some (.lst (gs.map V.str)) ∧ 0 < gs.length ∧ gs.length < 900 ∧ ∀ x ∈ gs, x ∈ sigs) ?_ (fun N hN => ?_)
    rotate_left
    · refine ⟨_, rfl, _, _, rfl, rfl, _, rfl, ?_⟩
      have b3' := b2'.new (o := .lst [V.str "s", .str "t"]) hg0
      have hD3 := hD2.new (o := .lst [V.str "s", .str "t"]) hg0
      refine ite2 (fun _ => ⟨line1, fun g1 hg1 => hN _ _ ⟨g1, ["s"], rfl, b3'.new hg1, hD3.new hg1, hnd hD3 hg1, upd_same, Nat.zero_lt_succ _, (show 1 < 900 by decide), fun x hx => ?_⟩⟩)
        (fun _ => hN _ _ ⟨g0, ["s", "t"], rfl, b3', hD3, hnd hD2 hg0, upd_same, Nat.zero_lt_succ _, (show 2 < 900 by decide), fun x hx => hx⟩)
      rw [List.mem_singleton.mp hx]
      exact List.mem_cons_self
    rintro _ Hb ⟨g, gs, rfl, bb, hDb, hgd, hgb, hg0', hg9, hgs⟩
    refine ⟨Nat.zero_le _, fun L hL => ?_⟩
    have hLd := hnd hDb hL
    refine ⟨_, rfl, (n : Int), rfl, by omega, by omega, ?_⟩
    refine for_range (n := n) (fun i σ' H' => ∃ (u5 u6 : Option V) (fs : List Addr) (flows : List (List Step)), σ' = [some (.ref d), some (.int (n : Nat)), some (.int (m : Nat)), some (.ref g), some (.ref L), u5, u6, none, none, none, none, none, none] ∧ But d Hb H' ∧ DigAt H' d ∧
      H' L = some (.lst (fs.map V.ref)) ∧ FlowsAt H' fs flows ∧ flows.length = i ∧ (∀ fl ∈ flows, fl.length ≤ 8 ∧ WfFlow fl) ∧ ∀ f ∈ fs, f ≠ L ∧ f ≠ d)
      ⟨none, none, [], [], rfl, (same_new hL).but, hDb.new hL, upd_same, .nil, rfl, (fun _ h => nomatch h), (fun _ h => nomatch h)⟩ ?_ ?_
    · rintro i σ' H3 hi ⟨u5, u6, fs, flows, rfl, b3', hD3, hL3, hfs, hfl, hfw, hne⟩
      rw [Int.zero_add]
      refine seq_by (fun σ' H' => ∃ kz : Nat, kz ≤ 8 ∧ σ' = [some (.ref d), some (.int (n : Nat)), some (.int (m : Nat)), some (.ref g), some (.ref L), some (.int (i : Nat)), some (.int (kz : Nat)), none, none, none, none, none, none] ∧ But d H3 H' ∧ DigAt H' d) ?_ (fun N hN => ?_)
      rotate_left
      · refine ⟨_, rfl, _, rfl, _, rfl, _, _, rfl, rfl, d, m + 1, rfl, hD3, by omega, by omega, fun z H4 hz b4 hD4 => ⟨_, _, rfl, rfl, (show (0 : Int) < 3 by decide), _, _, rfl, rfl, ?_⟩⟩
        have e : (m : Int) - (z : Int) % 3 = ((m - z % 3 : Nat) : Int) := by omega
        refine hN _ _ ⟨m - z % 3, by omega, ?_, b4, hD4⟩
        show [some (V.ref d), some (.int (n : Nat)), some (.int (m : Nat)), some (.ref g), some (.ref L), some (.int (i : Nat)), some (V.int ((m : Int) - (z : Int) % 3)), none, none, none, none, none, none] = _
        rw [e]
      rintro _ H4 ⟨kz, hkz, rfl, b4, hD4⟩
      have b04 := b3'.trans b4
      have hL4 := b4 L _ hLd hL3
      have hg4 := b04 g _ hgd hgb
      refine ⟨_, rfl, .inl ⟨rfl, _, SqL.of hL4⟩, _, rfl, (kz : Int), rfl, by omega, by omega, fun D hDn => ?_⟩
      have hDd := hnd hD4 hDn
      have hDL : D ≠ L := Ne.symm (ne_of_none hL4 hDn)
      refine lc_range (n := kz) (fun t H' => ∃ (vs : List V) (steps : List Step), H' D = some (.lst vs) ∧ IsDs H' vs (steps.map dStep) ∧ steps.length = t ∧ (∀ (j : Nat) (s : Step), steps[j]? = some s → WfStep kz j s) ∧ But d H4 H' ∧ DigAt H' d)
        ⟨[], [], upd_same, .nil, rfl, (fun j s e => by simp at e), (same_new hDn).but, hD4.new hDn⟩ ?_ ?_
      · rintro t H5 ht ⟨vs, steps, hv1, hv2, hl, hwf, b5, hD5⟩
        rw [Int.zero_add]
        refine ⟨rfl, ?_⟩
        unfold tYes
        refine iteT ⟨_, rfl, _, rfl, _, rfl, _, rfl, d, g, t, kz, gs, rfl, hD5, hgd, b5 g _ hgd hg4, hg0', hg9, hgs, ht, by omega, fun v H6 st b6 hD6 wf hv => ⟨vs, b6 D _ hDd hv1, ?_, ?_⟩⟩
        · rw [hv2.length, List.length_map]
          exact lt_line (by omega)
        · have tt := putLst_tups (ys := vs ++ [v]) (b6 D _ hDd hv1)
          refine ⟨vs ++ [v], steps ++ [st], upd_same, ?_, ?_, wf_more hl hwf wf, (b5.trans b6).putNew hDn, hD6.put (Ne.symm hDd)⟩
          · rw [List.map_append]
            exact IsDs.snoc (hv.mono tt) ((hv2.mono (hD5.tups b6)).mono tt)
          · rw [List.length_append, hl]
            rfl
      · rintro H5 ⟨vs, steps, hv1, hv2, hl, hwf, b5, hD5⟩
        have hL5 := b5 L _ hLd hL4
        have hfl2 : fs.length ≤ 4 := by
          rw [hfs.len]
          omega
        refine ⟨L, fs.map V.ref, .ref D, rfl, rfl, hL5, ?_, ?_⟩
        · rw [List.length_map]
          exact lt_line (by omega)
        · have tt := putLst_tups (ys := fs.map V.ref ++ [.ref D]) hL5
          have t35 : Tups H3 H5 := hD3.tups (b4.trans b5)
          refine ⟨_, _, fs ++ [D], flows ++ [steps], rfl, (b04.trans b5).putNew hL, hD5.put (Ne.symm hLd), ?_, ?_, ?_, ?_, ?_⟩
          · rw [upd_same, List.map_append]
            rfl
          · refine FlowsAt.snoc ⟨vs, ?_, hv2.mono tt⟩ (FlowsAt.grow hL5 (FlowsAt.away t35 (b4.trans b5) hfs fun f hf => (hne f hf).2) fun f hf => (hne f hf).1)
            rw [upd_ne hDL]
            exact hv1
          · rw [List.length_append, hfl]
            rfl
          · intro fl hfl'
            rcases List.mem_append.mp hfl' with q | q
            · exact hfw fl q
            · rw [List.mem_singleton.mp q]
              refine ⟨by omega, fun j s e => ?_⟩
              rw [hl]
              exact hwf j s e
          · intro f hf
            rcases List.mem_append.mp hf with q | q
            · exact hne f q
            · rw [List.mem_singleton.mp q]
              exact ⟨hDL, hDd⟩
    rintro σ' H5 ⟨u5, u6, fs, flows, rfl, b5, hD5, hL5, hfs, hfl, hfw, hne⟩
    refine ⟨_, rfl, (n : Int), rfl, by omega, by omega, fun S hS => ?_⟩
    have hSd := hnd hD5 hS
    refine lc_range (n := n) (fun t H' => ∃ ss : List Str, H' S = some (.lst (ss.map V.str)) ∧ ss.length = t ∧ (∀ x ∈ ss, x ∈ pts) ∧ But d H5 H' ∧ DigAt H' d)
      ⟨[], upd_same, rfl, (fun _ h => nomatch h), (same_new hS).but, hD5.new hS⟩ ?_ ?_
    · rintro t H6 ht ⟨ss, hs1, hl, hsp, b6, hD6⟩
      refine ⟨rfl, ?_⟩
      unfold tYes
      refine iteT (pick_pt rfl p_in q_in hD6 fun x H7 hx b7 hD7 => ⟨ss.map V.str, b7 S _ hSd hs1, ?_, ss ++ [x], ?_, ?_, ?_, (b6.trans b7).putNew hS, hD7.put (Ne.symm hSd)⟩)
      · rw [List.length_map]
        exact lt_line (by omega)
      · rw [upd_same, List.map_append]
        rfl
      · rw [List.length_append, hl]
        rfl
      · intro y hy
        rcases List.mem_append.mp hy with q | q
        · exact hsp y q
        · rw [List.mem_singleton.mp q]
          exact hx
    rintro H6 ⟨ss, hs1, hsl, hsp, b6, hD6⟩
    refine ⟨Nat.zero_le _, fun B hB => ?_⟩
    have hBd := hnd hD6 hB
    have hD7 := hD6.new (o := .lst []) hB
    refine ⟨_, rfl, d, 9, rfl, hD7, by decide, by decide, fun c H8 hc b8 hD8 => ⟨(c : Int), rfl, by omega, by omega, ?_⟩⟩
    refine for_range (n := c) (fun i σ' H' => ∃ (v5 v9 v10 v11 : Option V) (bvs : List V), σ' = [some (.ref d), some (.int (n : Nat)), some (.int (m : Nat)), some (.ref g), some (.ref L), v5, u6, some (.ref S), some (.ref B), v9, v10, v11, none] ∧ But d H6 H' ∧ DigAt H' d ∧
      H' B = some (.lst bvs) ∧ (∀ v ∈ bvs, IsBlk H' n v) ∧ bvs.length ≤ i)
      ⟨u5, none, none, none, [], rfl, (same_new hB).but.trans b8, hD8, b8 B _ hBd upd_same, (fun _ h => nomatch h), Nat.zero_le _⟩ ?_ ?_
    · rintro i σ' H9 hi ⟨v5, v9, v10, v11, bvs, rfl, b9, hD9, hB9, hbv, hbl⟩
      rw [Int.zero_add]
      refine ⟨_, rfl, _, rfl, d, n, rfl, hD9, by omega, by omega, fun a Ha ha ba hDa => ?_⟩
      refine ⟨_, rfl, _, rfl, d, n, rfl, hDa, by omega, by omega, fun o Ho ho bo hDo => ?_⟩
      refine ⟨_, rfl, d, rfl, hDo, fun x Hx pl bx hDx wpl hx => ?_⟩
      have bx9 := (ba.trans bo).trans bx
      have bx0 := b9.trans bx9
      have hBx := bx9 B _ hBd hB9
      have hbx : ∀ v ∈ bvs, IsBlk Hx n v := fun v hv => (hbv v hv).mono (hD9.tups bx9)
      refine ⟨_, rfl, _, rfl, rfl, _, rfl, ?_⟩
      refine ite2 (fun _ => ?_) (fun _ => ⟨_, _, _, _, bvs, rfl, bx0, hDx, hBx, hbx, by omega⟩)
      refine ⟨_, rfl, .inl ⟨rfl, _, SqL.of hBx⟩, _, rfl, _, rfl, _, rfl, _, rfl, d, rfl, hDx, fun y Hy pl' by' hDy wpl' hy => ⟨line4, fun r hr0 => ?_⟩⟩
      have sr := same_new (o := .tup [V.int (a : Nat), x, .int (o : Nat), y]) hr0
      have hBr := sr _ _ (by' B _ hBd hBx)
      refine ⟨B, bvs, _, rfl, rfl, hBr, lt_line (by omega), ?_⟩
      have tt := putLst_tups (ys := bvs ++ [.ref r]) hBr
      have txy := hDx.tups by'
      refine ⟨_, _, _, _, bvs ++ [.ref r], rfl, ((bx0.trans by').new hr0).putNew hB, (hDy.new hr0).put (Ne.symm hBd), upd_same, ?_, ?_⟩
      · intro v hv
        rcases List.mem_append.mp hv with q | q
        · exact (((hbx v q).mono txy).mono sr.tups).mono tt
        · rw [List.mem_singleton.mp q]
          exact ⟨a, pl, o, pl', ha, ho, wpl, wpl', (IsD.made hr0 (.cons (.int _) (.cons (hx.mono txy) (.cons (.int _) (.cons hy .nil))))).mono tt⟩
      · rw [List.length_append]
        simp only [List.length_cons, List.length_nil]
        omega
    rintro σ' H9 ⟨v5, v9, v10, v11, bvs, rfl, b9, hD9, hB9, hbv, hbl⟩
    refine ⟨_, rfl, _, rfl, _, rfl, line3, fun r hr0 => ?_⟩
    have b59 := b6.trans b9
    have sr := same_new (o := .tup [V.ref L, .ref S, .ref B]) hr0
    refine k _ r L S B fs flows ss bvs (((bb.trans b5).trans b59).new hr0) (hD9.new hr0) ⟨upd_same, sr _ _ (b59 L _ hLd hL5), (FlowsAt.away (hD5.tups b59) b59 hfs fun f hf => (hne f hf).2).up sr, sr _ _ (b9 S _ hSd hs1), sr _ _ hB9, ?_, by omega, ?_, fun f hf => (hne f hf).2, hLd, hSd, hBd⟩
    · intro v hv
      rw [hfl]
      exact (hbv v hv).mono sr.tups
    · exact ⟨by omega, by omega, fun fl h => (hfw fl h).1, fun fl h => (hfw fl h).2, by omega, hsp⟩
end
end Aw

/-! The law's closed pairs; that there is something to do. -/
namespace Aw
open PySem PySem.Spec PyProof.Rows L2

abbrev sClosed : Stmt := top 24
abbrev sSomething : Stmt := top 25
theorem pt_ok {x : Str} (h : x ∈ pts) : PyData.strOk x = true := by
  rcases List.mem_cons.mp h with e | e
  · rw [e]
    decide +kernel
  · rw [List.mem_singleton.mp e]
    decide +kernel
theorem held_shaped {x : Option Str} (h : x ∈ helds) : (dHeld x).py.canLay0 = true ∧ (dHeld x).py.depth = 0 := by
  rcases List.mem_cons.mp h with e | e
  · rw [e]
    simp [dHeld, Dat.py, PyData.canLay0, PyData.depth]
  · rw [List.mem_singleton.mp e]
    have q : PyData.strOk ("x" : Str) = true := by decide +kernel
    simp [dHeld, Dat.py, PyData.canLay0, PyData.depth, q]
theorem rest_ok : PyData.strOk ("rest" : Str) = true := by decide +kernel
theorem move_ok : PyData.strOk ("move" : Str) = true := by decide +kernel
theorem place_shaped {pl : Place} (h : WfPl pl) : SeqAt.shaped (dPlace pl).py = true := by
  cases pl with
  | rest p x =>
    obtain ⟨h1, h2⟩ := h
    obtain ⟨q1, q2⟩ := held_shaped h2
    simp [dPlace, Dat.py, Dat.pys, SeqAt.shaped, PyData.canLay0, PyData.canLayAll0, PyData.depth, PyData.depthAll, pt_ok h1, q1, q2, rest_ok]
  | move p q x =>
    obtain ⟨h1, h2, h3⟩ := h
    obtain ⟨q1, q2⟩ := held_shaped h3
    simp [dPlace, Dat.py, Dat.pys, SeqAt.shaped, PyData.canLay0, PyData.canLayAll0, PyData.depth, PyData.depthAll, pt_ok h1, pt_ok h2, q1, q2, move_ok]
def spClosed : Sp := fun vs H Q _ => ∃ (b s : Addr) (n : Nat) (bvs : List V) (starts : List Str), vs = [.ref b, .ref s] ∧ H b = some (.lst bvs) ∧ (∀ v ∈ bvs, IsBlk H n v) ∧ bvs.length ≤ 8 ∧ H s = some (.lst (starts.map V.str)) ∧ starts.length = n ∧ (∀ x ∈ starts, x ∈ pts) ∧
  ∀ H' r kvs, Same H H' → H' r = some (.lst kvs) → (∀ v ∈ kvs, IsBlk H' n v) → kvs.length ≤ 200 → Q (.ref r) H'
/-- a list of blocked pairs being made -/
structure Coll (H1 H : Hp) (M : Addr) (ms : List V) (n : Nat) : Prop where
  s : Same H1 H
  hM : H M = some (.lst ms)
  bl : ∀ v ∈ ms, IsBlk H n v
theorem Coll.first {H1 : Hp} {M : Addr} {n : Nat} (h : H1 M = none) : Coll H1 (upd H1 M (.lst [])) M [] n := ⟨same_new h, upd_same, fun _ h => nomatch h⟩
theorem Coll.up {H1 H H' : Hp} {M : Addr} {ms : List V} {n : Nat} (c : Coll H1 H M ms n) (s : Same H H') : Coll H1 H' M ms n := ⟨c.s.trans s, s _ _ c.hM, fun v hv => (c.bl v hv).mono s.tups⟩
theorem Coll.add {H1 H : Hp} {M r : Addr} {ms : List V} {n : Nat} (c : Coll H1 H M ms n) (h0 : H1 M = none) (hb : IsBlk H n (.ref r)) : Coll H1 (upd H M (.lst (ms ++ [.ref r]))) M (ms ++ [.ref r]) n := by
  have t := putLst_tups (ys := ms ++ [.ref r]) c.hM
  refine ⟨c.s.put h0, upd_same, fun v hv => ?_⟩
  rcases List.mem_append.mp hv with q | q
  · exact (c.bl v q).mono t
  · rw [List.mem_singleton.mp q]
    exact hb.mono t
theorem isBlk_made {H : Hp} {r : Addr} {n a o : Nat} {x1 x2 x3 x4 : V} {pl pl' : Place} (hr : H r = none) (ha : a < n) (ho : o < n) (w1 : WfPl pl) (w2 : WfPl pl') (h1 : IsD H x1 (.int (a : Nat))) (h2 : IsD H x2 (dPlace pl)) (h3 : IsD H x3 (.int (o : Nat))) (h4 : IsD H x4 (dPlace pl')) :
    IsBlk (upd H r (.tup [x1, x2, x3, x4])) n (.ref r) := ⟨a, pl, o, pl', ha, ho, w1, w2, IsD.made hr (.cons h1 (.cons h2 (.cons h3 (.cons h4 .nil))))⟩
theorem or_any {t u : TT} {σ : L2.St} {H : Hp} {Q : Bool → Hp → Prop} (G : Hp → Prop) (hQ : ∀ b H', G H' → Q b H') (ht : ∀ Q' : Bool → Hp → Prop, (∀ b H', G H' → Q' b H') → t σ H Q') (hu : ∀ (H1 : Hp) (Q' : Bool → Hp → Prop), G H1 → (∀ b H', G H' → Q' b H') → u σ H1 Q') : tOr t u σ H Q :=
  ht _ fun b H' g => by
    cases b with
    | true => exact iteT (hQ _ _ g)
    | false => exact iteF (hu _ _ g hQ)
section
variable {P : Program} {w : World} {K : PySem.W.Frag} {mg : Str → Option Value} {base : Heap}
theorem scClosed : FnScope ["_law_blocked", "_law_starts", "_law_pairs", "_law_turn", "_law_more", "_law_arm", "_law_place_here", "_law_other", "_law_other_place", "_law_point", "_law_kept"] ["_law_blocked", "_law_starts"] (defScope sClosed) := ⟨rfl, rfl, rfl, by decide +kernel, rfl, by decide +kernel, by decide +kernel⟩
theorem ok_closed {f : Addr} {fd : FuncData} (F : Fun K "_law_closed" "_law_closed" sClosed f fd) (T : LTxt mg) : FnOk P w K mg base CX0 2 f fd ["_law_blocked", "_law_starts"] spClosed := by
  refine F.ok scClosed (fun vs H Q E h => ?_) (fun cdv A outer s H vs Q E hr h => ?_)
  · obtain ⟨b, s, n, bvs, starts, rfl, _⟩ := h
    rfl
  · obtain ⟨b, s, n, bvs, starts, rfl, hb, hbv, hbl, hs, hsn, hsp, k⟩ := h
    refine ⟨_, pss_cons (ps_set (i := 2) scClosed.nd rfl (Or.inl rfl) (pe_callTy (T := "list") (r := rListOf K) call_list_of (by rfl) T.list (by decide +kernel) (pa_cons (pv 0) pa_nil)))
      (pss_cons (ps_for PassesOwn.never rfl (pi_range1 (by rfl) T.range (pa_cons pe_int pa_nil)) (pg_name (i := 3) scClosed.nd rfl (Or.inl rfl))
        (pss_cons (ps_set (i := 4) scClosed.nd rfl (Or.inl rfl) (pe_lst pa_nil))
        (pss_cons (ps_for PassesOwn.never rfl (pi_list (pv 2)) (pg_tup rfl (pgs_cons (pg_name (i := 5) scClosed.nd rfl (Or.inl rfl)) (pgs_cons (pg_name (i := 6) scClosed.nd rfl (Or.inl rfl)) (pgs_cons (pg_name (i := 7) scClosed.nd rfl (Or.inl rfl)) (pgs_cons (pg_name (i := 8) scClosed.nd rfl (Or.inl rfl)) pgs_nil)))))
          (pss_cons (ps_expr (pe_bm PySem.F.plainAttrs_list PySem.F.slot_list_append PySem.F.type_list_append mt_append (pv 4) (pa_cons (pe_tup (pa_cons (pv 7) (pa_cons (pv 8) (pa_cons (pv 5) (pa_cons (pv 6) pa_nil))))) pa_nil)))
          (pss_one (ps_if (pt_cmpR op_eq (pe_ix ix_tup (pv 6) pe_int (fun _ _ => rfl)) pe_str (nomark _))
            (pss_one (ps_for PassesOwn.never rfl (pi_list (pe_lst (pa_cons pe_str (pa_cons pe_str pa_nil)))) (pg_name (i := 9) scClosed.nd rfl (Or.inl rfl))
              (pss_one (ps_expr (pe_bm PySem.F.plainAttrs_list PySem.F.slot_list_append PySem.F.type_list_append mt_append (pv 4) (pa_cons (pe_tup (pa_cons (pv 7) (pa_cons (pv 8) (pa_cons (pv 5) (pa_cons (pe_tup (pa_cons pe_str (pa_cons (pv 9) (pa_cons (pe_ix ix_tup (pv 6) pe_int (fun _ _ => rfl)) (pa_cons (pe_ix ix_tup (pv 6) pe_int (fun _ _ => rfl)) pa_nil))))) pa_nil))))) pa_nil))))))
            pss_nil))))
        (pss_one (ps_set (i := 2) scClosed.nd rfl (Or.inl rfl) (pe_op op_cat (pv 2) (pv 4)))))))
      (pss_cons (ps_set (i := 10) scClosed.nd rfl (Or.inl rfl) (pe_lst pa_nil))
      (pss_cons (ps_for PassesOwn.never rfl (pi_list (pv 2)) (pg_tup rfl (pgs_cons (pg_name (i := 5) scClosed.nd rfl (Or.inl rfl)) (pgs_cons (pg_name (i := 6) scClosed.nd rfl (Or.inl rfl)) (pgs_cons (pg_name (i := 7) scClosed.nd rfl (Or.inl rfl)) (pgs_cons (pg_name (i := 8) scClosed.nd rfl (Or.inl rfl)) pgs_nil)))))
          (pss_one (ps_if (PW.pt (pw_or (pt_cmpR (op_neD hr.units) (pv 6) (pe_tup (pa_cons pe_str (pa_cons (pe_ix ix_list (pv 1) (pv 5) (fun _ _ => rfl)) (pa_cons pe_non pa_nil)))) (nomark _))
              (pw_or1 (pt_cmpR (op_neD hr.units) (pv 8) (pe_tup (pa_cons pe_str (pa_cons (pe_ix ix_list (pv 1) (pv 7) (fun _ _ => rfl)) (pa_cons pe_non pa_nil)))) (nomark _)))))
            (pss_one (ps_expr (pe_bm PySem.F.plainAttrs_list PySem.F.slot_list_append PySem.F.type_list_append mt_append (pv 10) (pa_cons (pe_tup (pa_cons (pv 5) (pa_cons (pv 6) (pa_cons (pv 7) (pa_cons (pv 8) pa_nil))))) pa_nil)))) pss_nil)))
      (pss_one (ps_ret (pv 10)))))), ?_⟩
    refine ⟨_, rfl, b, bvs, rfl, .inl (SqL.of hb), fun l hl => ?_⟩
    refine ⟨_, rfl, by decide, by decide, ?_⟩
    refine for_range (n := 2) (fun i σ' H' => ∃ (pr : Addr) (ps : List V) (u3 u4 u5 u6 u7 u8 u9 : Option V), σ' = [some (.ref b), some (.ref s), some (.ref pr), u3, u4, u5, u6, u7, u8, u9, none] ∧ Same H H' ∧ H' pr = some (.lst ps) ∧ (∀ v ∈ ps, IsBlk H' n v) ∧ ps.length ≤ 8 * 4 ^ i)
      ⟨l, bvs, none, none, none, none, none, none, none, rfl, same_new hl, upd_same, (fun v hv => (hbv v hv).mono (same_new hl).tups), by omega⟩ ?_ ?_
    · rintro i σ' H1 hi ⟨pr, ps, u3, u4, u5, u6, u7, u8, u9, rfl, s1, hpr, hps, hpl⟩
      have hp4 : 4 ^ i ≤ 4 := by
        rcases (show i = 0 ∨ i = 1 by omega) with e | e
        · rw [e]
          decide
        · rw [e]
          decide
      refine ⟨Nat.zero_le _, fun M hM => ?_⟩
      refine ⟨_, rfl, pr, rfl, ⟨_, SqL.of ((same_new hM) _ _ hpr)⟩, ?_⟩
      refine for_list (K := K) (a := pr) (xs := ps) (fun j σ' H' => ∃ (ms : List V) (u5 u6 u7 u8 u9 u3 : Option V), σ' = [some (.ref b), some (.ref s), some (.ref pr), u3, some (.ref M), u5, u6, u7, u8, u9, none] ∧ Coll H1 H' M ms n ∧ ms.length ≤ 3 * j)
        ⟨[], u5, u6, u7, u8, u9, _, rfl, Coll.first hM, Nat.zero_le _⟩ (fun j σ' H' _ ⟨_, _, _, _, _, _, _, _, c, _⟩ => SqL.of (c.s _ _ hpr)) ?_ ?_
      · rintro j y σ' H2 hy ⟨ms, u5, u6, u7, u8, u9, u3, rfl, c2, hml⟩
        have hj : j < ps.length := (List.getElem?_eq_some_iff.mp hy).1
        obtain ⟨a, pl, o, pl', ha, ho, w1, w2, hv⟩ := (hps y (mem_of_get hy)).mono c2.s.tups
        obtain ⟨z, x1, x2, x3, x4, ez, hz, h1, h2, h3, h4⟩ := hv.tup4
        refine ⟨z, _, ez, SqT.of hz, rfl, _, _, rfl, _, _, rfl, _, _, rfl, _, _, rfl, rfl, ?_⟩
        refine ⟨_, rfl, .inl ⟨rfl, _, SqL.of c2.hM⟩, _, rfl, _, rfl, _, rfl, _, rfl, line4, fun r hr0 => ?_⟩
        have t1 := same_new (o := .tup [x3, x4, x1, x2]) hr0
        have c3 := c2.up t1
        refine ⟨M, ms, _, rfl, rfl, c3.hM, lt_line (by omega), ?_⟩
        have tt := t1.tups.trans (putLst_tups (ys := ms ++ [.ref r]) c3.hM)
        have c4 := c3.add hM (isBlk_made hr0 ho ha w2 w1 h3 h4 h1 h2)
        have h1 := h1.mono tt
        have h2 := h2.mono tt
        have h3 := h3.mono tt
        have h4 := h4.mono tt
        have hml4 : (ms ++ [V.ref r]).length ≤ 3 * j + 1 := by
          rw [List.length_append]
          simp only [List.length_cons, List.length_nil]
          omega
        generalize upd (upd H2 r (.tup [x3, x4, x1, x2])) M (.lst (ms ++ [.ref r])) = H4 at *
        generalize ms ++ [V.ref r] = ms4 at *
        cases pl with
        | move p q x =>
          obtain ⟨z2, y1, y2, y3, y4, ez2, hz2, g1, g2, g3, g4⟩ := h2.tup4
          rw [g1.str_eq] at hz2
          refine ⟨_, rfl, z2, _, _, _, ez2, rfl, SqT.of hz2, atI_nat (j := 0) rfl, rfl, _, rfl, ?_⟩
          refine ite2 (fun hc => ?_) (fun _ => ⟨ms4, _, _, _, _, _, _, rfl, c4, by omega⟩)
          exact absurd (V.str.inj (of_decide_eq_true hc)) (by decide +kernel)
        | rest p x =>
          obtain ⟨z2, y1, y2, y3, ez2, hz2, g1, g2, g3⟩ := h2.tup3
          rw [g1.str_eq] at hz2
          refine ⟨_, rfl, z2, _, _, _, ez2, rfl, SqT.of hz2, atI_nat (j := 0) rfl, rfl, _, rfl, ?_⟩
          refine ite2 (fun hc => ?_) (fun _ => ⟨ms4, _, _, _, _, _, _, rfl, c4, by omega⟩)
          refine ⟨line2, fun q0 hq0 => ⟨q0, rfl, ⟨_, SqL.of upd_same⟩, ?_⟩⟩
          have t5 := same_new (o := .lst [V.str "p", .str "q"]) hq0
          have c5 := c4.up t5
          have hz5 := t5 _ _ hz2
          have hq5 : upd H4 q0 (.lst [V.str "p", .str "q"]) q0 = some (.lst [.str "p", .str "q"]) := upd_same
          have nqM : q0 ≠ M := Ne.symm (ne_of_none c4.hM hq0)
          have h1 := h1.up t5
          have h3 := h3.up t5
          have h4 := h4.up t5
          have g2 := g2.up t5
          have g3 := g3.up t5
          generalize upd H4 q0 (.lst [V.str "p", .str "q"]) = H5 at *
          refine for_list (K := K) (a := q0) (xs := [.str "p", .str "q"]) (fun t σ' H' => ∃ (ms' : List V) (u9 : Option V), σ' = [some (.ref b), some (.ref s), some (.ref pr), u3, some (.ref M), some x1, some x2, some x3, some x4, u9, none] ∧ Coll H1 H' M ms' n ∧ ms'.length ≤ 3 * j + 1 + t ∧ But M H5 H')
            ⟨ms4, u9, rfl, c5, hml4, But.refl _ _⟩ (fun t σ' H' _ ⟨_, _, _, _, _, bb⟩ => SqL.of (bb q0 _ nqM hq5)) ?_ ?_
          · rintro t y σ' H6 hyt ⟨ms', u9', rfl, c6, hml6, b6⟩
            have ht : t < 2 := (List.getElem?_eq_some_iff.mp hyt).1
            have t6 : Tups H5 H6 := fun c' vs e => b6 c' _ (ne_of e c5.hM (fun z => nomatch z)) e
            obtain ⟨pt, hpt, rfl⟩ : ∃ pt : Str, pt ∈ pts ∧ y = .str pt := by
              rcases two_of hyt with e | e
              · exact ⟨"p", p_in, e⟩
              · exact ⟨"q", q_in, e⟩
            have hz6 := t6 _ _ hz5
            refine ⟨_, rfl, .inl ⟨rfl, _, SqL.of c6.hM⟩, _, rfl, _, rfl, _, rfl, ?_⟩
            refine ⟨_, rfl, _, rfl, z2, _, _, _, ez2, rfl, SqT.of hz6, atI_nat (j := 1) rfl, _, rfl, z2, _, _, _, ez2, rfl, SqT.of hz6, atI_nat (j := 2) rfl, line4, fun r1 hr1 => ⟨line4, fun r2 hr2 => ?_⟩⟩
            have s7 := same_new (o := .tup [V.str "move", .str pt, y2, y3]) hr1
            have hpl : IsD (upd H6 r1 (.tup [V.str "move", .str pt, y2, y3])) (.ref r1) (dPlace (.move pt p x)) := IsD.made hr1 (.cons (.str _) (.cons (.str _) (.cons (g2.mono t6) (.cons (g3.mono t6) .nil))))
            have s8 := same_new (o := .tup [x3, x4, x1, .ref r1]) hr2
            have wm : WfPl (.move pt p x) := ⟨hpt, w1.1, w1.2⟩
            have hib := isBlk_made hr2 ho ha w2 wm ((h3.mono t6).up s7) ((h4.mono t6).up s7) ((h1.mono t6).up s7) hpl
            have c8 := (c6.up s7).up s8
            refine ⟨M, ms', _, rfl, rfl, c8.hM, lt_line (by omega), ?_⟩
            refine ⟨ms' ++ [.ref r2], _, rfl, c8.add hM hib, ?_, ((b6.trans s7.but).trans s8.but).trans But.put⟩
            rw [List.length_append]
            simp only [List.length_cons, List.length_nil]
            omega
          · rintro σ' H6 ⟨ms', u9', rfl, c6, hml6, b6⟩
            have hml6 : ms'.length ≤ 3 * j + 1 + 2 := hml6
            exact ⟨ms', _, _, _, _, _, _, rfl, c6, by omega⟩
      · rintro σ' H2 ⟨ms, u5, u6, u7, u8, u9, u3, rfl, c2, hml⟩
        refine ⟨_, rfl, _, rfl, pr, M, ps, ms, rfl, rfl, c2.s _ _ hpr, c2.hM, len_line (by omega), fun p hp => ?_⟩
        have sp := same_new (o := .lst (ps ++ ms)) hp
        refine ⟨p, ps ++ ms, _, _, _, _, _, _, _, rfl, (s1.trans c2.s).trans sp, upd_same, ?_, ?_⟩
        · intro v hv
          rcases List.mem_append.mp hv with q | q
          · exact ((hps v q).mono c2.s.tups).mono sp.tups
          · exact (c2.bl v q).mono sp.tups
        · rw [List.length_append, Nat.pow_succ]
          omega
    rintro σ' H1 ⟨pr, ps, u3, u4, u5, u6, u7, u8, u9, rfl, s1, hpr, hps, hpl⟩
    have hpl : ps.length ≤ 128 := hpl
    refine ⟨Nat.zero_le _, fun M hM => ?_⟩
    refine ⟨_, rfl, pr, rfl, ⟨_, SqL.of ((same_new hM) _ _ hpr)⟩, ?_⟩
    refine for_list (K := K) (a := pr) (xs := ps) (fun j σ' H' => ∃ (ms : List V) (u5 u6 u7 u8 : Option V), σ' = [some (.ref b), some (.ref s), some (.ref pr), u3, u4, u5, u6, u7, u8, u9, some (.ref M)] ∧ Coll H1 H' M ms n ∧ ms.length ≤ j)
      ⟨[], u5, u6, u7, u8, rfl, Coll.first hM, Nat.zero_le _⟩ (fun j σ' H' _ ⟨_, _, _, _, _, _, c, _⟩ => SqL.of (c.s _ _ hpr)) ?_ ?_
    · rintro j y σ' H2 hy ⟨ms, u5, u6, u7, u8, rfl, c2, hml⟩
      have hj : j < ps.length := (List.getElem?_eq_some_iff.mp hy).1
      obtain ⟨a, pl, o, pl', ha, ho, w1, w2, hv⟩ := (hps y (mem_of_get hy)).mono c2.s.tups
      obtain ⟨z, x1, x2, x3, x4, ez, hz, h1, h2, h3, h4⟩ := hv.tup4
      rw [h1.int_eq, h3.int_eq] at hz
      obtain ⟨sa, hsa⟩ := get_some (l := starts) (i := a) (by omega)
      obtain ⟨so, hso⟩ := get_some (l := starts) (i := o) (by omega)
      have hs2 := c2.s _ _ (s1 _ _ hs)
      refine ⟨z, _, ez, SqT.of hz, rfl, _, _, rfl, _, _, rfl, _, _, rfl, _, _, rfl, rfl, ?_⟩
      refine or_any (fun H' => Same H2 H') (fun c H3 s3 => ?_) (fun Q' hq => ?_) (fun H3 Q' s3 hq => ?_)
      · refine ite2 (fun _ => ?_) (fun _ => ⟨ms, _, _, _, _, rfl, c2.up s3, by omega⟩)
        have c3 := c2.up s3
        refine ⟨_, rfl, .inl ⟨rfl, _, SqL.of c3.hM⟩, _, rfl, _, rfl, _, rfl, _, rfl, line4, fun r hr0 => ?_⟩
        have c4 := c3.up (same_new (o := .tup [V.int (a : Nat), x2, .int (o : Nat), x4]) hr0)
        refine ⟨M, ms, _, rfl, rfl, c4.hM, lt_line (by omega), ?_⟩
        refine ⟨ms ++ [.ref r], _, _, _, _, rfl, c4.add hM (isBlk_made hr0 ha ho w1 w2 (.int _) (h2.up s3) (.int _) (h4.up s3)), ?_⟩
        rw [List.length_append]
        simp only [List.length_cons, List.length_nil]
        omega
      · refine ⟨_, rfl, _, rfl, _, rfl, s, _, _, _, rfl, rfl, SqL.of hs2, atI_nat (get_map hsa), line3, fun r hr0 => ?_⟩
        have t := same_new (o := .tup [V.str "rest", .str sa, .non]) hr0
        have w0 : WfPl (.rest sa none) := ⟨hsp sa (mem_of_get hsa), by simp [helds]⟩
        have hd : IsD (upd H2 r (.tup [V.str "rest", .str sa, .non])) (.ref r) (dPlace (.rest sa none)) := IsD.made hr0 (.cons (.str _) (.cons (.str _) (.cons .non .nil)))
        exact ⟨_, _, (h2.up t).dp, hd.dp, place_shaped w1, place_shaped w0, _, rfl, hq _ _ t⟩
      · refine ⟨_, rfl, _, rfl, _, rfl, s, _, _, _, rfl, rfl, SqL.of (s3 _ _ hs2), atI_nat (get_map hso), line3, fun r hr0 => ?_⟩
        have t := same_new (o := .tup [V.str "rest", .str so, .non]) hr0
        have w0 : WfPl (.rest so none) := ⟨hsp so (mem_of_get hso), by simp [helds]⟩
        have hd : IsD (upd H3 r (.tup [V.str "rest", .str so, .non])) (.ref r) (dPlace (.rest so none)) := IsD.made hr0 (.cons (.str _) (.cons (.str _) (.cons .non .nil)))
        exact ⟨_, _, ((h4.up s3).up t).dp, hd.dp, place_shaped w2, place_shaped w0, _, rfl, hq _ _ (s3.trans t)⟩
    · rintro σ' H2 ⟨ms, u5, u6, u7, u8, rfl, c2, hml⟩
      exact ⟨_, rfl, k H2 M ms (s1.trans c2.s) c2.hM c2.bl (by omega)⟩
end
end Aw

/-! That there is something to do; the runner made; an event. -/
namespace Aw
open PySem PySem.Spec PyProof.Rows L2

abbrev sNew : Stmt := top 23
abbrev sEvent : Stmt := top 22
/-- a property of a class, its promise -/
structure Prp (P : Program) (w : World) (K : PySem.W.Frag) (mg : Str → Option Value) (base : Heap) (CX : CXT) (C : Addr) (k : Nat) (m : Str) (sp : Sp) : Prop where
  ex : ∃ p f fd, PropOf K C m p f ∧ FnOk P w K mg base CX k f fd ["self"] sp ∧ Binds K fd ["self"] []
def spSomething (w : World) (CR CP : Addr) : Sp := fun vs H Q _ => ∃ H0 r P R dx p m h sv ev, vs = [.ref r, .int (P.flows.length : Nat)] ∧ RunIn w CR CP H0 H r P R dx p m h sv ev ∧ RunOk P R ∧ WfP P ∧ Safe P (first P) ∧ ∀ H', Same H H' → Q (.bl true) H'
/-- the three words of something to do -/
def dWords : List PyData := [.tuple [.str "begin", .none], .tuple [.str "go on", .none], .tuple [.str "read", .none]]
theorem words_shaped : SeqAt.shaped (.list dWords) = true := by
  have q1 : PyData.strOk ("begin" : Str) = true := by decide +kernel
  have q2 : PyData.strOk ("go on" : Str) = true := by decide +kernel
  have q3 : PyData.strOk ("read" : Str) = true := by decide +kernel
  simp [dWords, SeqAt.shaped, PyData.canLay0, PyData.canLayAll0, PyData.depth, PyData.depthAll, q1, q2, q3]
theorem word_shaped (x : Word) : SeqAt.shaped (dWord x).py = true := by
  have q : PyData.strOk (wordStr x) = true := by cases x <;> (simp only [wordStr]; decide +kernel)
  have q2 : (wordOther x).py.canLay0 = true ∧ (wordOther x).py.depth = 0 := by cases x <;> simp [wordOther, Dat.py, PyData.canLay0, PyData.depth]
  simp [dWord, Dat.py, Dat.pys, SeqAt.shaped, PyData.canLay0, PyData.canLayAll0, PyData.depth, PyData.depthAll, q, q2.1, q2.2]
theorem word_any {x : Word} (h : x.free) : (dWords.any fun z => PyData.eqv z (dWord x).py) = true := by
  cases x with
  | begin => simp [dWords, dWord, wordStr, wordOther, Dat.py, Dat.pys, PyData.eqv, PyData.eqvAll]
  | read => simp [dWords, dWord, wordStr, wordOther, Dat.py, Dat.pys, PyData.eqv, PyData.eqvAll]
  | goon => simp [dWords, dWord, wordStr, wordOther, Dat.py, Dat.pys, PyData.eqv, PyData.eqvAll]
  | _ => exact h.elim
theorem room65 {k : Nat} {A : Around} (r : Room k A) : A.units + 65 < cLine := by
  have := r.un
  omega
theorem RunOk.setH {P : Pln} {R : Rn} (ok : RunOk P R) {hal : List Bool} (h : hal.length = P.flows.length) : RunOk P { R with hal := hal } := ⟨ok.wf, ok.ml, h, ok.mv, ok.safe⟩
section
variable {P : Program} {w : World} {K : PySem.W.Frag} {mg : Str → Option Value} {base : Heap} {CR CP CS CN CE CA CU : Addr}
theorem scSomething : FnScope ["_law_runner", "_law_arms", "_law_fork", "_law_arm"] ["_law_runner", "_law_arms"] (defScope sSomething) := ⟨rfl, rfl, rfl, by decide +kernel, rfl, by decide +kernel, by decide +kernel⟩
theorem ok_something {f : Addr} {fd : FuncData} (F : Fun K "_law_something" "_law_something" sSomething f fd) (T : LTxt mg) (TR : RTxt K mg CR) (p1 : Prp P w K mg base CX0 CR 3 "is_over" (spIsOver w CR CP)) (m1 : Mth P w K mg base CX0 CR 9 "fork" ["self"] (spFork w CR CP))
    (m2 : Mth P w K mg base CX0 CR 2 "is_under_way" ["self", "arm"] (spUnderWay w CR CP)) (m3 : Mth P w K mg base CX0 CR 2 "is_halted" ["self", "arm"] (spIsHalted w CR CP)) (m4 : Mth P w K mg base (L2.CX P w) CR 4 "free" ["self", "arm"] (spHal w CR CP CN false))
    (m5 : Mth P w K mg base CX0 CR 8 "may" ["self", "arm"] (spMay w CR CP)) : FnOk P w K mg base CX0 10 f fd ["_law_runner", "_law_arms"] (spSomething w CR CP) := by
  obtain ⟨pa, f0, fd0, pp, G0, b0⟩ := p1.ex
  obtain ⟨f1, fd1, mm1, G1, b1⟩ := m1.ex
  obtain ⟨f2, fd2, mm2, G2, b2⟩ := m2.ex
  obtain ⟨f3, fd3, mm3, G3, b3⟩ := m3.ex
  obtain ⟨f4, fd4, mm4, G4, b4⟩ := m4.ex
  obtain ⟨f5, fd5, mm5, G5, b5⟩ := m5.ex
  refine F.ok scSomething (fun vs H Q E h => ?_) (fun cdv A outer s H vs Q E hr h => ?_)
  · obtain ⟨H0, r, P, R, dx, p, m, h, sv, ev, rfl, _⟩ := h
    rfl
  · obtain ⟨H0, r, P, R, dx, p, m, h, sv, ev, rfl, A0, ok, W, hs, k⟩ := h
    refine ⟨_, pss_cons (ps_if (pt_val (pe_prop (pv 0) TR.cl pp G0 (hr.mono (by decide)) b0 .nil pass0 (by rfl))) (pss_one (ps_ret pe_bl)) pss_nil)
      (pss_cons (ps_set (i := 2) scSomething.nd rfl (Or.inl rfl) (pe_meth0 (pv 0) TR.cl mm1 G1 hr b1 .nil pass0))
      (pss_cons (ps_for PassesOwn.never rfl (pi_range1 (by rfl) T.range (pa_cons (pv 1) pa_nil)) (pg_name (i := 3) scSomething.nd rfl (Or.inl rfl))
        (pss_cons (ps_if (pt_val (pe_meth (pv 0) TR.cl mm2 G2 (hr.mono (by decide)) b2 .nil pass0 (pa_cons (pv 3) pa_nil))) (pss_one (ps_ret pe_bl)) pss_nil)
        (pss_one (ps_if (pt_val (pe_meth (pv 2) TR.cl mm3 G3 (hr.mono (by decide)) b3 .nil pass0 (pa_cons (pv 3) pa_nil)))
          (pss_one (ps_expr (pe_meth (E := E0) (pv 2) TR.cl mm4 G4 (hr.mono (by decide)) b4 .nil passL (pa_cons (pv 3) pa_nil)))) pss_nil))))
      (pss_cons (ps_for PassesOwn.never rfl (pi_range1 (by rfl) T.range (pa_cons (pv 1) pa_nil)) (pg_name (i := 3) scSomething.nd rfl (Or.inl rfl))
        (pss_one (ps_if (pt_cmpR (op_inD (room65 hr)) (pe_meth (pv 2) TR.cl mm5 G5 (hr.mono (by decide)) b5 .nil pass0 (pa_cons (pv 3) pa_nil)) (pe_lst (pa_cons (pe_tup (pa_cons pe_str (pa_cons pe_non pa_nil))) (pa_cons (pe_tup (pa_cons pe_str (pa_cons pe_non pa_nil))) (pa_cons (pe_tup (pa_cons pe_str (pa_cons pe_non pa_nil))) pa_nil)))) rfl)
          (pss_one (ps_ret pe_bl)) pss_nil)))
      (pss_one (ps_ret pe_bl))))), ?_⟩
    refine ⟨_, rfl, r, dx, _, rfl, A0.hr, H0, r, P, R, dx, p, m, h, sv, ev, rfl, A0, ok, fun b hb => ⟨b, rfl, ?_⟩⟩
    cases b with
    | true => exact iteT (k H (Same.refl H))
    | false =>
      refine iteF ?_
      have hne : ¬ allEnded P R.st := fun z => Bool.false_ne_true (hb.mpr z)
      refine ⟨_, rfl, r, dx, _, rfl, A0.hr, r_none, H0, r, P, R, dx, p, m, h, sv, ev, rfl, A0, W, hs, fun H1 r2 dx2 m2 h2 sv2 ev2 s1 B0 => ?_⟩
      have n4 := W.n4
      refine ⟨_, rfl, (P.flows.length : Int), rfl, by omega, by omega, ?_⟩
      refine for_range (n := P.flows.length) (fun i σ' H' => ∃ (u : Option V) (hal : List Bool), σ' = [some (.ref r), some (.int (P.flows.length : Nat)), some (.ref r2), u] ∧ Same H H' ∧ RunIn w CR CP H H' r2 P { R with hal := hal } dx2 p m2 h2 sv2 ev2 ∧ hal.length = P.flows.length ∧
        (∀ a, a < i → hal[a]? = some false) ∧ ∀ a, a < i → R.mov[a]? = some false) ⟨none, R.hal, rfl, s1, B0, ok.hl, (fun a h => by omega), (fun a h => by omega)⟩ ?_ ?_
      · rintro i σ' H2 hi ⟨u, hal, rfl, s2, B2, hl, hh, hm⟩
        rw [Int.zero_add]
        refine ⟨_, rfl, r, dx, _, rfl, A0.up s2 |>.hr, r_none, _, rfl, H0, r, P, R, dx, p, m, h, sv, ev, i, rfl, ⟨A0.up s2, W, ok, hi⟩, fun b hb2 => ⟨b, rfl, ?_⟩⟩
        cases b with
        | true => exact iteT (k H2 s2)
        | false =>
          refine iteF ?_
          have hm2 : ∀ a, a < i + 1 → R.mov[a]? = some false := fun a ha => by
            by_cases e : a = i
            · rw [e]
              exact hb2
            · exact hm a (by omega)
          refine ⟨_, rfl, r2, dx2, _, rfl, B2.hr, r_none, _, rfl, H, r2, P, _, dx2, p, m2, h2, sv2, ev2, i, rfl, ⟨B2, W, ok.setH hl, hi⟩, fun b hb3 => ⟨b, rfl, ?_⟩⟩
          cases b with
          | false =>
            refine iteF ⟨_, hal, rfl, s2, B2, hl, fun a ha => ?_, hm2⟩
            by_cases e : a = i
            · rw [e]
              exact hb3
            · exact hh a (by omega)
          | true =>
            refine iteT ⟨_, rfl, r2, dx2, _, rfl, B2.hr, r_none, _, rfl, H, r2, P, _, dx2, p, m2, h2, sv2, ev2, i, rfl, ⟨B2, W, ok.setH hl, hi⟩, fun _ H3 b3' B3 => ?_, fun z => ?_⟩
            · refine ⟨_, hal.set i false, rfl, B3.s0, B3, by rw [List.length_set]; exact hl, fun a ha => ?_, hm2⟩
              by_cases e : a = i
              · rw [e, List.getElem?_set_self (by omega)]
              · rw [List.getElem?_set_ne (Ne.symm e)]
                exact hh a (by omega)
            · rw [hb3] at z
              cases z
      rintro σ' H2 ⟨u, hal, rfl, s2, B2, hl, hh, hm⟩
      have ok2 := ok.setH (hal := hal) hl
      obtain ⟨a0, ha0, hf0⟩ := something ok2 (fun a => by
          by_cases ha : a < P.flows.length
          · show R.mov[a]? ≠ some true
            rw [hm a ha]
            simp
          · show R.mov[a]? ≠ some true
            rw [List.getElem?_eq_none (by rw [ok.ml]; omega)]
            simp) (fun a => by
          by_cases ha : a < P.flows.length
          · show hal[a]? ≠ some true
            rw [hh a ha]
            simp
          · show hal[a]? ≠ some true
            rw [List.getElem?_eq_none (by omega)]
            simp) hne
      refine ⟨_, rfl, (P.flows.length : Int), rfl, by omega, by omega, ?_⟩
      refine for_range (n := P.flows.length) (fun i σ' H' => ∃ (u : Option V), σ' = [some (.ref r), some (.int (P.flows.length : Nat)), some (.ref r2), u] ∧ Same H2 H' ∧ i ≤ a0) ⟨u, rfl, Same.refl _, Nat.zero_le _⟩ ?_ ?_
      · rintro i σ' H3 hi ⟨u, rfl, s3, hia⟩
        rw [Int.zero_add]
        refine ⟨_, rfl, r2, dx2, _, rfl, B2.up s3 |>.hr, r_none, _, rfl, H, r2, P, _, dx2, p, m2, h2, sv2, ev2, i, rfl, ⟨B2.up s3, W, ok2, hi⟩, fun v H4 s4 hv => ?_⟩
        refine ⟨line2, fun t1 ht1 => ⟨line2, fun t2 ht2 => ⟨line2, fun t3 ht3 => ⟨line3, fun l hl0 => ?_⟩⟩⟩⟩
        have q1 := same_new (o := .tup [V.str "begin", .non]) ht1
        have q2 := same_new (o := .tup [V.str "go on", .non]) ht2
        have q3 := same_new (o := .tup [V.str "read", .non]) ht3
        have q4 := same_new (o := .lst [V.ref t1, .ref t2, .ref t3]) hl0
        have d1 : Dp K _ (.ref t1) (.tuple [.str "begin", .none]) := .tup (SqT.of (((q2.trans q3).trans q4) _ _ upd_same)) (.cons (.str _) (.cons .non .nil))
        have d2 : Dp K _ (.ref t2) (.tuple [.str "go on", .none]) := .tup (SqT.of ((q3.trans q4) _ _ upd_same)) (.cons (.str _) (.cons .non .nil))
        have d3 : Dp K _ (.ref t3) (.tuple [.str "read", .none]) := .tup (SqT.of (q4 _ _ upd_same)) (.cons (.str _) (.cons .non .nil))
        have sT := ((q1.trans q2).trans q3).trans q4
        refine ⟨_, dWords, (hv.up sT).dp, .lst (SqL.of upd_same) (.cons d1 (.cons d2 (.cons d3 .nil))), word_shaped _, words_shaped, _, rfl, ?_⟩
        refine ite2 (fun _ => k _ (s2.trans ((s3.trans s4).trans sT))) (fun hc => ⟨_, rfl, (s3.trans s4).trans sT, ?_⟩)
        by_cases e : i = a0
        · exact absurd (word_any (by rw [e]; exact hf0)) hc
        · omega
      · rintro σ' H3 ⟨u, rfl, s3, hia⟩
        omega
end
end Aw

/-! The runner made; an event. -/
namespace Aw
open PySem PySem.Spec PyProof.Rows L2

/-- what a clause's wish says of an error, whatever the slots are -/
def EL (n : Nat) (W : WX) : XK := fun cls d H => ∀ σ : L2.St, σ.length = n → W cls d σ H
theorem passN {X : Cx} {W : WX} {n : Nat} (tk : Takes X W) (hn : X.N.length = n) : Passes (L2.CX X.prog X.w) X (EL n W) := fun pins σ H s e s' I c => tk e s' (XE.of_call I (fun _ _ _ h => h σ (by rw [← hn]; exact I.len)) c)
theorem pss_when {X : Cx} {es : List Stmt} {t : TS} {p : Prop} (h : p → PSs X es t) : PSs X es (fun D σ H => p ∧ t D σ H) := ⟨fun pins s σ H D I ⟨hp, q⟩ => (h hp).run pins s σ H D I q⟩
/-- a method that asks for keywords, its promise -/
structure MthK (P : Program) (w : World) (K : PySem.W.Frag) (mg : Str → Option Value) (base : Heap) (CX : CXT) (C : Addr) (k : Nat) (m : Str) (ps : List Str) (n : Nat) (ks : List Str) (sp : Sp) : Prop where
  ex : ∃ f fd g, Meth K C m f ∧ FnOk P w K mg base CX k f fd ps sp ∧ KBn K fd ps n ks g (fun vs zs => vs ++ zs)
def spNew (w : World) (CR CP : Addr) : Sp := fun vs H Q _ => ∃ p P, vs = [.ref p] ∧ PlanAt w CP H p P ∧ WfP P ∧ (∀ H', Same H H' → Q .non H') ∧ ∀ r H' dx m h sv, Safe P (first P) → RunIn w CR CP H H' r P (rn0 P) dx p m h sv 0 → Q (.ref r) H'
def spLawEvent (w : World) (CR CP : Addr) : Sp := fun vs H Q _ => ∃ H0 r P R dx p m h sv ev a i, vs = [.ref r, .int i, .int (a : Nat)] ∧ ArmOf w CR CP H0 H r P R dx p m h sv ev a ∧
  ∀ v H' R' sv' ev', But3 r m h H H' → RunIn w CR CP H0 H' r P R' dx p m h sv' ev' → RunOk P R' → Q v H'
/-- what the text says of the error NotNow and of those that the law asks about -/
structure NTxt (K : PySem.W.Frag) (mg : Str → Option Value) (CN CA CU : Addr) : Prop where
  g : mg "NotNow" = some (.ref CN)
  te : PySem.W.exmOne K (.ref CN) (.ref CN) = some true
  xc : ExcC K CN
  gA : mg "ArmwarrantError" = some (.ref CA)
  gU : mg "UnknownArm" = some (.ref CU)
  kA : ∃ b, PySem.W.kitOne K (.ref CN) (.ref CA) = some b
  kU : ∃ b, PySem.W.kitOne K (.ref CN) (.ref CU) = some b
  ii : mg "isinstance" = none
def tEv (CR : Addr) (W : WX) (m : Str) (sp : Sp) : TS := tDrop (tMeth CR m sp [] (EL 4 W) (tVar 0) (tCons (tVar 2) tNil))
def tRd (CR : Addr) (W : WX) (b : Bool) (sp : Sp) : TS := tDrop (tMethK CR "read_input" 2 1 sp (fun vs zs => vs ++ zs) (EL 4 W) (tVar 0) (tCons (tVar 2) tNil) (tCons (tC (.bl b)) tNil))
def tKd (i : Int) : TT := tTest (tOp rEq (tVar 1) (tC (.int i)))
def tEvB (w : World) (CR CP CN : Addr) (W : WX) : TS :=
  tIfS (tKd 0) (tEv CR W "begin" (spEvent w CR CP CN)) (tIfS (tKd 1) (tEv CR W "end" (spEvent w CR CP CN)) (tIfS (tKd 2) (tEv CR W "go_on" (spEvent w CR CP CN))
    (tIfS (tKd 3) (tRd CR W true (spRead w CR CP CN)) (tIfS (tKd 4) (tRd CR W false (spRead w CR CP CN)) (tIfS (tKd 5) (tEv CR W "halt" (spHal w CR CP CN true)) (tEv CR W "free" (spHal w CR CP CN false)))))))
def tEvS (K : PySem.W.Frag) (CN CA CU : Addr) (a : Addr) (cls : Value) (d : Option Addr) : TS := fun D σ H => (cls = .ref CN ∧ d = none) ∧
  tSeq (tIfS (tOr (tNot (tB (tCB (rIsE K CN a) (tCons (tVar 3) (tCons (tC (.ref CA)) tNil))))) (tB (tCB (rIsE K CN a) (tCons (tVar 3) (tCons (tC (.ref CU)) tNil))))) (tRet (tC (.str "wrong"))) tNext) (tRet (tC (.str "not now"))) D σ H
section
variable {P : Program} {w : World} {K : PySem.W.Frag} {mg : Str → Option Value} {base : Heap} {CR CP CS CN CE CA CU : Addr}
theorem scNew : FnScope ["_law_plan_here", "_law_runner", "e"] ["_law_plan_here"] (defScope sNew) := ⟨rfl, rfl, rfl, by decide +kernel, rfl, by decide +kernel, by decide +kernel⟩
theorem ok_new {f : Addr} {fd : FuncData} (F : Fun K "_law_new" "_law_new" sNew f fd) (gE : mg "NotSafe" = some (.ref CE)) (te : PySem.W.exmOne K (.ref CE) (.ref CE) = some true) (c1 : Mkr P w K mg base (L2.CX P w) "Runner" CR 7 ["self", "plan"] (spRunInit w CR CP CS CE)) :
    FnOk P w K mg base CX0 9 f fd ["_law_plan_here"] (spNew w CR CP) := by
  obtain ⟨f4, fd4, M4, g4, G4, b4⟩ := c1.ex
  refine F.ok scNew (fun vs H Q E h => ?_) (fun cdv A outer s H vs Q E hr h => ?_)
  · obtain ⟨p, P, rfl, _⟩ := h
    rfl
  · obtain ⟨p, P, rfl, hP, W, k0, k1⟩ := h
    refine ⟨_, pss_cons (ps_try_as (i := 2) (tb := fun W => tAsg (tMake CR (spRunInit w CR CP CS CE) [] (EL 3 W) (tCons (tVar 0) tNil)) (gName 1)) (ts := fun a cls d => tRet (tC .non)) (Wout := fun _ _ _ _ => False) rfl rfl scNew.nd rfl rfl ⟨rfl, by decide, Or.inl gE⟩ takes0
        (fun W pn xe tk _ => pss_one (ps_set (i := 1) scNew.nd rfl (Or.inl rfl) (by exact (pe_make M4 G4 hr (by rfl) g4 b4 .nil (passN tk rfl) (pa_cons (pv 0) pa_nil)))))
        (fun a oe cls d pn hz hf => pss_one (ps_ret pe_non)))
      (pss_one (ps_ret (pv 1))), ?_⟩
    refine ⟨_, rfl, fun x dxs hx hdx ne => ?_⟩
    have sb : Same H (upd (upd H dxs (.own x)) x (.ins CR dxs [])) := fun c o e => by
      rw [upd_ne (ne_of_none e hx), upd_ne (ne_of_none e hdx)]
      exact e
    refine ⟨H, x, p, P, dxs, rfl, upd_same, sb, hx, hP, W, fun hs H' m h sv s1 I1 => ⟨rfl, ?_⟩, fun hs H' s1 => ?_⟩
    · exact ⟨_, rfl, k1 x H' dxs m h sv hs I1⟩
    · exact fun σ hσ => ⟨true, te, fun _ a ha => k0 H' s1, fun z => nomatch z⟩
theorem scEvent : FnScope ["_law_runner", "_law_kind", "_law_arm", "e"] ["_law_runner", "_law_kind", "_law_arm"] (defScope sEvent) := ⟨rfl, rfl, rfl, by decide +kernel, rfl, by decide +kernel, by decide +kernel⟩
theorem ok_event {f : Addr} {fd : FuncData} (F : Fun K "_law_event" "_law_event" sEvent f fd) (TR : RTxt K mg CR) (TN : NTxt K mg CN CA CU) (m1 : Mth P w K mg base (L2.CX P w) CR 10 "begin" ["self", "arm"] (spEvent w CR CP CN)) (m2 : Mth P w K mg base (L2.CX P w) CR 4 "end" ["self", "arm"] (spEvent w CR CP CN))
    (m3 : Mth P w K mg base (L2.CX P w) CR 10 "go_on" ["self", "arm"] (spEvent w CR CP CN)) (m4 : MthK P w K mg base (L2.CX P w) CR 10 "read_input" ["self", "arm", "on"] 2 ["on"] (spRead w CR CP CN)) (m5 : Mth P w K mg base (L2.CX P w) CR 4 "halt" ["self", "arm"] (spHal w CR CP CN true))
    (m6 : Mth P w K mg base (L2.CX P w) CR 4 "free" ["self", "arm"] (spHal w CR CP CN false)) : FnOk P w K mg base CX0 11 f fd ["_law_runner", "_law_kind", "_law_arm"] (spLawEvent w CR CP) := by
  obtain ⟨f1, fd1, mm1, G1, b1⟩ := m1.ex
  obtain ⟨f2, fd2, mm2, G2, b2⟩ := m2.ex
  obtain ⟨f3, fd3, mm3, G3, b3⟩ := m3.ex
  obtain ⟨f4, fd4, gg4, mm4, G4, b4⟩ := m4.ex
  obtain ⟨f5, fd5, mm5, G5, b5⟩ := m5.ex
  obtain ⟨f6, fd6, mm6, G6, b6⟩ := m6.ex
  obtain ⟨cA, kA⟩ := TN.kA
  obtain ⟨cU, kU⟩ := TN.kU
  refine F.ok scEvent (fun vs H Q E h => ?_) (fun cdv A outer s H vs Q E hr h => ?_)
  · obtain ⟨H0, r, P, R, dx, p, m, h, sv, ev, a, i, rfl, _⟩ := h
    rfl
  · obtain ⟨H0, r, P, R, dx, p, m, h, sv, ev, a, i, rfl, A0, k⟩ := h
    have hr4 := hr.mono (show 4 ≤ 10 by decide)
    refine ⟨_, pss_cons (ps_try_as (i := 3) (tb := tEvB w CR CP CN) (ts := tEvS K CN CA CU) (Wout := fun _ _ _ _ => False) rfl rfl scEvent.nd rfl rfl ⟨rfl, by decide, Or.inl TN.g⟩ takes0
        (fun W pn xe tk _ => by
          exact pss_one (ps_if (pt_cmpR op_eq (pv 1) pe_int (nomark _)) (pss_one (ps_expr (pe_meth (pv 0) TR.cl mm1 G1 hr b1 .nil (passN tk rfl) (pa_cons (pv 2) pa_nil))))
          (pss_one (ps_if (pt_cmpR op_eq (pv 1) pe_int (nomark _)) (pss_one (ps_expr (pe_meth (pv 0) TR.cl mm2 G2 hr4 b2 .nil (passN tk rfl) (pa_cons (pv 2) pa_nil))))
          (pss_one (ps_if (pt_cmpR op_eq (pv 1) pe_int (nomark _)) (pss_one (ps_expr (pe_meth (pv 0) TR.cl mm3 G3 hr b3 .nil (passN tk rfl) (pa_cons (pv 2) pa_nil))))
          (pss_one (ps_if (pt_cmpR op_eq (pv 1) pe_int (nomark _)) (pss_one (ps_expr (pe_methK (pv 0) TR.cl mm4 G4 hr b4 (passN tk rfl) (pa_cons (pv 2) pa_nil) (pk_cons pe_bl pk_nil))))
          (pss_one (ps_if (pt_cmpR op_eq (pv 1) pe_int (nomark _)) (pss_one (ps_expr (pe_methK (pv 0) TR.cl mm4 G4 hr b4 (passN tk rfl) (pa_cons (pv 2) pa_nil) (pk_cons pe_bl pk_nil))))
          (pss_one (ps_if (pt_cmpR op_eq (pv 1) pe_int (nomark _)) (pss_one (ps_expr (pe_meth (pv 0) TR.cl mm5 G5 hr4 b5 .nil (passN tk rfl) (pa_cons (pv 2) pa_nil))))
          (pss_one (ps_expr (pe_meth (pv 0) TR.cl mm6 G6 hr4 b6 .nil (passN tk rfl) (pa_cons (pv 2) pa_nil))))))))))))))))
        (fun a oe cls d pn hz hf => pss_when fun hcd => by
          obtain ⟨rfl, rfl⟩ := hcd
          exact pss_cons (ps_if (PW.pt (pw_or (pt_not (pt_val (pe_callB (call_isE TN.xc hz hf) (by rfl) TN.ii PyProof.Rows.boot_isinstance (pa_cons (pv 3) (pa_cons (pe_glob (by rfl) TN.gA rfl) pa_nil)))))
            (pw_or1 (pt_val (pe_callB (call_isE TN.xc hz hf) (by rfl) TN.ii PyProof.Rows.boot_isinstance (pa_cons (pv 3) (pa_cons (pe_glob (by rfl) TN.gU rfl) pa_nil))))))) (pss_one (ps_ret pe_str)) pss_nil)
            (pss_one (ps_ret pe_str))))
      (pss_one (ps_ret pe_str)), ?_⟩
    -- what the clause does
    have cl : ∀ (H' : Hp) (D : Ends), (∀ v, D.rt v H') → EL 4 (wAs K (.ref CN) 3 (tEvS K CN CA CU) (fun _ _ _ _ => False) D) (.ref CN) none H' := fun H' D hD σ hσ => by
      refine ⟨true, TN.te, fun _ x hx => ⟨⟨rfl, rfl⟩, ?_⟩, fun z => nomatch z⟩
      have hx3 : (σ.set 3 (some (.ref x)))[3]? = some (some (V.ref x)) := List.getElem?_set_self (by omega)
      refine ⟨_, hx3, .ref CA, .ref CA, cA, rfl, (fun u ru => ru), kA, _, rfl, ?_⟩
      cases cA with
      | false => exact iteT (iteT (hD _))
      | true =>
        refine iteF ⟨_, hx3, .ref CU, .ref CU, cU, rfl, (fun u ru => ru), kU, _, rfl, ?_⟩
        cases cU with
        | true => exact iteT (hD _)
        | false => exact iteF (hD _)
    have ends : ∀ H', Same H H' → ∀ v, Q v H' := fun H' s1 v => k v H' R sv ev s1.but3 (A0.run.up s1) A0.ok
    have evq : ∀ D : Ends, (∀ v H', D.rt v H' = Q v H') → (∀ σ H', D.nx σ H' = Q (.str "done") H') → EvQ w CR CP CN H0 H r P dx p m h (fun _ H' => D.nx [some (.ref r), some (.int i), some (.int (a : Nat)), none] H') (EL 4 (wAs K (.ref CN) 3 (tEvS K CN CA CU) (fun _ _ _ _ => False) D)) := fun D h1 h2 =>
      ⟨fun H' R' sv' ev' b I' ok' => by show D.nx _ H'; rw [h2]; exact k _ H' R' sv' ev' b I' ok', fun H' s1 => cl H' D fun v => by rw [h1]; exact ends H' s1 v⟩
    have hal : ∀ (b : Bool) (D : Ends), (∀ v H', D.rt v H' = Q v H') → (∀ σ H', D.nx σ H' = Q (.str "done") H') →
        (R.hal[a]? = some (!b) → ∀ H', But3 r m h H H' → RunIn w CR CP H0 H' r P { R with hal := R.hal.set a b } dx p m h sv ev → (fun _ H' => D.nx [some (.ref r), some (.int i), some (.int (a : Nat)), none] H') (V.non) H') ∧
        (R.hal[a]? = some b → ∀ H', Same H H' → EL 4 (wAs K (.ref CN) 3 (tEvS K CN CA CU) (fun _ _ _ _ => False) D) (.ref CN) none H') := fun b D h1 h2 =>
      ⟨fun _ H' b' I' => by
        show D.nx _ H'
        rw [h2]
        exact k _ H' _ sv ev b' I' (A0.ok.setH (by rw [List.length_set]; exact A0.ok.hl)), fun _ H' s1 => cl H' D fun v => by rw [h1]; exact ends H' s1 v⟩
    refine ⟨_, rfl, rfl, _, rfl, ite2 (fun _ => ?_) (fun _ => ?_)⟩
    · exact ⟨_, rfl, r, dx, _, rfl, A0.run.hr, r_none, _, rfl, H0, r, P, R, dx, p, m, h, sv, ev, a, rfl, A0, evq _ (fun _ _ => rfl) (fun _ _ => rfl)⟩
    refine ⟨_, rfl, rfl, _, rfl, ite2 (fun _ => ?_) (fun _ => ?_)⟩
    · exact ⟨_, rfl, r, dx, _, rfl, A0.run.hr, r_none, _, rfl, H0, r, P, R, dx, p, m, h, sv, ev, a, rfl, A0, evq _ (fun _ _ => rfl) (fun _ _ => rfl)⟩
    refine ⟨_, rfl, rfl, _, rfl, ite2 (fun _ => ?_) (fun _ => ?_)⟩
    · exact ⟨_, rfl, r, dx, _, rfl, A0.run.hr, r_none, _, rfl, H0, r, P, R, dx, p, m, h, sv, ev, a, rfl, A0, evq _ (fun _ _ => rfl) (fun _ _ => rfl)⟩
    refine ⟨_, rfl, rfl, _, rfl, ite2 (fun _ => ?_) (fun _ => ?_)⟩
    · exact ⟨_, rfl, r, dx, _, rfl, A0.run.hr, r_none, _, rfl, rfl, rfl, H0, r, P, R, dx, p, m, h, sv, ev, a, true, rfl, A0, evq _ (fun _ _ => rfl) (fun _ _ => rfl)⟩
    refine ⟨_, rfl, rfl, _, rfl, ite2 (fun _ => ?_) (fun _ => ?_)⟩
    · exact ⟨_, rfl, r, dx, _, rfl, A0.run.hr, r_none, _, rfl, rfl, rfl, H0, r, P, R, dx, p, m, h, sv, ev, a, false, rfl, A0, evq _ (fun _ _ => rfl) (fun _ _ => rfl)⟩
    refine ⟨_, rfl, rfl, _, rfl, ite2 (fun _ => ?_) (fun _ => ?_)⟩
    · exact ⟨_, rfl, r, dx, _, rfl, A0.run.hr, r_none, _, rfl, H0, r, P, R, dx, p, m, h, sv, ev, a, rfl, A0, hal true _ (fun _ _ => rfl) (fun _ _ => rfl)⟩
    · exact ⟨_, rfl, r, dx, _, rfl, A0.run.hr, r_none, _, rfl, H0, r, P, R, dx, p, m, h, sv, ev, a, rfl, A0, hal false _ (fun _ _ => rfl) (fun _ _ => rfl)⟩
end
end Aw

/-! The law. -/
namespace Aw
open PySem PySem.Spec PyProof.Rows L2

abbrev sLaw : Stmt := top 26
/-- a class called with keywords -/
structure MkrK (P : Program) (w : World) (K : PySem.W.Frag) (mg : Str → Option Value) (base : Heap) (CX : CXT) (x : Str) (C : Addr) (k : Nat) (ps : List Str) (n : Nat) (ks : List Str) (sp : Sp) : Prop where
  ex : ∃ f fd g, Mk K C f ∧ mg x = some (.ref C) ∧ FnOk P w K mg base CX k f fd ps sp ∧ KBn K fd ps (n + 1) ks g (fun vs zs => vs ++ zs)
def spLaw (K : PySem.W.Frag) : Sp := fun vs H Q _ => ∃ (a : Addr) (ns : List Int) (b : Nat), vs = [.ref a] ∧ SqL K H a (ns.map V.int) ∧ b ≤ 50000000 ∧ (∀ n ∈ ns, Int.natAbs n < 2 ^ b) ∧ ∀ H', Q (.bl true) H'

/-! ### the heap without the digits -/
def less (H : Hp) (d : Addr) : Hp := fun b => if b = d then none else H b
theorem less_ne {H : Hp} {d b : Addr} (h : b ≠ d) : less H d b = H b := if_neg h
theorem less_self {H : Hp} {d : Addr} : less H d d = none := if_pos rfl
theorem less_none {H : Hp} {d b : Addr} (h : H b = none) : less H d b = none := by
  unfold less
  split
  · rfl
  · exact h
theorem less_same {H : Hp} {d : Addr} : Same (less H d) H := fun b o e => by
  by_cases q : b = d
  · rw [q, less_self] at e
    cases e
  · rw [less_ne q] at e
    exact e
theorem DigAt.ne {H : Hp} {d b : Addr} {o : HO} (h : DigAt H d) (e : H b = some o) (ho : ∀ n, o ≠ .lst [.int n]) : b ≠ d := fun q => by
  obtain ⟨n, _, h1⟩ := h
  rw [q, h1] at e
  exact ho n (Option.some.inj e).symm
theorem DigAt.ne_map {α : Type} {f : α → V} (hf : ∀ x n, f x ≠ .int n) {H : Hp} {d b : Addr} {l : List α} (h : DigAt H d) (e : H b = some (.lst (l.map f))) : b ≠ d := h.ne e fun n q => by
  have q2 : l.map f = [.int n] := HO.lst.inj q
  cases l with
  | nil => cases q2
  | cons x l => exact hf x n (List.cons.inj q2).1
theorem DigAt.ne_bl {H : Hp} {d b : Addr} {l : List Bool} (h : DigAt H d) (e : H b = some (.lst (l.map V.bl))) : b ≠ d := h.ne_map (f := V.bl) (fun _ _ q => nomatch q) e
theorem DigAt.ne_ref {H : Hp} {d b : Addr} {l : List Addr} (h : DigAt H d) (e : H b = some (.lst (l.map V.ref))) : b ≠ d := h.ne_map (f := V.ref) (fun _ _ q => nomatch q) e
theorem DigAt.ne_str {H : Hp} {d b : Addr} {l : List Str} (h : DigAt H d) (e : H b = some (.lst (l.map V.str))) : b ≠ d := h.ne_map (f := V.str) (fun _ _ q => nomatch q) e
theorem step_not_int {H : Hp} {n : Int} {st : Step} (h : IsD H (.int n) (dStep st)) : False := by cases st <;> cases h
theorem DigAt.ne_flows {H : Hp} {d : Addr} (h : DigAt H d) : ∀ {as : List Addr} {fs : List (List Step)}, FlowsAt H as fs → ∀ f ∈ as, f ≠ d
  | _, _, .nil, _, hf => nomatch hf
  | _, _, .cons (a := a) (b := fl) ⟨vs, h1, h2⟩ t, f, hf => by
    rcases List.mem_cons.mp hf with e | e
    · rw [e]
      refine h.ne h1 fun n q => ?_
      have q2 : vs = [.int n] := HO.lst.inj q
      rw [q2] at h2
      cases fl with
      | nil => cases h2
      | cons st fl =>
        cases h2 with
        | cons g _ => exact step_not_int g
    · exact DigAt.ne_flows h t f e
theorem PlanAt.less {w : World} {C : Addr} {H : Hp} {p d : Addr} {P : Pln} (h : PlanAt w C H p P) (hd : DigAt H d) : PlanAt w C (less H d) p P := by
  obtain ⟨dx, fl, st, bl, fs, kvs, I⟩ := h
  have tt : Tups H (Aw.less H d) := fun c vs e => by
    rw [less_ne (hd.ne e fun n q => nomatch q)]
    exact e
  refine ⟨dx, fl, st, bl, fs, kvs, ?_, ?_, ?_, ?_, ?_, I.blk, I.n4⟩
  · rw [less_ne (hd.ne I.hp fun n q => nomatch q)]
    exact I.hp
  · rw [less_ne (hd.ne_ref I.hfl)]
    exact I.hfl
  · exact FlowsAt.at tt (fun f hf vs e => by rw [less_ne (hd.ne_flows I.hfs f hf)]; exact e) I.hfs
  · rw [less_ne (hd.ne_str I.hst)]
    exact I.hst
  · refine I.hbl.mono tt (less_ne ?_)
    obtain ⟨xs, h1, _⟩ := I.hbl.ex
    exact hd.ne h1 fun n q => nomatch q
section
variable {w : World} {CR CP : Addr} {H0 H H' : Hp} {r : Addr} {P : Pln} {R : Rn} {dx p m h d : Addr} {sv : V} {ev : Int}
theorem RunIn.less (I : RunIn w CR CP H0 H r P R dx p m h sv ev) (hd : DigAt H0 d) : RunIn w CR CP (less H0 d) H r P R dx p m h sv ev :=
  ⟨I.hr, less_same.trans I.s0, I.pl0.less hd, less_none I.r0, less_none I.m0, less_none I.h0, I.st, I.hm, I.hh, I.ne⟩
theorem RunIn.dig (I : RunIn w CR CP H0 H r P R dx p m h sv ev) (h0 : H0 d = none) (hd : DigAt H d) (b : But d H H') : RunIn w CR CP H0 H' r P R dx p m h sv ev :=
  ⟨b r _ (hd.ne I.hr fun n q => nomatch q) I.hr, fun c o e => b c o (ne_of_none e h0) (I.s0 c o e), I.pl0, I.r0, I.m0, I.h0, I.st.mono (hd.tups b), b m _ (hd.ne_bl I.hm) I.hm, b h _ (hd.ne_bl I.hh) I.hh, I.ne⟩
theorem RunIn.digs (I : RunIn w CR CP H0 H r P R dx p m h sv ev) (hd : DigAt H d) (b : But3 r m h H H') : DigAt H' d := by
  obtain ⟨n, z0, z1⟩ := id hd
  exact ⟨n, z0, b d _ (Ne.symm (hd.ne I.hr fun n q => nomatch q)) (Ne.symm (hd.ne_bl I.hm)) (Ne.symm (hd.ne_bl I.hh)) z1⟩
end
theorem int_of {l : List Int} {j : Nat} {v : V} (h : (l.map V.int)[j]? = some v) : ∃ i, v = .int i := by
  rw [List.getElem?_map] at h
  cases e : l[j]? with
  | none =>
    rw [e] at h
    cases h
  | some x =>
    rw [e] at h
    exact ⟨x, (Option.some.inj h).symm⟩
theorem DigAt.up {H H' : Hp} {d : Addr} (h : DigAt H d) (s : Same H H') : DigAt H' d := by
  obtain ⟨n, z0, z1⟩ := h
  exact ⟨n, z0, s _ _ z1⟩
section
variable {P : Program} {w : World} {K : PySem.W.Frag} {mg : Str → Option Value} {base : Heap} {CR CP : Addr}
theorem scLaw : FnScope ["_law_script", "_law_digits_here", "_law_flows", "_law_starts", "_law_blocked", "_law_runner", "_law_k", "_law_kind"] ["_law_script"] (defScope sLaw) := ⟨rfl, rfl, rfl, by decide +kernel, rfl, by decide +kernel, by decide +kernel⟩
theorem ok_law {f : Addr} {fd : FuncData} (F : Fun K "law" "law" sLaw f fd) (T : LTxt mg) (d1 : Dfn P w K mg base CX0 2 "_law_digits" ["_law_script", "_law_first", "_law_count"] (spDigits K)) (d2 : Dfn P w K mg base CX0 3 "_law_plan" ["_law_digits_here"] spLawPlan)
    (d3 : Dfn P w K mg base CX0 2 "_law_closed" ["_law_blocked", "_law_starts"] spClosed) (d4 : Dfn P w K mg base CX0 9 "_law_new" ["_law_plan_here"] (spNew w CR CP)) (c1 : MkrK P w K mg base CX0 "Plan" CP 1 ["self", "flows", "starts", "blocked"] 2 ["blocked"] (spPlanInit w CP))
    (d5 : Dfn P w K mg base CX0 10 "_law_something" ["_law_runner", "_law_arms"] (spSomething w CR CP)) (d6 : Dfn P w K mg base CX0 1 "_law_digit" ["_law_digits_here", "_law_many"] spDigit) (d7 : Dfn P w K mg base CX0 11 "_law_event" ["_law_runner", "_law_kind", "_law_arm"] (spLawEvent w CR CP)) :
    FnOk P w K mg base CX0 12 f fd ["_law_script"] (spLaw K) := by
  obtain ⟨f1, fd1, g1, k1, G1, b1⟩ := d1.ex
  obtain ⟨f2, fd2, g2, k2, G2, b2⟩ := d2.ex
  obtain ⟨f3, fd3, g3, k3, G3, b3⟩ := d3.ex
  obtain ⟨f4, fd4, g4, k4, G4, b4⟩ := d4.ex
  obtain ⟨f5, fd5, g5, k5, G5, b5⟩ := d5.ex
  obtain ⟨f6, fd6, g6, k6, G6, b6⟩ := d6.ex
  obtain ⟨f7, fd7, g7, k7, G7, b7⟩ := d7.ex
  obtain ⟨f8, fd8, gg8, M8, g8, G8, b8⟩ := c1.ex
  refine F.ok scLaw (fun vs H Q E h => ?_) (fun cdv A outer s H vs Q E hr h => ?_)
  · obtain ⟨a, ns, b, rfl, _⟩ := h
    rfl
  · obtain ⟨a, ns, b, rfl, hS, hb, hn, k⟩ := h
    refine ⟨_, pss_cons (ps_set (i := 1) scLaw.nd rfl (Or.inl rfl) (pe_call G1 (hr.mono (by decide)) (by rfl) g1 k1 b1 .nil pass0 (pa_cons (pv 0) (pa_cons pe_int (pa_cons pe_int pa_nil)))))
      (pss_cons (ps_asg (pe_call G2 (hr.mono (by decide)) (by rfl) g2 k2 b2 .nil pass0 (pa_cons (pv 1) pa_nil)) (pg_tup rfl (pgs_cons (pg_name (i := 2) scLaw.nd rfl (Or.inl rfl)) (pgs_cons (pg_name (i := 3) scLaw.nd rfl (Or.inl rfl)) (pgs_cons (pg_name (i := 4) scLaw.nd rfl (Or.inl rfl)) pgs_nil)))))
      (pss_cons (ps_set (i := 4) scLaw.nd rfl (Or.inl rfl) (pe_call G3 (hr.mono (by decide)) (by rfl) g3 k3 b3 .nil pass0 (pa_cons (pv 4) (pa_cons (pv 3) pa_nil))))
      (pss_cons (ps_set (i := 5) scLaw.nd rfl (Or.inl rfl) (pe_call G4 (hr.mono (by decide)) (by rfl) g4 k4 b4 .nil pass0 (pa_cons (pe_makeK M8 G8 (hr.mono (by decide)) (by rfl) g8 b8 pass0 (pa_cons (pv 2) (pa_cons (pv 3) pa_nil)) (pk_cons (pv 4) pk_nil)) pa_nil)))
      (pss_cons (ps_if (pt_cmpR op_isN (pv 5) pe_non (nomark _)) (pss_one (ps_ret pe_bl)) pss_nil)
      (pss_cons (ps_for PassesOwn.never rfl (pi_range1 (by rfl) T.range (pa_cons pe_int pa_nil)) (pg_name (i := 6) scLaw.nd rfl (Or.inl rfl))
        (pss_cons (ps_if (pt_not (pt_val (pe_call G5 (hr.mono (by decide)) (by rfl) g5 k5 b5 .nil pass0 (pa_cons (pv 5) (pa_cons (pe_callB call_len_seq (by rfl) T.len PySem.boot_len (pa_cons (pv 2) pa_nil)) pa_nil))))) (pss_one (ps_ret pe_bl)) pss_nil)
        (pss_cons (ps_set (i := 7) scLaw.nd rfl (Or.inl rfl) (pe_ix ix_list (pe_lst (pa_cons pe_int (pa_cons pe_int (pa_cons pe_int (pa_cons pe_int (pa_cons pe_int (pa_cons pe_int (pa_cons pe_int (pa_cons pe_int (pa_cons pe_int (pa_cons pe_int (pa_cons pe_int (pa_cons pe_int pa_nil)))))))))))))
          (pe_call G6 (hr.mono (by decide)) (by rfl) g6 k6 b6 .nil pass0 (pa_cons (pv 1) (pa_cons pe_int pa_nil))) (fun _ _ => rfl)))
        (pss_one (ps_expr (pe_call G7 hr (by rfl) g7 k7 b7 .nil pass0 (pa_cons (pv 5) (pa_cons (pv 7) (pa_cons (pe_call G6 (hr.mono (by decide)) (by rfl) g6 k6 b6 .nil pass0 (pa_cons (pv 1) (pa_cons (pe_callB call_len_seq (by rfl) T.len PySem.boot_len (pa_cons (pv 2) pa_nil)) pa_nil))) pa_nil)))))))))
      (pss_one (ps_ret (pe_call G5 (hr.mono (by decide)) (by rfl) g5 k5 b5 .nil pass0 (pa_cons (pv 5) (pa_cons (pe_callB call_len_seq (by rfl) T.len PySem.boot_len (pa_cons (pv 2) pa_nil)) pa_nil)))))))))), ?_⟩
    refine ⟨_, rfl, a, ns, b, rfl, hS, hb, hn, fun n0 d hn0 hd => ?_⟩
    have hD1 : DigAt (upd H d (.lst [.int n0])) d := ⟨n0, hn0, upd_same⟩
    generalize upd H d (.lst [.int n0]) = H1 at *
    refine ⟨_, rfl, d, rfl, hD1, fun H2 r0 fl st bl fs flows starts bvs b2' hD2 M => ?_⟩
    refine ⟨r0, _, rfl, SqT.of M.hr, rfl, _, _, rfl, _, _, rfl, _, _, rfl, rfl, ?_⟩
    refine ⟨_, rfl, _, rfl, bl, st, flows.length, bvs, starts, rfl, M.hbl, M.hbv, M.len, M.hst, M.wf.st, M.wf.sp, fun H3 b3' kvs s3 hb3 hkv hkl => ?_⟩
    refine ⟨_, rfl, _, rfl, _, rfl, rfl, rfl, fun p dxp hp hdp ne => ?_⟩
    have sp3 : Same H3 (upd (upd H3 dxp (.own p)) p (.ins CP dxp [])) := fun c o e => by
      rw [upd_ne (ne_of_none e hp), upd_ne (ne_of_none e hdp)]
      exact e
    have hp4 : upd (upd H3 dxp (.own p)) p (.ins CP dxp []) p = some (.ins CP dxp []) := upd_same
    generalize upd (upd H3 dxp (.own p)) p (.ins CP dxp []) = H4 at *
    have s24 := s3.trans sp3
    refine ⟨p, dxp, fl, st, b3', fs, flows, starts, kvs, rfl, hp4, s24 _ _ M.hfl, M.hfs.up s24, s24 _ _ M.hst, sp3 _ _ hb3, fun v hv => ?_, by omega, M.wf.n4, fun H5 P' b5' e1 e2 hP => ⟨rfl, ?_⟩⟩
    · obtain ⟨x, pl, o, pl', _, _, _, _, q⟩ := (hkv v hv).mono sp3.tups
      exact ⟨x, pl, o, pl', q⟩
    have W := M.wf.p e1 e2
    have s35 : Same H3 H5 := fun c o e => b5' c o (ne_of_none e hp) (sp3 c o e)
    have s25 := s3.trans s35
    have hfl5 := s25 _ _ M.hfl
    have hD5 := hD2.up s25
    have hlen : (fs.map V.ref).length = P'.flows.length := by rw [List.length_map, M.hfs.len, e1]
    refine ⟨p, P', rfl, hP, W, fun H6 s6 => ?_, fun r H6 dx m h sv hs I6 => ?_⟩
    · exact ⟨_, rfl, rfl, _, rfl, iteT (k _)⟩
    refine ⟨_, rfl, rfl, _, rfl, iteF ?_⟩
    have hD6 := hD5.up I6.s0
    have I6 := I6.less hD5
    have hfl0 : less H5 d fl = some (.lst (fs.map V.ref)) := by
      rw [less_ne M.away.2.1]
      exact hfl5
    have hd0 : less H5 d d = none := less_self
    have ok0 := rn0_ok W hs
    have n4 := W.n4
    have n1 := W.n1
    generalize less H5 d = H0 at *
    refine ⟨_, rfl, by decide, by decide, ?_⟩
    refine for_range (n := 40) (fun i σ' H' => ∃ (u6 u7 : Option V) (R : Rn) (sv : V) (ev : Int), σ' = [some (.ref a), some (.ref d), some (.ref fl), some (.ref st), some (.ref b3'), some (.ref r), u6, u7] ∧ RunIn w CR CP H0 H' r P' R dx p m h sv ev ∧ RunOk P' R ∧ DigAt H' d)
      ⟨none, none, _, sv, 0, rfl, I6, ok0, hD6⟩ ?_ ?_
    · rintro i σ' H7 hi ⟨u6, u7, R, sv, ev, rfl, I7, ok7, hD7⟩
      rw [Int.zero_add]
      refine ⟨_, rfl, _, rfl, _, _, rfl, .inl (SqL.of (I7.s0 _ _ hfl0)), H0, r, P', R, dx, p, m, h, sv, ev, (by show [V.ref r, V.int (((fs.map V.ref).length : Nat) : Int)] = _; rw [hlen]), I7, ok7, W, hs, fun H8 s8 => ⟨true, rfl, iteF ?_⟩⟩
      have I8 := I7.up s8
      have hD8 := hD7.up s8
      unfold tNext
      dsimp only
      show tOp (rIxL K) (tLst _) (tCall spDigit [] E0 _) [some (.ref a), some (.ref d), some (.ref fl), some (.ref st), some (.ref b3'), some (.ref r), some (.int (i : Nat)), u7] H8 _
      refine pick (i := 1) (xs := [.int 0, .int 1, .int 2, .int 3, .int 4, .int 5, .int 6, .int 0, .int 1, .int 2, .int 0, .int 1]) (fun F q => q) (Nat.zero_lt_succ _) (show 12 < 900 by decide) rfl ?_ hD8 fun j v H9 hj b9 hD9 => ?_
      · rfl
      obtain ⟨kd, rfl⟩ := int_of (l := [0, 1, 2, 3, 4, 5, 6, 0, 1, 2, 0, 1]) hj
      have I9 := I8.dig hd0 hD8 b9
      refine ⟨_, rfl, _, rfl, _, rfl, _, rfl, _, _, rfl, .inl (SqL.of (I9.s0 _ _ hfl0)), d, P'.flows.length, (by show [V.ref d, V.int (((fs.map V.ref).length : Nat) : Int)] = _; rw [hlen]), hD9, n1, by omega, fun ar H10 har b10 hD10 => ?_⟩
      have I10 := I9.dig hd0 hD9 b10
      refine ⟨H0, r, P', R, dx, p, m, h, sv, ev, ar, kd, rfl, ⟨I10, W, ok7, har⟩, fun v H11 R' sv' ev' b11 I11 ok11 => ?_⟩
      exact ⟨_, _, R', sv', ev', rfl, I11, ok11, I10.digs hD10 b11⟩
    · rintro σ' H7 ⟨u6, u7, R, sv, ev, rfl, I7, ok7, hD7⟩
      exact ⟨_, rfl, _, rfl, _, _, rfl, .inl (SqL.of (I7.s0 _ _ hfl0)), H0, r, P', R, dx, p, m, h, sv, ev, (by show [V.ref r, V.int (((fs.map V.ref).length : Nat) : Int)] = _; rw [hlen]), I7, ok7, W, hs, fun H8 s8 => k _⟩
end
end Aw

/-! The ends: what the top has written, and the law's def. -/
namespace Aw
open PySem PySem.Spec PyProof.Rows L2

theorem kit_ref {K : PySem.W.Frag} {C : Addr} {t : Value} {b : Bool} (ht : PySem.W.typeIn K (.ref C) = some (.type "type")) (hd : PySem.W.hasDictIn K C = true) (hs : PySem.W.subIn K t (.ref C) = some b) : ∃ c, PySem.W.kitOne K t (.ref C) = some c := by
  obtain ⟨cd, hc, _⟩ := PySem.W.any_some hd
  have e : ((PySem.W.clsIn K C).isSome && PySem.W.typeIn K (.ref C) == some (.type "type")) = true := by rw [hc, ht] <;> rfl
  unfold PySem.W.kitOne
  by_cases h : (t == Value.ref C) = true
  · rw [if_pos h]
    exact ⟨true, rfl⟩
  · rw [if_neg h]
    refine ⟨b, ?_⟩
    show (if ((PySem.W.clsIn K C).isSome && PySem.W.typeIn K (.ref C) == some (.type "type")) = true then PySem.W.subIn K t (.ref C) else none) = some b
    rw [if_pos e]
    exact hs
theorem kb_all {K : PySem.W.Frag} {x qual : Str} {st : Stmt} {f : Addr} {fd : FuncData} {ps ks : List Str} {n : Nat} (F : Fun K x qual st f fd)
    (h : ∀ (kV doc pm : Value) (an : Option Addr) (cdv ct : Value) (us ws : List Value), us.length = n → ws.length = ks.length → bindArgs (PySem.W.fnOf x qual (defArgs st) (defBody st) (defScope st) .none kV doc pm an cdv ct) ⟨us, ks.zip ws⟩ = pure (ps.zip (us ++ ws))) :
    KBn K fd ps n ks (fun us ws => us ++ ws) (fun vs zs => vs ++ zs) := by
  obtain ⟨oc, od, kV, doc, pm, an, cdv, ct, osl, rfl, lk, hcd⟩ := F.ex
  exact ⟨fun s us ws _ l1 l2 => BindsTo.of_eq (h kV doc pm an cdv ct us ws l1 l2), fun r1 r2 => r1.append r2⟩
theorem all_mk {P : Program} {w : World} {K : PySem.W.Frag} {h : Heap} {mg : Str → Option Value} {fa CS CR CP CN CE CA CU : Addr} (X : K.In h) (G : h.Ns mainGlobals mg) (hfa : mg "law" = some (.ref fa))
    {f_s0 : Addr} {od_s0 an_s0 : Option Addr} {sl_s0 : Array (Option Value)} {oc_s0 kV_s0 dc_s0 pm_s0 cd_s0 ct_s0 : Value}
    {f_s1 : Addr} {od_s1 an_s1 : Option Addr} {sl_s1 : Array (Option Value)} {oc_s1 kV_s1 dc_s1 pm_s1 cd_s1 ct_s1 : Value}
    {f_s2 : Addr} {od_s2 an_s2 : Option Addr} {sl_s2 : Array (Option Value)} {oc_s2 kV_s2 dc_s2 pm_s2 cd_s2 ct_s2 : Value}
    {f_s3 : Addr} {od_s3 an_s3 : Option Addr} {sl_s3 : Array (Option Value)} {oc_s3 kV_s3 dc_s3 pm_s3 cd_s3 ct_s3 : Value}
    {f_s4 : Addr} {od_s4 an_s4 : Option Addr} {sl_s4 : Array (Option Value)} {oc_s4 kV_s4 dc_s4 pm_s4 cd_s4 ct_s4 : Value}
    {f_r0 : Addr} {od_r0 an_r0 : Option Addr} {sl_r0 : Array (Option Value)} {oc_r0 kV_r0 dc_r0 pm_r0 cd_r0 ct_r0 : Value}
    {f_r1 : Addr} {od_r1 an_r1 : Option Addr} {sl_r1 : Array (Option Value)} {oc_r1 kV_r1 dc_r1 pm_r1 cd_r1 ct_r1 : Value}
    {f_r2 : Addr} {od_r2 an_r2 : Option Addr} {sl_r2 : Array (Option Value)} {oc_r2 kV_r2 dc_r2 pm_r2 cd_r2 ct_r2 : Value}
    {f_r3 : Addr} {od_r3 an_r3 : Option Addr} {sl_r3 : Array (Option Value)} {oc_r3 kV_r3 dc_r3 pm_r3 cd_r3 ct_r3 : Value}
    {f_r4 : Addr} {od_r4 an_r4 : Option Addr} {sl_r4 : Array (Option Value)} {oc_r4 kV_r4 dc_r4 pm_r4 cd_r4 ct_r4 : Value}
    {f_r5 : Addr} {od_r5 an_r5 : Option Addr} {sl_r5 : Array (Option Value)} {oc_r5 kV_r5 dc_r5 pm_r5 cd_r5 ct_r5 : Value}
    {f_r6 : Addr} {od_r6 an_r6 : Option Addr} {sl_r6 : Array (Option Value)} {oc_r6 kV_r6 dc_r6 pm_r6 cd_r6 ct_r6 : Value}
    {f_r7 : Addr} {od_r7 an_r7 : Option Addr} {sl_r7 : Array (Option Value)} {oc_r7 kV_r7 dc_r7 pm_r7 cd_r7 ct_r7 : Value}
    {f_r8 : Addr} {od_r8 an_r8 : Option Addr} {sl_r8 : Array (Option Value)} {oc_r8 kV_r8 dc_r8 pm_r8 cd_r8 ct_r8 : Value}
    {f_r9 : Addr} {od_r9 an_r9 : Option Addr} {sl_r9 : Array (Option Value)} {oc_r9 kV_r9 dc_r9 pm_r9 cd_r9 ct_r9 : Value}
    {f_r10 : Addr} {od_r10 an_r10 : Option Addr} {sl_r10 : Array (Option Value)} {oc_r10 kV_r10 dc_r10 pm_r10 cd_r10 ct_r10 : Value}
    {f_r11 : Addr} {od_r11 an_r11 : Option Addr} {sl_r11 : Array (Option Value)} {oc_r11 kV_r11 dc_r11 pm_r11 cd_r11 ct_r11 : Value}
    {f_r12 : Addr} {od_r12 an_r12 : Option Addr} {sl_r12 : Array (Option Value)} {oc_r12 kV_r12 dc_r12 pm_r12 cd_r12 ct_r12 : Value}
    {f_r13 : Addr} {od_r13 an_r13 : Option Addr} {sl_r13 : Array (Option Value)} {oc_r13 kV_r13 dc_r13 pm_r13 cd_r13 ct_r13 : Value}
    {f_r14 : Addr} {od_r14 an_r14 : Option Addr} {sl_r14 : Array (Option Value)} {oc_r14 kV_r14 dc_r14 pm_r14 cd_r14 ct_r14 : Value}
    {f_r15 : Addr} {od_r15 an_r15 : Option Addr} {sl_r15 : Array (Option Value)} {oc_r15 kV_r15 dc_r15 pm_r15 cd_r15 ct_r15 : Value}
    {f_r17 : Addr} {od_r17 an_r17 : Option Addr} {sl_r17 : Array (Option Value)} {oc_r17 kV_r17 dc_r17 pm_r17 cd_r17 ct_r17 : Value}
    {f_p0 : Addr} {od_p0 an_p0 : Option Addr} {sl_p0 : Array (Option Value)} {oc_p0 kV_p0 dc_p0 pm_p0 cd_p0 ct_p0 : Value}
    {f_p1 : Addr} {od_p1 an_p1 : Option Addr} {sl_p1 : Array (Option Value)} {oc_p1 kV_p1 dc_p1 pm_p1 cd_p1 ct_p1 : Value}
    {f_p2 : Addr} {od_p2 an_p2 : Option Addr} {sl_p2 : Array (Option Value)} {oc_p2 kV_p2 dc_p2 pm_p2 cd_p2 ct_p2 : Value}
    {f_p3 : Addr} {od_p3 an_p3 : Option Addr} {sl_p3 : Array (Option Value)} {oc_p3 kV_p3 dc_p3 pm_p3 cd_p3 ct_p3 : Value}
    {f_p4 : Addr} {od_p4 an_p4 : Option Addr} {sl_p4 : Array (Option Value)} {oc_p4 kV_p4 dc_p4 pm_p4 cd_p4 ct_p4 : Value}
    {f_p5 : Addr} {od_p5 an_p5 : Option Addr} {sl_p5 : Array (Option Value)} {oc_p5 kV_p5 dc_p5 pm_p5 cd_p5 ct_p5 : Value}
    {f_p6 : Addr} {od_p6 an_p6 : Option Addr} {sl_p6 : Array (Option Value)} {oc_p6 kV_p6 dc_p6 pm_p6 cd_p6 ct_p6 : Value}
    {f_p7 : Addr} {od_p7 an_p7 : Option Addr} {sl_p7 : Array (Option Value)} {oc_p7 kV_p7 dc_p7 pm_p7 cd_p7 ct_p7 : Value}
    {f_p8 : Addr} {od_p8 an_p8 : Option Addr} {sl_p8 : Array (Option Value)} {oc_p8 kV_p8 dc_p8 pm_p8 cd_p8 ct_p8 : Value}
    {f_p9 : Addr} {od_p9 an_p9 : Option Addr} {sl_p9 : Array (Option Value)} {oc_p9 kV_p9 dc_p9 pm_p9 cd_p9 ct_p9 : Value}
    {f_p10 : Addr} {od_p10 an_p10 : Option Addr} {sl_p10 : Array (Option Value)} {oc_p10 kV_p10 dc_p10 pm_p10 cd_p10 ct_p10 : Value}
    {f_p11 : Addr} {od_p11 an_p11 : Option Addr} {sl_p11 : Array (Option Value)} {oc_p11 kV_p11 dc_p11 pm_p11 cd_p11 ct_p11 : Value}
    {fp : Addr} {rest : List Value}
    {f_r16 : Addr} {od_r16 an_r16 : Option Addr} {sl_r16 : Array (Option Value)} {oc_r16 kV_r16 dc_r16 pm_r16 cd_r16 ct_r16 : Value}
    {f_d0 : Addr} {od_d0 an_d0 : Option Addr} {sl_d0 : Array (Option Value)} {oc_d0 kV_d0 dc_d0 pm_d0 cd_d0 ct_d0 : Value}
    {f_d1 : Addr} {od_d1 an_d1 : Option Addr} {sl_d1 : Array (Option Value)} {oc_d1 kV_d1 dc_d1 pm_d1 cd_d1 ct_d1 : Value}
    {f_l0 : Addr} {od_l0 an_l0 : Option Addr} {sl_l0 : Array (Option Value)} {oc_l0 kV_l0 dc_l0 pm_l0 cd_l0 ct_l0 : Value}
    {f_l1 : Addr} {od_l1 an_l1 : Option Addr} {sl_l1 : Array (Option Value)} {oc_l1 kV_l1 dc_l1 pm_l1 cd_l1 ct_l1 : Value}
    {f_l2 : Addr} {od_l2 an_l2 : Option Addr} {sl_l2 : Array (Option Value)} {oc_l2 kV_l2 dc_l2 pm_l2 cd_l2 ct_l2 : Value}
    {f_l3 : Addr} {od_l3 an_l3 : Option Addr} {sl_l3 : Array (Option Value)} {oc_l3 kV_l3 dc_l3 pm_l3 cd_l3 ct_l3 : Value}
    {f_l4 : Addr} {od_l4 an_l4 : Option Addr} {sl_l4 : Array (Option Value)} {oc_l4 kV_l4 dc_l4 pm_l4 cd_l4 ct_l4 : Value}
    {f_l5 : Addr} {od_l5 an_l5 : Option Addr} {sl_l5 : Array (Option Value)} {oc_l5 kV_l5 dc_l5 pm_l5 cd_l5 ct_l5 : Value}
    {f_l6 : Addr} {od_l6 an_l6 : Option Addr} {sl_l6 : Array (Option Value)} {oc_l6 kV_l6 dc_l6 pm_l6 cd_l6 ct_l6 : Value}
    {f_l7 : Addr} {od_l7 an_l7 : Option Addr} {sl_l7 : Array (Option Value)} {oc_l7 kV_l7 dc_l7 pm_l7 cd_l7 ct_l7 : Value}
    {f_l8 : Addr} {od_l8 an_l8 : Option Addr} {sl_l8 : Array (Option Value)} {oc_l8 kV_l8 dc_l8 pm_l8 cd_l8 ct_l8 : Value}
    {f_l9 : Addr} {od_l9 an_l9 : Option Addr} {sl_l9 : Array (Option Value)} {oc_l9 kV_l9 dc_l9 pm_l9 cd_l9 ct_l9 : Value}
    {f_l10 : Addr} {od_l10 an_l10 : Option Addr} {sl_l10 : Array (Option Value)} {oc_l10 kV_l10 dc_l10 pm_l10 cd_l10 ct_l10 : Value}
    {bA bU : Bool}
    (aCS : PySem.W.nsIn K mainGlobals "Search" = some (some (.ref CS)))
    (pgCS : PySem.W.plainGet K CS Str.empty = true)
    (hdCS : PySem.W.hasDictIn K CS = true)
    (poCS : PySem.W.plainOver K CS = true)
    (mkCS : PySem.W.makesIn K CS = true)
    (kcCS : PySem.W.keepIn K (.ref CS) = true)
    (saCS : PySem.W.findIn K (.ref CS) "__setattr__" = some (some (.builtin "object.__setattr__")))
    (aCR : PySem.W.nsIn K mainGlobals "Runner" = some (some (.ref CR)))
    (pgCR : PySem.W.plainGet K CR Str.empty = true)
    (hdCR : PySem.W.hasDictIn K CR = true)
    (poCR : PySem.W.plainOver K CR = true)
    (mkCR : PySem.W.makesIn K CR = true)
    (kcCR : PySem.W.keepIn K (.ref CR) = true)
    (saCR : PySem.W.findIn K (.ref CR) "__setattr__" = some (some (.builtin "object.__setattr__")))
    (aCP : PySem.W.nsIn K mainGlobals "Plan" = some (some (.ref CP)))
    (pgCP : PySem.W.plainGet K CP Str.empty = true)
    (hdCP : PySem.W.hasDictIn K CP = true)
    (poCP : PySem.W.plainOver K CP = true)
    (mkCP : PySem.W.makesIn K CP = true)
    (kcCP : PySem.W.keepIn K (.ref CP) = true)
    (saCP : PySem.W.findIn K (.ref CP) "__setattr__" = some (some (.builtin "object.__setattr__")))
    (nCS_plan : PySem.W.findIn K (.ref CS) "plan" = some none)
    (nCS_known : PySem.W.findIn K (.ref CS) "known" = some none)
    (nCR_plan : PySem.W.findIn K (.ref CR) "plan" = some none)
    (nCR_state : PySem.W.findIn K (.ref CR) "state" = some none)
    (nCR_events : PySem.W.findIn K (.ref CR) "events" = some none)
    (nCR_moving : PySem.W.findIn K (.ref CR) "moving" = some none)
    (nCR_halted : PySem.W.findIn K (.ref CR) "halted" = some none)
    (nCP_flows : PySem.W.findIn K (.ref CP) "flows" = some none)
    (nCP_starts : PySem.W.findIn K (.ref CP) "starts" = some none)
    (nCP_blocks : PySem.W.findIn K (.ref CP) "blocks" = some none)
    (a_s0 : PySem.W.findIn K (.ref CS) "__init__" = some (some (.ref f_s0)))
    (i_s0 : PySem.W.isFn K (.ref f_s0) = true)
    (l_s0 : K.lookup f_s0 = some ⟨oc_s0, od_s0, .func (PySem.W.fnOf "__init__" "Search.__init__" (defArgs (se 0)) (defBody (se 0)) (defScope (se 0)) .none kV_s0 dc_s0 pm_s0 an_s0 cd_s0 ct_s0), sl_s0⟩)
    (c_s0 : PySem.W.codeIn K cd_s0 "Search.__init__" = true)
    (k_s0 : PySem.W.keepIn K (.ref f_s0) = true)
    (a_s1 : PySem.W.findIn K (.ref CS) "key_of" = some (some (.ref f_s1)))
    (i_s1 : PySem.W.isFn K (.ref f_s1) = true)
    (l_s1 : K.lookup f_s1 = some ⟨oc_s1, od_s1, .func (PySem.W.fnOf "key_of" "Search.key_of" (defArgs (se 1)) (defBody (se 1)) (defScope (se 1)) .none kV_s1 dc_s1 pm_s1 an_s1 cd_s1 ct_s1), sl_s1⟩)
    (c_s1 : PySem.W.codeIn K cd_s1 "Search.key_of" = true)
    (k_s1 : PySem.W.keepIn K (.ref f_s1) = true)
    (a_s2 : PySem.W.findIn K (.ref CS) "open_outcome" = some (some (.ref f_s2)))
    (i_s2 : PySem.W.isFn K (.ref f_s2) = true)
    (l_s2 : K.lookup f_s2 = some ⟨oc_s2, od_s2, .func (PySem.W.fnOf "open_outcome" "Search.open_outcome" (defArgs (se 2)) (defBody (se 2)) (defScope (se 2)) .none kV_s2 dc_s2 pm_s2 an_s2 cd_s2 ct_s2), sl_s2⟩)
    (c_s2 : PySem.W.codeIn K cd_s2 "Search.open_outcome" = true)
    (k_s2 : PySem.W.keepIn K (.ref f_s2) = true)
    (a_s3 : PySem.W.findIn K (.ref CS) "good_arm" = some (some (.ref f_s3)))
    (i_s3 : PySem.W.isFn K (.ref f_s3) = true)
    (l_s3 : K.lookup f_s3 = some ⟨oc_s3, od_s3, .func (PySem.W.fnOf "good_arm" "Search.good_arm" (defArgs (se 3)) (defBody (se 3)) (defScope (se 3)) .none kV_s3 dc_s3 pm_s3 an_s3 cd_s3 ct_s3), sl_s3⟩)
    (c_s3 : PySem.W.codeIn K cd_s3 "Search.good_arm" = true)
    (k_s3 : PySem.W.keepIn K (.ref f_s3) = true)
    (a_s4 : PySem.W.findIn K (.ref CS) "is_safe" = some (some (.ref f_s4)))
    (i_s4 : PySem.W.isFn K (.ref f_s4) = true)
    (l_s4 : K.lookup f_s4 = some ⟨oc_s4, od_s4, .func (PySem.W.fnOf "is_safe" "Search.is_safe" (defArgs (se 4)) (defBody (se 4)) (defScope (se 4)) .none kV_s4 dc_s4 pm_s4 an_s4 cd_s4 ct_s4), sl_s4⟩)
    (c_s4 : PySem.W.codeIn K cd_s4 "Search.is_safe" = true)
    (k_s4 : PySem.W.keepIn K (.ref f_s4) = true)
    (a_r0 : PySem.W.findIn K (.ref CR) "__init__" = some (some (.ref f_r0)))
    (i_r0 : PySem.W.isFn K (.ref f_r0) = true)
    (l_r0 : K.lookup f_r0 = some ⟨oc_r0, od_r0, .func (PySem.W.fnOf "__init__" "Runner.__init__" (defArgs (ru 0)) (defBody (ru 0)) (defScope (ru 0)) .none kV_r0 dc_r0 pm_r0 an_r0 cd_r0 ct_r0), sl_r0⟩)
    (c_r0 : PySem.W.codeIn K cd_r0 "Runner.__init__" = true)
    (k_r0 : PySem.W.keepIn K (.ref f_r0) = true)
    (a_r1 : PySem.W.findIn K (.ref CR) "check_arm" = some (some (.ref f_r1)))
    (i_r1 : PySem.W.isFn K (.ref f_r1) = true)
    (l_r1 : K.lookup f_r1 = some ⟨oc_r1, od_r1, .func (PySem.W.fnOf "check_arm" "Runner.check_arm" (defArgs (ru 1)) (defBody (ru 1)) (defScope (ru 1)) .none kV_r1 dc_r1 pm_r1 an_r1 cd_r1 ct_r1), sl_r1⟩)
    (c_r1 : PySem.W.codeIn K cd_r1 "Runner.check_arm" = true)
    (k_r1 : PySem.W.keepIn K (.ref f_r1) = true)
    (a_r2 : PySem.W.findIn K (.ref CR) "place_of" = some (some (.ref f_r2)))
    (i_r2 : PySem.W.isFn K (.ref f_r2) = true)
    (l_r2 : K.lookup f_r2 = some ⟨oc_r2, od_r2, .func (PySem.W.fnOf "place_of" "Runner.place_of" (defArgs (ru 2)) (defBody (ru 2)) (defScope (ru 2)) .none kV_r2 dc_r2 pm_r2 an_r2 cd_r2 ct_r2), sl_r2⟩)
    (c_r2 : PySem.W.codeIn K cd_r2 "Runner.place_of" = true)
    (k_r2 : PySem.W.keepIn K (.ref f_r2) = true)
    (a_r3 : PySem.W.findIn K (.ref CR) "is_halted" = some (some (.ref f_r3)))
    (i_r3 : PySem.W.isFn K (.ref f_r3) = true)
    (l_r3 : K.lookup f_r3 = some ⟨oc_r3, od_r3, .func (PySem.W.fnOf "is_halted" "Runner.is_halted" (defArgs (ru 3)) (defBody (ru 3)) (defScope (ru 3)) .none kV_r3 dc_r3 pm_r3 an_r3 cd_r3 ct_r3), sl_r3⟩)
    (c_r3 : PySem.W.codeIn K cd_r3 "Runner.is_halted" = true)
    (k_r3 : PySem.W.keepIn K (.ref f_r3) = true)
    (a_r4 : PySem.W.findIn K (.ref CR) "is_under_way" = some (some (.ref f_r4)))
    (i_r4 : PySem.W.isFn K (.ref f_r4) = true)
    (l_r4 : K.lookup f_r4 = some ⟨oc_r4, od_r4, .func (PySem.W.fnOf "is_under_way" "Runner.is_under_way" (defArgs (ru 4)) (defBody (ru 4)) (defScope (ru 4)) .none kV_r4 dc_r4 pm_r4 an_r4 cd_r4 ct_r4), sl_r4⟩)
    (c_r4 : PySem.W.codeIn K cd_r4 "Runner.is_under_way" = true)
    (k_r4 : PySem.W.keepIn K (.ref f_r4) = true)
    (a_r5 : PySem.W.findIn K (.ref CR) "state_ahead" = some (some (.ref f_r5)))
    (i_r5 : PySem.W.isFn K (.ref f_r5) = true)
    (l_r5 : K.lookup f_r5 = some ⟨oc_r5, od_r5, .func (PySem.W.fnOf "state_ahead" "Runner.state_ahead" (defArgs (ru 5)) (defBody (ru 5)) (defScope (ru 5)) .none kV_r5 dc_r5 pm_r5 an_r5 cd_r5 ct_r5), sl_r5⟩)
    (c_r5 : PySem.W.codeIn K cd_r5 "Runner.state_ahead" = true)
    (k_r5 : PySem.W.keepIn K (.ref f_r5) = true)
    (a_r6 : PySem.W.findIn K (.ref CR) "in_the_way" = some (some (.ref f_r6)))
    (i_r6 : PySem.W.isFn K (.ref f_r6) = true)
    (l_r6 : K.lookup f_r6 = some ⟨oc_r6, od_r6, .func (PySem.W.fnOf "in_the_way" "Runner.in_the_way" (defArgs (ru 6)) (defBody (ru 6)) (defScope (ru 6)) .none kV_r6 dc_r6 pm_r6 an_r6 cd_r6 ct_r6), sl_r6⟩)
    (c_r6 : PySem.W.codeIn K cd_r6 "Runner.in_the_way" = true)
    (k_r6 : PySem.W.keepIn K (.ref f_r6) = true)
    (a_r7 : PySem.W.findIn K (.ref CR) "is_held_back" = some (some (.ref f_r7)))
    (i_r7 : PySem.W.isFn K (.ref f_r7) = true)
    (l_r7 : K.lookup f_r7 = some ⟨oc_r7, od_r7, .func (PySem.W.fnOf "is_held_back" "Runner.is_held_back" (defArgs (ru 7)) (defBody (ru 7)) (defScope (ru 7)) .none kV_r7 dc_r7 pm_r7 an_r7 cd_r7 ct_r7), sl_r7⟩)
    (c_r7 : PySem.W.codeIn K cd_r7 "Runner.is_held_back" = true)
    (k_r7 : PySem.W.keepIn K (.ref f_r7) = true)
    (a_r8 : PySem.W.findIn K (.ref CR) "may" = some (some (.ref f_r8)))
    (i_r8 : PySem.W.isFn K (.ref f_r8) = true)
    (l_r8 : K.lookup f_r8 = some ⟨oc_r8, od_r8, .func (PySem.W.fnOf "may" "Runner.may" (defArgs (ru 8)) (defBody (ru 8)) (defScope (ru 8)) .none kV_r8 dc_r8 pm_r8 an_r8 cd_r8 ct_r8), sl_r8⟩)
    (c_r8 : PySem.W.codeIn K cd_r8 "Runner.may" = true)
    (k_r8 : PySem.W.keepIn K (.ref f_r8) = true)
    (a_r9 : PySem.W.findIn K (.ref CR) "check_told" = some (some (.ref f_r9)))
    (i_r9 : PySem.W.isFn K (.ref f_r9) = true)
    (l_r9 : K.lookup f_r9 = some ⟨oc_r9, od_r9, .func (PySem.W.fnOf "check_told" "Runner.check_told" (defArgs (ru 9)) (defBody (ru 9)) (defScope (ru 9)) .none kV_r9 dc_r9 pm_r9 an_r9 cd_r9 ct_r9), sl_r9⟩)
    (c_r9 : PySem.W.codeIn K cd_r9 "Runner.check_told" = true)
    (k_r9 : PySem.W.keepIn K (.ref f_r9) = true)
    (a_r10 : PySem.W.findIn K (.ref CR) "begin" = some (some (.ref f_r10)))
    (i_r10 : PySem.W.isFn K (.ref f_r10) = true)
    (l_r10 : K.lookup f_r10 = some ⟨oc_r10, od_r10, .func (PySem.W.fnOf "begin" "Runner.begin" (defArgs (ru 10)) (defBody (ru 10)) (defScope (ru 10)) .none kV_r10 dc_r10 pm_r10 an_r10 cd_r10 ct_r10), sl_r10⟩)
    (c_r10 : PySem.W.codeIn K cd_r10 "Runner.begin" = true)
    (k_r10 : PySem.W.keepIn K (.ref f_r10) = true)
    (a_r11 : PySem.W.findIn K (.ref CR) "end" = some (some (.ref f_r11)))
    (i_r11 : PySem.W.isFn K (.ref f_r11) = true)
    (l_r11 : K.lookup f_r11 = some ⟨oc_r11, od_r11, .func (PySem.W.fnOf "end" "Runner.end" (defArgs (ru 11)) (defBody (ru 11)) (defScope (ru 11)) .none kV_r11 dc_r11 pm_r11 an_r11 cd_r11 ct_r11), sl_r11⟩)
    (c_r11 : PySem.W.codeIn K cd_r11 "Runner.end" = true)
    (k_r11 : PySem.W.keepIn K (.ref f_r11) = true)
    (a_r12 : PySem.W.findIn K (.ref CR) "go_on" = some (some (.ref f_r12)))
    (i_r12 : PySem.W.isFn K (.ref f_r12) = true)
    (l_r12 : K.lookup f_r12 = some ⟨oc_r12, od_r12, .func (PySem.W.fnOf "go_on" "Runner.go_on" (defArgs (ru 12)) (defBody (ru 12)) (defScope (ru 12)) .none kV_r12 dc_r12 pm_r12 an_r12 cd_r12 ct_r12), sl_r12⟩)
    (c_r12 : PySem.W.codeIn K cd_r12 "Runner.go_on" = true)
    (k_r12 : PySem.W.keepIn K (.ref f_r12) = true)
    (a_r13 : PySem.W.findIn K (.ref CR) "read_input" = some (some (.ref f_r13)))
    (i_r13 : PySem.W.isFn K (.ref f_r13) = true)
    (l_r13 : K.lookup f_r13 = some ⟨oc_r13, od_r13, .func (PySem.W.fnOf "read_input" "Runner.read_input" (defArgs (ru 13)) (defBody (ru 13)) (defScope (ru 13)) .none kV_r13 dc_r13 pm_r13 an_r13 cd_r13 ct_r13), sl_r13⟩)
    (c_r13 : PySem.W.codeIn K cd_r13 "Runner.read_input" = true)
    (k_r13 : PySem.W.keepIn K (.ref f_r13) = true)
    (a_r14 : PySem.W.findIn K (.ref CR) "halt" = some (some (.ref f_r14)))
    (i_r14 : PySem.W.isFn K (.ref f_r14) = true)
    (l_r14 : K.lookup f_r14 = some ⟨oc_r14, od_r14, .func (PySem.W.fnOf "halt" "Runner.halt" (defArgs (ru 14)) (defBody (ru 14)) (defScope (ru 14)) .none kV_r14 dc_r14 pm_r14 an_r14 cd_r14 ct_r14), sl_r14⟩)
    (c_r14 : PySem.W.codeIn K cd_r14 "Runner.halt" = true)
    (k_r14 : PySem.W.keepIn K (.ref f_r14) = true)
    (a_r15 : PySem.W.findIn K (.ref CR) "free" = some (some (.ref f_r15)))
    (i_r15 : PySem.W.isFn K (.ref f_r15) = true)
    (l_r15 : K.lookup f_r15 = some ⟨oc_r15, od_r15, .func (PySem.W.fnOf "free" "Runner.free" (defArgs (ru 15)) (defBody (ru 15)) (defScope (ru 15)) .none kV_r15 dc_r15 pm_r15 an_r15 cd_r15 ct_r15), sl_r15⟩)
    (c_r15 : PySem.W.codeIn K cd_r15 "Runner.free" = true)
    (k_r15 : PySem.W.keepIn K (.ref f_r15) = true)
    (a_r17 : PySem.W.findIn K (.ref CR) "fork" = some (some (.ref f_r17)))
    (i_r17 : PySem.W.isFn K (.ref f_r17) = true)
    (l_r17 : K.lookup f_r17 = some ⟨oc_r17, od_r17, .func (PySem.W.fnOf "fork" "Runner.fork" (defArgs (ru 17)) (defBody (ru 17)) (defScope (ru 17)) .none kV_r17 dc_r17 pm_r17 an_r17 cd_r17 ct_r17), sl_r17⟩)
    (c_r17 : PySem.W.codeIn K cd_r17 "Runner.fork" = true)
    (k_r17 : PySem.W.keepIn K (.ref f_r17) = true)
    (a_p0 : PySem.W.findIn K (.ref CP) "__init__" = some (some (.ref f_p0)))
    (i_p0 : PySem.W.isFn K (.ref f_p0) = true)
    (l_p0 : K.lookup f_p0 = some ⟨oc_p0, od_p0, .func (PySem.W.fnOf "__init__" "Plan.__init__" (defArgs (pl 0)) (defBody (pl 0)) (defScope (pl 0)) .none kV_p0 dc_p0 pm_p0 an_p0 cd_p0 ct_p0), sl_p0⟩)
    (c_p0 : PySem.W.codeIn K cd_p0 "Plan.__init__" = true)
    (k_p0 : PySem.W.keepIn K (.ref f_p0) = true)
    (a_p1 : PySem.W.findIn K (.ref CP) "is_clear" = some (some (.ref f_p1)))
    (i_p1 : PySem.W.isFn K (.ref f_p1) = true)
    (l_p1 : K.lookup f_p1 = some ⟨oc_p1, od_p1, .func (PySem.W.fnOf "is_clear" "Plan.is_clear" (defArgs (pl 1)) (defBody (pl 1)) (defScope (pl 1)) .none kV_p1 dc_p1 pm_p1 an_p1 cd_p1 ct_p1), sl_p1⟩)
    (c_p1 : PySem.W.codeIn K cd_p1 "Plan.is_clear" = true)
    (k_p1 : PySem.W.keepIn K (.ref f_p1) = true)
    (a_p2 : PySem.W.findIn K (.ref CP) "first_state" = some (some (.ref f_p2)))
    (i_p2 : PySem.W.isFn K (.ref f_p2) = true)
    (l_p2 : K.lookup f_p2 = some ⟨oc_p2, od_p2, .func (PySem.W.fnOf "first_state" "Plan.first_state" (defArgs (pl 2)) (defBody (pl 2)) (defScope (pl 2)) .none kV_p2 dc_p2 pm_p2 an_p2 cd_p2 ct_p2), sl_p2⟩)
    (c_p2 : PySem.W.codeIn K cd_p2 "Plan.first_state" = true)
    (k_p2 : PySem.W.keepIn K (.ref f_p2) = true)
    (a_p3 : PySem.W.findIn K (.ref CP) "step_of" = some (some (.ref f_p3)))
    (i_p3 : PySem.W.isFn K (.ref f_p3) = true)
    (l_p3 : K.lookup f_p3 = some ⟨oc_p3, od_p3, .func (PySem.W.fnOf "step_of" "Plan.step_of" (defArgs (pl 3)) (defBody (pl 3)) (defScope (pl 3)) .none kV_p3 dc_p3 pm_p3 an_p3 cd_p3 ct_p3), sl_p3⟩)
    (c_p3 : PySem.W.codeIn K cd_p3 "Plan.step_of" = true)
    (k_p3 : PySem.W.keepIn K (.ref f_p3) = true)
    (a_p4 : PySem.W.findIn K (.ref CP) "has_ended" = some (some (.ref f_p4)))
    (i_p4 : PySem.W.isFn K (.ref f_p4) = true)
    (l_p4 : K.lookup f_p4 = some ⟨oc_p4, od_p4, .func (PySem.W.fnOf "has_ended" "Plan.has_ended" (defArgs (pl 4)) (defBody (pl 4)) (defScope (pl 4)) .none kV_p4 dc_p4 pm_p4 an_p4 cd_p4 ct_p4), sl_p4⟩)
    (c_p4 : PySem.W.codeIn K cd_p4 "Plan.has_ended" = true)
    (k_p4 : PySem.W.keepIn K (.ref f_p4) = true)
    (a_p5 : PySem.W.findIn K (.ref CP) "all_ended" = some (some (.ref f_p5)))
    (i_p5 : PySem.W.isFn K (.ref f_p5) = true)
    (l_p5 : K.lookup f_p5 = some ⟨oc_p5, od_p5, .func (PySem.W.fnOf "all_ended" "Plan.all_ended" (defArgs (pl 5)) (defBody (pl 5)) (defScope (pl 5)) .none kV_p5 dc_p5 pm_p5 an_p5 cd_p5 ct_p5), sl_p5⟩)
    (c_p5 : PySem.W.codeIn K cd_p5 "Plan.all_ended" = true)
    (k_p5 : PySem.W.keepIn K (.ref f_p5) = true)
    (a_p6 : PySem.W.findIn K (.ref CP) "rest_of" = some (some (.ref f_p6)))
    (i_p6 : PySem.W.isFn K (.ref f_p6) = true)
    (l_p6 : K.lookup f_p6 = some ⟨oc_p6, od_p6, .func (PySem.W.fnOf "rest_of" "Plan.rest_of" (defArgs (pl 6)) (defBody (pl 6)) (defScope (pl 6)) .none kV_p6 dc_p6 pm_p6 an_p6 cd_p6 ct_p6), sl_p6⟩)
    (c_p6 : PySem.W.codeIn K cd_p6 "Plan.rest_of" = true)
    (k_p6 : PySem.W.keepIn K (.ref f_p6) = true)
    (a_p7 : PySem.W.findIn K (.ref CP) "wanted" = some (some (.ref f_p7)))
    (i_p7 : PySem.W.isFn K (.ref f_p7) = true)
    (l_p7 : K.lookup f_p7 = some ⟨oc_p7, od_p7, .func (PySem.W.fnOf "wanted" "Plan.wanted" (defArgs (pl 7)) (defBody (pl 7)) (defScope (pl 7)) .none kV_p7 dc_p7 pm_p7 an_p7 cd_p7 ct_p7), sl_p7⟩)
    (c_p7 : PySem.W.codeIn K cd_p7 "Plan.wanted" = true)
    (k_p7 : PySem.W.keepIn K (.ref f_p7) = true)
    (a_p8 : PySem.W.findIn K (.ref CP) "hindered_by" = some (some (.ref f_p8)))
    (i_p8 : PySem.W.isFn K (.ref f_p8) = true)
    (l_p8 : K.lookup f_p8 = some ⟨oc_p8, od_p8, .func (PySem.W.fnOf "hindered_by" "Plan.hindered_by" (defArgs (pl 8)) (defBody (pl 8)) (defScope (pl 8)) .none kV_p8 dc_p8 pm_p8 an_p8 cd_p8 ct_p8), sl_p8⟩)
    (c_p8 : PySem.W.codeIn K cd_p8 "Plan.hindered_by" = true)
    (k_p8 : PySem.W.keepIn K (.ref f_p8) = true)
    (a_p9 : PySem.W.findIn K (.ref CP) "can_step" = some (some (.ref f_p9)))
    (i_p9 : PySem.W.isFn K (.ref f_p9) = true)
    (l_p9 : K.lookup f_p9 = some ⟨oc_p9, od_p9, .func (PySem.W.fnOf "can_step" "Plan.can_step" (defArgs (pl 9)) (defBody (pl 9)) (defScope (pl 9)) .none kV_p9 dc_p9 pm_p9 an_p9 cd_p9 ct_p9), sl_p9⟩)
    (c_p9 : PySem.W.codeIn K cd_p9 "Plan.can_step" = true)
    (k_p9 : PySem.W.keepIn K (.ref f_p9) = true)
    (a_p10 : PySem.W.findIn K (.ref CP) "stepped" = some (some (.ref f_p10)))
    (i_p10 : PySem.W.isFn K (.ref f_p10) = true)
    (l_p10 : K.lookup f_p10 = some ⟨oc_p10, od_p10, .func (PySem.W.fnOf "stepped" "Plan.stepped" (defArgs (pl 10)) (defBody (pl 10)) (defScope (pl 10)) .none kV_p10 dc_p10 pm_p10 an_p10 cd_p10 ct_p10), sl_p10⟩)
    (c_p10 : PySem.W.codeIn K cd_p10 "Plan.stepped" = true)
    (k_p10 : PySem.W.keepIn K (.ref f_p10) = true)
    (a_p11 : PySem.W.findIn K (.ref CP) "outcomes" = some (some (.ref f_p11)))
    (i_p11 : PySem.W.isFn K (.ref f_p11) = true)
    (l_p11 : K.lookup f_p11 = some ⟨oc_p11, od_p11, .func (PySem.W.fnOf "outcomes" "Plan.outcomes" (defArgs (pl 11)) (defBody (pl 11)) (defScope (pl 11)) .none kV_p11 dc_p11 pm_p11 an_p11 cd_p11 ct_p11), sl_p11⟩)
    (c_p11 : PySem.W.codeIn K cd_p11 "Plan.outcomes" = true)
    (k_p11 : PySem.W.keepIn K (.ref f_p11) = true)
    (pa : PySem.W.findIn K (.ref CR) "is_over" = some (some (.ref fp)))
    (pget : PySem.W.specialIn K (.ref fp) "__get__" = some (some (.builtin "property.__get__")))
    (ptak : PySem.W.takesIn K (.ref fp) = some true)
    (prec : PySem.W.recIn K fp "property" = some (.ref f_r16 :: rest))
    (l_r16 : K.lookup f_r16 = some ⟨oc_r16, od_r16, .func (PySem.W.fnOf "is_over" "Runner.is_over" (defArgs (ru 16)) (defBody (ru 16)) (defScope (ru 16)) .none kV_r16 dc_r16 pm_r16 an_r16 cd_r16 ct_r16), sl_r16⟩)
    (c_r16 : PySem.W.codeIn K cd_r16 "Runner.is_over" = true)
    (k_r16 : PySem.W.keepIn K (.ref f_r16) = true)
    (a_d0 : PySem.W.nsIn K mainGlobals "landing" = some (some (.ref f_d0)))
    (l_d0 : K.lookup f_d0 = some ⟨oc_d0, od_d0, .func (PySem.W.fnOf "landing" "landing" (defArgs sLanding) (defBody sLanding) (defScope sLanding) .none kV_d0 dc_d0 pm_d0 an_d0 cd_d0 ct_d0), sl_d0⟩)
    (c_d0 : PySem.W.codeIn K cd_d0 "landing" = true)
    (k_d0 : PySem.W.keepIn K (.ref f_d0) = true)
    (a_d1 : PySem.W.nsIn K mainGlobals "switched" = some (some (.ref f_d1)))
    (l_d1 : K.lookup f_d1 = some ⟨oc_d1, od_d1, .func (PySem.W.fnOf "switched" "switched" (defArgs sSwitched) (defBody sSwitched) (defScope sSwitched) .none kV_d1 dc_d1 pm_d1 an_d1 cd_d1 ct_d1), sl_d1⟩)
    (c_d1 : PySem.W.codeIn K cd_d1 "switched" = true)
    (k_d1 : PySem.W.keepIn K (.ref f_d1) = true)
    (a_l0 : PySem.W.nsIn K mainGlobals "_law_number" = some (some (.ref f_l0)))
    (l_l0 : K.lookup f_l0 = some ⟨oc_l0, od_l0, .func (PySem.W.fnOf "_law_number" "_law_number" (defArgs sNumber) (defBody sNumber) (defScope sNumber) .none kV_l0 dc_l0 pm_l0 an_l0 cd_l0 ct_l0), sl_l0⟩)
    (c_l0 : PySem.W.codeIn K cd_l0 "_law_number" = true)
    (k_l0 : PySem.W.keepIn K (.ref f_l0) = true)
    (a_l1 : PySem.W.nsIn K mainGlobals "_law_digits" = some (some (.ref f_l1)))
    (l_l1 : K.lookup f_l1 = some ⟨oc_l1, od_l1, .func (PySem.W.fnOf "_law_digits" "_law_digits" (defArgs sDigits) (defBody sDigits) (defScope sDigits) .none kV_l1 dc_l1 pm_l1 an_l1 cd_l1 ct_l1), sl_l1⟩)
    (c_l1 : PySem.W.codeIn K cd_l1 "_law_digits" = true)
    (k_l1 : PySem.W.keepIn K (.ref f_l1) = true)
    (a_l2 : PySem.W.nsIn K mainGlobals "_law_digit" = some (some (.ref f_l2)))
    (l_l2 : K.lookup f_l2 = some ⟨oc_l2, od_l2, .func (PySem.W.fnOf "_law_digit" "_law_digit" (defArgs sDigit) (defBody sDigit) (defScope sDigit) .none kV_l2 dc_l2 pm_l2 an_l2 cd_l2 ct_l2), sl_l2⟩)
    (c_l2 : PySem.W.codeIn K cd_l2 "_law_digit" = true)
    (k_l2 : PySem.W.keepIn K (.ref f_l2) = true)
    (a_l3 : PySem.W.nsIn K mainGlobals "_law_step" = some (some (.ref f_l3)))
    (l_l3 : K.lookup f_l3 = some ⟨oc_l3, od_l3, .func (PySem.W.fnOf "_law_step" "_law_step" (defArgs sStep) (defBody sStep) (defScope sStep) .none kV_l3 dc_l3 pm_l3 an_l3 cd_l3 ct_l3), sl_l3⟩)
    (c_l3 : PySem.W.codeIn K cd_l3 "_law_step" = true)
    (k_l3 : PySem.W.keepIn K (.ref f_l3) = true)
    (a_l4 : PySem.W.nsIn K mainGlobals "_law_place" = some (some (.ref f_l4)))
    (l_l4 : K.lookup f_l4 = some ⟨oc_l4, od_l4, .func (PySem.W.fnOf "_law_place" "_law_place" (defArgs sPlace) (defBody sPlace) (defScope sPlace) .none kV_l4 dc_l4 pm_l4 an_l4 cd_l4 ct_l4), sl_l4⟩)
    (c_l4 : PySem.W.codeIn K cd_l4 "_law_place" = true)
    (k_l4 : PySem.W.keepIn K (.ref f_l4) = true)
    (a_l5 : PySem.W.nsIn K mainGlobals "_law_plan" = some (some (.ref f_l5)))
    (l_l5 : K.lookup f_l5 = some ⟨oc_l5, od_l5, .func (PySem.W.fnOf "_law_plan" "_law_plan" (defArgs sLawPlan) (defBody sLawPlan) (defScope sLawPlan) .none kV_l5 dc_l5 pm_l5 an_l5 cd_l5 ct_l5), sl_l5⟩)
    (c_l5 : PySem.W.codeIn K cd_l5 "_law_plan" = true)
    (k_l5 : PySem.W.keepIn K (.ref f_l5) = true)
    (a_l6 : PySem.W.nsIn K mainGlobals "_law_event" = some (some (.ref f_l6)))
    (l_l6 : K.lookup f_l6 = some ⟨oc_l6, od_l6, .func (PySem.W.fnOf "_law_event" "_law_event" (defArgs sEvent) (defBody sEvent) (defScope sEvent) .none kV_l6 dc_l6 pm_l6 an_l6 cd_l6 ct_l6), sl_l6⟩)
    (c_l6 : PySem.W.codeIn K cd_l6 "_law_event" = true)
    (k_l6 : PySem.W.keepIn K (.ref f_l6) = true)
    (a_l7 : PySem.W.nsIn K mainGlobals "_law_new" = some (some (.ref f_l7)))
    (l_l7 : K.lookup f_l7 = some ⟨oc_l7, od_l7, .func (PySem.W.fnOf "_law_new" "_law_new" (defArgs sNew) (defBody sNew) (defScope sNew) .none kV_l7 dc_l7 pm_l7 an_l7 cd_l7 ct_l7), sl_l7⟩)
    (c_l7 : PySem.W.codeIn K cd_l7 "_law_new" = true)
    (k_l7 : PySem.W.keepIn K (.ref f_l7) = true)
    (a_l8 : PySem.W.nsIn K mainGlobals "_law_closed" = some (some (.ref f_l8)))
    (l_l8 : K.lookup f_l8 = some ⟨oc_l8, od_l8, .func (PySem.W.fnOf "_law_closed" "_law_closed" (defArgs sClosed) (defBody sClosed) (defScope sClosed) .none kV_l8 dc_l8 pm_l8 an_l8 cd_l8 ct_l8), sl_l8⟩)
    (c_l8 : PySem.W.codeIn K cd_l8 "_law_closed" = true)
    (k_l8 : PySem.W.keepIn K (.ref f_l8) = true)
    (a_l9 : PySem.W.nsIn K mainGlobals "_law_something" = some (some (.ref f_l9)))
    (l_l9 : K.lookup f_l9 = some ⟨oc_l9, od_l9, .func (PySem.W.fnOf "_law_something" "_law_something" (defArgs sSomething) (defBody sSomething) (defScope sSomething) .none kV_l9 dc_l9 pm_l9 an_l9 cd_l9 ct_l9), sl_l9⟩)
    (c_l9 : PySem.W.codeIn K cd_l9 "_law_something" = true)
    (k_l9 : PySem.W.keepIn K (.ref f_l9) = true)
    (a_l10 : PySem.W.nsIn K mainGlobals "law" = some (some (.ref f_l10)))
    (l_l10 : K.lookup f_l10 = some ⟨oc_l10, od_l10, .func (PySem.W.fnOf "law" "law" (defArgs sLaw) (defBody sLaw) (defScope sLaw) .none kV_l10 dc_l10 pm_l10 an_l10 cd_l10 ct_l10), sl_l10⟩)
    (c_l10 : PySem.W.codeIn K cd_l10 "law" = true)
    (k_l10 : PySem.W.keepIn K (.ref f_l10) = true)
    (z_len : PySem.W.nsIn K mainGlobals "len" = some none)
    (z_range : PySem.W.nsIn K mainGlobals "range" = some none)
    (z_list : PySem.W.nsIn K mainGlobals "list" = some none)
    (z_tuple : PySem.W.nsIn K mainGlobals "tuple" = some none)
    (z_enumerate : PySem.W.nsIn K mainGlobals "enumerate" = some none)
    (z_sorted : PySem.W.nsIn K mainGlobals "sorted" = some none)
    (z_all : PySem.W.nsIn K mainGlobals "all" = some none)
    (z_int : PySem.W.nsIn K mainGlobals "int" = some none)
    (z_isinstance : PySem.W.nsIn K mainGlobals "isinstance" = some none)
    (aCN : PySem.W.nsIn K mainGlobals "NotNow" = some (some (.ref CN)))
    (xCN : PySem.W.excIn K CN [.type "ValueError", .type "Exception", .type "BaseException", .type "object"] "ValueError.__new__" = true)
    (kcCN : PySem.W.keepIn K (.ref CN) = true)
    (sbCN : PySem.W.subIn K (.ref CN) (.type "BaseException") = some true)
    (tyCN : PySem.W.typeIn K (.ref CN) = some (.type "type"))
    (hdCN : PySem.W.hasDictIn K CN = true)
    (ssCN : PySem.W.subIn K (.ref CN) (.ref CN) = some true)
    (aCE : PySem.W.nsIn K mainGlobals "NotSafe" = some (some (.ref CE)))
    (xCE : PySem.W.excIn K CE [.type "ValueError", .type "Exception", .type "BaseException", .type "object"] "ValueError.__new__" = true)
    (kcCE : PySem.W.keepIn K (.ref CE) = true)
    (sbCE : PySem.W.subIn K (.ref CE) (.type "BaseException") = some true)
    (tyCE : PySem.W.typeIn K (.ref CE) = some (.type "type"))
    (hdCE : PySem.W.hasDictIn K CE = true)
    (ssCE : PySem.W.subIn K (.ref CE) (.ref CE) = some true)
    (aCA : PySem.W.nsIn K mainGlobals "ArmwarrantError" = some (some (.ref CA)))
    (tyCA : PySem.W.typeIn K (.ref CA) = some (.type "type"))
    (hdCA : PySem.W.hasDictIn K CA = true)
    (aCU : PySem.W.nsIn K mainGlobals "UnknownArm" = some (some (.ref CU)))
    (tyCU : PySem.W.typeIn K (.ref CU) = some (.type "type"))
    (hdCU : PySem.W.hasDictIn K CU = true)
    (ssA : PySem.W.subIn K (.ref CN) (.ref CA) = some bA)
    (ssU : PySem.W.subIn K (.ref CN) (.ref CU) = some bU)
    (eg : PySem.W.findIn K (.ref CN) "__getattribute__" = some (some (.builtin "BaseException.__getattribute__")))
    (ek : PySem.W.findIn K (.ref CN) "__getattr__" = some none)
    (ea : PySem.W.findIn K (.ref CN) "__class__" = some (some (.builtin "object.__class__")))
    (en : PySem.W.specialIn K (.builtin "object.__class__") "__get__" = some (some (.builtin "getset_descriptor.__get__")))
    (et : PySem.W.takesIn K (.builtin "object.__class__") = some true)
    (em : PySem.W.mroIn K CN (.type "object") = some true)
    : ∃ fd : FuncData, (∀ (s : Shared) (v : Value), BindsTo s fd ⟨[v], []⟩ [("_law_script", v)]) ∧ ∀ base : Heap, K.In base → base.Ns mainGlobals mg → FnOk P w K mg base CX0 12 fa fd ["_law_script"] (spLaw K) := by
  have e := hfa.symm.trans (PySem.W.mg_of X G a_l10)
  cases e
  have TP : PTxt K mg CP := ⟨⟨pgCP, hdCP, poCP, saCP⟩, nCP_flows, nCP_starts, nCP_blocks, (PySem.W.mg_none_of X G z_len), (PySem.W.mg_none_of X G z_range), (PySem.W.mg_none_of X G z_list), (PySem.W.mg_none_of X G z_tuple), (PySem.W.mg_none_of X G z_enumerate)⟩
  have TS : STxt K mg CS := ⟨⟨pgCS, hdCS, poCS, saCS⟩, nCS_plan, nCS_known, (PySem.W.mg_none_of X G z_len), (PySem.W.mg_none_of X G z_range), (PySem.W.mg_none_of X G z_list), (PySem.W.mg_none_of X G z_tuple), (PySem.W.mg_none_of X G z_sorted), (PySem.W.mg_none_of X G z_all)⟩
  have TR : RTxt K mg CR := ⟨⟨pgCR, hdCR, poCR, saCR⟩, nCR_plan, nCR_state, nCR_events, nCR_moving, nCR_halted, (PySem.W.mg_none_of X G z_len), (PySem.W.mg_none_of X G z_range), (PySem.W.mg_none_of X G z_list), (PySem.W.mg_none_of X G z_enumerate)⟩
  have TD : DTxt K mg := ⟨(PySem.W.mg_none_of X G z_len), (PySem.W.mg_none_of X G z_range), (PySem.W.mg_none_of X G z_list), (PySem.W.mg_none_of X G z_tuple), (PySem.W.mg_none_of X G z_enumerate)⟩
  have TL : LTxt mg := ⟨(PySem.W.mg_none_of X G z_len), (PySem.W.mg_none_of X G z_int), (PySem.W.mg_none_of X G z_range), (PySem.W.mg_none_of X G z_list)⟩
  have EN : ETxt K mg "NotNow" CN := ⟨PySem.W.mg_of X G aCN, xCN, kcCN, sbCN, tyCN⟩
  have EE : ETxt K mg "NotSafe" CE := ⟨PySem.W.mg_of X G aCE, xCE, kcCE, sbCE, tyCE⟩
  have NT : NTxt K mg CN CA CU := ⟨PySem.W.mg_of X G aCN, PySem.W.exm_ref sbCN hdCN tyCN ssCN, ⟨eg, ek, sbCN, hdCN, ea, en, et, em⟩, PySem.W.mg_of X G aCA, PySem.W.mg_of X G aCU, kit_ref tyCA hdCA ssA, kit_ref tyCU hdCU ssU, (PySem.W.mg_none_of X G z_isinstance)⟩
  have teE : PySem.W.exmOne K (.ref CE) (.ref CE) = some true := PySem.W.exm_ref sbCE hdCE tyCE ssCE
  have F_s0 := fun_mk (x := "__init__") (qual := "Search.__init__") (st := (se 0)) l_s0 c_s0 k_s0
  have b_s0 := F_s0.binds (ps := ["self", "plan"]) fun _ _ _ _ _ _ us hl => match us, hl with | [_, _], _ => rfl
  have F_s1 := fun_mk (x := "key_of") (qual := "Search.key_of") (st := (se 1)) l_s1 c_s1 k_s1
  have b_s1 := F_s1.binds (ps := ["self", "state"]) fun _ _ _ _ _ _ us hl => match us, hl with | [_, _], _ => rfl
  have F_s2 := fun_mk (x := "open_outcome") (qual := "Search.open_outcome") (st := (se 2)) l_s2 c_s2 k_s2
  have b_s2 := F_s2.binds (ps := ["self", "state"]) fun _ _ _ _ _ _ us hl => match us, hl with | [_, _], _ => rfl
  have F_s3 := fun_mk (x := "good_arm") (qual := "Search.good_arm") (st := (se 3)) l_s3 c_s3 k_s3
  have b_s3 := F_s3.binds (ps := ["self", "state"]) fun _ _ _ _ _ _ us hl => match us, hl with | [_, _], _ => rfl
  have F_s4 := fun_mk (x := "is_safe") (qual := "Search.is_safe") (st := (se 4)) l_s4 c_s4 k_s4
  have b_s4 := F_s4.binds (ps := ["self", "state"]) fun _ _ _ _ _ _ us hl => match us, hl with | [_, _], _ => rfl
  have F_r0 := fun_mk (x := "__init__") (qual := "Runner.__init__") (st := (ru 0)) l_r0 c_r0 k_r0
  have b_r0 := F_r0.binds (ps := ["self", "plan"]) fun _ _ _ _ _ _ us hl => match us, hl with | [_, _], _ => rfl
  have F_r1 := fun_mk (x := "check_arm") (qual := "Runner.check_arm") (st := (ru 1)) l_r1 c_r1 k_r1
  have b_r1 := F_r1.binds (ps := ["self", "arm"]) fun _ _ _ _ _ _ us hl => match us, hl with | [_, _], _ => rfl
  have F_r2 := fun_mk (x := "place_of") (qual := "Runner.place_of") (st := (ru 2)) l_r2 c_r2 k_r2
  have b_r2 := F_r2.binds (ps := ["self", "arm"]) fun _ _ _ _ _ _ us hl => match us, hl with | [_, _], _ => rfl
  have F_r3 := fun_mk (x := "is_halted") (qual := "Runner.is_halted") (st := (ru 3)) l_r3 c_r3 k_r3
  have b_r3 := F_r3.binds (ps := ["self", "arm"]) fun _ _ _ _ _ _ us hl => match us, hl with | [_, _], _ => rfl
  have F_r4 := fun_mk (x := "is_under_way") (qual := "Runner.is_under_way") (st := (ru 4)) l_r4 c_r4 k_r4
  have b_r4 := F_r4.binds (ps := ["self", "arm"]) fun _ _ _ _ _ _ us hl => match us, hl with | [_, _], _ => rfl
  have F_r5 := fun_mk (x := "state_ahead") (qual := "Runner.state_ahead") (st := (ru 5)) l_r5 c_r5 k_r5
  have b_r5 := F_r5.binds (ps := ["self"]) fun _ _ _ _ _ _ us hl => match us, hl with | [_], _ => rfl
  have F_r6 := fun_mk (x := "in_the_way") (qual := "Runner.in_the_way") (st := (ru 6)) l_r6 c_r6 k_r6
  have b_r6 := F_r6.binds (ps := ["self", "arm"]) fun _ _ _ _ _ _ us hl => match us, hl with | [_, _], _ => rfl
  have F_r7 := fun_mk (x := "is_held_back") (qual := "Runner.is_held_back") (st := (ru 7)) l_r7 c_r7 k_r7
  have b_r7 := F_r7.binds (ps := ["self", "arm"]) fun _ _ _ _ _ _ us hl => match us, hl with | [_, _], _ => rfl
  have F_r8 := fun_mk (x := "may") (qual := "Runner.may") (st := (ru 8)) l_r8 c_r8 k_r8
  have b_r8 := F_r8.binds (ps := ["self", "arm"]) fun _ _ _ _ _ _ us hl => match us, hl with | [_, _], _ => rfl
  have F_r9 := fun_mk (x := "check_told") (qual := "Runner.check_told") (st := (ru 9)) l_r9 c_r9 k_r9
  have b_r9 := F_r9.binds (ps := ["self", "arm", "word"]) fun _ _ _ _ _ _ us hl => match us, hl with | [_, _, _], _ => rfl
  have F_r10 := fun_mk (x := "begin") (qual := "Runner.begin") (st := (ru 10)) l_r10 c_r10 k_r10
  have b_r10 := F_r10.binds (ps := ["self", "arm"]) fun _ _ _ _ _ _ us hl => match us, hl with | [_, _], _ => rfl
  have F_r11 := fun_mk (x := "end") (qual := "Runner.end") (st := (ru 11)) l_r11 c_r11 k_r11
  have b_r11 := F_r11.binds (ps := ["self", "arm"]) fun _ _ _ _ _ _ us hl => match us, hl with | [_, _], _ => rfl
  have F_r12 := fun_mk (x := "go_on") (qual := "Runner.go_on") (st := (ru 12)) l_r12 c_r12 k_r12
  have b_r12 := F_r12.binds (ps := ["self", "arm"]) fun _ _ _ _ _ _ us hl => match us, hl with | [_, _], _ => rfl
  have F_r13 := fun_mk (x := "read_input") (qual := "Runner.read_input") (st := (ru 13)) l_r13 c_r13 k_r13
  have F_r14 := fun_mk (x := "halt") (qual := "Runner.halt") (st := (ru 14)) l_r14 c_r14 k_r14
  have b_r14 := F_r14.binds (ps := ["self", "arm"]) fun _ _ _ _ _ _ us hl => match us, hl with | [_, _], _ => rfl
  have F_r15 := fun_mk (x := "free") (qual := "Runner.free") (st := (ru 15)) l_r15 c_r15 k_r15
  have b_r15 := F_r15.binds (ps := ["self", "arm"]) fun _ _ _ _ _ _ us hl => match us, hl with | [_, _], _ => rfl
  have F_r17 := fun_mk (x := "fork") (qual := "Runner.fork") (st := (ru 17)) l_r17 c_r17 k_r17
  have b_r17 := F_r17.binds (ps := ["self"]) fun _ _ _ _ _ _ us hl => match us, hl with | [_], _ => rfl
  have F_p0 := fun_mk (x := "__init__") (qual := "Plan.__init__") (st := (pl 0)) l_p0 c_p0 k_p0
  have F_p1 := fun_mk (x := "is_clear") (qual := "Plan.is_clear") (st := (pl 1)) l_p1 c_p1 k_p1
  have b_p1 := F_p1.binds (ps := ["self", "arm", "place", "other", "other_place"]) fun _ _ _ _ _ _ us hl => match us, hl with | [_, _, _, _, _], _ => rfl
  have F_p2 := fun_mk (x := "first_state") (qual := "Plan.first_state") (st := (pl 2)) l_p2 c_p2 k_p2
  have b_p2 := F_p2.binds (ps := ["self"]) fun _ _ _ _ _ _ us hl => match us, hl with | [_], _ => rfl
  have F_p3 := fun_mk (x := "step_of") (qual := "Plan.step_of") (st := (pl 3)) l_p3 c_p3 k_p3
  have b_p3 := F_p3.binds (ps := ["self", "state", "arm"]) fun _ _ _ _ _ _ us hl => match us, hl with | [_, _, _], _ => rfl
  have F_p4 := fun_mk (x := "has_ended") (qual := "Plan.has_ended") (st := (pl 4)) l_p4 c_p4 k_p4
  have b_p4 := F_p4.binds (ps := ["self", "state", "arm"]) fun _ _ _ _ _ _ us hl => match us, hl with | [_, _, _], _ => rfl
  have F_p5 := fun_mk (x := "all_ended") (qual := "Plan.all_ended") (st := (pl 5)) l_p5 c_p5 k_p5
  have b_p5 := F_p5.binds (ps := ["self", "state"]) fun _ _ _ _ _ _ us hl => match us, hl with | [_, _], _ => rfl
  have F_p6 := fun_mk (x := "rest_of") (qual := "Plan.rest_of") (st := (pl 6)) l_p6 c_p6 k_p6
  have b_p6 := F_p6.binds (ps := ["self", "state", "arm"]) fun _ _ _ _ _ _ us hl => match us, hl with | [_, _, _], _ => rfl
  have F_p7 := fun_mk (x := "wanted") (qual := "Plan.wanted") (st := (pl 7)) l_p7 c_p7 k_p7
  have b_p7 := F_p7.binds (ps := ["self", "state", "arm"]) fun _ _ _ _ _ _ us hl => match us, hl with | [_, _, _], _ => rfl
  have F_p8 := fun_mk (x := "hindered_by") (qual := "Plan.hindered_by") (st := (pl 8)) l_p8 c_p8 k_p8
  have b_p8 := F_p8.binds (ps := ["self", "state", "arm"]) fun _ _ _ _ _ _ us hl => match us, hl with | [_, _, _], _ => rfl
  have F_p9 := fun_mk (x := "can_step") (qual := "Plan.can_step") (st := (pl 9)) l_p9 c_p9 k_p9
  have b_p9 := F_p9.binds (ps := ["self", "state", "arm"]) fun _ _ _ _ _ _ us hl => match us, hl with | [_, _, _], _ => rfl
  have F_p10 := fun_mk (x := "stepped") (qual := "Plan.stepped") (st := (pl 10)) l_p10 c_p10 k_p10
  have b_p10 := F_p10.binds (ps := ["self", "state", "arm", "spot", "signals"]) fun _ _ _ _ _ _ us hl => match us, hl with | [_, _, _, _, _], _ => rfl
  have F_p11 := fun_mk (x := "outcomes") (qual := "Plan.outcomes") (st := (pl 11)) l_p11 c_p11 k_p11
  have b_p11 := F_p11.binds (ps := ["self", "state", "arm"]) fun _ _ _ _ _ _ us hl => match us, hl with | [_, _, _], _ => rfl
  have F_r16 := fun_mk (x := "is_over") (qual := "Runner.is_over") (st := (ru 16)) l_r16 c_r16 k_r16
  have b_r16 := F_r16.binds (ps := ["self"]) fun _ _ _ _ _ _ us hl => match us, hl with | [_], _ => rfl
  have F_d0 := fun_mk (x := "landing") (qual := "landing") (st := sLanding) l_d0 c_d0 k_d0
  have b_d0 := F_d0.binds (ps := ["flow", "index"]) fun _ _ _ _ _ _ us hl => match us, hl with | [_, _], _ => rfl
  have F_d1 := fun_mk (x := "switched") (qual := "switched") (st := sSwitched) l_d1 c_d1 k_d1
  have b_d1 := F_d1.binds (ps := ["signals", "name", "on"]) fun _ _ _ _ _ _ us hl => match us, hl with | [_, _, _], _ => rfl
  have F_l0 := fun_mk (x := "_law_number") (qual := "_law_number") (st := sNumber) l_l0 c_l0 k_l0
  have b_l0 := F_l0.binds (ps := ["_law_script", "_law_k"]) fun _ _ _ _ _ _ us hl => match us, hl with | [_, _], _ => rfl
  have F_l1 := fun_mk (x := "_law_digits") (qual := "_law_digits") (st := sDigits) l_l1 c_l1 k_l1
  have b_l1 := F_l1.binds (ps := ["_law_script", "_law_first", "_law_count"]) fun _ _ _ _ _ _ us hl => match us, hl with | [_, _, _], _ => rfl
  have F_l2 := fun_mk (x := "_law_digit") (qual := "_law_digit") (st := sDigit) l_l2 c_l2 k_l2
  have b_l2 := F_l2.binds (ps := ["_law_digits_here", "_law_many"]) fun _ _ _ _ _ _ us hl => match us, hl with | [_, _], _ => rfl
  have F_l3 := fun_mk (x := "_law_step") (qual := "_law_step") (st := sStep) l_l3 c_l3 k_l3
  have b_l3 := F_l3.binds (ps := ["_law_digits_here", "_law_index", "_law_size", "_law_signals"]) fun _ _ _ _ _ _ us hl => match us, hl with | [_, _, _, _], _ => rfl
  have F_l4 := fun_mk (x := "_law_place") (qual := "_law_place") (st := sPlace) l_l4 c_l4 k_l4
  have b_l4 := F_l4.binds (ps := ["_law_digits_here"]) fun _ _ _ _ _ _ us hl => match us, hl with | [_], _ => rfl
  have F_l5 := fun_mk (x := "_law_plan") (qual := "_law_plan") (st := sLawPlan) l_l5 c_l5 k_l5
  have b_l5 := F_l5.binds (ps := ["_law_digits_here"]) fun _ _ _ _ _ _ us hl => match us, hl with | [_], _ => rfl
  have F_l6 := fun_mk (x := "_law_event") (qual := "_law_event") (st := sEvent) l_l6 c_l6 k_l6
  have b_l6 := F_l6.binds (ps := ["_law_runner", "_law_kind", "_law_arm"]) fun _ _ _ _ _ _ us hl => match us, hl with | [_, _, _], _ => rfl
  have F_l7 := fun_mk (x := "_law_new") (qual := "_law_new") (st := sNew) l_l7 c_l7 k_l7
  have b_l7 := F_l7.binds (ps := ["_law_plan_here"]) fun _ _ _ _ _ _ us hl => match us, hl with | [_], _ => rfl
  have F_l8 := fun_mk (x := "_law_closed") (qual := "_law_closed") (st := sClosed) l_l8 c_l8 k_l8
  have b_l8 := F_l8.binds (ps := ["_law_blocked", "_law_starts"]) fun _ _ _ _ _ _ us hl => match us, hl with | [_, _], _ => rfl
  have F_l9 := fun_mk (x := "_law_something") (qual := "_law_something") (st := sSomething) l_l9 c_l9 k_l9
  have b_l9 := F_l9.binds (ps := ["_law_runner", "_law_arms"]) fun _ _ _ _ _ _ us hl => match us, hl with | [_, _], _ => rfl
  have F_l10 := fun_mk (x := "law") (qual := "law") (st := sLaw) l_l10 c_l10 k_l10
  have b_l10 := F_l10.binds (ps := ["_law_script"]) fun _ _ _ _ _ _ us hl => match us, hl with | [_], _ => rfl
  have kb_r13 := kb_all (n := 2) (ks := ["on"]) (ps := ["self", "arm", "on"]) F_r13 fun _ _ _ _ _ _ us ws hl hl2 => match us, ws, hl, hl2 with | [_, _], [_], _, _ => rfl
  have kb_p0 := kb_all (n := 3) (ks := ["blocked"]) (ps := ["self", "flows", "starts", "blocked"]) F_p0 fun _ _ _ _ _ _ us ws hl hl2 => match us, ws, hl, hl2 with | [_, _, _], [_], _, _ => rfl
  refine ⟨PySem.W.fnOf "law" "law" (defArgs sLaw) (defBody sLaw) (defScope sLaw) .none kV_l10 dc_l10 pm_l10 an_l10 cd_l10 ct_l10, fun s v => .of_eq rfl, fun base _ _ => ?_⟩
  have d_d0 : Dfn P w K mg base CX0 1 "landing" ["flow", "index"] spLanding := ⟨_, _, PySem.W.mg_of X G a_d0, k_d0, ok_landing F_d0 TD, b_d0⟩
  have d_d1 : Dfn P w K mg base CX0 1 "switched" ["signals", "name", "on"] spSwitched := ⟨_, _, PySem.W.mg_of X G a_d1, k_d1, ok_switched F_d1 TD, b_d1⟩
  have m_p3 : Mth P w K mg base CX0 CP 1 "step_of" ["self", "state", "arm"] (spStepOf w CP) := ⟨_, _, ⟨a_p3, i_p3, k_p3⟩, ok_step_of F_p3 TP, b_p3⟩
  have m_p4 : Mth P w K mg base CX0 CP 1 "has_ended" ["self", "state", "arm"] (spHasEnded w CP) := ⟨_, _, ⟨a_p4, i_p4, k_p4⟩, ok_has_ended F_p4 TP, b_p4⟩
  have m_p5 : Mth P w K mg base CX0 CP 2 "all_ended" ["self", "state"] (spAllEnded w CP) := ⟨_, _, ⟨a_p5, i_p5, k_p5⟩, ok_all_ended F_p5 TP m_p4, b_p5⟩
  have m_p6 : Mth P w K mg base CX0 CP 1 "rest_of" ["self", "state", "arm"] (spRestOf w CP) := ⟨_, _, ⟨a_p6, i_p6, k_p6⟩, ok_rest_of F_p6 TP, b_p6⟩
  have m_p1 : Mth P w K mg base CX0 CP 1 "is_clear" ["self", "arm", "place", "other", "other_place"] (spIsClear w CP) := ⟨_, _, ⟨a_p1, i_p1, k_p1⟩, ok_is_clear F_p1 TP, b_p1⟩
  have m_p7 : Mth P w K mg base CX0 CP 2 "wanted" ["self", "state", "arm"] (spWanted w CP) := ⟨_, _, ⟨a_p7, i_p7, k_p7⟩, ok_wanted F_p7 TP m_p3, b_p7⟩
  have m_p8 : Mth P w K mg base CX0 CP 3 "hindered_by" ["self", "state", "arm"] (spHinderedBy w CP) := ⟨_, _, ⟨a_p8, i_p8, k_p8⟩, ok_hindered_by F_p8 TP m_p7 m_p1 m_p6, b_p8⟩
  have m_p9 : Mth P w K mg base CX0 CP 4 "can_step" ["self", "state", "arm"] (spCanStep w CP) := ⟨_, _, ⟨a_p9, i_p9, k_p9⟩, ok_can_step F_p9 TP m_p3 m_p8, b_p9⟩
  have m_p10 : Mth P w K mg base CX0 CP 2 "stepped" ["self", "state", "arm", "spot", "signals"] (spStepped w CP) := ⟨_, _, ⟨a_p10, i_p10, k_p10⟩, ok_stepped F_p10 TP d_d0, b_p10⟩
  have m_p11 : Mth P w K mg base CX0 CP 3 "outcomes" ["self", "state", "arm"] (spOutcomes w CP) := ⟨_, _, ⟨a_p11, i_p11, k_p11⟩, ok_outcomes F_p11 TP d_d1 m_p10 m_p3, b_p11⟩
  have m_p2 : Mth P w K mg base CX0 CP 2 "first_state" ["self"] (spFirst w CP) := ⟨_, _, ⟨a_p2, i_p2, k_p2⟩, ok_first F_p2 TP d_d0, b_p2⟩
  have m_s1 : Mth P w K mg base CX0 CS 1 "key_of" ["self", "state"] spKeyOf := ⟨_, _, ⟨a_s1, i_s1, k_s1⟩, ok_key_of F_s1 TS, b_s1⟩
  have m_s2 : Mth P w K mg base CX0 CS 5 "open_outcome" ["self", "state"] (spOpen w CS CP) := ⟨_, _, ⟨a_s2, i_s2, k_s2⟩, ok_open F_s2 TS TP m_p9 m_p11 m_s1, b_s2⟩
  have m_s3 : Mth P w K mg base CX0 CS 5 "good_arm" ["self", "state"] (spGood w CS CP) := ⟨_, _, ⟨a_s3, i_s3, k_s3⟩, ok_good F_s3 TS TP m_p9 m_p11 m_s1, b_s3⟩
  have m_s4 : Mth P w K mg base CX0 CS 6 "is_safe" ["self", "state"] (spIsSafe w CS CP) := ⟨_, _, ⟨a_s4, i_s4, k_s4⟩, ok_is_safe F_s4 TS TP m_s1 m_s2 m_s3 m_p5, b_s4⟩
  have mkS : Mkr P w K mg base CX0 "Search" CS 1 ["self", "plan"] (spSearchInit w CS) := ⟨_, _, ⟨mkCS, a_s0, i_s0, kcCS⟩, PySem.W.mg_of X G aCS, ok_search_init F_s0 TS, b_s0⟩
  have m_r1 : Mth P w K mg base CX0 CR 1 "check_arm" ["self", "arm"] (spCheckArm w CR CP) := ⟨_, _, ⟨a_r1, i_r1, k_r1⟩, ok_check_arm F_r1 TR, b_r1⟩
  have m_r3 : Mth P w K mg base CX0 CR 2 "is_halted" ["self", "arm"] (spIsHalted w CR CP) := ⟨_, _, ⟨a_r3, i_r3, k_r3⟩, ok_is_halted F_r3 TR m_r1, b_r3⟩
  have m_r4 : Mth P w K mg base CX0 CR 2 "is_under_way" ["self", "arm"] (spUnderWay w CR CP) := ⟨_, _, ⟨a_r4, i_r4, k_r4⟩, ok_under_way F_r4 TR m_r1, b_r4⟩
  have m_r2 : Mth P w K mg base CX0 CR 3 "place_of" ["self", "arm"] (spPlaceOf w CR CP) := ⟨_, _, ⟨a_r2, i_r2, k_r2⟩, ok_place_of F_r2 TR TP m_r1 m_p7 m_p6, b_r2⟩
  have m_r5 : Mth P w K mg base CX0 CR 4 "state_ahead" ["self"] (spAhead w CR CP) := ⟨_, _, ⟨a_r5, i_r5, k_r5⟩, ok_ahead F_r5 TR TP m_p11, b_r5⟩
  have m_r6 : Mth P w K mg base CX0 CR 4 "in_the_way" ["self", "arm"] (spInTheWay w CR CP) := ⟨_, _, ⟨a_r6, i_r6, k_r6⟩, ok_in_the_way F_r6 TR TP m_p7 m_p1 m_r2, b_r6⟩
  have m_r7 : Mth P w K mg base CX0 CR 7 "is_held_back" ["self", "arm"] (spHeldBack w CR CP) := ⟨_, _, ⟨a_r7, i_r7, k_r7⟩, ok_held_back F_r7 TR TP TS mkS m_p11 m_r5 m_s4, b_r7⟩
  have m_r8 : Mth P w K mg base CX0 CR 8 "may" ["self", "arm"] (spMay w CR CP) := ⟨_, _, ⟨a_r8, i_r8, k_r8⟩, ok_may F_r8 TR TP m_r1 m_p3 m_r6 m_p9 m_r7, b_r8⟩
  have m_r9 : Mth P w K mg base (L2.CX P w) CR 9 "check_told" ["self", "arm", "word"] (spTold w CR CP CN) := ⟨_, _, ⟨a_r9, i_r9, k_r9⟩, ok_told F_r9 TR EN m_r8, b_r9⟩
  have m_r10 : Mth P w K mg base (L2.CX P w) CR 10 "begin" ["self", "arm"] (spEvent w CR CP CN) := ⟨_, _, ⟨a_r10, i_r10, k_r10⟩, ok_begin F_r10 TR m_r9, b_r10⟩
  have m_r11 : Mth P w K mg base (L2.CX P w) CR 4 "end" ["self", "arm"] (spEvent w CR CP CN) := ⟨_, _, ⟨a_r11, i_r11, k_r11⟩, ok_end F_r11 TR TP EN m_r1 m_p11, b_r11⟩
  have m_r12 : Mth P w K mg base (L2.CX P w) CR 10 "go_on" ["self", "arm"] (spEvent w CR CP CN) := ⟨_, _, ⟨a_r12, i_r12, k_r12⟩, ok_go_on F_r12 TR TP m_r9 m_p11, b_r12⟩
  have m_r13 : MthK P w K mg base (L2.CX P w) CR 10 "read_input" ["self", "arm", "on"] 2 ["on"] (spRead w CR CP CN) := ⟨_, _, _, ⟨a_r13, i_r13, k_r13⟩, ok_read F_r13 TR TP m_r9 m_p11, kb_r13⟩
  have m_r14 : Mth P w K mg base (L2.CX P w) CR 4 "halt" ["self", "arm"] (spHal w CR CP CN true) := ⟨_, _, ⟨a_r14, i_r14, k_r14⟩, ok_halt F_r14 TR EN m_r1, b_r14⟩
  have m_r15 : Mth P w K mg base (L2.CX P w) CR 4 "free" ["self", "arm"] (spHal w CR CP CN false) := ⟨_, _, ⟨a_r15, i_r15, k_r15⟩, ok_free F_r15 TR EN m_r1, b_r15⟩
  have p_r16 : Prp P w K mg base CX0 CR 3 "is_over" (spIsOver w CR CP) := ⟨_, _, _, ⟨pa, pget, ptak, _, prec⟩, ok_is_over F_r16 TR TP m_p5, b_r16⟩
  have mkR : Mkr P w K mg base (L2.CX P w) "Runner" CR 7 ["self", "plan"] (spRunInit w CR CP CS CE) := ⟨_, _, ⟨mkCR, a_r0, i_r0, kcCR⟩, PySem.W.mg_of X G aCR, ok_run_init F_r0 TR TP TS EE mkS m_p2 m_s4, b_r0⟩
  have m_r17 : Mth P w K mg base CX0 CR 9 "fork" ["self"] (spFork w CR CP) := ⟨_, _, ⟨a_r17, i_r17, k_r17⟩, ok_fork F_r17 TR mkR, b_r17⟩
  have mkP : MkrK P w K mg base CX0 "Plan" CP 1 ["self", "flows", "starts", "blocked"] 2 ["blocked"] (spPlanInit w CP) := ⟨_, _, _, ⟨mkCP, a_p0, i_p0, kcCP⟩, PySem.W.mg_of X G aCP, ok_plan_init F_p0 TP, kb_p0⟩
  have d_l0 : Dfn P w K mg base CX0 1 "_law_number" ["_law_script", "_law_k"] (spNumber K) := ⟨_, _, PySem.W.mg_of X G a_l0, k_l0, ok_number F_l0 TL, b_l0⟩
  have d_l1 : Dfn P w K mg base CX0 2 "_law_digits" ["_law_script", "_law_first", "_law_count"] (spDigits K) := ⟨_, _, PySem.W.mg_of X G a_l1, k_l1, ok_digits F_l1 TL d_l0, b_l1⟩
  have d_l2 : Dfn P w K mg base CX0 1 "_law_digit" ["_law_digits_here", "_law_many"] spDigit := ⟨_, _, PySem.W.mg_of X G a_l2, k_l2, ok_digit F_l2 TL, b_l2⟩
  have d_l3 : Dfn P w K mg base CX0 2 "_law_step" ["_law_digits_here", "_law_index", "_law_size", "_law_signals"] spStep := ⟨_, _, PySem.W.mg_of X G a_l3, k_l3, ok_step F_l3 TL d_l2, b_l3⟩
  have d_l4 : Dfn P w K mg base CX0 2 "_law_place" ["_law_digits_here"] spPlace := ⟨_, _, PySem.W.mg_of X G a_l4, k_l4, ok_place F_l4 d_l2, b_l4⟩
  have d_l5 : Dfn P w K mg base CX0 3 "_law_plan" ["_law_digits_here"] spLawPlan := ⟨_, _, PySem.W.mg_of X G a_l5, k_l5, ok_law_plan F_l5 TL d_l2 d_l3 d_l4, b_l5⟩
  have d_l6 : Dfn P w K mg base CX0 11 "_law_event" ["_law_runner", "_law_kind", "_law_arm"] (spLawEvent w CR CP) := ⟨_, _, PySem.W.mg_of X G a_l6, k_l6, ok_event F_l6 TR NT m_r10 m_r11 m_r12 m_r13 m_r14 m_r15, b_l6⟩
  have d_l7 : Dfn P w K mg base CX0 9 "_law_new" ["_law_plan_here"] (spNew w CR CP) := ⟨_, _, PySem.W.mg_of X G a_l7, k_l7, ok_new F_l7 (PySem.W.mg_of X G aCE) teE mkR, b_l7⟩
  have d_l8 : Dfn P w K mg base CX0 2 "_law_closed" ["_law_blocked", "_law_starts"] spClosed := ⟨_, _, PySem.W.mg_of X G a_l8, k_l8, ok_closed F_l8 TL, b_l8⟩
  have d_l9 : Dfn P w K mg base CX0 10 "_law_something" ["_law_runner", "_law_arms"] (spSomething w CR CP) := ⟨_, _, PySem.W.mg_of X G a_l9, k_l9, ok_something F_l9 TL TR p_r16 m_r17 m_r4 m_r3 m_r15 m_r8, b_l9⟩
  exact ok_law F_l10 TL d_l1 d_l5 d_l8 d_l7 mkP d_l9 d_l2 d_l6
theorem spLaw_of {K : PySem.W.Frag} {H : Hp} {a : Addr} {ns : List Int} {Q : VK} {E : XK} (b : Nat) (hb : b ≤ 50000000) (h : ∀ z ∈ ns, Builtin.Int.intBits z ≤ b) (hS : SqL K H a (ns.map V.int)) (hq : ∀ H', Q (.bl true) H') : spLaw K [.ref a] H Q E :=
  ⟨a, ns, b, rfl, hS, hb, fun z hz => bits_lt (h z hz), hq⟩
theorem walk {l : PySem.W.OpenLaw} {q : Program} {loose : List Str} {XP : (Str → Option Value) → Heap → Prop} {YP : World → Heap → Prop} {d : DefRec} {K : Params → PySem.W.Frag} (hn : l.most = some 63) (hdf : d.params.defaults = [])
    (hY : ∀ (w : World) (h : Heap), YP w h → (K w.params).In h)
    (F : ∀ (w : World) (mg : Str → Option Value) (fa : Addr) (h : Heap), (K w.params).In h → h.Ns mainGlobals mg → mg d.name = some (.ref fa) →
      ∃ fd : FuncData, (∀ (s : Shared) (u : Value), BindsTo s fd ⟨[u], []⟩ [("_law_script", u)]) ∧ ∀ base : Heap, (K w.params).In base → base.Ns mainGlobals mg → FnOk l.prog w (K w.params) mg base CX0 12 fa fd ["_law_script"] (spLaw (K w.params))) :
    PySem.W.WalkO q loose XP YP l.row.toRowW d [] (fun f vs => PySem.call f vs) :=
  L2.walk_ofB (n := 63) (k := 12) (x := "_law_script") (CX := fun _ => CX0) (sp := fun w => spLaw (K w.params)) hn (len_line (by decide)) hdf ⟨rfl, by decide, by decide⟩ hY F
    (fun _ _ a ns _ hb _ hS => spLaw_of 1048576 (by decide) hb hS fun _ => rfl) fun _ _ _ _ _ z => z
end Aw

open PySem PySem.W PyProof.Rows in
set_option maxRecDepth 100000 in
set_option maxHeartbeats 0 in
theorem PySem.Challenge.cw_armwarrant_k73_whole_there_is_always_som_holds : PySem.Challenge.rw_armwarrant_k73_whole_there_is_always_som.Holds := by
  w_on; o_law; k_head; (case hw => w_witness2)
  k_fill
  refine Aw.walk (l := PySem.Challenge.rw_armwarrant_k73_whole_there_is_always_som) rfl rfl (fun w h Y => PySem.W.kIn_of Y) ?F
  case F =>
    intro w mg fa h KX G hmg
    refine' Aw.all_mk KX G hmg ?aCS ?pgCS ?hdCS ?poCS ?mkCS ?kcCS ?saCS ?aCR ?pgCR ?hdCR ?poCR ?mkCR ?kcCR ?saCR ?aCP ?pgCP ?hdCP ?poCP ?mkCP ?kcCP ?saCP ?nCS_plan ?nCS_known ?nCR_plan ?nCR_state ?nCR_events ?nCR_moving ?nCR_halted ?nCP_flows ?nCP_starts ?nCP_blocks ?a_s0 ?i_s0 ?l_s0 ?c_s0 ?k_s0 ?a_s1 ?i_s1 ?l_s1 ?c_s1 ?k_s1 ?a_s2 ?i_s2 ?l_s2 ?c_s2 ?k_s2 ?a_s3 ?i_s3 ?l_s3 ?c_s3 ?k_s3 ?a_s4 ?i_s4 ?l_s4 ?c_s4 ?k_s4 ?a_r0 ?i_r0 ?l_r0 ?c_r0 ?k_r0 ?a_r1 ?i_r1 ?l_r1 ?c_r1 ?k_r1 ?a_r2 ?i_r2 ?l_r2 ?c_r2 ?k_r2 ?a_r3 ?i_r3 ?l_r3 ?c_r3 ?k_r3 ?a_r4 ?i_r4 ?l_r4 ?c_r4 ?k_r4 ?a_r5 ?i_r5 ?l_r5 ?c_r5 ?k_r5 ?a_r6 ?i_r6 ?l_r6 ?c_r6 ?k_r6 ?a_r7 ?i_r7 ?l_r7 ?c_r7 ?k_r7 ?a_r8 ?i_r8 ?l_r8 ?c_r8 ?k_r8 ?a_r9 ?i_r9 ?l_r9 ?c_r9 ?k_r9 ?a_r10 ?i_r10 ?l_r10 ?c_r10 ?k_r10 ?a_r11 ?i_r11 ?l_r11 ?c_r11 ?k_r11 ?a_r12 ?i_r12 ?l_r12 ?c_r12 ?k_r12 ?a_r13 ?i_r13 ?l_r13 ?c_r13 ?k_r13 ?a_r14 ?i_r14 ?l_r14 ?c_r14 ?k_r14 ?a_r15 ?i_r15 ?l_r15 ?c_r15 ?k_r15 ?a_r17 ?i_r17 ?l_r17 ?c_r17 ?k_r17 ?a_p0 ?i_p0 ?l_p0 ?c_p0 ?k_p0 ?a_p1 ?i_p1 ?l_p1 ?c_p1 ?k_p1 ?a_p2 ?i_p2 ?l_p2 ?c_p2 ?k_p2 ?a_p3 ?i_p3 ?l_p3 ?c_p3 ?k_p3 ?a_p4 ?i_p4 ?l_p4 ?c_p4 ?k_p4 ?a_p5 ?i_p5 ?l_p5 ?c_p5 ?k_p5 ?a_p6 ?i_p6 ?l_p6 ?c_p6 ?k_p6 ?a_p7 ?i_p7 ?l_p7 ?c_p7 ?k_p7 ?a_p8 ?i_p8 ?l_p8 ?c_p8 ?k_p8 ?a_p9 ?i_p9 ?l_p9 ?c_p9 ?k_p9 ?a_p10 ?i_p10 ?l_p10 ?c_p10 ?k_p10 ?a_p11 ?i_p11 ?l_p11 ?c_p11 ?k_p11 ?pa ?pget ?ptak ?prec ?l_r16 ?c_r16 ?k_r16 ?a_d0 ?l_d0 ?c_d0 ?k_d0 ?a_d1 ?l_d1 ?c_d1 ?k_d1 ?a_l0 ?l_l0 ?c_l0 ?k_l0 ?a_l1 ?l_l1 ?c_l1 ?k_l1 ?a_l2 ?l_l2 ?c_l2 ?k_l2 ?a_l3 ?l_l3 ?c_l3 ?k_l3 ?a_l4 ?l_l4 ?c_l4 ?k_l4 ?a_l5 ?l_l5 ?c_l5 ?k_l5 ?a_l6 ?l_l6 ?c_l6 ?k_l6 ?a_l7 ?l_l7 ?c_l7 ?k_l7 ?a_l8 ?l_l8 ?c_l8 ?k_l8 ?a_l9 ?l_l9 ?c_l9 ?k_l9 ?a_l10 ?l_l10 ?c_l10 ?k_l10 ?z_len ?z_range ?z_list ?z_tuple ?z_enumerate ?z_sorted ?z_all ?z_int ?z_isinstance ?aCN ?xCN ?kcCN ?sbCN ?tyCN ?hdCN ?ssCN ?aCE ?xCE ?kcCE ?sbCE ?tyCE ?hdCE ?ssCE ?aCA ?tyCA ?hdCA ?aCU ?tyCU ?hdCU ?ssA ?ssU ?eg ?ek ?ea ?en ?et ?em
    (case aCS => k_is)
    (case pgCS => k_is)
    (case hdCS => k_is)
    (case poCS => k_is)
    (case mkCS => k_is)
    (case kcCS => k_is)
    (case saCS => k_is)
    (case aCR => k_is)
    (case pgCR => k_is)
    (case hdCR => k_is)
    (case poCR => k_is)
    (case mkCR => k_is)
    (case kcCR => k_is)
    (case saCR => k_is)
    (case aCP => k_is)
    (case pgCP => k_is)
    (case hdCP => k_is)
    (case poCP => k_is)
    (case mkCP => k_is)
    (case kcCP => k_is)
    (case saCP => k_is)
    (case nCS_plan => k_is)
    (case nCS_known => k_is)
    (case nCR_plan => k_is)
    (case nCR_state => k_is)
    (case nCR_events => k_is)
    (case nCR_moving => k_is)
    (case nCR_halted => k_is)
    (case nCP_flows => k_is)
    (case nCP_starts => k_is)
    (case nCP_blocks => k_is)
    (case a_s0 => k_is)
    (case i_s0 => k_is)
    (case l_s0 => k_is)
    (case c_s0 => k_is)
    (case k_s0 => k_is)
    (case a_s1 => k_is)
    (case i_s1 => k_is)
    (case l_s1 => k_is)
    (case c_s1 => k_is)
    (case k_s1 => k_is)
    (case a_s2 => k_is)
    (case i_s2 => k_is)
    (case l_s2 => k_is)
    (case c_s2 => k_is)
    (case k_s2 => k_is)
    (case a_s3 => k_is)
    (case i_s3 => k_is)
    (case l_s3 => k_is)
    (case c_s3 => k_is)
    (case k_s3 => k_is)
    (case a_s4 => k_is)
    (case i_s4 => k_is)
    (case l_s4 => k_is)
    (case c_s4 => k_is)
    (case k_s4 => k_is)
    (case a_r0 => k_is)
    (case i_r0 => k_is)
    (case l_r0 => k_is)
    (case c_r0 => k_is)
    (case k_r0 => k_is)
    (case a_r1 => k_is)
    (case i_r1 => k_is)
    (case l_r1 => k_is)
    (case c_r1 => k_is)
    (case k_r1 => k_is)
    (case a_r2 => k_is)
    (case i_r2 => k_is)
    (case l_r2 => k_is)
    (case c_r2 => k_is)
    (case k_r2 => k_is)
    (case a_r3 => k_is)
    (case i_r3 => k_is)
    (case l_r3 => k_is)
    (case c_r3 => k_is)
    (case k_r3 => k_is)
    (case a_r4 => k_is)
    (case i_r4 => k_is)
    (case l_r4 => k_is)
    (case c_r4 => k_is)
    (case k_r4 => k_is)
    (case a_r5 => k_is)
    (case i_r5 => k_is)
    (case l_r5 => k_is)
    (case c_r5 => k_is)
    (case k_r5 => k_is)
    (case a_r6 => k_is)
    (case i_r6 => k_is)
    (case l_r6 => k_is)
    (case c_r6 => k_is)
    (case k_r6 => k_is)
    (case a_r7 => k_is)
    (case i_r7 => k_is)
    (case l_r7 => k_is)
    (case c_r7 => k_is)
    (case k_r7 => k_is)
    (case a_r8 => k_is)
    (case i_r8 => k_is)
    (case l_r8 => k_is)
    (case c_r8 => k_is)
    (case k_r8 => k_is)
    (case a_r9 => k_is)
    (case i_r9 => k_is)
    (case l_r9 => k_is)
    (case c_r9 => k_is)
    (case k_r9 => k_is)
    (case a_r10 => k_is)
    (case i_r10 => k_is)
    (case l_r10 => k_is)
    (case c_r10 => k_is)
    (case k_r10 => k_is)
    (case a_r11 => k_is)
    (case i_r11 => k_is)
    (case l_r11 => k_is)
    (case c_r11 => k_is)
    (case k_r11 => k_is)
    (case a_r12 => k_is)
    (case i_r12 => k_is)
    (case l_r12 => k_is)
    (case c_r12 => k_is)
    (case k_r12 => k_is)
    (case a_r13 => k_is)
    (case i_r13 => k_is)
    (case l_r13 => k_is)
    (case c_r13 => k_is)
    (case k_r13 => k_is)
    (case a_r14 => k_is)
    (case i_r14 => k_is)
    (case l_r14 => k_is)
    (case c_r14 => k_is)
    (case k_r14 => k_is)
    (case a_r15 => k_is)
    (case i_r15 => k_is)
    (case l_r15 => k_is)
    (case c_r15 => k_is)
    (case k_r15 => k_is)
    (case a_r17 => k_is)
    (case i_r17 => k_is)
    (case l_r17 => k_is)
    (case c_r17 => k_is)
    (case k_r17 => k_is)
    (case a_p0 => k_is)
    (case i_p0 => k_is)
    (case l_p0 => k_is)
    (case c_p0 => k_is)
    (case k_p0 => k_is)
    (case a_p1 => k_is)
    (case i_p1 => k_is)
    (case l_p1 => k_is)
    (case c_p1 => k_is)
    (case k_p1 => k_is)
    (case a_p2 => k_is)
    (case i_p2 => k_is)
    (case l_p2 => k_is)
    (case c_p2 => k_is)
    (case k_p2 => k_is)
    (case a_p3 => k_is)
    (case i_p3 => k_is)
    (case l_p3 => k_is)
    (case c_p3 => k_is)
    (case k_p3 => k_is)
    (case a_p4 => k_is)
    (case i_p4 => k_is)
    (case l_p4 => k_is)
    (case c_p4 => k_is)
    (case k_p4 => k_is)
    (case a_p5 => k_is)
    (case i_p5 => k_is)
    (case l_p5 => k_is)
    (case c_p5 => k_is)
    (case k_p5 => k_is)
    (case a_p6 => k_is)
    (case i_p6 => k_is)
    (case l_p6 => k_is)
    (case c_p6 => k_is)
    (case k_p6 => k_is)
    (case a_p7 => k_is)
    (case i_p7 => k_is)
    (case l_p7 => k_is)
    (case c_p7 => k_is)
    (case k_p7 => k_is)
    (case a_p8 => k_is)
    (case i_p8 => k_is)
    (case l_p8 => k_is)
    (case c_p8 => k_is)
    (case k_p8 => k_is)
    (case a_p9 => k_is)
    (case i_p9 => k_is)
    (case l_p9 => k_is)
    (case c_p9 => k_is)
    (case k_p9 => k_is)
    (case a_p10 => k_is)
    (case i_p10 => k_is)
    (case l_p10 => k_is)
    (case c_p10 => k_is)
    (case k_p10 => k_is)
    (case a_p11 => k_is)
    (case i_p11 => k_is)
    (case l_p11 => k_is)
    (case c_p11 => k_is)
    (case k_p11 => k_is)
    (case pa => k_is)
    (case pget => k_is)
    (case ptak => k_is)
    (case prec => k_is)
    (case l_r16 => k_is)
    (case c_r16 => k_is)
    (case k_r16 => k_is)
    (case a_d0 => k_is)
    (case l_d0 => k_is)
    (case c_d0 => k_is)
    (case k_d0 => k_is)
    (case a_d1 => k_is)
    (case l_d1 => k_is)
    (case c_d1 => k_is)
    (case k_d1 => k_is)
    (case a_l0 => k_is)
    (case l_l0 => k_is)
    (case c_l0 => k_is)
    (case k_l0 => k_is)
    (case a_l1 => k_is)
    (case l_l1 => k_is)
    (case c_l1 => k_is)
    (case k_l1 => k_is)
    (case a_l2 => k_is)
    (case l_l2 => k_is)
    (case c_l2 => k_is)
    (case k_l2 => k_is)
    (case a_l3 => k_is)
    (case l_l3 => k_is)
    (case c_l3 => k_is)
    (case k_l3 => k_is)
    (case a_l4 => k_is)
    (case l_l4 => k_is)
    (case c_l4 => k_is)
    (case k_l4 => k_is)
    (case a_l5 => k_is)
    (case l_l5 => k_is)
    (case c_l5 => k_is)
    (case k_l5 => k_is)
    (case a_l6 => k_is)
    (case l_l6 => k_is)
    (case c_l6 => k_is)
    (case k_l6 => k_is)
    (case a_l7 => k_is)
    (case l_l7 => k_is)
    (case c_l7 => k_is)
    (case k_l7 => k_is)
    (case a_l8 => k_is)
    (case l_l8 => k_is)
    (case c_l8 => k_is)
    (case k_l8 => k_is)
    (case a_l9 => k_is)
    (case l_l9 => k_is)
    (case c_l9 => k_is)
    (case k_l9 => k_is)
    (case a_l10 => k_is)
    (case l_l10 => k_is)
    (case c_l10 => k_is)
    (case k_l10 => k_is)
    (case z_len => k_is)
    (case z_range => k_is)
    (case z_list => k_is)
    (case z_tuple => k_is)
    (case z_enumerate => k_is)
    (case z_sorted => k_is)
    (case z_all => k_is)
    (case z_int => k_is)
    (case z_isinstance => k_is)
    (case aCN => k_is)
    (case xCN => k_exc)
    (case kcCN => k_is)
    (case sbCN => k_is)
    (case tyCN => k_is)
    (case hdCN => k_is)
    (case ssCN => first | rfl | k_is)
    (case aCE => k_is)
    (case xCE => k_exc)
    (case kcCE => k_is)
    (case sbCE => k_is)
    (case tyCE => k_is)
    (case hdCE => k_is)
    (case ssCE => first | rfl | k_is)
    (case aCA => k_is)
    (case tyCA => k_is)
    (case hdCA => k_is)
    (case aCU => k_is)
    (case tyCU => k_is)
    (case hdCU => k_is)
    (case ssA => k_is)
    (case ssU => k_is)
    (case eg => k_is)
    (case ek => k_is)
    (case ea => k_is)
    (case en => k_is)
    (case et => k_is)
    (case em => k_is)

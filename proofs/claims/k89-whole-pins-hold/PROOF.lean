import PyProof.Rows.All
import Wide.All
import OpenK.AllK
import Wide.FinOn
import KE.KStateDown
import Lean
import HandS.Base
import HandS.Call
import HandS.List
import HandS.Comp
import HandS.Dict
import HandS.More
import HandS.Ends
import HandS.Words
import HandS.WordsList
import HandS.WordsDict
import HandS.WordsExc
import HandS.Defaults
import HandS.Star
import HandS.Property
import HandS.ClsMeth
import HandS.Head0
import HandS.Head1
import HandS.Head2
import HandS.HeadEnd
import HandS.HeadHook1
import HandS.HeadHook2
import HandS.HeadNt
import PySem.Challenge.RW_keptnames_k89_whole_pins_hold
import PyProof.DictCompW
import HandS.DictComp
import KE.SortData
import HandS.Conv
import KE.KDictWalk
import KE.KDictCopyH
import PyProof.DictMoreH
import HandS.Iter
import HandS.SetKeys
import HandS.NoneIn
import PyProof.InstSpecial
import HandS.Walk
import HandS.Set
import HandS.SetFor
import HandS.Zip
import HandS.MakeKw
import HandS.IterVal
import HandS.Codes
import HandS.IsInst
import HandS.Text
import HandS.Steps
import HandS.Flow
import HandS.Small
import HandS.Style
import HandS.MethStar
import HandS.DictTup
import HandS.SortInts
import HandS.EndBits
set_option linter.all false
namespace KM
variable {R : Type}
/-- the chain of a partial function from here ends within n steps -/
def dep (f : R → Option R) : Nat → Option R → Prop
  | _, none => True
  | 0, some _ => False
  | n + 1, some x => dep f n (f x)
theorem dep_none (f : R → Option R) (n : Nat) : dep f n none := by cases n <;> trivial
theorem dep_mono {f : R → Option R} : ∀ {n m : Nat} {x : Option R}, n ≤ m → dep f n x → dep f m x
  | _, _, none, _, _ => dep_none _ _
  | 0, _, some _, _, h => h.elim
  | n + 1, 0, some _, h, _ => absurd h (by omega)
  | n + 1, m + 1, some x, h, d => dep_mono (n := n) (m := m) (x := f x) (by omega) d
def Ends (f : R → Option R) : Prop := ∀ x : R, ∃ n, dep f n (some x)
inductive Rch (f : R → Option R) : R → R → Prop
  | refl (x : R) : Rch f x x
  | step {x y z : R} : f x = some y → Rch f y z → Rch f x z
theorem Rch.trans {f : R → Option R} {x y z : R} (a : Rch f x y) (b : Rch f y z) : Rch f x z := by
  induction a with
  | refl _ => exact b
  | step h _ ih => exact .step h (ih b)
theorem Rch.dep {f : R → Option R} {x y : R} (a : Rch f x y) : ∀ {n : Nat}, KM.dep f n (some x) → ∃ k, k ≤ n ∧ KM.dep f k (some y) := by
  induction a with
  | refl _ => exact fun {n} h => ⟨n, Nat.le_refl _, h⟩
  | step h _ ih =>
    intro n d
    cases n with
    | zero => exact d.elim
    | succ n =>
      have d2 : KM.dep f n (f _) := d
      rw [h] at d2
      obtain ⟨k, hk, dk⟩ := ih d2
      exact ⟨k, by omega, dk⟩
theorem no_cycle {f : R → Option R} : ∀ (n : Nat) (x y : R), KM.dep f n (some x) → f x = some y → Rch f y x → False := by
  intro n
  induction n using Nat.strongRecOn with
  | _ n ih =>
    intro x y d h r
    cases n with
    | zero => exact d.elim
    | succ n =>
      have d2 : KM.dep f n (f x) := d
      rw [h] at d2
      obtain ⟨k, hk, dk⟩ := r.dep d2
      exact ih k (by omega) x y dk h r
theorem Ends.nocyc {f : R → Option R} (e : Ends f) {x y : R} (h : f x = some y) (r : Rch f y x) : False := by
  obtain ⟨n, d⟩ := e x
  exact no_cycle n x y d h r
theorem Ends.update {f g : R → Option R} (e : Ends f) {r : R} (same : ∀ z, z ≠ r → g z = f z) (new : ∀ y, g r = some y → ¬ Rch f y r) : Ends g := by
  have s1 : ∀ (n : Nat) (x : R), KM.dep f n (some x) → ¬ Rch f x r → KM.dep g n (some x) := by
    intro n
    induction n with
    | zero => exact fun x d _ => d.elim
    | succ n ih =>
      intro x d nr
      have hx : x ≠ r := fun q => nr (q ▸ .refl x)
      show KM.dep g n (g x)
      rw [same x hx]
      have d2 : KM.dep f n (f x) := d
      cases q : f x with
      | none => exact dep_none _ _
      | some y =>
        rw [q] at d2
        exact ih y d2 fun z => nr (.step q z)
  have s2 : ∃ n, KM.dep g n (some r) := by
    cases q : g r with
    | none => exact ⟨1, by show KM.dep g 0 (g r); rw [q]; exact dep_none _ _⟩
    | some y =>
      obtain ⟨n, d⟩ := e y
      exact ⟨n + 1, by show KM.dep g n (g r); rw [q]; exact s1 n y d (new y q)⟩
  have s3 : ∀ (n : Nat) (x : R), KM.dep f n (some x) → ∃ k, KM.dep g k (some x) := by
    intro n
    induction n with
    | zero => exact fun x d => d.elim
    | succ n ih =>
      intro x d
      by_cases hx : x = r
      · subst hx; exact s2
      · have d2 : KM.dep f n (f x) := d
        cases q : f x with
        | none => exact ⟨1, by show KM.dep g 0 (g x); rw [same x hx, q]; exact dep_none _ _⟩
        | some y =>
          rw [q] at d2
          obtain ⟨k, dk⟩ := ih y d2
          exact ⟨k + 1, by show KM.dep g k (g x); rw [same x hx, q]; exact dk⟩
  intro x
  obtain ⟨n, d⟩ := e x
  exact s3 n x d
theorem ends_none : Ends (fun _ : R => (none : Option R)) := fun x => ⟨1, trivial⟩

variable {C : Type} [DecidableEq R] [DecidableEq C]
/-- a function changed at one place -/
def fup {A B : Type} [DecidableEq A] (f : A → B) (a : A) (b : B) : A → B := fun x => if x = a then b else f x
theorem fup_same {A B : Type} [DecidableEq A] {f : A → B} {a : A} {b : B} : fup f a b a = b := if_pos rfl
theorem fup_ne {A B : Type} [DecidableEq A] {f : A → B} {a x : A} {b : B} (h : x ≠ a) : fup f a b x = f x := if_neg h

/-- pairs p, owners o of the rows in S -/
structure Mat (S : R → Prop) (W : R → C → Option Int) (p : R → Option C) (o : C → Option R) : Prop where
  own : ∀ c r, o c = some r → S r ∧ p r = some c
  pin : ∀ r c, p r = some c → o c = some r ∧ ∃ w, W r c = some w
/-- weights of rows and columns that show that the pairs are best; the row x apart -/
structure Dual (S : R → Prop) (W : R → C → Option Int) (p : R → Option C) (o : C → Option R) (x : R → Prop) (u : R → Int) (v : C → Int) : Prop where
  u0 : ∀ r, 0 ≤ u r
  v0 : ∀ c, 0 ≤ v c
  cov : ∀ r c w, S r → W r c = some w → w ≤ u r + v c
  tight : ∀ r c w, p r = some c → W r c = some w → w = u r + v c
  free : ∀ r, S r → ¬ x r → p r = none → u r = 0
  freec : ∀ c, o c = none → v c = 0
/-- what row r gains by column c -/
def val (W : R → C → Option Int) (o : C → Option R) (g : R → Int) (r : R) (c : C) : Int :=
  (W r c).getD 0 + match o c with
    | none => 0
    | some y => g y - (W y c).getD 0
theorem val_none {W : R → C → Option Int} {o : C → Option R} {g : R → Int} {r : R} {c : C} {w : Int} (hw : W r c = some w) (h : o c = none) : val W o g r c = w := by
  unfold val
  rw [hw, h]
  simp
theorem val_some {W : R → C → Option Int} {o : C → Option R} {g : R → Int} {r y : R} {c : C} {w w2 : Int} (hw : W r c = some w) (h : o c = some y) (h2 : W y c = some w2) : val W o g r c = w + (g y - w2) := by
  unfold val
  rw [hw, h]
  simp [h2]
structure Mv (S : R → Prop) (W : R → C → Option Int) (p : R → Option C) (o : C → Option R) (u : R → Int) (g : R → Int) (m : R → Option C) : Prop where
  g0 : ∀ r, S r → 0 ≤ g r
  gu : ∀ r, S r → g r ≤ u r
  mn : ∀ r, S r → m r = none → g r = 0
  ms : ∀ r c, m r = some c → S r ∧ (∃ w, W r c = some w) ∧ p r ≠ some c ∧ g r ≤ val W o g r c
  en : Ends fun r => (m r).bind o
section
variable {S : R → Prop} {W : R → C → Option Int} {p : R → Option C} {o : C → Option R} {x : R → Prop} {u : R → Int} {v : C → Int} {g : R → Int} {m : R → Option C}
theorem Mv.start (D : Dual S W p o x u v) : Mv S W p o u (fun _ => 0) (fun _ => none) :=
  ⟨fun _ _ => Int.le_refl 0, fun r _ => D.u0 r, fun _ _ _ => rfl, fun _ _ h => (nomatch h), ends_none⟩
theorem Mv.val_le (M : Mat S W p o) (D : Dual S W p o x u v) (gu : ∀ r, S r → g r ≤ u r) {r : R} {c : C} {w : Int} (hs : S r) (hw : W r c = some w) : val W o g r c ≤ u r := by
  have h1 := D.cov r c w hs hw
  cases q : o c with
  | none =>
    have h2 := D.freec c q
    rw [val_none hw q]
    omega
  | some y =>
    obtain ⟨sy, py⟩ := M.own c y q
    obtain ⟨_, w2, hw2⟩ := M.pin y c py
    have h3 := D.tight y c w2 py hw2
    have h4 := gu y sy
    rw [val_some hw q hw2]
    omega
theorem Mv.slack (M : Mat S W p o) (D : Dual S W p o x u v) (V : Mv S W p o u g m) {r y : R} (h : (m r).bind o = some y) : u y - g y ≤ u r - g r := by
  cases q : m r with
  | none => rw [q] at h; cases h
  | some c =>
    rw [q] at h
    have ho : o c = some y := h
    obtain ⟨sr, ⟨w, hw⟩, _, hg⟩ := V.ms r c q
    obtain ⟨sy, py⟩ := M.own c y ho
    obtain ⟨_, w2, hw2⟩ := M.pin y c py
    have h1 := D.cov r c w sr hw
    have h3 := D.tight y c w2 py hw2
    rw [val_some hw ho hw2] at hg
    omega
theorem Mv.slacks (M : Mat S W p o) (D : Dual S W p o x u v) (V : Mv S W p o u g m) {r y : R} (h : Rch (fun r => (m r).bind o) r y) : u y - g y ≤ u r - g r := by
  induction h with
  | refl _ => exact Int.le_refl _
  | step h _ ih => exact Int.le_trans ih (V.slack M D h)
theorem val_mono {g g' : R → Int} (h : ∀ r, g r ≤ g' r) (r : R) (c : C) : val W o g r c ≤ val W o g' r c := by
  unfold val
  cases q : o c with
  | none => exact Int.le_refl _
  | some y =>
    have := h y
    simp only
    omega
theorem Mv.put (M : Mat S W p o) (D : Dual S W p o x u v) (V : Mv S W p o u g m) {r : R} {c : C} {w : Int} (hs : S r) (hw : W r c = some w) (hp : p r ≠ some c) (hg : g r < val W o g r c) :
    Mv S W p o u (fup g r (val W o g r c)) (fup m r (some c)) := by
  have mono : ∀ z, g z ≤ fup g r (val W o g r c) z := fun z => by
    by_cases q : z = r
    · rw [q, fup_same]; omega
    · rw [fup_ne q]; exact Int.le_refl _
  refine ⟨fun z sz => Int.le_trans (V.g0 z sz) (mono z), fun z sz => ?_, fun z sz hz => ?_, fun z d hz => ?_, ?_⟩
  · by_cases q : z = r
    · rw [q, fup_same]; exact Mv.val_le M D V.gu hs hw
    · rw [fup_ne q]; exact V.gu z sz
  · by_cases q : z = r
    · rw [q, fup_same] at hz; cases hz
    · rw [fup_ne q] at hz ⊢; exact V.mn z sz hz
  · by_cases q : z = r
    · rw [q, fup_same] at hz
      cases hz
      rw [q]
      refine ⟨hs, ⟨w, hw⟩, hp, ?_⟩
      rw [fup_same]
      exact val_mono mono r c
    · rw [fup_ne q] at hz ⊢
      obtain ⟨a, b, e, f⟩ := V.ms z d hz
      exact ⟨a, b, e, Int.le_trans f (val_mono mono z d)⟩
  · refine V.en.update (r := r) (fun z hz => ?_) fun y hy hr => ?_
    · show (fup m r (some c) z).bind o = (m z).bind o
      rw [fup_ne hz]
    · have ho : o c = some y := by
        have hy' : (fup m r (some c) r).bind o = some y := hy
        rw [fup_same] at hy'
        exact hy'
      have h1 := V.slacks M D hr
      obtain ⟨sy, py⟩ := M.own c y ho
      obtain ⟨_, w2, hw2⟩ := M.pin y c py
      have h2 := D.cov r c w hs hw
      have h3 := D.tight y c w2 py hw2
      rw [val_some hw ho hw2] at hg
      omega
/-- the weights of the columns behind it -/
def newV (W : R → C → Option Int) (o : C → Option R) (g : R → Int) : C → Int := fun c => match o c with
  | none => 0
  | some y => (W y c).getD 0 - g y
/-- what the moves are worth: new weights, the moves tight, their chain ends -/
structure Moves (S : R → Prop) (W : R → C → Option Int) (p : R → Option C) (o : C → Option R) (x : R → Prop) (m : R → Option C) (u : R → Int) (v : C → Int) : Prop where
  dual : Dual S W p o x u v
  mn : ∀ r, S r → m r = none → u r = 0
  ms : ∀ r c, m r = some c → S r ∧ ∃ w, W r c = some w ∧ w = u r + v c
  en : Ends fun r => (m r).bind o
theorem Mv.done (M : Mat S W p o) (D : Dual S W p o x u v) (V : Mv S W p o u g m) (fix : ∀ r c w, S r → W r c = some w → p r ≠ some c → val W o g r c ≤ g r) (hp : ∀ r c, p r = some c → S r) :
    Moves S W p o x m (fun r => if 0 ≤ g r then g r else 0) (newV W o g) := by
  have gS : ∀ r, S r → (if 0 ≤ g r then g r else 0) = g r := fun r s => if_pos (V.g0 r s)
  have vo : ∀ c y, o c = some y → ∃ w, W y c = some w ∧ newV W o g c = w - g y := fun c y h => by
    obtain ⟨sy, py⟩ := M.own c y h
    obtain ⟨_, w2, hw2⟩ := M.pin y c py
    refine ⟨w2, hw2, ?_⟩
    unfold newV
    rw [h]
    simp only [hw2, Option.getD_some]
  have vn : ∀ c, o c = none → newV W o g c = 0 := fun c h => by unfold newV; rw [h]
  have vv : ∀ r c w, W r c = some w → val W o g r c = w - newV W o g c := fun r c w hw => by
    cases q : o c with
    | none =>
      rw [vn c q]
      unfold val
      rw [hw, q]
      simp
    | some y =>
      obtain ⟨w2, hw2, e⟩ := vo c y q
      rw [e]
      unfold val
      rw [hw, q]
      simp only [hw2, Option.getD_some]
      omega
  have dual : Dual S W p o x (fun r => if 0 ≤ g r then g r else 0) (newV W o g) := by
    refine ⟨fun r => ?_, fun c => ?_, fun r c w s hw => ?_, fun r c w h hw => ?_, fun r s hx h => ?_, vn⟩
    · show (0 : Int) ≤ if 0 ≤ g r then g r else 0
      split <;> omega
    · cases q : o c with
      | none => rw [vn c q]; exact Int.le_refl _
      | some y =>
        obtain ⟨w2, hw2, e⟩ := vo c y q
        obtain ⟨sy, py⟩ := M.own c y q
        have h3 := D.tight y c w2 py hw2
        have h4 := V.gu y sy
        have h5 := D.v0 c
        omega
    · show w ≤ (if 0 ≤ g r then g r else 0) + newV W o g c
      rw [gS r s]
      by_cases q : p r = some c
      · obtain ⟨w2, hw2, e⟩ := vo c r (M.pin r c q).1
        rw [hw] at hw2; cases hw2
        omega
      · have h1 := fix r c w s hw q
        rw [vv r c w hw] at h1
        omega
    · show w = (if 0 ≤ g r then g r else 0) + newV W o g c
      rw [gS r (hp r c h)]
      obtain ⟨w2, hw2, e⟩ := vo c r (M.pin r c h).1
      rw [hw] at hw2; cases hw2
      omega
    · show (if 0 ≤ g r then g r else 0) = 0
      have h1 := D.free r s hx h
      have h2 := V.gu r s
      have h3 := V.g0 r s
      rw [gS r s]
      omega
  refine ⟨dual, fun r s h => ?_, fun r c h => ?_, V.en⟩
  · show (if 0 ≤ g r then g r else 0) = 0
    rw [gS r s]
    exact V.mn r s h
  · obtain ⟨s, ⟨w, hw⟩, hne, hg⟩ := V.ms r c h
    refine ⟨s, w, hw, ?_⟩
    show w = (if 0 ≤ g r then g r else 0) + newV W o g c
    rw [gS r s]
    have h1 := fix r c w s hw hne
    rw [vv r c w hw] at h1 hg
    omega
end
/-- the changing of pairs along the moves: x is the row that is put anew next -/
structure Aug (S : R → Prop) (W : R → C → Option Int) (o0 : C → Option R) (m : R → Option C) (u : R → Int) (v : C → Int) (p : R → Option C) (o : C → Option R) (x : Option R) : Prop where
  a1 : ∀ c r, o c = some r → S r ∧ p r = some c ∧ ∃ w, W r c = some w ∧ w = u r + v c
  a2 : ∀ r c, p r = some c → some r ≠ x → o c = some r
  a3 : ∀ r c, p r = some c → S r
  a4 : ∀ c, o c = none → o0 c = none
  a5 : ∀ r, S r → p r = none → some r ≠ x → u r = 0
  a6 : ∀ c r, x = some r → o c ≠ some r
  a7 : ∀ r, x = some r → S r
  a8 : ∃ vis : R → Prop, (∀ c, o c ≠ o0 c → ∃ z, m z = some c ∧ vis z) ∧ ∀ r z, x = some r → vis z → ∃ y, (m z).bind o0 = some y ∧ Rch (fun z => (m z).bind o0) y r
section
variable {S : R → Prop} {W : R → C → Option Int} {p0 p : R → Option C} {o0 o : C → Option R} {ex : R → Prop} {u : R → Int} {v : C → Int} {m : R → Option C} {x : Option R}
theorem Aug.start (M : Mat S W p0 o0) (Z : Moves S W p0 o0 ex m u v) {f : R} (hex : ∀ r, ex r → r = f) (hf : S f) (hp : p0 f = none) (hps : ∀ r c, p0 r = some c → S r) : Aug S W o0 m u v p0 o0 (some f) := by
  refine ⟨fun c r h => ?_, fun r c h _ => (M.pin r c h).1, hps, fun _ h => h, fun r s h hx => ?_, fun c r h q => ?_, fun r h => ?_, fun _ => False, (fun c h => absurd rfl h), fun _ _ _ h => h.elim⟩
  · obtain ⟨s, e⟩ := M.own c r h
    obtain ⟨_, w, hw⟩ := M.pin r c e
    exact ⟨s, e, w, hw, Z.dual.tight r c w e hw⟩
  · exact Z.dual.free r s (fun q => hx (by rw [hex r q])) h
  · cases h
    obtain ⟨_, e⟩ := M.own c _ q
    rw [hp] at e; cases e
  · cases h; exact hf
/-- the current owner of the move's column is the owner that it had -/
theorem Aug.same (E : Ends fun z => (m z).bind o0) (A : Aug S W o0 m u v p o x) {r : R} {c : C} (hx : x = some r) (hm : m r = some c) : o c = o0 c := by
  by_cases q : o c = o0 c
  · exact q
  · obtain ⟨vis, h1, h2⟩ := A.a8
    obtain ⟨z, mz, vz⟩ := h1 c q
    obtain ⟨y, hy, ry⟩ := h2 r z hx vz
    have e : (m r).bind o0 = some y := by
      rw [hm]
      rw [mz] at hy
      exact hy
    exact (E.nocyc (f := fun z => (m z).bind o0) e ry).elim
theorem Aug.step (Z : Moves S W p0 o0 ex m u v) (A : Aug S W o0 m u v p o x) {r : R} {c : C} (hx : x = some r) (hm : m r = some c) :
    Aug S W o0 m u v (fup p r (some c)) (fup o c (some r)) (o c) ∧ (m r).bind o0 = o c := by
  have es := A.same Z.en hx hm
  have eb : (m r).bind o0 = o c := by rw [hm, es]; rfl
  have ny : o c ≠ some r := A.a6 c r hx
  refine ⟨⟨fun d z h => ?_, fun z d h hz => ?_, fun z d h => ?_, fun d h => ?_, fun z s h hz => ?_, fun d z h q => ?_, fun z h => ?_, ?_⟩, eb⟩
  · by_cases q : d = c
    · subst q
      rw [fup_same] at h
      cases h
      obtain ⟨s, w, hw, e⟩ := Z.ms _ _ hm
      exact ⟨s, fup_same, w, hw, e⟩
    · rw [fup_ne q] at h
      obtain ⟨s, e, k⟩ := A.a1 d z h
      have nz : z ≠ r := fun e2 => A.a6 d r hx (e2 ▸ h)
      exact ⟨s, by rw [fup_ne nz]; exact e, k⟩
  · by_cases q : z = r
    · subst q
      rw [fup_same] at h
      cases h
      exact fup_same
    · rw [fup_ne q] at h
      have e := A.a2 z d h (fun e2 => q (Option.some.inj (e2.trans hx)))
      have nd : d ≠ c := fun e2 => hz (by rw [← e2]; exact e.symm)
      rw [fup_ne nd]
      exact e
  · by_cases q : z = r
    · subst q; exact A.a7 z hx
    · rw [fup_ne q] at h
      exact A.a3 z d h
  · by_cases q : d = c
    · subst q
      rw [fup_same] at h; cases h
    · rw [fup_ne q] at h
      exact A.a4 d h
  · by_cases q : z = r
    · subst q
      rw [fup_same] at h; cases h
    · rw [fup_ne q] at h
      exact A.a5 z s h fun e2 => q (Option.some.inj (e2.trans hx))
  · by_cases e : d = c
    · subst e
      rw [fup_same] at q
      cases q
      exact ny h
    · rw [fup_ne e] at q
      obtain ⟨_, e1, _⟩ := A.a1 d z q
      obtain ⟨_, e2, _⟩ := A.a1 c z h
      rw [e1] at e2
      exact e (Option.some.inj e2)
  · exact (A.a1 c z h).1
  · obtain ⟨vis, h1, h2⟩ := A.a8
    refine ⟨fun z => vis z ∨ z = r, fun d h => ?_, fun y z hy hz => ?_⟩
    · by_cases q : d = c
      · subst q
        exact ⟨r, hm, .inr rfl⟩
      · rw [fup_ne q] at h
        obtain ⟨z, a, b⟩ := h1 d h
        exact ⟨z, a, .inl b⟩
    · have er : (fun z => (m z).bind o0) r = some y := eb.trans hy
      rcases hz with hz | hz
      · obtain ⟨y0, a, b⟩ := h2 r z hx hz
        exact ⟨y0, a, b.trans (.step er (.refl y))⟩
      · rw [hz]
        exact ⟨y, er, .refl y⟩
/-- at the end: the row that is left loses its place -/
def fdel (p : R → Option C) : Option R → R → Option C
  | none => p
  | some r => fup p r none
theorem Aug.done (Z : Moves S W p0 o0 ex m u v) (A : Aug S W o0 m u v p o x) (hx : ∀ r, x = some r → m r = none) :
    Mat S W (fdel p x) o ∧ Dual S W (fdel p x) o (fun _ => False) u v ∧ ∀ r c, fdel p x r = some c → S r := by
  have off : ∀ r c, fdel p x r = some c → p r = some c ∧ some r ≠ x := fun r c h => by
    cases x with
    | none => exact ⟨h, fun q => (nomatch q)⟩
    | some y =>
      have h' : fup p y none r = some c := h
      by_cases q : r = y
      · subst q; rw [fup_same] at h'; cases h'
      · rw [fup_ne q] at h'
        exact ⟨h', fun e => q (Option.some.inj e)⟩
  have on : ∀ r c, p r = some c → some r ≠ x → fdel p x r = some c := fun r c h hr => by
    cases x with
    | none => exact h
    | some y =>
      show fup p y none r = some c
      rw [fup_ne (fun e => hr (by rw [e]))]
      exact h
  refine ⟨⟨fun c r h => ?_, fun r c h => ?_⟩, ⟨Z.dual.u0, Z.dual.v0, Z.dual.cov, fun r c w h hw => ?_, fun r s _ h => ?_, fun c h => ?_⟩, fun r c h => A.a3 r c (off r c h).1⟩
  · obtain ⟨s, e, _⟩ := A.a1 c r h
    exact ⟨s, on r c e fun q => A.a6 c r q.symm h⟩
  · obtain ⟨e, ne⟩ := off r c h
    have ho := A.a2 r c e ne
    obtain ⟨_, _, w, hw, _⟩ := A.a1 c r ho
    exact ⟨ho, w, hw⟩
  · obtain ⟨e, ne⟩ := off r c h
    obtain ⟨_, _, w2, hw2, e2⟩ := A.a1 c r (A.a2 r c e ne)
    rw [hw] at hw2; cases hw2
    exact e2
  · by_cases q : some r = x
    · exact Z.mn r s (hx r q.symm)
    · refine A.a5 r s ?_ q
      cases e : p r with
      | none => rfl
      | some c =>
        rw [on r c e q] at h; cases h
  · exact Z.dual.freec c (A.a4 c h)
end
/-- one more row -/
theorem Dual.more {S : R → Prop} {W : R → C → Option Int} {p : R → Option C} {o : C → Option R} {u : R → Int} {v : C → Int} (D : Dual S W p o (fun _ => False) u v) {f : R} (hf : ¬ S f) (hp : ∀ r c, p r = some c → S r) {B : Int} (hB : 0 ≤ B) (hb : ∀ c w, W f c = some w → w ≤ B) :
    Dual (fun r => S r ∨ r = f) W p o (fun r => r = f) (fup u f B) v := by
  refine ⟨fun r => ?_, D.v0, fun r c w s hw => ?_, fun r c w h hw => ?_, fun r s hx h => ?_, D.freec⟩
  · by_cases q : r = f
    · rw [q, fup_same]; exact hB
    · rw [fup_ne q]; exact D.u0 r
  · by_cases q : r = f
    · rw [q, fup_same]
      have h1 := hb c w (q ▸ hw)
      have h2 := D.v0 c
      omega
    · rw [fup_ne q]
      exact D.cov r c w (s.resolve_right q) hw
  · have q : r ≠ f := fun e => hf (e ▸ hp r c h)
    rw [fup_ne q]
    exact D.tight r c w h hw
  · rw [fup_ne hx]
    exact D.free r (s.resolve_right hx) (fun z => z) h
theorem Mat.more {S : R → Prop} {W : R → C → Option Int} {p : R → Option C} {o : C → Option R} (M : Mat S W p o) (f : R) : Mat (fun r => S r ∨ r = f) W p o :=
  ⟨fun c r h => ⟨.inl (M.own c r h).1, (M.own c r h).2⟩, M.pin⟩
theorem Mat.none {S : R → Prop} {W : R → C → Option Int} : Mat S W (fun _ => none) (fun _ : C => none) := ⟨fun _ _ h => (nomatch h), fun _ _ h => (nomatch h)⟩
theorem Dual.none {S : R → Prop} {W : R → C → Option Int} (h : ∀ r, ¬ S r) : Dual S W (fun _ => none) (fun _ : C => none) (fun _ => False) (fun _ => 0) (fun _ => 0) :=
  ⟨fun _ => Int.le_refl 0, fun _ => Int.le_refl 0, fun r _ _ s => (h r s).elim, fun _ _ _ q => (nomatch q), fun _ _ _ _ => rfl, fun _ _ => rfl⟩
/-- the measure of the gains: what they may still grow -/
def room (l : List R) (u g : R → Int) : Nat := (l.map fun r => (u r - g r).toNat).sum
theorem room_le {l : List R} {u g g' : R → Int} (h : ∀ r ∈ l, g r ≤ g' r) : room l u g' ≤ room l u g := by
  induction l with
  | nil => exact Nat.le_refl _
  | cons a l ih =>
    have h1 := h a List.mem_cons_self
    have h2 := ih fun r hr => h r (List.mem_cons_of_mem _ hr)
    show (u a - g' a).toNat + room l u g' ≤ (u a - g a).toNat + room l u g
    omega
theorem room_put {l : List R} {u g : R → Int} {r : R} {z : Int} (hr : r ∈ l) (h1 : g r < z) (h2 : z ≤ u r) : room l u (fup g r z) < room l u g := by
  induction l with
  | nil => cases hr
  | cons a l ih =>
    have mono : ∀ b, g b ≤ fup g r z b := fun b => by
      by_cases q : b = r
      · rw [q, fup_same]; omega
      · rw [fup_ne q]; exact Int.le_refl _
    show (u a - fup g r z a).toNat + room l u (fup g r z) < (u a - g a).toNat + room l u g
    by_cases q : a = r
    · subst q
      have h3 : room l u (fup g a z) ≤ room l u g := room_le fun b _ => mono b
      rw [fup_same]
      omega
    · have h3 := ih ((List.mem_cons.mp hr).resolve_left fun e => q e.symm)
      rw [fup_ne q]
      omega
end KM

set_option Elab.async false
set_option linter.all false
set_option maxRecDepth 100000
set_option maxHeartbeats 4000000
/-! the text by places, what the head has to tell -/
namespace KN
open PySem L2
def top (i : Nat) : Stmt := PySem.Challenge.pw_keptnames_k89_whole_pins_hold.main.body.getD i (.Pass ⟨0, 0, 0, 0⟩)
abbrev s_is_integer : Stmt := top 19
abbrev s_is_id_items : Stmt := top 20
abbrev s_is_weight : Stmt := top 22
abbrev s_are_fields : Stmt := top 23
abbrev s_is_item : Stmt := top 24
abbrev s_is_part : Stmt := top 25
abbrev s_is_rule : Stmt := top 26
abbrev s_is_name : Stmt := top 27
abbrev s_key_of : Stmt := top 28
abbrev s_keyed_groups : Stmt := top 29
abbrev s_group_items : Stmt := top 30
abbrev s_row_entries : Stmt := top 32
abbrev s_best_moves : Stmt := top 33
abbrev s_greatest_pairs : Stmt := top 34
abbrev s_label_table : Stmt := top 36
abbrev s_without : Stmt := top 37
abbrev s_table_names : Stmt := top 38
abbrev s_table_places : Stmt := top 39
abbrev s_exact_table : Stmt := top 40
abbrev s_best_carrying : Stmt := top 42
abbrev s_places_of : Stmt := top 44
abbrev s_labels_of : Stmt := top 45
abbrev s_counting_pins : Stmt := top 46
abbrev s_open_table : Stmt := top 47
abbrev s_carry_over : Stmt := top 48
abbrev s_is_id_book : Stmt := top 50
abbrev s_State_init : Stmt := inClass (top 52) 0
abbrev s_State_told_labels : Stmt := inClass (top 52) 1
abbrev s_State_weights : Stmt := inClass (top 52) 2
abbrev s_State_place_keys : Stmt := inClass (top 52) 3
abbrev s_State_place_of : Stmt := inClass (top 52) 4
abbrev s_State_changed : Stmt := inClass (top 52) 6
abbrev s_State_renamed : Stmt := inClass (top 52) 7
abbrev s_State_given : Stmt := inClass (top 52) 8
abbrev s_NameBook_init : Stmt := inClass (top 53) 1
abbrev s_NameBook_made : Stmt := inClass (top 53) 2
abbrev s_NameBook_width : Stmt := inClass (top 53) 3
abbrev s_NameBook_rule : Stmt := inClass (top 53) 4
abbrev s_NameBook_now : Stmt := inClass (top 53) 5
abbrev s_NameBook_keep : Stmt := inClass (top 53) 6
abbrev s_NameBook_need_known : Stmt := inClass (top 53) 9
abbrev s_NameBook_need_name : Stmt := inClass (top 53) 10
abbrev s_NameBook_add_item : Stmt := inClass (top 53) 11
abbrev s_NameBook_drop : Stmt := inClass (top 53) 12
abbrev s_NameBook_set_fields : Stmt := inClass (top 53) 13
abbrev s_NameBook_set_rule : Stmt := inClass (top 53) 15
abbrev s_NameBook_give : Stmt := inClass (top 53) 16
abbrev s_NameBook_pin : Stmt := inClass (top 53) 18
abbrev s_NameBook_unpin : Stmt := inClass (top 53) 19
abbrev s_NameBook_all_items : Stmt := inClass (top 53) 20
abbrev s_NameBook_groups : Stmt := inClass (top 53) 21
abbrev s_NameBook_names : Stmt := inClass (top 53) 22
abbrev s_NameBook_pins : Stmt := inClass (top 53) 23
abbrev s_NameBook_copied : Stmt := inClass (top 53) 29
abbrev s_NameBook_len : Stmt := inClass (top 53) 31
abbrev s__law_stream : Stmt := top 56
abbrev s__law_draw : Stmt := top 57
abbrev s__law_choose : Stmt := top 58
abbrev s__law_done : Stmt := top 59
abbrev s__law_dropped : Stmt := top 60
abbrev s__law_named : Stmt := top 61
abbrev s__law_unnamed : Stmt := top 62
abbrev s__law_item : Stmt := top 63
abbrev s__law_some_rule : Stmt := top 64
abbrev s__law_change : Stmt := top 65
abbrev s__law_filled : Stmt := top 66
abbrev s__law_right : Stmt := top 67
abbrev s__law_pins_right : Stmt := top 68
abbrev s_law : Stmt := top 69
def d_is_integer : He5.DefA := ⟨fun K => He.ga K "is_integer", "is_integer", "is_integer", defArgs s_is_integer, defBody s_is_integer, defScope s_is_integer, [], []⟩
def d_is_id_items : He5.DefA := ⟨fun K => He.ga K "is_id_items", "is_id", "is_id", defArgs s_is_id_items, defBody s_is_id_items, defScope s_is_id_items, [], []⟩
def d_is_weight : He5.DefA := ⟨fun K => He.ga K "is_weight", "is_weight", "is_weight", defArgs s_is_weight, defBody s_is_weight, defScope s_is_weight, [], []⟩
def d_are_fields : He5.DefA := ⟨fun K => He.ga K "are_fields", "are_fields", "are_fields", defArgs s_are_fields, defBody s_are_fields, defScope s_are_fields, [], []⟩
def d_is_item : He5.DefA := ⟨fun K => He.ga K "is_item", "is_item", "is_item", defArgs s_is_item, defBody s_is_item, defScope s_is_item, [], []⟩
def d_is_part : He5.DefA := ⟨fun K => He.ga K "is_part", "is_part", "is_part", defArgs s_is_part, defBody s_is_part, defScope s_is_part, [], []⟩
def d_is_rule : He5.DefA := ⟨fun K => He.ga K "is_rule", "is_rule", "is_rule", defArgs s_is_rule, defBody s_is_rule, defScope s_is_rule, [], []⟩
def d_is_name : He5.DefA := ⟨fun K => He.ga K "is_name", "is_name", "is_name", defArgs s_is_name, defBody s_is_name, defScope s_is_name, [], []⟩
def d_key_of : He5.DefA := ⟨fun K => He.ga K "key_of", "key_of", "key_of", defArgs s_key_of, defBody s_key_of, defScope s_key_of, [], []⟩
def d_keyed_groups : He5.DefA := ⟨fun K => He.ga K "keyed_groups", "keyed_groups", "keyed_groups", defArgs s_keyed_groups, defBody s_keyed_groups, defScope s_keyed_groups, [], []⟩
def d_group_items : He5.DefA := ⟨fun K => He.ga K "group_items", "group_items", "group_items", defArgs s_group_items, defBody s_group_items, defScope s_group_items, [], []⟩
def d_row_entries : He5.DefA := ⟨fun K => He.ga K "row_entries", "row_entries", "row_entries", defArgs s_row_entries, defBody s_row_entries, defScope s_row_entries, [], []⟩
def d_best_moves : He5.DefA := ⟨fun K => He.ga K "best_moves", "best_moves", "best_moves", defArgs s_best_moves, defBody s_best_moves, defScope s_best_moves, [], []⟩
def d_greatest_pairs : He5.DefA := ⟨fun K => He.ga K "greatest_pairs", "greatest_pairs", "greatest_pairs", defArgs s_greatest_pairs, defBody s_greatest_pairs, defScope s_greatest_pairs, [], []⟩
def d_label_table : He5.DefA := ⟨fun K => He.ga K "label_table", "label_table", "label_table", defArgs s_label_table, defBody s_label_table, defScope s_label_table, [], []⟩
def d_without : He5.DefA := ⟨fun K => He.ga K "without", "without", "without", defArgs s_without, defBody s_without, defScope s_without, [], []⟩
def d_table_names : He5.DefA := ⟨fun K => He.ga K "table_names", "table_names", "table_names", defArgs s_table_names, defBody s_table_names, defScope s_table_names, [], []⟩
def d_table_places : He5.DefA := ⟨fun K => He.ga K "table_places", "table_places", "table_places", defArgs s_table_places, defBody s_table_places, defScope s_table_places, [], []⟩
def d_exact_table : He5.DefA := ⟨fun K => He.ga K "exact_table", "exact_table", "exact_table", defArgs s_exact_table, defBody s_exact_table, defScope s_exact_table, [], []⟩
def d_best_carrying : He5.DefA := ⟨fun K => He.ga K "best_carrying", "best_carrying", "best_carrying", defArgs s_best_carrying, defBody s_best_carrying, defScope s_best_carrying, [], []⟩
def d_places_of : He5.DefA := ⟨fun K => He.ga K "places_of", "places_of", "places_of", defArgs s_places_of, defBody s_places_of, defScope s_places_of, [], []⟩
def d_labels_of : He5.DefA := ⟨fun K => He.ga K "labels_of", "labels_of", "labels_of", defArgs s_labels_of, defBody s_labels_of, defScope s_labels_of, [], []⟩
def d_counting_pins : He5.DefA := ⟨fun K => He.ga K "counting_pins", "counting_pins", "counting_pins", defArgs s_counting_pins, defBody s_counting_pins, defScope s_counting_pins, [], []⟩
def d_open_table : He5.DefA := ⟨fun K => He.ga K "open_table", "open_table", "open_table", defArgs s_open_table, defBody s_open_table, defScope s_open_table, [], []⟩
def d_carry_over : He5.DefA := ⟨fun K => He.ga K "carry_over", "carry_over", "carry_over", defArgs s_carry_over, defBody s_carry_over, defScope s_carry_over, [], []⟩
def d_is_id_book : He5.DefA := ⟨fun K => He.ga K "is_id_book", "is_id", "is_id", defArgs s_is_id_book, defBody s_is_id_book, defScope s_is_id_book, [], []⟩
def d_State_init : He5.DefA := ⟨fun K => He.ma K (He.ga K "State") "__init__", "__init__", "State.__init__", defArgs s_State_init, defBody s_State_init, defScope s_State_init, [], []⟩
def d_State_told_labels : He5.DefA := ⟨fun K => He.ma K (He.ga K "State") "told_labels", "told_labels", "State.told_labels", defArgs s_State_told_labels, defBody s_State_told_labels, defScope s_State_told_labels, [], []⟩
def d_State_weights : He5.DefA := ⟨fun K => He.ma K (He.ga K "State") "weights", "weights", "State.weights", defArgs s_State_weights, defBody s_State_weights, defScope s_State_weights, [], []⟩
def d_State_place_keys : He5.DefA := ⟨fun K => He.ma K (He.ga K "State") "place_keys", "place_keys", "State.place_keys", defArgs s_State_place_keys, defBody s_State_place_keys, defScope s_State_place_keys, [], []⟩
def d_State_place_of : He5.DefA := ⟨fun K => He.ma K (He.ga K "State") "place_of", "place_of", "State.place_of", defArgs s_State_place_of, defBody s_State_place_of, defScope s_State_place_of, [], []⟩
def d_State_changed : He5.DefA := ⟨fun K => He.ma K (He.ga K "State") "changed", "changed", "State.changed", defArgs s_State_changed, defBody s_State_changed, defScope s_State_changed, [], []⟩
def d_State_renamed : He5.DefA := ⟨fun K => He.ma K (He.ga K "State") "renamed", "renamed", "State.renamed", defArgs s_State_renamed, defBody s_State_renamed, defScope s_State_renamed, [], []⟩
def d_State_given : He5.DefA := ⟨fun K => He.ma K (He.ga K "State") "given", "given", "State.given", defArgs s_State_given, defBody s_State_given, defScope s_State_given, [], []⟩
def d_NameBook_init : He5.DefA := ⟨fun K => He.ma K (He.ga K "NameBook") "__init__", "__init__", "NameBook.__init__", defArgs s_NameBook_init, defBody s_NameBook_init, defScope s_NameBook_init, [], []⟩
def d_NameBook_made : He5.DefA := ⟨fun K => He5.wf K (He.ga K "NameBook") "classmethod" "made", "made", "NameBook.made", defArgs s_NameBook_made, defBody s_NameBook_made, defScope s_NameBook_made, [], []⟩
def d_NameBook_width : He5.DefA := ⟨fun K => He5.wf K (He.ga K "NameBook") "property" "width", "width", "NameBook.width", defArgs s_NameBook_width, defBody s_NameBook_width, defScope s_NameBook_width, [], []⟩
def d_NameBook_rule : He5.DefA := ⟨fun K => He5.wf K (He.ga K "NameBook") "property" "rule", "rule", "NameBook.rule", defArgs s_NameBook_rule, defBody s_NameBook_rule, defScope s_NameBook_rule, [], []⟩
def d_NameBook_now : He5.DefA := ⟨fun K => He.ma K (He.ga K "NameBook") "now", "now", "NameBook.now", defArgs s_NameBook_now, defBody s_NameBook_now, defScope s_NameBook_now, [], []⟩
def d_NameBook_keep : He5.DefA := ⟨fun K => He.ma K (He.ga K "NameBook") "keep", "keep", "NameBook.keep", defArgs s_NameBook_keep, defBody s_NameBook_keep, defScope s_NameBook_keep, [], []⟩
def d_NameBook_need_known : He5.DefA := ⟨fun K => He.ma K (He.ga K "NameBook") "need_known", "need_known", "NameBook.need_known", defArgs s_NameBook_need_known, defBody s_NameBook_need_known, defScope s_NameBook_need_known, [], []⟩
def d_NameBook_need_name : He5.DefA := ⟨fun K => He.ma K (He.ga K "NameBook") "need_name", "need_name", "NameBook.need_name", defArgs s_NameBook_need_name, defBody s_NameBook_need_name, defScope s_NameBook_need_name, [], []⟩
def d_NameBook_add_item : He5.DefA := ⟨fun K => He.ma K (He.ga K "NameBook") "add_item", "add_item", "NameBook.add_item", defArgs s_NameBook_add_item, defBody s_NameBook_add_item, defScope s_NameBook_add_item, [], []⟩
def d_NameBook_drop : He5.DefA := ⟨fun K => He.ma K (He.ga K "NameBook") "drop", "drop", "NameBook.drop", defArgs s_NameBook_drop, defBody s_NameBook_drop, defScope s_NameBook_drop, [], []⟩
def d_NameBook_set_fields : He5.DefA := ⟨fun K => He.ma K (He.ga K "NameBook") "set_fields", "set_fields", "NameBook.set_fields", defArgs s_NameBook_set_fields, defBody s_NameBook_set_fields, defScope s_NameBook_set_fields, [], []⟩
def d_NameBook_set_rule : He5.DefA := ⟨fun K => He.ma K (He.ga K "NameBook") "set_rule", "set_rule", "NameBook.set_rule", defArgs s_NameBook_set_rule, defBody s_NameBook_set_rule, defScope s_NameBook_set_rule, [], []⟩
def d_NameBook_give : He5.DefA := ⟨fun K => He.ma K (He.ga K "NameBook") "give", "give", "NameBook.give", defArgs s_NameBook_give, defBody s_NameBook_give, defScope s_NameBook_give, [], []⟩
def d_NameBook_pin : He5.DefA := ⟨fun K => He.ma K (He.ga K "NameBook") "pin", "pin", "NameBook.pin", defArgs s_NameBook_pin, defBody s_NameBook_pin, defScope s_NameBook_pin, [], []⟩
def d_NameBook_unpin : He5.DefA := ⟨fun K => He.ma K (He.ga K "NameBook") "unpin", "unpin", "NameBook.unpin", defArgs s_NameBook_unpin, defBody s_NameBook_unpin, defScope s_NameBook_unpin, [], []⟩
def d_NameBook_all_items : He5.DefA := ⟨fun K => He.ma K (He.ga K "NameBook") "all_items", "all_items", "NameBook.all_items", defArgs s_NameBook_all_items, defBody s_NameBook_all_items, defScope s_NameBook_all_items, [], []⟩
def d_NameBook_groups : He5.DefA := ⟨fun K => He.ma K (He.ga K "NameBook") "groups", "groups", "NameBook.groups", defArgs s_NameBook_groups, defBody s_NameBook_groups, defScope s_NameBook_groups, [], []⟩
def d_NameBook_names : He5.DefA := ⟨fun K => He.ma K (He.ga K "NameBook") "names", "names", "NameBook.names", defArgs s_NameBook_names, defBody s_NameBook_names, defScope s_NameBook_names, [], []⟩
def d_NameBook_pins : He5.DefA := ⟨fun K => He.ma K (He.ga K "NameBook") "pins", "pins", "NameBook.pins", defArgs s_NameBook_pins, defBody s_NameBook_pins, defScope s_NameBook_pins, [], []⟩
def d_NameBook_copied : He5.DefA := ⟨fun K => He.ma K (He.ga K "NameBook") "copied", "copied", "NameBook.copied", defArgs s_NameBook_copied, defBody s_NameBook_copied, defScope s_NameBook_copied, [], []⟩
def d_NameBook_len : He5.DefA := ⟨fun K => He.ma K (He.ga K "NameBook") "__len__", "__len__", "NameBook.__len__", defArgs s_NameBook_len, defBody s_NameBook_len, defScope s_NameBook_len, [], []⟩
def d__law_stream : He5.DefA := ⟨fun K => He.ga K "_law_stream", "_law_stream", "_law_stream", defArgs s__law_stream, defBody s__law_stream, defScope s__law_stream, [], []⟩
def d__law_draw : He5.DefA := ⟨fun K => He.ga K "_law_draw", "_law_draw", "_law_draw", defArgs s__law_draw, defBody s__law_draw, defScope s__law_draw, [], []⟩
def d__law_choose : He5.DefA := ⟨fun K => He.ga K "_law_choose", "_law_choose", "_law_choose", defArgs s__law_choose, defBody s__law_choose, defScope s__law_choose, [], []⟩
def d__law_done : He5.DefA := ⟨fun K => He.ga K "_law_done", "_law_done", "_law_done", defArgs s__law_done, defBody s__law_done, defScope s__law_done, [], []⟩
def d__law_dropped : He5.DefA := ⟨fun K => He.ga K "_law_dropped", "_law_dropped", "_law_dropped", defArgs s__law_dropped, defBody s__law_dropped, defScope s__law_dropped, [], []⟩
def d__law_named : He5.DefA := ⟨fun K => He.ga K "_law_named", "_law_named", "_law_named", defArgs s__law_named, defBody s__law_named, defScope s__law_named, [], []⟩
def d__law_unnamed : He5.DefA := ⟨fun K => He.ga K "_law_unnamed", "_law_unnamed", "_law_unnamed", defArgs s__law_unnamed, defBody s__law_unnamed, defScope s__law_unnamed, [], []⟩
def d__law_item : He5.DefA := ⟨fun K => He.ga K "_law_item", "_law_item", "_law_item", defArgs s__law_item, defBody s__law_item, defScope s__law_item, [], []⟩
def d__law_some_rule : He5.DefA := ⟨fun K => He.ga K "_law_some_rule", "_law_some_rule", "_law_some_rule", defArgs s__law_some_rule, defBody s__law_some_rule, defScope s__law_some_rule, [], []⟩
def d__law_change : He5.DefA := ⟨fun K => He.ga K "_law_change", "_law_change", "_law_change", defArgs s__law_change, defBody s__law_change, defScope s__law_change, [], []⟩
def d__law_filled : He5.DefA := ⟨fun K => He.ga K "_law_filled", "_law_filled", "_law_filled", defArgs s__law_filled, defBody s__law_filled, defScope s__law_filled, [], []⟩
def d__law_right : He5.DefA := ⟨fun K => He.ga K "_law_right", "_law_right", "_law_right", defArgs s__law_right, defBody s__law_right, defScope s__law_right, [], []⟩
def d__law_pins_right : He5.DefA := ⟨fun K => He.ga K "_law_pins_right", "_law_pins_right", "_law_pins_right", defArgs s__law_pins_right, defBody s__law_pins_right, defScope s__law_pins_right, [], []⟩
def d_law : He5.DefA := ⟨fun K => He.ga K "law", "law", "law", defArgs s_law, defBody s_law, defScope s_law, [], []⟩
def fn0 : List He5.DefA := [d_is_integer, d_is_id_items, d_is_weight, d_are_fields, d_is_item, d_is_part, d_is_rule, d_is_name, d_key_of, d_keyed_groups, d_group_items, d_row_entries, d_best_moves, d_greatest_pairs, d_label_table, d_without, d_table_names, d_table_places, d_exact_table, d_best_carrying]
def fn1 : List He5.DefA := [d_places_of, d_labels_of, d_counting_pins, d_open_table, d_carry_over, d_is_id_book, d_State_init, d_State_told_labels, d_State_weights, d_State_place_keys, d_State_place_of, d_State_changed, d_State_renamed, d_State_given, d_NameBook_init, d_NameBook_made, d_NameBook_width, d_NameBook_rule, d_NameBook_now, d_NameBook_keep]
def fn2 : List He5.DefA := [d_NameBook_need_known, d_NameBook_need_name, d_NameBook_add_item, d_NameBook_drop, d_NameBook_set_fields, d_NameBook_set_rule, d_NameBook_give, d_NameBook_pin, d_NameBook_unpin, d_NameBook_all_items, d_NameBook_groups, d_NameBook_names, d_NameBook_pins, d_NameBook_copied, d_NameBook_len, d__law_stream, d__law_draw, d__law_choose, d__law_done, d__law_dropped]
def fn3 : List He5.DefA := [d__law_named, d__law_unnamed, d__law_item, d__law_some_rule, d__law_change, d__law_filled, d__law_right, d__law_pins_right, d_law]
def fn : List He5.DefA := fn0 ++ (fn1 ++ (fn2 ++ (fn3)))
def fa0 : List He.Fa := [.glo "is_integer", .glo "is_id_items", .glo "is_weight", .glo "are_fields", .glo "is_item", .glo "is_part", .glo "is_rule", .glo "is_name", .glo "key_of", .glo "keyed_groups", .glo "group_items", .glo "row_entries", .glo "best_moves", .glo "greatest_pairs", .glo "label_table", .glo "without", .glo "table_names", .glo "table_places", .glo "exact_table", .glo "best_carrying"]
def fa1 : List He.Fa := [.glo "places_of", .glo "labels_of", .glo "counting_pins", .glo "open_table", .glo "carry_over", .glo "is_id_book", .glo "_law_stream", .glo "_law_draw", .glo "_law_choose", .glo "_law_done", .glo "_law_dropped", .glo "_law_named", .glo "_law_unnamed", .glo "_law_item", .glo "_law_some_rule", .glo "_law_change", .glo "_law_filled", .glo "_law_right", .glo "_law_pins_right", .glo "law"]
def fa2 : List He.Fa := [.glo "State", .glo "NameBook", .free "isinstance", .free "int", .free "bool", .free "tuple", .free "str", .free "len", .free "all", .free "set", .free "list", .free "sorted", .free "dict", .free "enumerate", .free "range", .int "MAX_ID" 1000000, .int "MAX_WEIGHT" 1000000, .int "MAX_FIELD" 1000000000, .int "MAX_WIDTH" 4, .int "MAX_NAME" 12]
def fa3 : List He.Fa := [.str "LETTERS" "abcdefghijklmnopqrstuvwxyz", .cls "State", .cls "NameBook", .mkr "State", .mkr "NameBook", .noat "State" "store", .noat "State" "columns", .noat "State" "parts", .noat "State" "named", .noat "State" "pinned", .noat "NameBook" "size", .noat "NameBook" "states", .noat "NameBook" "spot", .noat "NameBook" "depth", .meth "State" "told_labels", .meth "State" "weights", .meth "State" "place_keys", .meth "State" "place_of", .meth "State" "changed", .meth "State" "renamed"]
def fa4 : List He.Fa := [.meth "State" "given", .meth "NameBook" "now", .meth "NameBook" "keep", .meth "NameBook" "need_known", .meth "NameBook" "need_name", .meth "NameBook" "add_item", .meth "NameBook" "drop", .meth "NameBook" "set_fields", .meth "NameBook" "set_rule", .meth "NameBook" "give", .meth "NameBook" "pin", .meth "NameBook" "unpin", .meth "NameBook" "all_items", .meth "NameBook" "groups", .meth "NameBook" "names", .meth "NameBook" "pins", .meth "NameBook" "copied", .keep "is_integer", .keep "is_id_items", .keep "is_weight"]
def fa5 : List He.Fa := [.keep "are_fields", .keep "is_item", .keep "is_part", .keep "is_rule", .keep "is_name", .keep "key_of", .keep "keyed_groups", .keep "group_items", .keep "row_entries", .keep "best_moves", .keep "greatest_pairs", .keep "label_table", .keep "without", .keep "table_names", .keep "table_places", .keep "exact_table", .keep "best_carrying", .keep "places_of", .keep "labels_of", .keep "counting_pins"]
def fa6 : List He.Fa := [.keep "open_table", .keep "carry_over", .keep "is_id_book", .keep "_law_stream", .keep "_law_draw", .keep "_law_choose", .keep "_law_done", .keep "_law_dropped", .keep "_law_named", .keep "_law_unnamed", .keep "_law_item", .keep "_law_some_rule", .keep "_law_change", .keep "_law_filled", .keep "_law_right", .keep "_law_pins_right", .keep "law", .keep "State", .keep "NameBook"]
def fa : List He.Fa := fa0 ++ (fa1 ++ (fa2 ++ (fa3 ++ (fa4 ++ (fa5 ++ (fa6))))))
end KN

set_option Elab.async false
set_option linter.all false
set_option maxRecDepth 100000
set_option maxHeartbeats 4000000
/-! {**a, **b}, {**a, k: v} -/
namespace KN
open PySem PySem.Spec PyProof.Rows L2
section
variable {prog : Program} {w : World} {K : Type} [DecidableEq K] {knd : KeyKind prog w K} {A : Around} {E : Value → Shared → Prop} {s : Shared}
theorem dictPut_pairs {d : Addr} {kvs : List (K × Value)} {k : K} {key v : Value} {Q : Unit → Shared → Prop} (hkey : knd.is k key = true) (hm : s.heap.DictOf knd d kvs)
    (hQ : ∀ h', h'.DictOf knd d (stored kvs k v) → Heap.SameBut d s.heap h' → Q () { s with heap := h' })
    (hsz : kvs.length ≤ sizeLine) :
    wpAny (model prog w) A (dictPut d (knd.hash k) key v) Q E s := by
  obtain ⟨o, es, ep, ho, hc, hd, hk, hp, hn⟩ := hm
  have hes : es.size ≤ sizeLine := by have e1 := hp.length; have e2 : es.toList.length = es.size := by simp
                                      omega
  unfold dictPut
  refine wpAny_bind (wpAny_dictFind_of hkey ho hd hk ?_)
  have hidx : (es.findIdx? fun e => knd.is k e.key) = kvs.findIdx? fun kv => decide (kv.1 = k) := by
    rw [← hp.findIdx k]; obtain ⟨l⟩ := es; simp
  cases hi : es.findIdx? fun e => knd.is k e.key with
  | some i =>
    refine wpAny_updateDict ho hd (hQ _ ⟨_, _, ep, Heap.get?_update_self _ ho (Obj.isFreed_of_dict (Obj.data_mapDict hd _)),
      hc.mapDict _, Obj.data_mapDict hd _, hk.modify _ _, ?_, ?_⟩ (Heap.SameBut.update ..))
    · rw [stored, if_pos (any_of_findIdx_some (hidx ▸ hi))]
      have hl : (es.toList.findIdx? fun e => knd.is k e.key) = some i := by rw [← hi]; obtain ⟨l⟩ := es; simp
      have := hp.modify hn hl v
      obtain ⟨l⟩ := es
      simpa using this
    · rw [stored, if_pos (any_of_findIdx_some (hidx ▸ hi)), keys_map_store]; exact hn
  | none =>
    have hnot : k ∉ kvs.map (·.1) := not_mem_of_findIdx_none (hidx ▸ hi)
    have hany : ¬ (kvs.any fun kv => decide (kv.1 = k)) = true := by
      rw [List.any_eq_true]; rintro ⟨kv, hkv, he⟩
      exact hnot (List.mem_map.mpr ⟨kv, hkv, of_decide_eq_true he⟩)
    refine wpAny_updateDictKeys (hz := hes) ho hd (hQ _ ⟨_, _, ep + 1, Heap.get?_update_self _ ho (Obj.isFreed_of_dict (Obj.data_mapDictKeys hd _)),
      hc.mapDictKeys _, Obj.data_mapDictKeys hd _, hk.push hkey _, ?_, ?_⟩ (Heap.SameBut.update ..))
    · rw [stored, if_neg hany]
      have := hp.append hkey (knd.hash k) v
      obtain ⟨l⟩ := es
      simpa using this
    · rw [stored, if_neg hany, List.map_append, List.nodup_append]
      refine ⟨hn, by simp, ?_⟩
      intro a ha b hb
      simp only [List.map_cons, List.map_nil, List.mem_singleton] at hb
      subst hb
      exact fun e => hnot (e ▸ ha)
theorem merge_pairs {d o : Addr} {kvs more : List (K × Value)} {Q : Unit → Shared → Prop} (hdo : d ≠ o) (hoS : (o == sysModules) = false)
    (hd : s.heap.DictOf knd d kvs) (ho : s.heap.DictOf knd o more)
    (hQ : ∀ h', h'.DictOf knd d (merged kvs more) → Heap.SameBut d s.heap h' → Q () { s with heap := h' })
    (hsz : kvs.length + more.length ≤ sizeLine) :
    wpAny (model prog w) A (mergeMapping d (.ref o) false) Q E s := by
  obtain ⟨od, esd, epd, hod, hcd, hdd, hkd, hpd, hnd⟩ := id hd
  obtain ⟨oo, eso, epo, hoo, hco, hdo', hko, hpo, hno⟩ := id ho
  have hlen : more.length = eso.size := by rw [← hpo.length]; simp
  unfold mergeMapping
  refine wpAny_bind ?_
  refine wpAny_isInstance ho.typeIs isSubtype_dict_dict ?_
  rw [if_pos rfl]
  refine wpAny_bind ?_
  refine wpAny_specialOf ho.typeIs PySem.F.slot_dict_iter.lookup ?_
  refine wpAny_bind (wpAny_pure ?_)
  rw [show (some (Value.builtin "dict.__iter__") == some (Value.builtin "dict.__iter__")) = true from by decide +kernel]
  dsimp only
  rw [if_neg (by rw [hoS]; exact Bool.false_ne_true)]
  have loop : wpAny (model prog w) A (do
      let l ← dictEntries o
      let epoch ← dictEpoch o
      forIn (List.range l.size) PUnit.unit fun i (_ : PUnit) => (do
          let l' ← dictEntries o
          match l'[i]? with
            | some e => do
              holding [e.key, e.val] (dictPut d e.hash e.key e.val)
              let ep' ← dictEpoch o
              if (ep' != epoch) = true then do
                  (unsupported "dict.changed-during-merge" : Sem PUnit)
                  pure (ForInStep.yield PUnit.unit)
                else pure (ForInStep.yield PUnit.unit)
            | _ => do
              (unsupported "dict.changed-during-merge" : Sem PUnit)
              pure (ForInStep.yield PUnit.unit) : Sem (ForInStep PUnit))
      pure ()) Q E s := by
    refine wpAny_bind (wpAny_dictEntries hoo hdo' ?_)
    refine wpAny_bind (wpAny_dictEpoch hoo hdo' ?_)
    refine wpAny_bind ?_
    rw [show List.range eso.size = List.range' 0 eso.size from List.range_eq_range']
    refine wpAny_forIn_list _
      (fun rest _ s' => ∃ h' i, s' = { s with heap := h' } ∧ rest = List.range' i (eso.size - i) ∧ i ≤ eso.size ∧ h'.DictOf knd d (merged kvs (more.take i)) ∧ h'.get? o = some oo ∧ Heap.SameBut d s.heap h')
      _ ?_ ?_ _ _ ⟨s.heap, 0, rfl, by simp, Nat.zero_le _, by simpa [merged] using hd, hoo, Heap.SameBut.refl _ _⟩
    · rintro x rest b s' ⟨h', i, rfl, hr, hi, hd', hoo', hs'⟩
      have hlt : i < eso.size := by
        rcases Nat.lt_or_ge i eso.size with h | h
        · exact h
        · rw [Nat.sub_eq_zero_of_le h] at hr; simp at hr
      obtain ⟨rfl, hrest⟩ : x = i ∧ rest = List.range' (i + 1) (eso.size - (i + 1)) := by
        have e : eso.size - i = (eso.size - (i + 1)) + 1 := by omega
        rw [e, List.range'_succ] at hr
        injection hr with h1 h2
        exact ⟨h1, h2⟩
      refine wpAny_bind (wpAny_dictEntries hoo' hdo' ?_)
      rw [Array.getElem?_eq_getElem hlt]
      obtain ⟨kv, hkv⟩ : ∃ kv, more[x]? = some kv := ⟨more[x]'(by rw [hlen]; exact hlt), List.getElem?_eq_getElem _⟩
      obtain ⟨k, v⟩ := kv
      obtain ⟨hkey, hval⟩ := hpo.get? (e := eso[x]) (by simp [hlt]) hkv
      obtain ⟨k', hkey', hhash⟩ := hko eso[x] (Array.getElem_mem hlt)
      obtain rfl : k' = k := knd.inj _ _ _ hkey' hkey
      show wpAny _ _ (holding [eso[x].key, eso[x].val] (dictPut d eso[x].hash eso[x].key eso[x].val) >>= _) _ _ _
      rw [hhash, hval]
      have hmx : (merged kvs (more.take x)).length ≤ sizeLine := by
        have e1 := merged_length_le kvs (more.take x)
        have e2 : (more.take x).length ≤ more.length := by rw [List.length_take]; omega
        omega
      refine wpAny_bind (wpAny_holding (dictPut_pairs (hsz := hmx) hkey hd' fun h'' hd'' hs'' => ?_))
      have hoo'' : h''.get? o = some oo := (hs''.2 o (Ne.symm hdo)).trans hoo'
      refine wpAny_bind (wpAny_dictEpoch hoo'' hdo' ?_)
      rw [if_neg (by simp)]
      exact wpAny_pure ⟨h'', x + 1, rfl, hrest, hlt, by rw [merged_take_succ kvs more x (k', v) hkv]; exact hd'', hoo'', hs'.trans hs''⟩
    · rintro b s' ⟨h', i, rfl, hr, hi, hd', hoo', hs'⟩
      have hin : i = eso.size := by
        rcases Nat.lt_or_ge i eso.size with h | h
        · have e : eso.size - i = (eso.size - (i + 1)) + 1 := by omega
          rw [e, List.range'_succ] at hr; exact nomatch hr
        · exact Nat.le_antisymm hi h
      refine wpAny_pure (hQ h' ?_ hs')
      rw [hin, ← hlen, List.take_length] at hd'; exact hd'
  refine wpAny_bind (wpAny_dictEntries hod hdd ?_)
  split
  · refine wpAny_bind (wpAny_dictEntries hoo hdo' ?_)
    have hl : (forIn eso PUnit.unit fun (e : DictEntry) (_ : PUnit) => (match e.key with
        | Value.ref a => do
          let q ← specialOf e.key (Str.ofString "__eq__")
          if (q != some (Value.builtin "object.__eq__")) = true then
              if (Array.filter (fun x => x.hash == e.hash) eso).size > 1 then do
                (unsupported "dict.merge-into-an-empty-dict:keys-of-equal-hash" : Sem PUnit)
                pure (ForInStep.yield PUnit.unit)
              else pure (ForInStep.yield PUnit.unit)
            else pure (ForInStep.yield PUnit.unit)
        | x => pure (ForInStep.yield PUnit.unit) : Sem (ForInStep PUnit))) = pure PUnit.unit := by
      rw [← Array.forIn_toList]
      refine forIn_yield_id _ fun e he c => ?_
      obtain ⟨k, hkey, _⟩ := hko e (Array.mem_toList_iff.mp he)
      have hb := knd.byValue k _ hkey
      cases q : e.key with
      | ref a => rw [q] at hb; cases hb
      | _ => rfl
    refine wpAny_bind ?_
    refine wpAny_of_eq hl ?_
    exact loop
  · exact loop
theorem guard_ok {α : Type} {m : Sem α} {k1 k3 : Value → Sem Unit} {k2 : Value → Sem α} {Q : α → Shared → Prop} {vs : List Value} (h : wpAny (model prog w) A m Q (fun _ _ => False) s) :
    wpAny (model prog w) A ((((holding vs m).onRaise k1).tryCatch k2).onRaise k3) Q E s :=
  wpAny_onRaise (wpAny_tryCatch (wpAny_onRaise (wpAny_holding (wpAny_mono h (fun _ _ x => x) fun _ _ x => x.elim))))
theorem guard_ok1 {α : Type} {m : Sem α} {k1 : Value → Sem Unit} {Q : α → Shared → Prop} {vs : List Value} (h : wpAny (model prog w) A m Q (fun _ _ => False) s) :
    wpAny (model prog w) A ((holding vs m).onRaise k1) Q E s :=
  wpAny_onRaise (wpAny_holding (wpAny_mono h (fun _ _ x => x) fun _ _ x => x.elim))
/-- {**a, **b} -/
theorem disp_ss {a b : Expr} {env : Env} {pos : Pos} {Q : Value → Shared → Prop}
    (h : wpAny (model prog w) A (eval a env) (fun x s1 => wpAny (model prog w) A (mergeMapping s.heap.objs.size x false) (fun _ s2 =>
      wpAny (model prog w) A (eval b env) (fun y s3 => wpAny (model prog w) A (mergeMapping s.heap.objs.size y false) (fun _ s4 => Q (.ref s.heap.objs.size) s4) (fun _ _ => False) s3) E s2) (fun _ _ => False) s1) E { s with heap := s.heap.push { cls := .type "dict", data := .dict #[] } }) :
    wpAny (model prog w) A (eval (.Dict [none, none] [a, b] pos) env) Q E s := by
  rw [arm_eval_Dict]
  refine wpAny_bind (wpAny_standAt ?_)
  show wpAny _ _ (dictDisplay [(none, do let x ← eval a env; standAt pos; pure x), (none, do let x ← eval b env; standAt pos; pure x)]) _ _ _
  unfold dictDisplay
  dsimp only
  refine wpAny_bind ?_
  rw [List.forIn_cons]
  refine wpAny_bind ?_
  refine wpAny_bind (wpAny_pure ?_)
  refine wpAny_bind (wpAny_alloc ?_)
  refine wpAny_bind (wpAny_holding (wpAny_bind (wpAny_mono h (fun x s1 h1 => wpAny_bind (wpAny_standAt (wpAny_pure ?_))) fun _ _ e => e)))
  refine wpAny_bind (guard_ok (wpAny_mono h1 (fun _ s2 h2 => wpAny_pure ?_) fun _ _ e => e))
  dsimp only
  rw [List.forIn_cons]
  refine wpAny_bind ?_
  refine wpAny_bind (wpAny_pure ?_)
  refine wpAny_bind (wpAny_pure ?_)
  refine wpAny_bind (wpAny_holding (wpAny_bind (wpAny_mono h2 (fun y s3 h3 => wpAny_bind (wpAny_standAt (wpAny_pure ?_))) fun _ _ e => e)))
  refine wpAny_bind (guard_ok (wpAny_mono h3 (fun _ s4 h4 => wpAny_pure ?_) fun _ _ e => e))
  dsimp only
  rw [List.forIn_nil]
  refine wpAny_pure ?_
  refine wpAny_bind (wpAny_pure ?_)
  exact wpAny_pure h4
/-- {**a, k: v} -/
theorem disp_sk {a k b : Expr} {env : Env} {pos : Pos} {Q : Value → Shared → Prop}
    (h : wpAny (model prog w) A (eval a env) (fun x s1 => wpAny (model prog w) A (mergeMapping s.heap.objs.size x false) (fun _ s2 =>
      wpAny (model prog w) A (subDict [(eval k env, do let x ← eval b env; standAt pos; pure x)]) (fun sub s3 => wpAny (model prog w) A (mergeMapping s.heap.objs.size (.ref sub) false) (fun _ s4 => Q (.ref s.heap.objs.size) s4) (fun _ _ => False) s3) E s2) (fun _ _ => False) s1) E { s with heap := s.heap.push { cls := .type "dict", data := .dict #[] } }) :
    wpAny (model prog w) A (eval (.Dict [none, some k] [a, b] pos) env) Q E s := by
  rw [arm_eval_Dict]
  refine wpAny_bind (wpAny_standAt ?_)
  show wpAny _ _ (dictDisplay [(none, do let x ← eval a env; standAt pos; pure x), (some (eval k env), do let x ← eval b env; standAt pos; pure x)]) _ _ _
  unfold dictDisplay
  dsimp only
  refine wpAny_bind ?_
  rw [List.forIn_cons]
  refine wpAny_bind ?_
  refine wpAny_bind (wpAny_pure ?_)
  refine wpAny_bind (wpAny_alloc ?_)
  refine wpAny_bind (wpAny_holding (wpAny_bind (wpAny_mono h (fun x s1 h1 => wpAny_bind (wpAny_standAt (wpAny_pure ?_))) fun _ _ e => e)))
  refine wpAny_bind (guard_ok (wpAny_mono h1 (fun _ s2 h2 => wpAny_pure ?_) fun _ _ e => e))
  dsimp only
  rw [List.forIn_cons]
  refine wpAny_bind ?_
  refine wpAny_pure ?_
  dsimp only
  rw [List.forIn_nil]
  refine wpAny_pure ?_
  dsimp only
  refine wpAny_bind ?_
  refine wpAny_bind (wpAny_holding (wpAny_mono h2 (fun sub s3 h3 => ?_) fun _ _ e => e))
  refine wpAny_bind (guard_ok1 (wpAny_mono h3 (fun _ s4 h4 => wpAny_pure ?_) fun _ _ e => e))
  exact wpAny_pure h4
end
section
variable {X : Cx} {a b k : Expr} {pos : Pos} {ta tb tk : TE}
/-- behind the merging of a dict into another -/
theorem merge_ok {A : Around} {pins : List (Addr × Obj)} {σ : L2.St} {H : Hp} {s : Shared} {d o : Addr} {kvs more : List (Key × V)} {Q : Unit → Shared → Prop} {E : Value → Shared → Prop} (I : Inv X pins σ H s) (hdo : d ≠ o) (hd : H d = some (.dK kvs)) (ho : Rd H o (.dK more)) (hz : kvs.length + more.length ≤ sizeLine)
    (h : ∀ s', Inv X pins σ (upd H d (.dK (mergeK kvs more))) s' → Q () s') : wpAny (model X.prog X.w) A (mergeMapping d (.ref o) false) Q E s := by
  obtain ⟨z, lo, vs, rel, dd⟩ := dk_of I.hok hd
  obtain ⟨z2, lo2, vs2, rel2, dd2⟩ := dk_rd I.hok ho
  refine merge_pairs hdo lo2 dd dd2 (fun h' dd' hs => h _ ?_) (by rw [← rel.length, ← rel2.length]; exact hz)
  have he : ∃ q, h'.get? d = some q := let ⟨q, _, _, hq, _⟩ := dd'; ⟨q, hq⟩
  exact d_write (t' := s.toks) I (by rw [hd]; exact True.intro) hs he (dk_new (Nat.le_trans (length_mergeK more kvs) hz) lo (rel2.merge rel) dd')
/-- {**a, **b}: a new dict -/
def tDispSS (ta tb : TE) : TE := fun σ H Q => ∀ p, H p = none → ta σ (upd H p (.dK [])) fun x H1 => ∃ a kvs, x = .ref a ∧ p ≠ a ∧ H1 p = some (.dK []) ∧ Rd H1 a (.dK kvs) ∧ kvs.length ≤ 1000000 ∧
  tb σ (upd H1 p (.dK (mergeK [] kvs))) fun y H2 => ∃ b more, y = .ref b ∧ p ≠ b ∧ H2 p = some (.dK (mergeK [] kvs)) ∧ Rd H2 b (.dK more) ∧ more.length ≤ 1000000 ∧ Q (.ref p) (upd H2 p (.dK (mergeK (mergeK [] kvs) more)))
theorem pe_dispSS (ha : PE X a ta) (hb : PE X b tb) : PE X (.Dict [none, none] [a, b] pos) (tDispSS ta tb) := by
  refine ⟨fun pins s σ H Q I q => ?_⟩
  have hn := I.hok.fresh (Nat.le_refl s.heap.objs.size)
  have I1 := I.laid (a := s.heap.objs.size) (o := .dK []) (h' := s.heap.push { cls := .type "dict", data := .dict #[] }) (t' := s.toks) (fun _ _ q => Heap.get?_push_of_some _ q) (Nat.le_refl _) (dk_empty s.heap I.big)
  refine disp_ss (thn (ha.run pins _ σ _ _ I1 (q _ hn)) fun u s1 ⟨x, H1, I2, rx, a, kvs, ex, ne, hp, hr, hz, q2⟩ => ?_)
  subst ex
  obtain rfl : u = Value.ref a := rx
  refine merge_ok I2 ne hp hr (by rw [sizeLine_eq, List.length_nil]; omega) fun s2 I3 => ?_
  refine thn (hb.run pins _ σ _ _ I3 q2) fun u2 s3 ⟨y, H2, I4, ry, b, more, ey, ne2, hp2, hr2, hz2, q3⟩ => ?_
  subst ey
  obtain rfl : u2 = Value.ref b := ry
  have hm := length_mergeK kvs []
  rw [List.length_nil] at hm
  refine merge_ok I4 ne2 hp2 hr2 (by rw [sizeLine_eq]; omega) fun s4 I5 => ?_
  exact ⟨V.ref s.heap.objs.size, _, I5, rfl, q3⟩
/-- {**a, k: v}: a new dict -/
def tDispSK (ta tk tb : TE) : TE := fun σ H Q => ∀ p, H p = none → ta σ (upd H p (.dK [])) fun x H1 => ∃ a kvs, x = .ref a ∧ p ≠ a ∧ H1 p = some (.dK []) ∧ Rd H1 a (.dK kvs) ∧ kvs.length ≤ 1000000 ∧
  ∀ q, upd H1 p (.dK (mergeK [] kvs)) q = none → tk σ (upd (upd H1 p (.dK (mergeK [] kvs))) q (.dK [])) fun y H2 => tb σ H2 fun z H3 => ∃ key, y = kV key ∧ H3 q = some (.dK []) ∧ H3 p = some (.dK (mergeK [] kvs)) ∧
    Q (.ref p) (upd (upd H3 q (.dK [(key, z)])) p (.dK (putK (mergeK [] kvs) key z)))
theorem pe_dispSK (ha : PE X a ta) (hk : PE X k tk) (hb : PE X b tb) : PE X (.Dict [none, some k] [a, b] pos) (tDispSK ta tk tb) := by
  refine ⟨fun pins s σ H Q I q => ?_⟩
  have hn := I.hok.fresh (Nat.le_refl s.heap.objs.size)
  have I1 := I.laid (a := s.heap.objs.size) (o := .dK []) (h' := s.heap.push { cls := .type "dict", data := .dict #[] }) (t' := s.toks) (fun _ _ q => Heap.get?_push_of_some _ q) (Nat.le_refl _) (dk_empty s.heap I.big)
  refine disp_sk (thn (ha.run pins _ σ _ _ I1 (q _ hn)) fun u s1 ⟨x, H1, I2, rx, a, kvs, ex, ne, hp, hr, hz, q2⟩ => ?_)
  subst ex
  obtain rfl : u = Value.ref a := rx
  refine merge_ok I2 ne hp hr (by rw [sizeLine_eq, List.length_nil]; omega) fun s2 I3 => ?_
  have hn2 := I3.hok.fresh (Nat.le_refl s2.heap.objs.size)
  have I4 := I3.laid (a := s2.heap.objs.size) (o := .dK []) (h' := s2.heap.push { cls := .type "dict", data := .dict #[] }) (t' := s2.toks) (fun _ _ q => Heap.get?_push_of_some _ q) (Nat.le_refl _) (dk_empty s2.heap I3.big)
  refine wpAny_subDict (knd := mixKind X.prog X.w) (by show 1 ≤ 15; decide) ?_
  refine evalPairs_cons (thn (hk.run pins _ σ _ _ I4 (q2 _ hn2)) fun u2 s3 ⟨y, H2, I5, ry, q3⟩ => wpAny_bind (thn (hb.run pins _ σ _ _ I5 q3) fun u3 s4 ⟨z, H3, I6, rz, key, ey, hq, hp3, q4⟩ => wpAny_bind (wpAny_standAt (wpAny_pure (evalPairs_nil ?_)))))
  subst ey
  obtain ⟨z0, lo, vs0, r0, dd⟩ := dk_of I6.hok hq
  cases r0
  refine ⟨[(key, u3)], ⟨kV_is ry, rfl, True.intro⟩, dd, fun h' dd' hs => ?_⟩
  have he : ∃ q, h'.get? s2.heap.objs.size = some q := let ⟨q, _, _, hq, _⟩ := dd'; ⟨q, hq⟩
  have I7 : Inv X pins σ (upd H3 s2.heap.objs.size (.dK [(key, z)])) { s4 with heap := h', toks := s4.toks + 1 } := d_write I6 (by rw [hq]; exact True.intro) hs he (dk_new (kvs := [(key, z)]) (vs := [(key, u3)]) (by show 1 ≤ sizeLine; decide) lo (.cons ⟨rfl, rz⟩ .nil) dd')
  have npq : s.heap.objs.size ≠ s2.heap.objs.size := fun e => by
    rw [← e, upd_same] at hn2
    cases hn2
  have hm := length_mergeK kvs []
  rw [List.length_nil] at hm
  refine merge_ok I7 npq (by rw [upd_ne npq]; exact hp3) (.inl upd_same) (by rw [sizeLine_eq]; show _ + 1 ≤ _; omega) fun s5 I8 => ?_
  exact ⟨V.ref s.heap.objs.size, _, I8, rfl, q4⟩
end
end KN

set_option Elab.async false
set_option linter.all false
set_option maxRecDepth 100000
set_option maxHeartbeats 4000000
/-! dict comprehensions: keys ints and texts or tuples of these, one or two clauses -/
namespace KN
open PySem PySem.Spec PyProof.Rows L2
section
variable {X : Cx} {pins : List (Addr × Obj)} {σ : L2.St} {H H' : Hp} {s : Shared}
/-- what a new dict begins as -/
def Ini (o : HO) : Prop := o = .dK [] ∨ o = .dT []
theorem dictSet_ok {E : Value → Shared → Prop} {D : Addr} {y z : V} {u r : Value} {Q : Unit → Shared → Prop} (hu : X.A.units + 1 < cLine) (I : Inv X pins σ H s) (g : DPut H D y z H') (ry : RelV y u) (rz : RelV z r)
    (h : ∀ s', Inv X pins σ H' s' → Q () s') : wpAny (model X.prog X.w) X.A (dictSet D u r) Q E s := by
  rcases g with ⟨kvs, k, e, ey, l, eH⟩ | ⟨kvs, k, b, e, ey, eb, l, eH⟩
  · subst ey eH
    exact d_dictSet I e l ry rz h
  · subst ey eH
    cases (show u = Value.ref b from ry)
    obtain ⟨z0, hd, xs, rel, dd⟩ := dt_of I.hok e
    have hz : xs.length ≤ sizeLine := by rw [← Paired.length rel]; exact z0
    have hl : (putK kvs k z).length ≤ sizeLine := by have := length_putK kvs k z; omega
    refine wpAny_dictSet_heap (hsz := hz) (show (tupleKind (mixKind X.prog X.w)).room X.A from Nat.lt_of_succ_lt hu) (key_of I.hok eb) dd fun h' dd' hs => h _ ?_
    obtain ⟨q, es, ep, hq, h2, h3, h4, _, h5⟩ := dd'
    refine d_write I (by rw [e]; exact True.intro) hs ⟨q, hq⟩ ⟨hl, hd, _, (rel.put k eb rz).keeps fun c ys ec => ?_, q, es, ep, hq, h2, h3, h4, h5⟩
    rw [upd_ne (ne_of ec e (fun z => nomatch z))]
    exact ec
theorem ini_laid {o : HO} (hi : Ini o) (I : Inv X pins σ H s) : Inv X pins σ (upd H s.heap.objs.size o) { s with heap := s.heap.push { cls := .type "dict", data := .dict #[] } } := by
  refine I.laid (t' := s.toks) (fun b o e => Heap.get?_push_of_some _ e) (Nat.le_refl _) ?_
  rcases hi with rfl | rfl
  · exact dk_empty s.heap I.big
  · exact dt_empty s.heap I.big
end
section
variable {X : Cx} {pins : List (Addr × Obj)} {σ : L2.St} {H : Hp} {s : Shared} {kx vx tg iter : Expr} {ifs : List Expr} {rest : List Comprehension} {scope : Scope} {own : List (Str × Nat)} {pos : Pos} {wi : TI}
/-- the block of a dict comprehension is entered; what is left is its loop -/
theorem comp_enter {Q : VK} {o0 : HO} (hi0 : Ini o0) (hc : X.calm = true) (hN : X.N.Nodup) (I : Inv X pins σ H s) (hi : PI X tg iter wi) (ok : BlkOk X.N X.env.scope scope own) (hs : ∀ x, foldedSetIterable iter X.env x = pure x) {RR : It → Hp → Addr → Prop}
    (h : wi σ H fun J H1 => ∀ D, H1 D = none → RR J (upd H1 D o0) D)
    (loop : ∀ (D it : Addr) (s3 s4 : Shared) (H3 : Hp) (ce : Env) (fp : List Addr) (tn : Nat → Heap → Prop) (J : It) (P : Result → Shared → Prop),
      (ce = compEnvC scope (cellsFrom (s3.heap.objs.size + 1) scope.names (cloFrom X.env.cells scope.names [])) s3.heap.objs.size X.env) → Inv (X.blk s3 H3 scope ce fp) [] (wipe σ (own.map (·.2))) H3 s4 → Turn X.prog X.w X.K tg J fp it tn → tn 0 s4.heap →
      (∀ b ∈ fp, H3 b = none) → RR J H3 D → (∀ (σ' : L2.St) (H5 : Hp) (s6 : Shared), Inv (X.blk s3 H3 scope ce fp) [] σ' H5 s6 → Q (.ref D) H5 → P (.ok .next) s6) →
      codeAny (model X.prog X.w) X.A (.compLoop (.DictComp kx vx (⟨tg, iter, ifs, 0⟩ :: rest) scope pos) 0 (.ref it) (.ref D) ce) P s4) :
    wpAny (model X.prog X.w) X.A (eval (.DictComp kx vx (⟨tg, iter, ifs, 0⟩ :: rest) scope pos) X.env) (EP X pins σ Q) X.xe s := by
  rw [arm_eval_DictComp]
  have hfree : ∀ y ∈ scope.names, y.2 = .free → ∃ c, X.env.cells.lookup y.1 = some c := fun y hy e => (ok.free y hy e).elim (fun k => I.ok.has _ (.inl k)) fun k => I.ok.has _ (.inr k)
  refine wpAny_comprehension_free rfl hs (closure_ok hfree) ok.kind (fun y hy e => by rw [ok.uniq y hy, e]) (thn (hi.run pins s σ H _ I h) fun xv s1 hx => thn hx fun itv s2 h2 => ?_)
  obtain ⟨it, fp, tn, J, H2, e, I2, T, st2, f2, q⟩ := h2
  subst e
  refine wpAny_newObj_type (newEnv_comp ?_)
  have I3 := ini_laid hi0 I2
  have rr := q s2.heap.objs.size (I2.hok.fresh (Nat.le_refl _))
  generalize hD : s2.heap.objs.size = D at I3 rr ⊢
  generalize hs3 : ({ s2 with heap := s2.heap.push { cls := .type "dict", data := .dict #[] } } : Shared) = s3 at I3
  have h3 : s3.heap = s2.heap.push { cls := .type "dict", data := .dict #[] } := by rw [← hs3]
  have f3 : ∀ b ∈ fp, FpOk X pins (upd H2 D o0) b ∧ b < s3.heap.objs.size := fun b hb => by
    obtain ⟨ob, eb, _⟩ := T.obj _ _ st2 b hb
    have hlt := Heap.lt_size eb
    refine ⟨⟨?_, (f2 b hb).2⟩, by rw [h3, Heap.size_push]; exact Nat.lt_succ_of_lt hlt⟩
    rw [upd_ne (by rw [← hD]; exact Nat.ne_of_lt hlt)]
    exact (f2 b hb).1
  have I4 := block_start I3 ok hN f3
  have st4 : tn 0 (pushCells (s3.heap.push { cls := .type "dict", data := .dict #[] }) scope.names) :=
    T.keep _ _ _ st2 fun b _ o e => pushCells_keeps _ _ _ _ (Heap.get?_push_of_some _ (by rw [h3]; exact Heap.get?_push_of_some _ e))
  refine (fun lp => codeAny_compStart_dict lp (T.self X.A 0 _ _ _ (show tn 0 (Shared.heap _) from st4) lp)) ?_
  have go := loop D it s3 _ _ _ fp tn J (compPost (model X.prog X.w) X.A X.xe none (EP X pins σ Q) (.ref D) s3.heap.objs.size) rfl I4 T st4 (fun b hb => (f3 b hb).1.1) rr fun σ' H5 s6 I6 qq => ?_
  · rw [← hs3] at go ⊢
    exact go
  · have I7 : Inv X pins σ H5 s6 := I3.call' (ch := fp) I6.os I6.base I6.hok I6.bare fun b hb => ⟨(f3 b hb).1.2.2.2.1, (f3 b hb).1.2.1, (f3 b hb).1.2.2.2.2.1, (f3 b hb).1.2.2.2.2.2⟩
    have nC : H5 s3.heap.objs.size = none := I6.free
    obtain ⟨m, hn, _⟩ := I6.loc
    obtain ⟨g0, g1, g2, g3, g4, g5⟩ := I3.fpOk (Nat.le_refl _) nC
    exact ⟨m, hn, fun h'' sb => ⟨.ref D, H5, I7.turned (t' := s6.toks) (fun b o hb e => (sb.2 b hb).trans e) g0 g1 g3 g4 g5, rfl, qq⟩⟩
end

section
variable {X : Cx}
/-- {k: v for tg in iter if ..}: o0 the new dict as it begins -/
def rDc1 (J : It) (g : TG) (tt : TT) (tk tv : TE) (vs : List Nat) (σ : L2.St) (Q : VK) (H0 : Hp) (D : Addr) : Prop :=
  ∃ W : Nat → Nat → Hp → Prop, (∃ m, W 0 m H0) ∧ ∀ i m H, W i m H → (J.stop i H ∧ Q (.ref D) H) ∨
    (J.go i H ∧ ∃ Nx : Hp → Prop, (∀ H', Nx H' → ∃ m', m' < m ∧ W (i + 1) m' H') ∧ ∀ x H', J.yld i H x H' → g x (wipe σ vs) H' fun σ2 H2 => wipe σ2 vs = wipe σ vs ∧ tt σ2 H2 fun b H3 =>
      if b = true then tk σ2 H3 fun y H4 => tv σ2 H4 fun z H5 => ∃ H6, DPut H5 D y z H6 ∧ Nx H6 else Nx H3)
def tDc1 (o0 : HO) (wi : TI) (g : TG) (tt : TT) (tk tv : TE) (vs : List Nat) : TE := fun σ H Q => wi σ H fun J H1 => ∀ D, H1 D = none → rDc1 J g tt tk tv vs σ Q (upd H1 D o0) D
theorem stat_of {s3 : Shared} {H3 : Hp} {scope : Scope} {ce : Env} {fp : List Addr} {σ' : L2.St} {H' : Hp} {s' : Shared} (I : Inv (X.blk s3 H3 scope ce fp) [] σ' H' s') (hn : ∀ b ∈ fp, H' b = none) : ∀ b ∈ fp, FpOk (X.blk s3 H3 scope ce fp) [] H' b := fun b hb =>
  ⟨hn b hb, (I.ok.exf b hb).1, I.ok.exfs b hb, .inl hb, fun x c e => (I.ok.exf b hb).2 x c e, fun p hp => absurd (show p ∈ ([] : List (Addr × Obj)) ++ [] from hp) (by simp)⟩
theorem pe_dc1 {o0 : HO} (hi0 : Ini o0) {kx vx tg iter : Expr} {ifs : List Expr} {scope : Scope} {own : List (Str × Nat)} {pos : Pos} {wi : TI} {g : TG} {tt : TT} {tk tv : TE} (hu : X.A.units + 1 < cLine) (hc : X.calm = true) (hN : X.N.Nodup) (hi : PI X tg iter wi) (ok : BlkOk X.N X.env.scope scope own)
    (hg : ∀ (s : Shared) (H : Hp) (C : Addr) (cl : List (Str × Addr)) (fp : List Addr), PG (X.blk s H scope (compEnvC scope cl C X.env) fp) tg g) (ht : ∀ (s : Shared) (H : Hp) (C : Addr) (cl : List (Str × Addr)) (fp : List Addr), PTs (X.blk s H scope (compEnvC scope cl C X.env) fp) ifs tt)
    (hk : ∀ (s : Shared) (H : Hp) (C : Addr) (cl : List (Str × Addr)) (fp : List Addr), PE (X.blk s H scope (compEnvC scope cl C X.env) fp) kx tk)
    (he : ∀ (s : Shared) (H : Hp) (C : Addr) (cl : List (Str × Addr)) (fp : List Addr), PE (X.blk s H scope (compEnvC scope cl C X.env) fp) vx tv) (hs : ∀ x, foldedSetIterable iter X.env x = pure x := by intro _; rfl) :
    PE X (.DictComp kx vx [⟨tg, iter, ifs, 0⟩] scope pos) (tDc1 o0 wi g tt tk tv (own.map (·.2))) := by
  refine ⟨fun pins s σ H Q I h => ?_⟩
  refine comp_enter (Q := Q) hi0 hc hN I hi ok hs (RR := fun J H0 D => rDc1 J g tt tk tv (own.map fun p : Str × Nat => p.2) σ Q H0 D) h ?_
  intro D it s3 s4 H3 ce fp tn J P hce I4 T st4 nfp ⟨W, ⟨m0, w0⟩, turn⟩ fin
  have pg : PG (X.blk s3 H3 scope ce fp) tg g := by rw [hce]; exact hg ..
  have pt : PTs (X.blk s3 H3 scope ce fp) ifs tt := by rw [hce]; exact ht ..
  have pk : PE (X.blk s3 H3 scope ce fp) kx tk := by rw [hce]; exact hk ..
  have pe : PE (X.blk s3 H3 scope ce fp) vx tv := by rw [hce]; exact he ..
  refine compLoop_anyD (fun n s' => ∃ i H', Inv (X.blk s3 H3 scope ce fp) [] (wipe σ (own.map (·.2))) H' s' ∧ tn i s'.heap ∧ (∀ b ∈ fp, H' b = none) ∧ W i n H') ?_ m0 ⟨0, H3, I4, st4, nfp, w0⟩
  rintro n s5 ⟨i, H5, I5, st5, n5, w5⟩
  rcases turn i n H5 w5 with ⟨stop, qq⟩ | ⟨go, Nx, hNx, step⟩
  · refine thnF (T.done (X.blk s3 H3 scope ce fp) rfl rfl rfl hc i [] s5 _ H5 (fun _ _ => False) I5 (stat_of I5 n5) st5 stop) fun r s6 ⟨hr, I6⟩ => ?_
    subst hr
    exact fin _ H5 s6 I6 qq
  · refine thnF (T.item (X.blk s3 H3 scope ce fp) rfl rfl rfl hc i [] s5 _ H5 (fun _ _ => False) I5 (stat_of I5 n5) st5 go) fun r s6 ⟨u, hr, h6⟩ => ?_
    subst hr
    refine thnF h6 fun _ s7 ⟨x, H7, I7, r7, y7, st7, n7⟩ => ?_
    refine thnF (pg.run _ s7 _ H7 x u _ (I7.pinned (stat_of I7 n7) (T.obj _ _ st7)) r7 (step x H7 y7)) fun _ s8 ⟨σ8, H8, I8, hw8, q8⟩ => ?_
    refine thnF (pt.run _ s8 σ8 H8 _ I8 q8) fun b s9 ⟨H9, I9, q9⟩ => ?_
    have back : ∀ {s' : Shared} {H' : Hp}, Inv (X.blk s3 H3 scope ce fp) ([] ++ pinsAt fp s7.heap) σ8 H' s' → Nx H' → ∃ m, m < n ∧ ∃ i H', Inv (X.blk s3 H3 scope ce fp) [] (wipe σ (own.map (·.2))) H' s' ∧ tn i s'.heap ∧ (∀ b ∈ fp, H' b = none) ∧ W i m H' := fun {s' H'} I' nx => by
      obtain ⟨m', hm, w'⟩ := hNx H' nx
      have held : ∀ b ∈ fp, ∀ o, s7.heap.get? b = some o → s'.heap.get? b = some o ∧ H' b = none := fun b hb o e =>
        ⟨(I'.pin (b, o) (List.mem_append_right _ (List.mem_append_right _ (mem_pinsAt hb e)))).1, (I'.pin (b, o) (List.mem_append_right _ (List.mem_append_right _ (mem_pinsAt hb e)))).2.1⟩
      refine ⟨m', hm, i + 1, H', (I'.unpinned (pins := [])).weak (by rw [← hw8, wipe_length]) (fun j v e => by rw [← hw8] at e; exact (wipe_some e).1), T.keep _ _ _ st7 fun b hb o e => (held b hb o e).1, fun b hb => ?_, w'⟩
      obtain ⟨o, e, _⟩ := T.obj _ _ st7 b hb
      exact (held b hb o e).2
    cases b with
    | false => exact back I9 (by simpa using q9)
    | true =>
      have q9' : tk σ8 H9 fun y H4 => tv σ8 H4 fun z H5 => ∃ H6, DPut H5 D y z H6 ∧ Nx H6 := by simpa using q9
      simp only [if_true]
      refine thnF (pk.run _ s9 σ8 H9 _ I9 q9') fun z s10 ⟨yk, H10, I10, r10, q10⟩ => ?_
      refine thnF (pe.run _ s10 σ8 H10 _ I10 q10) fun z2 s11 ⟨yv, H11, I11, r11, H12, g12, nx⟩ => ?_
      exact dictSet_ok (X := X.blk s3 H3 scope ce fp) hu I11 g12 r10 r11 fun s12 I12 => back I12 nx
end

/-! ### two clauses -/
abbrev DC2 (kx vx t0 i0 : Expr) (c0 : List Expr) (t1 i1 : Expr) (c1 : List Expr) (scope : Scope) (pos : Pos) : Expr := .DictComp kx vx [⟨t0, i0, c0, 0⟩, ⟨t1, i1, c1, 0⟩] scope pos
section
variable {prog : Program} {w : World} {A : Around} {R : Result → Shared → Prop} {s : Shared} {kx vx t0 i0 t1 i1 : Expr} {c0 c1 : List Expr} {scope : Scope} {pos : Pos} {it : Value} {D : Addr} {env : Env}
abbrev testsOf (cs : List Expr) (env : Env) : Sem Bool := forIn cs true fun c r => if r = true then do let ok ← isTrue c env (eval c env); pure (ForInStep.yield ok) else pure (ForInStep.yield r)
theorem out2 (hs : ∀ x, foldedSetIterable i1 env x = pure x) (I : Nat → Shared → Prop) (EN : Value → Shared → Prop) (hEN : EN = notedBy (model prog w) A env fun e s' => R (.error e) s')
    (turn : ∀ n s, I n s → wpAny (model prog w) A (pyNext it) (fun r s1 => match r with
      | none => R (.ok .next) s1
      | some v => wpAny (model prog w) A (letOwnedTupleGo t0 it v) (fun _ s2 => wpAny (model prog w) A (assign t0 env v) (fun _ s3 => wpAny (model prog w) A (testsOf c0 env) (fun ok s4 =>
          if ok = true then wpAny (model prog w) A (eval i1 env) (fun x s5 => wpAny (model prog w) A (pyIter x) (fun it1 s6 =>
            codeAny (model prog w) A (.compStart (DC2 kx vx t0 i0 c0 t1 i1 c1 scope pos) 1 it1 (.ref D) env) (fun r s' => match r with
              | .ok _ => ∃ m, m < n ∧ I m s'
              | .error _ => False) s6) EN s5) EN s4
          else ∃ m, m < n ∧ I m s4) EN s3) EN s2) EN s1) EN s)
    (n : Nat) (h : I n s) : codeAny (model prog w) A (.compLoop (DC2 kx vx t0 i0 c0 t1 i1 c1 scope pos) 0 it (.ref D) env) R s := by
  subst hEN
  refine codeAny_loop rfl I (fun n s hI => ?_) n h
  show wpAny _ A ((compTurn (DC2 kx vx t0 i0 c0 t1 i1 c1 scope pos) 0 it (.ref D) env).onRaise (fun x => do noteFrame x env; theTreesLotGoes x)) _ _ s
  refine wpAny_noted ?_
  have e : compTurn (DC2 kx vx t0 i0 c0 t1 i1 c1 scope pos) 0 it (.ref D) env = (do
      standAt i0.pos
      match ← pyNext it with
      | none => pure (.done .next)
      | some v =>
        letOwnedTupleGo t0 it v
        assign t0 env v
        let mut ok := true
        for c in c0 do
          if ok then ok ← isTrue c env (eval c env)
        if ok then
          let x ← eval i1 env
          standAt i1.pos
          let x ← foldedSetIterable i1 env x
          let _ ← runOwn (.compStart (DC2 kx vx t0 i0 c0 t1 i1 c1 scope pos) 1 (← holding [x] (pyIter x)) (.ref D) env) env
        again (.compLoop (DC2 kx vx t0 i0 c0 t1 i1 c1 scope pos) 0 it (.ref D) env)) := by rfl
  rw [e]
  refine wpAny_bind (wpAny_standAt (wpAny_bind (wpAny_mono (turn n s hI) (fun r s1 h1 => ?_) fun _ _ z => z)))
  cases r with
  | none => exact wpAny_pure h1
  | some v =>
    refine wpAny_bind (wpAny_mono h1 (fun _ s2 h2 => wpAny_bind (wpAny_mono h2 (fun _ s3 h3 => wpAny_bind (wpAny_mono h3 (fun ok s4 h4 => ?_) fun _ _ z => z)) fun _ _ z => z)) fun _ _ z => z)
    cases ok with
    | false => exact wpAny_pure ⟨rfl, h4⟩
    | true =>
      refine wpAny_bind (wpAny_mono h4 (fun x s5 h5 => ?_) fun _ _ z => z)
      refine wpAny_bind (wpAny_standAt (wpAny_bind (wpAny_of_eq (hs x) (wpAny_bind (wpAny_holding (wpAny_mono h5 (fun it1 s6 h6 => ?_) fun _ _ z => z))))))
      refine wpAny_bind (wpAny_runOwn ?_)
      rw [Around.mark_none]
      refine codeAny_mono h6 fun r s' hr => ?_
      cases r with
      | error e => exact hr.elim
      | ok f =>
        first
          | exact wpAny_pure ⟨rfl, hr⟩
          | exact wpAny_bind (wpAny_pure (wpAny_pure ⟨rfl, hr⟩))
theorem in2 (I : Nat → Shared → Prop) (EN : Value → Shared → Prop) (hEN : EN = notedBy (model prog w) A env fun e s' => R (.error e) s')
    (turn : ∀ n s, I n s → wpAny (model prog w) A (pyNext it) (fun r s1 => match r with
      | none => R (.ok .next) s1
      | some v => wpAny (model prog w) A (letOwnedTupleGo t1 it v) (fun _ s2 => wpAny (model prog w) A (assign t1 env v) (fun _ s3 => wpAny (model prog w) A (testsOf c1 env) (fun ok s4 =>
          if ok = true then wpAny (model prog w) A (eval kx env) (fun kv s5 => wpAny (model prog w) A (eval vx env) (fun vv s6 => wpAny (model prog w) A (dictSet D kv vv) (fun _ s7 => ∃ m, m < n ∧ I m s7) EN s6) EN s5) EN s4
          else ∃ m, m < n ∧ I m s4) EN s3) EN s2) EN s1) EN s)
    (n : Nat) (h : I n s) : codeAny (model prog w) A (.compLoop (DC2 kx vx t0 i0 c0 t1 i1 c1 scope pos) 1 it (.ref D) env) R s := by
  subst hEN
  refine codeAny_loop rfl I (fun n s hI => ?_) n h
  show wpAny _ A ((compTurn (DC2 kx vx t0 i0 c0 t1 i1 c1 scope pos) 1 it (.ref D) env).onRaise (fun x => do noteFrame x env; theTreesLotGoes x)) _ _ s
  refine wpAny_noted ?_
  have e : compTurn (DC2 kx vx t0 i0 c0 t1 i1 c1 scope pos) 1 it (.ref D) env = (do
      standAt i1.pos
      match ← pyNext it with
      | none => pure (.done .next)
      | some v =>
        letOwnedTupleGo t1 it v
        assign t1 env v
        let mut ok := true
        for c in c1 do
          if ok then ok ← isTrue c env (eval c env)
        if ok then
          (do
            let kv ← eval kx env
            let vv ← holding [kv] (eval vx env)
            standAt { kx.pos with endLine := vx.pos.endLine, endCol := vx.pos.endCol }
            holding [kv, vv] (dictSet D kv vv))
        again (.compLoop (DC2 kx vx t0 i0 c0 t1 i1 c1 scope pos) 1 it (.ref D) env)) := by rfl
  rw [e]
  refine wpAny_bind (wpAny_standAt (wpAny_bind (wpAny_mono (turn n s hI) (fun r s1 h1 => ?_) fun _ _ z => z)))
  cases r with
  | none => exact wpAny_pure h1
  | some v =>
    refine wpAny_bind (wpAny_mono h1 (fun _ s2 h2 => wpAny_bind (wpAny_mono h2 (fun _ s3 h3 => wpAny_bind (wpAny_mono h3 (fun ok s4 h4 => ?_) fun _ _ z => z)) fun _ _ z => z)) fun _ _ z => z)
    cases ok with
    | false => exact wpAny_pure ⟨rfl, h4⟩
    | true =>
      exact wpAny_bind (wpAny_bind (wpAny_mono h4 (fun kv s5 h5 => wpAny_bind (wpAny_holding (wpAny_mono h5 (fun vv s6 h6 => wpAny_bind (wpAny_standAt (wpAny_holding (wpAny_mono h6 (fun _ s7 h7 => wpAny_pure ⟨rfl, h7⟩) fun _ _ z => z)))) fun _ _ z => z))) fun _ _ z => z))
theorem start2 (h0 : codeAny (model prog w) A (.compLoop (DC2 kx vx t0 i0 c0 t1 i1 c1 scope pos) 1 it (.ref D) env) R s)
    (h : wpAny (model prog w) A (pyIter it) (fun it' s' => codeAny (model prog w) A (.compLoop (DC2 kx vx t0 i0 c0 t1 i1 c1 scope pos) 1 it' (.ref D) env) R s') (notedBy (model prog w) A env fun x s' => R (.error x) s') s) :
    codeAny (model prog w) A (.compStart (DC2 kx vx t0 i0 c0 t1 i1 c1 scope pos) 1 it (.ref D) env) R s := by
  refine codeAny_of_tree ?_
  show wpAny _ _ ((compStart (DC2 kx vx t0 i0 c0 t1 i1 c1 scope pos) 1 it (.ref D) env).onRaise (fun x => do noteFrame x env; standAt theWindowsPlace)) _ _ s
  refine wpAny_notedAt ?_
  unfold compStart
  show wpAny _ _ (ask >>= _) _ _ s
  refine wpAny_bind (wpAny_askSetting (wpAny_ite ?_))
  split
  · first
      | exact wpAny_bind (wpAny_pure (wpAny_pure (And.intro rfl h0)))
      | exact wpAny_pure (And.intro rfl h0)
  · first
      | exact wpAny_bind (wpAny_rule (wpAny_bind (wpAny_standAt (wpAny_bind (wpAny_mono h (fun it' s' h' => wpAny_pure (And.intro rfl h')) fun _ _ z => z)))))
      | (refine wpAny_bind (wpAny_rule ?_); show wpAny _ _ (standAt i1.pos >>= _) _ _ s; exact wpAny_bind (wpAny_standAt (wpAny_bind (wpAny_mono h (fun it' s' h' => wpAny_pure (And.intro rfl h')) fun _ _ z => z))))
end
section
variable {X : Cx}
/-- {k: v for tg in iter if .. for tg1 in iter1 if ..}; vs the block's names, vs1 those of the second target -/
def rDc2 (J : It) (g : TG) (tt : TT) (wi1 : TI) (g1 : TG) (tt1 : TT) (tk tv : TE) (vs vs1 : List Nat) (σ : L2.St) (Q : VK) (H0 : Hp) (D : Addr) : Prop :=
  ∃ W : Nat → Nat → Hp → Prop, (∃ m, W 0 m H0) ∧ ∀ i m H, W i m H → (J.stop i H ∧ Q (.ref D) H) ∨
    (J.go i H ∧ ∃ Nx : Hp → Prop, (∀ H', Nx H' → ∃ m', m' < m ∧ W (i + 1) m' H') ∧ ∀ x H', J.yld i H x H' → g x (wipe σ vs) H' fun σ2 H2 => wipe σ2 vs = wipe σ vs ∧ tt σ2 H2 fun b H3 =>
      if b = true then wi1 σ2 H3 fun J1 H4 => ∃ W1 : Nat → Nat → Hp → Prop, (∃ m, W1 0 m H4) ∧ ∀ j k H, W1 j k H → (J1.stop j H ∧ Nx H) ∨
        (J1.go j H ∧ ∃ Nx1 : Hp → Prop, (∀ H', Nx1 H' → ∃ k', k' < k ∧ W1 (j + 1) k' H') ∧ ∀ x H', J1.yld j H x H' → g1 x (wipe σ2 vs1) H' fun σ3 H5 => wipe σ3 vs1 = wipe σ2 vs1 ∧ tt1 σ3 H5 fun b H6 =>
          if b = true then tk σ3 H6 fun y H7 => tv σ3 H7 fun z H8 => ∃ H9, DPut H8 D y z H9 ∧ Nx1 H9 else Nx1 H6)
      else Nx H3)
def tDc2 (o0 : HO) (wi : TI) (g : TG) (tt : TT) (wi1 : TI) (g1 : TG) (tt1 : TT) (tk tv : TE) (vs vs1 : List Nat) : TE := fun σ H Q => wi σ H fun J H1 => ∀ D, H1 D = none → rDc2 J g tt wi1 g1 tt1 tk tv vs vs1 σ Q (upd H1 D o0) D
theorem pe_dc2 {o0 : HO} (hi0 : Ini o0) {kx vx tg iter tg1 iter1 : Expr} {ifs ifs1 : List Expr} {scope : Scope} {own : List (Str × Nat)} {vs1 : List Nat} {pos : Pos} {wi wi1 : TI} {g g1 : TG} {tt tt1 : TT} {tk tv : TE} (hu : X.A.units + 1 < cLine) (hc : X.calm = true) (hN : X.N.Nodup)
    (hi : PI X tg iter wi) (ok : BlkOk X.N X.env.scope scope own) (hv : ∀ i ∈ vs1, i ∈ own.map (·.2))
    (hg : ∀ (s : Shared) (H : Hp) (C : Addr) (cl : List (Str × Addr)) (fp : List Addr), PG (X.blk s H scope (compEnvC scope cl C X.env) fp) tg g) (ht : ∀ (s : Shared) (H : Hp) (C : Addr) (cl : List (Str × Addr)) (fp : List Addr), PTs (X.blk s H scope (compEnvC scope cl C X.env) fp) ifs tt)
    (hi1 : ∀ (s : Shared) (H : Hp) (C : Addr) (cl : List (Str × Addr)) (fp : List Addr), PI (X.blk s H scope (compEnvC scope cl C X.env) fp) tg1 iter1 wi1)
    (hg1 : ∀ (s : Shared) (H : Hp) (C : Addr) (cl : List (Str × Addr)) (fp : List Addr), PG (X.blk s H scope (compEnvC scope cl C X.env) fp) tg1 g1)
    (ht1 : ∀ (s : Shared) (H : Hp) (C : Addr) (cl : List (Str × Addr)) (fp : List Addr), PTs (X.blk s H scope (compEnvC scope cl C X.env) fp) ifs1 tt1)
    (hk : ∀ (s : Shared) (H : Hp) (C : Addr) (cl : List (Str × Addr)) (fp : List Addr), PE (X.blk s H scope (compEnvC scope cl C X.env) fp) kx tk)
    (he : ∀ (s : Shared) (H : Hp) (C : Addr) (cl : List (Str × Addr)) (fp : List Addr), PE (X.blk s H scope (compEnvC scope cl C X.env) fp) vx tv)
    (hs : ∀ x, foldedSetIterable iter X.env x = pure x := by intro _; rfl) (hs1 : ∀ env x, foldedSetIterable iter1 env x = pure x := by intro _ _; rfl) :
    PE X (.DictComp kx vx [⟨tg, iter, ifs, 0⟩, ⟨tg1, iter1, ifs1, 0⟩] scope pos) (tDc2 o0 wi g tt wi1 g1 tt1 tk tv (own.map (·.2)) vs1) := by
  refine ⟨fun pins s σ H Q I h => ?_⟩
  refine comp_enter (Q := Q) hi0 hc hN I hi ok hs (RR := fun J H0 D => rDc2 J g tt wi1 g1 tt1 tk tv (own.map fun p : Str × Nat => p.2) vs1 σ Q H0 D) h ?_
  intro D it s3 s4 H3 ce fp tn J P hce I4 T st4 nfp ⟨W, ⟨m0, w0⟩, turn⟩ fin
  have pg : PG (X.blk s3 H3 scope ce fp) tg g := by rw [hce]; exact hg ..
  have pt : PTs (X.blk s3 H3 scope ce fp) ifs tt := by rw [hce]; exact ht ..
  have pi1 : PI (X.blk s3 H3 scope ce fp) tg1 iter1 wi1 := by rw [hce]; exact hi1 ..
  have pg1 : PG (X.blk s3 H3 scope ce fp) tg1 g1 := by rw [hce]; exact hg1 ..
  have pt1 : PTs (X.blk s3 H3 scope ce fp) ifs1 tt1 := by rw [hce]; exact ht1 ..
  have pk : PE (X.blk s3 H3 scope ce fp) kx tk := by rw [hce]; exact hk ..
  have pe : PE (X.blk s3 H3 scope ce fp) vx tv := by rw [hce]; exact he ..
  refine out2 (hs1 ce) (fun n s' => ∃ i H', Inv (X.blk s3 H3 scope ce fp) [] (wipe σ (own.map (·.2))) H' s' ∧ tn i s'.heap ∧ (∀ b ∈ fp, H' b = none) ∧ W i n H') _ rfl ?_ m0 ⟨0, H3, I4, st4, nfp, w0⟩
  rintro n s5 ⟨i, H5, I5, st5, n5, w5⟩
  rcases turn i n H5 w5 with ⟨stop, qq⟩ | ⟨go, Nx, hNx, step⟩
  · refine thnF (T.done (X.blk s3 H3 scope ce fp) rfl rfl rfl hc i [] s5 _ H5 (fun _ _ => False) I5 (stat_of I5 n5) st5 stop) fun r s6 ⟨hr, I6⟩ => ?_
    subst hr
    exact fin _ H5 s6 I6 qq
  · refine thnF (T.item (X.blk s3 H3 scope ce fp) rfl rfl rfl hc i [] s5 _ H5 (fun _ _ => False) I5 (stat_of I5 n5) st5 go) fun r s6 ⟨u, hr, h6⟩ => ?_
    subst hr
    refine thnF h6 fun _ s7 ⟨x, H7, I7, r7, y7, st7, n7⟩ => ?_
    refine thnF (pg.run _ s7 _ H7 x u _ (I7.pinned (stat_of I7 n7) (T.obj _ _ st7)) r7 (step x H7 y7)) fun _ s8 ⟨σ8, H8, I8, hw8, q8⟩ => ?_
    refine thnF (pt.run _ s8 σ8 H8 _ I8 q8) fun b s9 ⟨H9, I9, q9⟩ => ?_
    have back : ∀ {σ9 : L2.St} {s' : Shared} {H' : Hp}, Inv (X.blk s3 H3 scope ce fp) ([] ++ pinsAt fp s7.heap) σ9 H' s' → (wipe σ (own.map (·.2))).length = σ9.length → (∀ (j : Nat) v, (wipe σ (own.map (·.2)))[j]? = some (some v) → σ9[j]? = some (some v)) → Nx H' →
        ∃ m, m < n ∧ ∃ i H', Inv (X.blk s3 H3 scope ce fp) [] (wipe σ (own.map (·.2))) H' s' ∧ tn i s'.heap ∧ (∀ b ∈ fp, H' b = none) ∧ W i m H' := fun {σ9 s' H'} I' hl hj nx => by
      obtain ⟨m', hm, w'⟩ := hNx H' nx
      have held : ∀ b ∈ fp, ∀ o, s7.heap.get? b = some o → s'.heap.get? b = some o ∧ H' b = none := fun b hb o e =>
        ⟨(I'.pin (b, o) (List.mem_append_right _ (List.mem_append_right _ (mem_pinsAt hb e)))).1, (I'.pin (b, o) (List.mem_append_right _ (List.mem_append_right _ (mem_pinsAt hb e)))).2.1⟩
      refine ⟨m', hm, i + 1, H', (I'.unpinned (pins := [])).weak hl hj, T.keep _ _ _ st7 fun b hb o e => (held b hb o e).1, fun b hb => ?_, w'⟩
      obtain ⟨o, e, _⟩ := T.obj _ _ st7 b hb
      exact (held b hb o e).2
    have hl8 : (wipe σ (own.map (·.2))).length = σ8.length := by rw [← hw8, wipe_length]
    cases b with
    | false => exact back I9 hl8 (fun j v e => by rw [← hw8] at e; exact (wipe_some e).1) (by simpa using q9)
    | true =>
      simp only [if_true] at q9 ⊢
      refine thnF (pi1.run _ s9 σ8 H9 _ I9 q9) fun xv s10 hx => thnF hx fun itv s11 h11 => ?_
      obtain ⟨it1, fp1, tn1, J1, H11, e1, I11, T1, st11, f11, W1, ⟨m1, w1⟩, turn1⟩ := h11
      subst e1
      have stat1 : ∀ {H' : Hp}, (∀ b ∈ fp1, H' b = none) → ∀ b ∈ fp1, FpOk (X.blk s3 H3 scope ce fp) ([] ++ pinsAt fp s7.heap) H' b := fun hn b hb => ⟨hn b hb, (f11 b hb).2⟩
      have lp : codeAny (model X.prog X.w) X.A (.compLoop (DC2 kx vx tg iter ifs tg1 iter1 ifs1 scope pos) 1 (.ref it1) (.ref D) ce)
          (fun r s' => match r with
            | .ok _ => ∃ m, m < n ∧ ∃ i H', Inv (X.blk s3 H3 scope ce fp) [] (wipe σ (own.map (·.2))) H' s' ∧ tn i s'.heap ∧ (∀ b ∈ fp, H' b = none) ∧ W i m H'
            | .error _ => False) s11 := by
        refine in2 (fun k s' => ∃ j H', Inv (X.blk s3 H3 scope ce fp) ([] ++ pinsAt fp s7.heap) (wipe σ8 vs1) H' s' ∧ tn1 j s'.heap ∧ (∀ b ∈ fp1, H' b = none) ∧ W1 j k H') _ rfl ?_ m1 ⟨0, H11, I11.weak (wipe_length _ _) (fun j v e => (wipe_some e).1), st11, fun b hb => (f11 b hb).1, w1⟩
        rintro k s12 ⟨j, H12, I12, st12, n12, w12⟩
        rcases turn1 j k H12 w12 with ⟨stop1, nx1⟩ | ⟨go1, Nx1, hNx1, step1⟩
        · refine thnF (T1.done (X.blk s3 H3 scope ce fp) rfl rfl rfl hc j _ s12 (wipe σ8 vs1) H12 (fun _ _ => False) I12 (stat1 n12) st12 stop1) fun r s13 ⟨hr, I13⟩ => ?_
          subst hr
          refine back I13 (hl8.trans (wipe_length σ8 vs1).symm) (fun j v e => ?_) nx1
          rw [← hw8] at e
          obtain ⟨e1, e2⟩ := wipe_some e
          rw [wipe_out fun z => e2 (hv j z)]
          exact e1
        · refine thnF (T1.item (X.blk s3 H3 scope ce fp) rfl rfl rfl hc j _ s12 (wipe σ8 vs1) H12 (fun _ _ => False) I12 (stat1 n12) st12 go1) fun r s13 ⟨u1, hr, h13⟩ => ?_
          subst hr
          refine thnF h13 fun _ s14 ⟨x1, H14, I14, r14, y14, st14, n14⟩ => ?_
          refine thnF (pg1.run _ s14 (wipe σ8 vs1) H14 x1 u1 _ (I14.pinned (stat1 n14) (T1.obj _ _ st14)) r14 (step1 x1 H14 y14)) fun _ s15 ⟨σ15, H15, I15, hw15, q15⟩ => ?_
          refine thnF (pt1.run _ s15 σ15 H15 _ I15 q15) fun b1 s16 ⟨H16, I16, q16⟩ => ?_
          have back1 : ∀ {s' : Shared} {H' : Hp}, Inv (X.blk s3 H3 scope ce fp) (([] ++ pinsAt fp s7.heap) ++ pinsAt fp1 s14.heap) σ15 H' s' → Nx1 H' → ∃ m, m < k ∧ ∃ j H', Inv (X.blk s3 H3 scope ce fp) ([] ++ pinsAt fp s7.heap) (wipe σ8 vs1) H' s' ∧ tn1 j s'.heap ∧ (∀ b ∈ fp1, H' b = none) ∧ W1 j m H' := fun {s' H'} I' nx => by
            obtain ⟨m', hm, w'⟩ := hNx1 H' nx
            have held : ∀ b ∈ fp1, ∀ o, s14.heap.get? b = some o → s'.heap.get? b = some o ∧ H' b = none := fun b hb o e =>
              ⟨(I'.pin (b, o) (List.mem_append_right _ (List.mem_append_right _ (mem_pinsAt hb e)))).1, (I'.pin (b, o) (List.mem_append_right _ (List.mem_append_right _ (mem_pinsAt hb e)))).2.1⟩
            refine ⟨m', hm, j + 1, H', I'.unpinned.weak (by rw [← hw15, wipe_length]) (fun j v e => by rw [← hw15] at e; exact (wipe_some e).1), T1.keep _ _ _ st14 fun b hb o e => (held b hb o e).1, fun b hb => ?_, w'⟩
            obtain ⟨o, e, _⟩ := T1.obj _ _ st14 b hb
            exact (held b hb o e).2
          cases b1 with
          | false => exact back1 I16 (by simpa using q16)
          | true =>
            simp only [if_true] at q16 ⊢
            refine thnF (pk.run _ s16 σ15 H16 _ I16 q16) fun z s17 ⟨yk, H17, I17, r17, q17⟩ => ?_
            refine thnF (pe.run _ s17 σ15 H17 _ I17 q17) fun z2 s18 ⟨yv, H18, I18, r18, H19, g19, nx⟩ => ?_
            exact dictSet_ok (X := X.blk s3 H3 scope ce fp) hu I18 g19 r17 r18 fun s20 I20 => back1 I20 nx
      exact start2 lp (T1.self X.A 0 _ _ _ st11 lp)
end
end KN

set_option Elab.async false
set_option linter.all false
set_option maxRecDepth 100000
set_option maxHeartbeats 4000000
/-! sorted(d), d a dict with tuple keys -/
namespace KN
open PySem PySem.Spec PyProof.Rows L2 PySem.W
theorem perm_map_inv {α β : Type} {f : α → β} {l m : List β} (h : l.Perm m) : ∀ l2 : List α, m = l2.map f → ∃ l' : List α, l'.Perm l2 ∧ l = l'.map f := by
  induction h with
  | nil =>
    intro l2 e
    cases l2 with
    | nil => exact ⟨[], .nil, rfl⟩
    | cons a r => cases e
  | @cons x l m _ ih =>
    intro l2 e
    cases l2 with
    | nil => cases e
    | cons a r =>
      rw [List.map_cons] at e
      injection e with e1 e2
      obtain ⟨l', p, q⟩ := ih r e2
      exact ⟨a :: l', p.cons a, by rw [List.map_cons, e1, q]⟩
  | swap x y l =>
    intro l2 e
    match l2, e with
    | a :: b :: r, e =>
      rw [List.map_cons, List.map_cons] at e
      injection e with e1 e2
      injection e2 with e2 e3
      exact ⟨b :: a :: r, .swap a b r, by rw [List.map_cons, List.map_cons, e1, e2, e3]⟩
  | trans _ _ ih1 ih2 =>
    intro l2 e
    obtain ⟨l', p, q⟩ := ih2 l2 e
    obtain ⟨l'', p2, q2⟩ := ih1 l' q
    exact ⟨l'', p2.trans p, q2⟩
theorem sortVals_perm {κ : PyProof.Rows.KeyKind} (vs : List Value) : (sortVals κ false vs vs).Perm vs := by
  unfold sortVals
  have h := (List.mergeSort_perm (vs.zip vs) (sortLe κ.toKeyOrd false fun p : Keyed => keyD κ p.1)).map Prod.snd
  rw [List.map_snd_zip (Nat.le_refl _)] at h
  exact h
/-! keys as data -/
def isT : Key → Bool
  | .inl _ => false
  | .inr _ => true
def pd : Key → PyData
  | .inl i => .int i
  | .inr x => .str x
def encT (k : List Key) : PyData := .tuple (k.map pd)
theorem alike_pd : ∀ (a b : List Key), a.map isT = b.map isT → alikeAll (a.map pd) (b.map pd) = true
  | [], _, _ => by simp [alikeAll]
  | _ :: _, [], e => by simp at e
  | x :: xs, y :: ys, e => by
    rw [List.map_cons, List.map_cons] at e
    injection e with e1 e2
    show alikeAll (pd x :: xs.map pd) (pd y :: ys.map pd) = true
    rw [alikeAll, alike_pd xs ys e2]
    cases x <;> cases y <;> simp [isT] at e1 <;> simp [pd, alike]
theorem depth_pd : ∀ a : List Key, PyData.depthAll (a.map pd) = 0
  | [] => by simp [PyData.depthAll]
  | x :: xs => by
    show PyData.depthAll (pd x :: xs.map pd) = 0
    rw [PyData.depthAll, depth_pd xs]
    cases x <;> simp [pd, PyData.depth]
theorem depth_encT (k : List Key) : (encT k).depth = 1 := by
  unfold encT
  rw [PyData.depth, depth_pd]
theorem reads_pd {h : Heap} : ∀ {k : List Key} {us : List Value}, Vals (k.map kV) us → ∃ as, ReadsAll h us (k.map pd) as
  | [], _, r => by
    rw [List.map_nil] at r
    cases r
    exact ⟨[], .nil⟩
  | x :: xs, _, r => by
    rw [List.map_cons] at r
    cases r with
    | cons h1 t =>
      obtain ⟨as, q⟩ := reads_pd (h := h) t
      cases x with
      | inl i =>
        obtain ⟨t, rfl⟩ := (show ∃ t, _ = Value.int i t from h1)
        exact ⟨_, .cons (.int i t) q⟩
      | inr z =>
        obtain ⟨t, rfl⟩ := (show ∃ t, _ = Value.str z t from h1)
        exact ⟨_, .cons (.str z t) q⟩
/-- keys that can be sorted: of one shape, at most one empty key -/
def SortOk (ks : List (List Key)) : Prop := ∃ sh : List Bool, (∀ k ∈ ks, k.map isT = sh) ∧ (sh = [] → ks.length ≤ 1)
section
variable {prog : Program} {w : World} {A : Around} {s : Shared}
theorem sortsAt_keys {vs : List Value} {ks : List (List Key)} (e : EachIs (fun v d => ∃ as, Reads s.heap v d as) vs (ks.map encT)) (ok : SortOk ks) (hu : A.units + 1 < cLine) : SortsAt prog w A s (dataKind s.heap (ks.map encT)) vs := by
  obtain ⟨sh, h1, h2⟩ := ok
  have hal : AllAlike (ks.map encT) := fun d hd d' hd' => by
    obtain ⟨a, ha, rfl⟩ := List.mem_map.mp hd
    obtain ⟨b, hb, rfl⟩ := List.mem_map.mp hd'
    show alike (.tuple (a.map pd)) (.tuple (b.map pd)) = true
    simp only [alike]
    exact alike_pd a b ((h1 a ha).trans (h1 b hb).symm)
  have hdep : ∀ d, d ∈ ks.map encT → A.units + d.depth < cLine := fun d hd => by
    obtain ⟨a, _, rfl⟩ := List.mem_map.mp hd
    rw [depth_encT]
    exact hu
  by_cases hs : sh = []
  · have hl := h2 hs
    have emp : ∀ d, d ∈ ks.map encT → d = .tuple [] := fun d hd => by
      obtain ⟨a, ha, rfl⟩ := List.mem_map.mp hd
      have q := h1 a ha
      rw [hs, List.map_eq_nil_iff] at q
      rw [q]
      rfl
    refine ⟨fun v hv => ?_, tuples' false, ?_, fun h2 => ?_⟩
    · obtain ⟨d, hd, as, r⟩ := e.left v hv
      exact ⟨_, dataKind_some hal hd r⟩
    · intro E x y a b Q ha hb hq
      obtain ⟨d, as, hd, ra, rfl⟩ := dataKind_inv ha
      obtain ⟨d', as', hd', rb, rfl⟩ := dataKind_inv hb
      have hdd := hal d hd d' hd'
      obtain rfl := emp d hd
      obtain rfl := emp d' hd'
      have hq' : Q (dataLt (.tuple []) (.tuple [])) s := hq
      rw [dataLt_tuple] at hq'
      cases ra with
      | @tuple l o xs n _ _ g1 g2 g3 g4 =>
        cases rb with
        | @tuple l' o' xs' n' _ _ k1 k2 k3 k4 =>
          have n1 : xs.size = ([] : List PyData).length := by simpa using SeqAt.ReadsAll.length _ _ _ g4
          have n2 : xs'.size = ([] : List PyData).length := by simpa using SeqAt.ReadsAll.length _ _ _ k4
          exact kat_lt g1 g3 k1 k3 (katLex_alike [] [] 0 _ _ _ _ g4 k4 (by simp [alikeAll]) (by simp [PyData.depthAll]; omega) (fun _ _ x r t ex => nomatch ex) (by rw [n1, n2]) hq')
    · have := e.length
      rw [List.length_map] at this
      omega
  · refine SortsAt.data e hal (.inl fun d hd => ?_) hdep
    obtain ⟨a, ha, rfl⟩ := List.mem_map.mp hd
    have q := h1 a ha
    cases a with
    | nil => exact absurd q.symm hs
    | cons x r => exact ⟨_, _, rfl⟩
end

section
variable {X : Cx}
/-- the keys of a dict with tuple keys, as they are collected -/
theorem acc_keys {kvs : List (List Key × V)} {xs : List (List Key × Addr × Value)} {es : Array DictEntry} {acc : Array Value} {P : Program} {w : World} (he : es.toList = xs.map (entryOfKey (tupleKind (mixKind P w))))
    (it : ItemsOf (fun i v => ∃ en : DictEntry, es[i]? = some en ∧ v = en.key) acc es.size) : acc.toList = xs.map fun x => Value.ref x.2.1 := by
  have l1 : es.size = xs.length := by rw [← Array.length_toList, he, List.length_map]
  have hl : acc.toList.length = xs.length := by rw [Array.length_toList, it.1]; exact l1
  apply List.ext_getElem?
  intro j
  rw [List.getElem?_map]
  cases hj : acc.toList[j]? with
  | none =>
    rw [List.getElem?_eq_none (by have h1 := List.getElem?_eq_none_iff.mp hj; omega)]
    rfl
  | some v =>
    obtain ⟨en, hen, hv⟩ := it.2 j v (by rw [← Array.getElem?_toList]; exact hj)
    have e2 : (xs.map (entryOfKey (tupleKind (mixKind P w))))[j]? = some en := by rw [← he, Array.getElem?_toList]; exact hen
    rw [List.getElem?_map] at e2
    cases hb : xs[j]? with
    | none => rw [hb] at e2; cases e2
    | some b =>
      rw [hb] at e2
      rw [hv, ← Option.some.inj e2]
      rfl
theorem eachIs_map {α β γ : Type} {R : α → β → Prop} {f : γ → α} {g : γ → β} : ∀ l : List γ, (∀ x ∈ l, R (f x) (g x)) → EachIs R (l.map f) (l.map g)
  | [], _ => .nil
  | x :: r, h => .cons (h x List.mem_cons_self) (eachIs_map r fun y hy => h y (List.mem_cons_of_mem _ hy))
theorem kt_mem {H : Hp} {kvs : List (List Key × V)} {xs : List (List Key × Addr × Value)} (r : KT H kvs xs) : ∀ x ∈ xs, H x.2.1 = some (.tup (x.1.map kV)) := by
  induction r with
  | nil => intro x hx; cases hx
  | @cons p q ps qs h t ih =>
    intro x hx
    rcases List.mem_cons.mp hx with e | hx
    · subst e
      rw [← h.1]
      exact h.2.1
    · exact ih x hx
theorem kt_keys {H : Hp} {kvs : List (List Key × V)} {xs : List (List Key × Addr × Value)} (r : KT H kvs xs) : kvs.map (·.1) = xs.map (·.1) := by
  induction r with
  | nil => rfl
  | cons h t ih => rw [List.map_cons, List.map_cons, ih, h.1]
/-- the keys' tuples, in some order -/
def KeysAt (H : Hp) (ks : List (List Key)) (bs : List Addr) : Prop := Paired (fun (k : List Key) (b : Addr) => H b = some (.tup (k.map kV))) ks bs
theorem keysAt_map {H : Hp} : ∀ l : List (List Key × Addr × Value), (∀ x ∈ l, H x.2.1 = some (.tup (x.1.map kV))) → KeysAt H (l.map (·.1)) (l.map fun x => x.2.1)
  | [], _ => .nil
  | x :: r, h => .cons (h x List.mem_cons_self) (keysAt_map r fun y hy => h y (List.mem_cons_of_mem _ hy))
theorem vals_refs2 : ∀ bs : List Addr, Vals (bs.map V.ref) (bs.map Value.ref)
  | [] => .nil
  | _ :: r => .cons rfl (vals_refs2 r)
def rSortedDT : List V → Hp → VK → Prop := fun xs H Q => ∃ (d : Addr) (kvs : List (List Key × V)), xs = [V.ref d] ∧ Rd H d (.dT kvs) ∧ SortOk (kvs.map (·.1)) ∧
  ∀ (p : Addr) (ks : List (List Key)) (bs : List Addr), ks = (kvs.map (·.1)).mergeSort (dataLe false encT) → KeysAt H ks bs → H p = none → Q (.ref p) (upd H p (.lst (bs.map V.ref)))
theorem each_eq : ∀ {vs : List Value} {bs : List (List Key × Addr × Value)}, EachIs (fun v b => v = Value.ref b.2.1) vs bs → vs = bs.map fun b => Value.ref b.2.1
  | _, _, .nil => rfl
  | _, _, .cons h t => by rw [List.map_cons, ← each_eq t, ← h]
theorem cr_sortedDT (hc : X.calm = true) (hu : X.A.units + 64 < cLine) : CallR X (.builtin "sorted") rSortedDT := by
  intro pins s σ H xs us Q I r h
  obtain ⟨d, kvs, rfl, hd, hok, q⟩ := h
  obtain ⟨u, rfl, rx⟩ := r.one
  cases rx
  obtain ⟨z, lo, ks, pr, o, es, ep, ho, hx, hdt, he, his, hn⟩ := dt_rd I.hok hd
  have l1 : es.size = ks.length := by rw [← Array.length_toList, he, List.length_map]
  have l2 : kvs.length = ks.length := Paired.length pr
  refine Calls.call_function_entry PyProof.Rows.kind_sorted PyProof.Rows.plain_sorted PyProof.Rows.entry_sorted (PyProof.Rows.args_sorted1 _) ?_
  unfold Builtin.«sorted»
  refine wpAny_bind (m := checkCount "sorted" 1 1 _) (wpAny_pure ?_)
  refine wpAny_bind (kdu_collect (A := X.A.in1) (kdl_raw lo hx hdt) (I.ok.hd hc) ho (by omega) fun h' tk acc hk hacc => ?_)
  have ea := acc_keys (kvs := kvs) he hacc
  have hal : acc.toList.length = ks.length := by rw [ea, List.length_map]
  have I1 : Inv X pins σ H { s with heap := h', toks := tk } := I.kept hk
  refine wpAny_bind (wpAny_newList ?_ (by omega))
  have hoL : (h'.push (seqObj "list" acc.toList.toArray 0)).get? h'.objs.size = some (seqObj "list" acc.toList.toArray 0) := Heap.get?_push_size _ rfl
  show wpAny _ _ _ _ _ { s with heap := h'.push (seqObj "list" acc.toList.toArray 0), toks := tk }
  have old : ∀ b ob, h'.get? b = some ob → (sortingHeap (h'.push (seqObj "list" acc.toList.toArray 0)) h'.objs.size acc.toList).get? b = some ob := fun b ob e =>
    sortingHeap_old (Nat.ne_of_lt (Heap.lt_size e)) (Heap.get?_push_of_some _ e)
  have EI : EachIs (fun v d => ∃ as, Reads (sortingHeap (h'.push (seqObj "list" acc.toList.toArray 0)) h'.objs.size acc.toList) v d as) acc.toList ((kvs.map (·.1)).map encT) := by
    refine Eq.subst (motive := fun l => EachIs (fun v d => ∃ as, Reads (sortingHeap (h'.push (seqObj "list" acc.toList.toArray 0)) h'.objs.size acc.toList) v d as) l ((kvs.map (·.1)).map encT)) ea.symm ?_
    rw [kt_keys pr, List.map_map]
    refine eachIs_map ks fun x hx => ?_
    obtain ⟨_, its, rv, ob, g1, g2, n, g3⟩ := (show ObjOk X.prog X.w H h' x.2.1 (.tup (x.1.map kV)) from I1.hok x.2.1 _ (kt_mem pr x hx))
    obtain ⟨as, ra⟩ := reads_pd (h := sortingHeap (h'.push (seqObj "list" acc.toList.toArray 0)) h'.objs.size acc.toList) rv
    exact ⟨as, .tuple (old _ _ g1) g2 g3 ra⟩
  refine wpAny_bind (wpAny_holding (wpAny_call_entry PyProof.Rows.slot_list_sort ⟨_, hoL, rfl⟩ PyProof.Rows.entry_list_sort
    (list_sort_vals (s := { s with heap := h'.push (seqObj "list" acc.toList.toArray 0), toks := tk }) hoL (sortsAt_keys (s := { s with heap := sortingHeap (h'.push (seqObj "list" acc.toList.toArray 0)) h'.objs.size acc.toList, toks := tk }) EI hok (by show X.A.units + 1 + 1 + 1 < cLine; omega)) (by omega) ⟨_, rfl, ?_⟩)
    (PyProof.Rows.args_list_sort _)))
  have hal2 : AllAlike ((kvs.map (·.1)).map encT) := fun d hd d' hd' => by
    obtain ⟨sh, h1, h2⟩ := hok
    obtain ⟨a, ha, rfl⟩ := List.mem_map.mp hd
    obtain ⟨b, hb, rfl⟩ := List.mem_map.mp hd'
    show alike (.tuple (a.map pd)) (.tuple (b.map pd)) = true
    simp only [alike]
    exact alike_pd a b ((h1 a ha).trans (h1 b hb).symm)
  have hkk : (kvs.map (·.1)).map encT = ks.map fun x => encT x.1 := by rw [kt_keys pr, List.map_map]; rfl
  have hsd : EachIs (fun v (b : List Key × Addr × Value) => v = Value.ref b.2.1) (sortVals (dataKind (sortingHeap (h'.push (seqObj "list" acc.toList.toArray 0)) h'.objs.size acc.toList) ((kvs.map (·.1)).map encT)) false acc.toList acc.toList) (ks.mergeSort (dataLe false fun x => encT x.1)) := by
    rw [hkk]
    refine sortVals_data (enc := fun x : List Key × Addr × Value => encT x.1) false ?_ ?_ (by rw [← hkk]; exact hal2)
    · have := eachIs_map (R := fun v (b : List Key × Addr × Value) => v = Value.ref b.2.1) (f := fun b : List Key × Addr × Value => Value.ref b.2.1) (g := id) ks fun x _ => rfl
      rw [List.map_id] at this
      exact Eq.subst (motive := fun l => EachIs _ l ks) ea.symm this
    · have := eachIs_map (R := fun v (b : List Key × Addr × Value) => ∃ as, Reads (sortingHeap (h'.push (seqObj "list" acc.toList.toArray 0)) h'.objs.size acc.toList) v (encT b.1) as) (f := fun b : List Key × Addr × Value => Value.ref b.2.1) (g := id) ks fun x hx => by
        obtain ⟨_, its, rv, ob, g1, g2, n, g3⟩ := (show ObjOk X.prog X.w H h' x.2.1 (.tup (x.1.map kV)) from I1.hok x.2.1 _ (kt_mem pr x hx))
        obtain ⟨as, ra⟩ := reads_pd (h := sortingHeap (h'.push (seqObj "list" acc.toList.toArray 0)) h'.objs.size acc.toList) rv
        exact ⟨as, .tuple (old _ _ g1) g2 g3 ra⟩
      rw [List.map_id] at this
      exact Eq.subst (motive := fun l => EachIs _ l ks) ea.symm this
  obtain ⟨ls, p1, p2, p3⟩ : ∃ ls : List (List Key × Addr × Value), ls.Perm ks ∧ sortVals (dataKind (sortingHeap (h'.push (seqObj "list" acc.toList.toArray 0)) h'.objs.size acc.toList) ((kvs.map (·.1)).map encT)) false acc.toList acc.toList = ls.map (fun x => Value.ref x.2.1) ∧ ls.map (·.1) = (kvs.map (·.1)).mergeSort (dataLe false encT) :=
    ⟨_, List.mergeSort_perm _ _, each_eq hsd, by rw [kt_keys pr]; exact List.map_mergeSort (fun a _ b _ => rfl)⟩
  obtain ⟨e', he'⟩ := PyProof.Rows.sortedHeap_at (vs := acc.toList) (out := (sortVals (dataKind (sortingHeap (h'.push (seqObj "list" acc.toList.toArray 0)) h'.objs.size acc.toList) ((kvs.map (·.1)).map encT)) false acc.toList acc.toList).toArray) hoL
  have ebs : ls.map (fun x => Value.ref x.2.1) = (ls.map fun x => x.2.1).map Value.ref := by rw [List.map_map]; rfl
  have hlen : ((ls.map fun x => x.2.1).map V.ref).length ≤ sizeLine := by
    rw [List.length_map, List.length_map, p1.length_eq]
    omega
  refine wpAny_pure ⟨_, rfl, .ref h'.objs.size, upd H h'.objs.size (.lst ((ls.map fun x => x.2.1).map V.ref)), I1.laid (t' := tk) (fun b u e => ?_) (Nat.le_refl _)
    (show ObjOk X.prog X.w _ _ _ (.lst ((ls.map fun x => x.2.1).map V.ref)) from ⟨hlen, _, e', ?_, he'⟩), rfl, q _ (ls.map (·.1)) _ ?_ (keysAt_map ls fun x hx => kt_mem pr x (p1.mem_iff.mp hx)) (I1.hok.fresh (Nat.le_refl _))⟩
  · have hb : b < h'.objs.size := Heap.lt_size e
    rw [PyProof.Rows.sortedHeap_old (Nat.ne_of_lt hb) (by rw [size_push']; exact Nat.lt_succ_of_lt hb)]
    exact Heap.get?_push_of_some _ e
  · rw [p2, ebs]
    exact vals_refs2 _
  · exact p3
end
end KN

set_option Elab.async false
set_option linter.all false
set_option maxRecDepth 100000
set_option maxHeartbeats 4000000
/-! dicts with tuple keys: setdefault, items walked; list(d.values()); d.pop(None, None) -/
namespace KN
open PySem PySem.Spec PyProof.Rows L2
/-! ### d.setdefault(k, z), k a tuple -/
def tDSetT (td ty tx : TE) : TE := fun σ H Q => td σ H fun x H1 => ∃ a, x = .ref a ∧ IsD H1 a ∧ ty σ H1 fun y H2 => tx σ H2 fun z H3 => ∃ (kvs : List (List Key × V)) (k : List Key) (b : Addr), H3 a = some (.dT kvs) ∧ y = .ref b ∧ H3 b = some (.tup (k.map kV)) ∧ kvs.length < sizeLine ∧
  (∀ v, valV kvs k = some v → Q v H3) ∧ (valV kvs k = none → Q z (upd H3 a (.dT (putK kvs k z))))
section
variable {X : Cx} {o e f : Expr} {td ty tx : TE} {apos cpos : Pos}
theorem pe_dsetT (hu : X.A.units + 1 < cLine) (ho : PE X o td) (he : PE X e ty) (hf : PE X f tx) (m : M2 X o "setdefault" apos e f cpos) : PE X (.Call (.Attribute o "setdefault" apos) [e, f] [] cpos) (tDSetT td ty tx) := by
  refine ⟨fun pins s σ H Q I h => ?_⟩
  refine wpAny_Call_method m.base m.few m.line PySem.F.plainAttrs_dict PySem.F.slot_dict_setdefault PySem.F.type_dict_setdefault (thn (ho.run pins s σ H _ I h) fun u s1 ⟨x, H1, I1, rx, a, ex, d, q1⟩ => ?_)
  subst ex
  obtain rfl : u = Value.ref a := rx
  obtain ⟨t1, t2, lo⟩ := isD_at I1 d
  refine ⟨t1, t2, ?_⟩
  rw [m.trees]
  refine Calls.callWith_builtin rfl (Calls.evalArgs_plain (Calls.spliced_cons (thn (he.run pins s1 σ H1 _ I1 q1) fun iv s2 ⟨y, H2, I2, ry, q2⟩ =>
    Calls.spliced_cons (thn (hf.run pins s2 σ H2 _ I2 q2) fun fv s3 ⟨z, H3, I3, rz, kvs, k, b, ea, ey, eb, hl, q3, q4⟩ => Calls.spliced_nil ?_))))
  subst ey
  cases (show iv = Value.ref b from ry)
  obtain ⟨z0, hd, xs, rel, dd⟩ := dt_of I3.hok ea
  have hz : xs.length ≤ sizeLine := by rw [← Paired.length rel]; exact z0
  refine call_setdefault_heap (hsz := hz) (tupleKind_room_in1 hu) (key_of I3.hok eb) lo dd (fun p hp => ?_) fun hn h' dd' hs => ?_
  · have q := rel.val k
    rw [hp] at q
    cases q0 : valV kvs k with
    | none => rw [q0] at q; exact (show False from q).elim
    | some v0 =>
      rw [q0] at q
      exact ⟨v0, H3, I3.tok _, q, q3 v0 q0⟩
  · have q := rel.val k
    rw [hn] at q
    cases q0 : valV kvs k with
    | some v0 => rw [q0] at q; exact (show False from q).elim
    | none =>
      have hl2 : (putK kvs k z).length ≤ sizeLine := by
        have := length_putK kvs k z
        omega
      obtain ⟨ob, es, ep, hq, h2, h3, h4, _, h5⟩ := dd'
      refine ⟨z, _, d_write (ob := .dT (putK kvs k z)) I3 (by rw [ea]; exact True.intro) hs ⟨ob, hq⟩ ⟨hl2, hd, _, (rel.put k eb rz).keeps fun c ys ec => ?_, ob, es, ep, hq, h2, h3, h4, h5⟩, rz, q4 q0⟩
      rw [upd_ne (ne_of ec ea (fun z => nomatch z))]
      exact ec
end
/-! ### for k, v in d.items(), d's keys tuples -/
def ItiT (d : Addr) (o : Obj) (kvs : List (List Key × V)) : It :=
  ⟨fun i H => H d = some (.frz o (.dT kvs)) ∧ i < kvs.length, fun i H x H' => ∃ (T : Addr) (k : List Key) (v : V) (q : Addr), kvs[i]? = some (k, v) ∧ H q = some (.tup (k.map kV)) ∧ x = .ref T ∧ H T = none ∧ H' = upd H T (.tup [.ref q, v]), fun i H => H d = some (.frz o (.dT kvs)) ∧ kvs.length ≤ i⟩
section
variable {X : Cx} {pins : List (Addr × Obj)} {σ : L2.St} {H : Hp} {s : Shared} {d : Addr} {o : Obj}
theorem frzT_at {kvs : List (List Key × V)} (I : Inv X pins σ H s) (h : H d = some (.frz o (.dT kvs))) :
    (d == sysModules) = false ∧ ∃ (es : Array DictEntry) (ep : Nat), s.heap.get? d = some o ∧ o.data = .dict es ep ∧ s.heap.DictRaw d es ep ∧ es.size = kvs.length ∧
      ∀ (i : Nat) (k : List Key) (v : V), kvs[i]? = some (k, v) → ∃ (en : DictEntry) (q : Addr), es[i]? = some en ∧ en.key = .ref q ∧ H q = some (.tup (k.map kV)) ∧ RelV v en.val := by
  obtain ⟨hd, z, hs, xs, pr, o', es, ep, ho, hx, hdt, he, _⟩ := I.hok d _ h
  rw [hd] at ho
  cases ho
  refine ⟨hs, es, ep, hd, hdt, ⟨o, hd, hx, hdt⟩, ?_, fun i k v e => ?_⟩
  · rw [← Array.length_toList, he, List.length_map]
    exact (Paired.length pr).symm
  · obtain ⟨b, hb, e1, e2, e3⟩ := L2.paired_get pr e
    have q : es[i]? = some (entryOfKey (tupleKind (mixKind X.prog X.w)) b) := by
      rw [← Array.getElem?_toList, he, List.getElem?_map, hb]
      rfl
    exact ⟨_, b.2.1, q, rfl, e2, e3⟩
end
section
variable {P : Program} {w : World} {K : PySem.W.Frag} {d : Addr} {o : Obj}
theorem turn_itemsT {kvs : List (List Key × V)} {elts : List Expr} {kk : Nat} {tpos : Pos} {es : Array DictEntry} {ep : Nat} (it : Addr) (hod : o.data = .dict es ep) :
    Turn P w K (.Tuple elts kk tpos) (ItiT d o kvs) [it] it (fun i h => ∃ ok ov, IsItemIter h it d i kvs.length ep ok ov) where
  mem := by simp
  obj := fun i h st b hb => by
    obtain rfl : b = it := by simpa using hb
    obtain ⟨ok, ov, e⟩ := st
    exact ⟨_, e, fun v z => nomatch z⟩
  keep := fun i h h' st k => let ⟨ok, ov, e⟩ := st; ⟨ok, ov, k it (by simp) _ e⟩
  item := by
    intro X hP hw hK hc i pins s σ H E I hf st hg
    subst hP hw hK
    obtain ⟨hd, hi⟩ := hg
    obtain ⟨hs, es', ep', _, hdt, hm, hsz, ent⟩ := frzT_at I hd
    obtain ⟨rfl, rfl⟩ := dict_ep hod hdt
    obtain ⟨⟨k, v⟩, hkv⟩ : ∃ p, kvs[i]? = some p := ⟨kvs[i], List.getElem?_eq_getElem hi⟩
    obtain ⟨en, q, e1, e2, e3, e4⟩ := ent i k v hkv
    obtain ⟨ok, ov, he⟩ := st
    rw [← hsz] at he
    have hlt : it < s.heap.objs.size := Heap.lt_size he
    have hi' : i < es'.size := by omega
    have een : es'[i] = en := by
      rw [Array.getElem?_eq_getElem hi'] at e1
      exact Option.some.inj e1
    refine wpAny_pyNext_items_item_raw he hm hi' fun h' ho hT hz hk => ?_
    refine ⟨_, rfl, wpAny_letOwnedTupleGo_items (s := { s with heap := h' }) ho fun h'' he' sb => ?_⟩
    have hT2 : h''.get? s.heap.objs.size = some { cls := .type "tuple", data := .seq #[.ref q, en.val] } := by
      rw [een, e2] at hT
      exact (sb.2 _ (Nat.ne_of_gt hlt)).trans hT
    have new : ObjOk X.prog X.w (upd H s.heap.objs.size (.tup [.ref q, v])) h'' s.heap.objs.size (.tup [.ref q, v]) :=
      ⟨by show 2 ≤ sizeLine; decide, [.ref q, en.val], .cons rfl (.cons e4 .nil), ⟨_, hT2, rfl, _, rfl⟩⟩
    have I1 : Inv X pins σ (upd H s.heap.objs.size (.tup [.ref q, v])) { s with heap := h'' } :=
      I.turnedNew (t' := s.toks) (ch := [it]) (fun b ob hb e => (sb.2 b (by simpa using hb)).trans (hk b ob (by simpa using hb) e)) hf (Nat.le_refl _) new
    refine ⟨.ref s.heap.objs.size, _, I1, rfl, ⟨_, k, v, q, hkv, e3, rfl, I.hok.fresh (Nat.le_refl _), rfl⟩, ⟨es'[i].key, es'[i].val, ?_⟩, fun b hb => ?_⟩
    · rw [← hsz]; exact he'
    · obtain rfl : b = it := by simpa using hb
      rw [upd_ne (Nat.ne_of_lt hlt)]
      exact (hf b (by simp)).1
  done := by
    intro X hP hw hK hc i pins s σ H E I hf st hg
    subst hP hw hK
    obtain ⟨hd, hi⟩ := hg
    obtain ⟨f0, f1, f2, f3, f4, f5⟩ := hf it (by simp)
    obtain ⟨hs, es', ep', _, hdt, hm, hsz, ent⟩ := frzT_at I hd
    obtain ⟨rfl, rfl⟩ := dict_ep hod hdt
    obtain ⟨ok, ov, he⟩ := st
    rw [← hsz] at he
    exact wpAny_pyNext_items_end_raw (I.ok.hd hc) he hm (by omega) fun h' eb => ⟨rfl, I.turned (t' := s.toks) (fun b ob hb e => eb b ob hb e) f0 f1 f3 f4 f5⟩
  self := fun A i s Q E st h => let ⟨_, _, e⟩ := st; PySem.W.kcp_self e h
end
def iItemsT (td : TE) : TI := fun σ H R => td σ H fun x H1 => ∃ d o kvs, x = .ref d ∧ H1 d = some (.frz o (.dT kvs)) ∧ R (ItiT d o kvs) H1
section
variable {X : Cx} {e : Expr} {td : TE} {apos cpos : Pos}
theorem pi_itemsT {elts : List Expr} {kk : Nat} {tpos : Pos} (he : PE X e td) (hbase : attributeBase e "items" X.env (eval e X.env) = eval e X.env := by rfl) (hline : (apos.endLine == cpos.line) = true := by rfl) :
    PI X (.Tuple elts kk tpos) (.Call (.Attribute e "items" apos) [] [] cpos) (iItemsT td) := by
  refine ⟨fun pins s σ H R I h => ?_⟩
  refine wpAny_Call_method (T := "dict") (id := "dict.items") hbase rfl hline PySem.F.plainAttrs_dict PySem.F.slot_dict_items PySem.F.type_dict_items (thn (he.run pins s σ H _ I h) fun u s1 ⟨x, H1, I1, rx, d, o, kvs, ex, hd, q⟩ => ?_)
  subst ex
  obtain rfl : u = Value.ref d := rx
  obtain ⟨hs, es, ep, hgd, hdt, hm, hsz, ent⟩ := frzT_at I1 hd
  have nd : ∀ b, Value.ref d = .ref b → ∃ ob, s1.heap.get? b = some ob ∧ ob.dict = none := fun b eb => by
    cases eb
    obtain ⟨ob, h1, h2, _⟩ := hm
    exact ⟨ob, h1, h2.2.1⟩
  refine ⟨hm.typeIs, nd, ?_⟩
  have I2 : Inv X pins σ H1 { s1 with heap := s1.heap.push { cls := .type "dict_items", data := .fields #[.ref d] } } := I1.kept (t' := s1.toks) fun b ob q => Heap.get?_push_of_some _ q
  have fin : wpAny (model X.prog X.w) X.A (pyIter (.ref s1.heap.objs.size)) (PIE X pins σ (.Tuple elts kk tpos) R) X.xe { s1 with heap := s1.heap.push { cls := .type "dict_items", data := .fields #[.ref d] } } := by
    refine wpAny_pyIter_items_raw (d := d) ⟨_, Heap.get?_push_size _ rfl, rfl, rfl⟩ (hm.at fun _ e => Heap.get?_push_of_some _ e) (pi_one (tk := s1.toks) I2 _ (turn_itemsT _ hdt) ⟨.none, .none, ?_⟩ q)
    rw [← hsz]
    exact Heap.get?_push_size _ rfl
  show wpAny _ _ (callWith cpos (.builtin "dict.items") [.ref d] [] []) _ X.xe s1
  exact method_meetsIn PySem.F.slot_dict_items PySem.F.entry_dict_items rfl (PySem.evalArgs_none ⟨rfl, hm.typeIs, PySem.F.args_dict_items_1 _, _, meets_dict_items_raw d hs, ⟨es, ep, hm⟩, fin⟩)
end

/-! ### list(d.values()) -/
def DVals (H : Hp) (d : Addr) (vs : List V) : Prop := (∃ kvs : List (Key × V), Rd H d (.dK kvs) ∧ vs = kvs.map (·.2)) ∨ ∃ kvs : List (List Key × V), Rd H d (.dT kvs) ∧ vs = kvs.map (·.2)
theorem dvals_at {X : Cx} {pins : List (Addr × Obj)} {σ : L2.St} {H : Hp} {s : Shared} {d : Addr} {vs : List V} (I : Inv X pins σ H s) (h : DVals H d vs) :
    (d == sysModules) = false ∧ vs.length ≤ sizeLine ∧ ∃ (es : Array DictEntry) (ep : Nat), s.heap.DictRaw d es ep ∧ es.size = vs.length ∧ ∀ (i : Nat) (v : V), vs[i]? = some v → ∃ en : DictEntry, es[i]? = some en ∧ RelV v en.val := by
  rcases h with ⟨kvs, hd, rfl⟩ | ⟨kvs, hd, rfl⟩
  · obtain ⟨z, lo, ws, rel, o, es, ep, ho, hx, hdt, hk, hp, hn⟩ := dk_rd I.hok hd
    have l1 : es.size = ws.length := by rw [← hp.length, Array.length_toList]
    have l2 : kvs.length = ws.length := Paired.length rel
    refine ⟨lo, by rw [List.length_map]; exact z, es, ep, ⟨o, ho, hx, hdt⟩, by rw [List.length_map]; omega, fun i v e => ?_⟩
    rw [List.getElem?_map] at e
    obtain ⟨⟨k, v'⟩, e1, e2⟩ := Option.map_eq_some_iff.mp e
    obtain ⟨u, hu, ru⟩ := kv_get rel e1
    have hi : i < es.size := by
      have := (List.getElem?_eq_some_iff.mp hu).1
      omega
    obtain ⟨h1, h2⟩ := hp.get? (e := es[i]) (by simp [hi]) hu
    exact ⟨es[i], Array.getElem?_eq_getElem hi, by rw [h2, ← e2]; exact ru⟩
  · obtain ⟨z, lo, xs, pr, o, es, ep, ho, hx, hdt, he, _⟩ := (show ObjOk X.prog X.w H s.heap d (.dT kvs) from hd.ok I.hok)
    refine ⟨lo, by rw [List.length_map]; exact z, es, ep, ⟨o, ho, hx, hdt⟩, ?_, fun i v e => ?_⟩
    · rw [List.length_map, ← Array.length_toList, he, List.length_map]
      exact (Paired.length pr).symm
    · rw [List.getElem?_map] at e
      obtain ⟨⟨k, v'⟩, e1, e2⟩ := Option.map_eq_some_iff.mp e
      obtain ⟨b, hb, _, _, e3⟩ := L2.paired_get pr e1
      have q : es[i]? = some (entryOfKey (tupleKind (mixKind X.prog X.w)) b) := by
        rw [← Array.getElem?_toList, he, List.getElem?_map, hb]
        rfl
      exact ⟨_, q, by rw [← e2]; exact e3⟩
def tListVals (te : TE) : TE := fun σ H Q => te σ H fun x H1 => ∃ (d : Addr) (vs : List V), x = .ref d ∧ DVals H1 d vs ∧ ∀ p, H1 p = none → Q (.ref p) (upd H1 p (.lst vs))
section
variable {X : Cx} {e : Expr} {te : TE} {p pos apos cpos : Pos}
theorem pe_listVals (hc : X.calm = true) (he : PE X e te) (hg : Gl X "list") (hm : X.mg "list" = none) (hbase : attributeBase e "values" X.env (eval e X.env) = eval e X.env := by rfl) (hline : (apos.endLine == cpos.line) = true := by rfl)
    (hs : starEach [.Call (.Attribute e "values" apos) [] [] cpos] X.env = (false, eval (.Call (.Attribute e "values" apos) [] [] cpos) X.env) :: starEach [] X.env := by rfl) :
    PE X (.Call (.Name "list" p) [.Call (.Attribute e "values" apos) [] [] cpos] [] pos) (tListVals te) := by
  refine ⟨fun pins s σ H Q I hq => ?_⟩
  refine wpAny_Call_Name_kw (ld_blt I hg hm (show bootBuiltins "list" = some (.type "list") by decide +kernel) ?_)
  refine PyProof.Rows.callWith_type1 ?_ hs rfl
  rw [hs]
  show wpAny _ _ (spliced ((false, eval (.Call (.Attribute e "values" apos) [] [] cpos) X.env) :: backTo pos (starEach [] X.env))) _ _ s
  refine Calls.spliced_cons ?_
  refine wpAny_Call_method (T := "dict") (id := "dict.values") hbase rfl hline PySem.F.plainAttrs_dict PySem.F.slot_dict_values PySem.F.type_dict_values (thn (he.run pins s σ H _ I hq) fun u s1 ⟨x, H1, I1, rx, d, vs, ex, hd, q⟩ => ?_)
  subst ex
  obtain rfl : u = Value.ref d := rx
  obtain ⟨lo, hz, es, ep, hr, hsz, ent⟩ := dvals_at I1 hd
  have nd : ∀ b, Value.ref d = .ref b → ∃ ob, s1.heap.get? b = some ob ∧ ob.dict = none := fun b eb => by
    cases eb
    obtain ⟨ob, h1, h2, _⟩ := hr
    exact ⟨ob, h1, h2.2.1⟩
  have I2 : Inv X pins σ H1 { s1 with heap := s1.heap.push { cls := .type "dict_values", data := .fields #[.ref d] } } := I1.kept (t' := s1.toks) fun b ob q => Heap.get?_push_of_some _ q
  refine ⟨hr.typeIs, nd, ?_⟩
  show wpAny _ _ (callWith cpos (.builtin "dict.values") [.ref d] [] []) _ X.xe s1
  refine method_meetsIn PySem.F.slot_dict_values PySem.F.entry_dict_values rfl (PySem.evalArgs_none ⟨rfl, hr.typeIs, PySem.F.args_dict_values_1 _, _, meets_dict_values_raw d lo, ⟨es, ep, hr⟩, ?_⟩)
  refine Calls.spliced_nil ?_
  have ok : (s1.heap.push { cls := .type "dict_values", data := .fields #[.ref d] }).IsValuesView s1.heap.objs.size d ∧ (s1.heap.push { cls := .type "dict_values", data := .fields #[.ref d] }).DictRaw d es ep :=
    ⟨⟨_, Heap.get?_push_size _ rfl, rfl, rfl⟩, hr.at fun _ e => Heap.get?_push_of_some _ e⟩
  refine PySem.W.kdl_call (PySem.KdlSrc.rawValues (r := s1.heap.objs.size) (d := d) (es := es) (ep := ep)) (I1.ok.hd hc) ok (by omega) fun h' tk acc c hk hD hacc => ?_
  have hal : acc.toList.length = es.size := by rw [Array.length_toList]; exact hacc.1
  have hv : Vals vs acc.toList := vals_of_at (by omega) fun j x u e1 e2 => by
    obtain ⟨hi, ev⟩ := hacc.2 j u (by rw [← Array.getElem?_toList]; exact e2)
    obtain ⟨en, e3, e4⟩ := ent j x e1
    rw [Array.getElem?_eq_getElem hi] at e3
    rw [ev, Option.some.inj e3]
    exact e4
  have hf : (s1.heap.push { cls := .type "dict_values", data := .fields #[.ref d] }).objs.size ≥ s1.heap.objs.size := by rw [Heap.size_push]; omega
  refine ⟨.ref _, upd H1 (s1.heap.push { cls := .type "dict_values", data := .fields #[.ref d] }).objs.size (.lst vs), I2.laid (t' := tk) hk (Nat.le_refl _)
    (show ObjOk X.prog X.w _ _ _ (.lst vs) from ⟨hz, acc.toList, c, hv, by rw [Array.toArray_toList]; exact hD⟩), rfl, q _ (I2.hok.fresh (Nat.le_refl _))⟩
end
/-! ### d.pop(y, z), y may be None -/
theorem none_dict {P : Program} {w : World} {h : Heap} {a : Addr} {vs : List (Key × Value)} (d : h.DictOf (mixKind P w) a vs) : h.DictOf (noneKind P w) a (vs.map fun p => (some p.1, p.2)) := by
  obtain ⟨o, es, ep, ho, hx, hdt, hk, hp, hn⟩ := d
  refine ⟨o, es, ep, ho, hx, hdt, fun e he => ?_, ?_, ?_⟩
  · obtain ⟨k, h1, h2⟩ := hk e he
    exact ⟨some k, h1, h2⟩
  · clear hn
    generalize es.toList = l at hp
    induction hp with
    | nil => exact .nil
    | cons h1 h2 _ ih => exact .cons h1 h2 ih
  · have e : (vs.map fun p => ((some p.1 : Option Key), p.2)).map (·.1) = (vs.map (·.1)).map some := by rw [List.map_map, List.map_map]; rfl
    rw [e]
    exact List.pairwise_map.mpr (hn.imp fun h e => h (Option.some.inj e))
theorem valueAt_none {vs : List (Key × Value)} : valueAt (vs.map fun p => ((some p.1 : Option Key), p.2)) none = none := by
  unfold valueAt
  rw [List.find?_map, Option.map_map]
  have e : (vs.find? ((fun kv : Option Key × Value => decide (kv.1 = none)) ∘ fun p => ((some p.1 : Option Key), p.2))) = none := List.find?_eq_none.mpr fun x _ h => by simp at h
  rw [e]
  rfl
def tDPopN (td ty tx : TE) : TE := fun σ H Q => td σ H fun x H1 => ∃ a, x = .ref a ∧ IsD H1 a ∧ ty σ H1 fun y H2 => tx σ H2 fun z H3 => ∃ kvs : List (Key × V), H3 a = some (.dK kvs) ∧
  ((y = .non ∧ Q z H3) ∨ ∃ k, y = kV k ∧ (∀ v, valV kvs k = some v → Q v (upd H3 a (.dK (dropK kvs k)))) ∧ (valV kvs k = none → Q z H3))
section
variable {X : Cx} {o e f : Expr} {td ty tx : TE} {apos cpos : Pos}
theorem pe_dpopN (ho : PE X o td) (he : PE X e ty) (hf : PE X f tx) (m : M2 X o "pop" apos e f cpos) : PE X (.Call (.Attribute o "pop" apos) [e, f] [] cpos) (tDPopN td ty tx) := by
  refine ⟨fun pins s σ H Q I h => ?_⟩
  refine wpAny_Call_method m.base m.few m.line PySem.F.plainAttrs_dict PySem.F.slot_dict_pop PySem.F.type_dict_pop (thn (ho.run pins s σ H _ I h) fun u s1 ⟨x, H1, I1, rx, a, ex, d, q1⟩ => ?_)
  subst ex
  obtain rfl : u = Value.ref a := rx
  obtain ⟨t1, t2, lo⟩ := isD_at I1 d
  refine ⟨t1, t2, ?_⟩
  rw [m.trees]
  refine Calls.callWith_builtin rfl (Calls.evalArgs_plain (Calls.spliced_cons (thn (he.run pins s1 σ H1 _ I1 q1) fun iv s2 ⟨y, H2, I2, ry, q2⟩ =>
    Calls.spliced_cons (thn (hf.run pins s2 σ H2 _ I2 q2) fun fv s3 ⟨z, H3, I3, rz, kvs, ea, q3⟩ => Calls.spliced_nil ?_))))
  rcases q3 with ⟨ey, q3⟩ | ⟨k, ey, q3, q4⟩
  · subst ey
    obtain rfl : iv = Value.none := ry
    obtain ⟨z0, hd, vs, rel, dd⟩ := dk_of I3.hok ea
    have dn := none_dict dd
    exact call_meetsIn PySem.F.slot_dict_pop dn.typeIs PySem.F.entry_dict_pop (PySem.F.args_dict_pop_3 _ _ _) (meets_dict_pop_default (noneKind X.prog X.w) (k := none) a (show (noneKind X.prog X.w).is none Value.none = true from rfl) lo rfl fv)
      ⟨_, dn, valueAt_none, ⟨z, H3, I3.tok _, rz, q3⟩⟩
  · subst ey
    cases c : valV kvs k with
    | some v => exact d_pop I3 ea ry c (.inr ⟨fv, rfl⟩) fun w' s4 I4 rw' => ⟨v, _, I4, rw', q3 v c⟩
    | none => exact d_popD I3 ea ry c fun s4 I4 => ⟨z, H3, I4, rz, q4 c⟩
end
end KN

set_option Elab.async false
set_option linter.all false
set_option maxRecDepth 100000
set_option maxHeartbeats 4000000
/-! more rules: ** of great ints, dict compared with an empty one, len(set(tuple)), an own __len__, cls(.., k = v) -/
namespace KN
open PySem PySem.Spec PyProof.Rows L2 RZ
section
variable {X : Cx}
def CPowB (i j : Int) : Prop := 0 ≤ j ∧ (Builtin.Int.intBits i : Int) * j ≤ 2 ^ 27
theorem op_powB : OpR X (binaryOp .Pow) (rI CPowB fun i j => .int (i ^ j.toNat)) := opI fun _ _ _ _ _ _ _ hc q => pow_int hc.1 hc.2 q
def rNeE : R2 := fun x y H Q => ∃ a b ks, x = .ref a ∧ y = .ref b ∧ H a = some (.dK ks) ∧ H b = some (.dK []) ∧ Q (.bl (!ks.isEmpty)) H
theorem op_neE (hu : X.A.units < cLine) : OpR X (compareOp .NotEq) rNeE := by
  intro pins s σ H x y v u Q I rx ry h
  obtain ⟨a, b, ks, rfl, rfl, ea, eb, q⟩ := h
  obtain rfl : v = Value.ref a := rx
  obtain rfl : u = Value.ref b := ry
  obtain ⟨_, ya, va, ra, da⟩ := (show ObjOk X.prog X.w H s.heap a (.dK ks) from I.hok a _ ea)
  obtain ⟨_, yb, vb, rb, db⟩ := (show ObjOk X.prog X.w H s.heap b (.dK []) from I.hok b _ eb)
  have hb : vb.length = 0 := by rw [← rb.length]; rfl
  have ha : va.length = ks.length := by rw [← ra.length]
  refine PySem.W.keq_ne (knd := mixKind X.prog X.w) (r := true) ya yb da db hu (fun hl => ?_) (fin_bl I q ?_)
  · have e0 : ks = [] := by
      have : ks.length = 0 := by omega
      exact List.length_eq_zero_iff.mp this
    subst e0
    exact hits_all rb ra (fun p hp => (nomatch hp))
  · rw [hb, ha, Bool.and_true]
    cases ks <;> rfl
/-! ### len(set(tuple of different ints)) -/
theorem nodup_same : ∀ {l m : List Int}, l.Nodup → m.Nodup → (∀ k, k ∈ l ↔ k ∈ m) → l.length = m.length := fun h1 h2 h =>
  ((List.perm_ext_iff_of_nodup h1 h2).mpr h).length_eq
def tLenSetT (K : PySem.W.Frag) (ta : TE) : TE := fun σ H Q => ta σ H fun x H1 => ∃ (l : Addr) (ns : List Int), x = .ref l ∧ SqT K H1 l (ns.map V.int) ∧ ns.Nodup ∧ ns.length ≤ 4000 ∧ Q (.int (ns.length : Nat)) H1
theorem pe_lenSetT {a : Expr} {ta : TE} {p p2 q pos : Pos} (hg : Gl X "len") (hm : X.mg "len" = none) (hg2 : Gl X "set") (hm2 : X.mg "set" = none) (ha : PE X a ta) (hc : X.calm = true := by rfl)
    (na : starEach [a] X.env = (false, eval a X.env) :: starEach [] X.env := by rfl) : PE X (.Call (.Name "len" p) [.Call (.Name "set" p2) [a] [] q] [] pos) (tLenSetT X.K ta) := by
  refine ⟨fun pins s σ H Q I h => ?_⟩
  refine Call_ (ld_blt I hg hm boot_len ?_)
  refine PyProof.Rows.callWith_builtin1 (PyProof.Rows.args_cons ?_ rfl) rfl rfl
  refine Call_ (ld_blt I hg2 hm2 boot_set ?_)
  refine PyProof.Rows.callWith_type1 (PyProof.Rows.args_cons (thn (ha.run pins s σ H _ I h) fun v s1 ⟨x, H1, I1, r1, q1⟩ => PyProof.Rows.args_nil ?_) na) na rfl
  obtain ⟨l, ns, rfl, hq, hnd, hl, q1⟩ := q1
  cases r1
  obtain ⟨its, r, pl, hz⟩ := I1.tuple hq
  have hlen : its.toArray.size = ns.length := by rw [List.size_toArray, ← r.length, List.length_map]
  obtain ⟨o, ho0, hc0, n0, hd0⟩ := pl
  refine call_set_tupI ns (I1.ok.hd hc) ⟨o, ho0, hc0, n0, hd0⟩ (by simpa using intsAre_vals r) (by unfold scanBound; omega) fun h' tk c hS hcl hk => ?_
  refine PyProof.Rows.args_nil ?_
  obtain ⟨o, es, ep, t, ho, hex, hd, hg, hnd2, hmem, hb, hf, hn, _⟩ := hS
  have hcn : c = ns.length := by
    have e1 := nodup_same hnd2 hnd (fun k => (hmem k).symm.trans (by simp))
    rw [List.length_map, Array.length_toList] at e1
    omega
  have I2 : Inv X pins σ H1 { s1 with heap := h', toks := tk } := I1.kept fun b o e => hk b o e
  exact call_len_set ho hex hd hf (by rw [hn]; omega) ⟨.int ns.length, H1, I2.tok _, ⟨_, by rw [hn, hcn]⟩, q1⟩
/-! ### an own __len__ -/
theorem call_len_own {CX : CXT} {k : Nat} {C f : Addr} {sp : Sp} {E : XK} (F : FnR X.prog X.w X.K X.mg X.base CX k f sp) (hf : PySem.W.findIn X.K (.ref C) "__len__" = some (some (.ref f))) (ht : PySem.W.typeIn X.K (.ref f) = some (.type "function")) (hr : Room (k + 1) X.A) (hx : Passes CX X.nox E) :
    CallR X (.builtin "len") (fun xs H Q => ∃ a dx fs, xs = [V.ref a] ∧ H a = some (.ins C dx fs) ∧ sp [.ref a] H (fun v H' => ∃ n : Nat, v = .int n ∧ n ≤ 1000 ∧ Q (.int n) H') E) := by
  intro pins s σ H xs us Q I r h
  obtain ⟨a, dx, fs, rfl, ea, h⟩ := h
  obtain ⟨u, rfl, ru⟩ := vals1 r
  cases ru
  obtain ⟨mA, O, _, _, _, _⟩ := ins_get I.hok ea
  obtain ⟨od, J, _⟩ := O.look
  refine Calls.call_function_entry kind_len plain_len entry_len (args_len1 _) ?_
  unfold Builtin.«len»
  refine wpAny_bind (m := oneArg "len" _) (wpAny_pure ?_)
  refine wpAny_bind (m := callSpecial? (.ref a) (Str.ofString "__len__")) (PySem.W.special_fn I.kIn J hf ht ?_)
  refine wpAny_call (codeAny_mono (F X.A.in1 X.stack s H [.ref a] [.ref a] _ E hr.in1 I.env0.in1 (.cons rfl .nil) h) fun r s' hq => ?_)
  cases r with
  | error er => exact False.elim (hx pins σ H s er s' (I.wish _) hq)
  | ok fl =>
    cases fl with
    | ret u =>
      obtain ⟨v, H', I3, rv, n, ev, hn, q3⟩ := I.after hq
      subst ev
      obtain ⟨t, rfl⟩ := rv
      refine wpAny_bind (wpAny_holding (wpAny_pure ?_))
      refine wpAny_bind (wpAny_letGo ?_)
      show wpAny _ _ (if (n : Int) < 0 then _ else _) _ _ _
      rw [if_neg (by omega)]
      show wpAny _ _ (if (n : Int) ≥ 2 ^ 63 then _ else _) _ _ _
      rw [if_neg (by omega)]
      exact wpAny_bind (wpAny_mkInt (wpAny_pure ⟨_, rfl, .int (n : Int), H', I3.tok _, ⟨_, rfl⟩, q3⟩))
    | next => exact False.elim hq
    | brk => exact False.elim hq
    | cont => exact False.elim hq
/-! ### x(e, .., k = v), x a local that holds the class -/
def tMakeV (i : Nat) (C : Addr) (n m : Nat) (sp : Sp) (gV : List V → List V → List V) (E : XK) (t tk : TA) : TE := fun σ H Q => σ[i]? = some (some (.ref C)) ∧ tMakeN C n m sp gV E t tk σ H Q
theorem pe_makeV {CX : CXT} {k n i : Nat} {f C : Addr} {fd : FuncData} {ps ks : List Str} {sp : Sp} {E : XK} {x : Str} {p pos : Pos} {e : Expr} {es : List Expr} {kws : List Keyword} {t tk : TA} {g : List Value → List Value → List Value} {gV : List V → List V → List V}
    (M : Mk X.K C f) (F : FnOk X.prog X.w X.K X.mg X.base CX k f fd ps sp) (hr : Room (k + 1) X.A) (hN : X.N[i]? = some x) (hv : Vis X.env.scope x) (hb : KBn X.K fd ps (n + 1) ks g gV) (hx : Passes CX X E)
    (ha : PA X (e :: es) t) (hkw : PK X kws tk) (hall : (backToKw pos (keywordEach kws X.env)).all (·.1.isSome) = true := by rfl) (hks : (backToKw pos (keywordEach kws X.env)).filterMap (·.1) = ks := by rfl)
    (hdb : (x == ("__debug__" : Str)) = false := by decide) (hcd : (x == ("__classdict__" : Str)) = false := by decide) (he : starEach (e :: es) X.env = (false, eval e X.env) :: starEach es X.env := by rfl)
    (hpl : ((backTo pos (starEach (e :: es) X.env)).any (·.1) || (backToKw pos (keywordEach kws X.env)).any (·.1.isNone)) = false := by rfl) :
    PE X (.Call (.Name x p) (e :: es) kws pos) (tMakeV i C n ks.length sp gV E t tk) := by
  refine ⟨fun pins s σ H Q I h => ?_⟩
  obtain ⟨hs, h⟩ := h
  refine wpAny_Call_Name_kw (thn ((pe_var (pos := p) (i := i) hN hv hdb hcd).run pins s σ H (fun v H1 => v = .ref C ∧ H1 = H) I ⟨.ref C, hs, rfl, rfl⟩) fun u s0 ⟨v, H0, I0, r0, ev, eH⟩ => ?_)
  subst ev
  rw [eH] at I0
  cases r0
  refine PySem.W.callWith_KW (h₀ := X.base) I0.ok.mod.kin M.kp hall (thn (ha.run pos pins s0 σ H _ I0 h) fun us s1 ⟨vs, H1, I1, r, q⟩ => ?_) hpl he
  refine thn (hkw.run pos pins s1 σ H1 _ I1 q) fun ws s2 ⟨zs, H2, I2, rz, l1, l2, q2⟩ => ⟨I2.kIn, ?_⟩
  rw [hks]
  exact run_makeN M F hr hb hx I2 r rz l1 l2 q2
end
end KN

set_option Elab.async false
set_option linter.all false
set_option maxRecDepth 100000
set_option maxHeartbeats 4000000
/-! name = {k: v for ..} on one line, the name a local -/
namespace KN
open PySem PySem.Spec PyProof.Rows L2
section
variable {X : Cx} {pins : List (Addr × Obj)} {σ : L2.St} {H : Hp} {s : Shared} {kx vx tg iter : Expr} {ifs : List Expr} {rest : List Comprehension} {scope : Scope} {own : List (Str × Nat)} {pos : Pos} {wi : TI}
/-- the block of a dict comprehension is entered; what is left is its loop -/
theorem comp_enterU {Q : VK} {o0 : HO} {use : Option (Value → Sem Unit)} {Qf : Value → Shared → Prop} {pos' : Pos} (hi0 : Ini o0) (hc : X.calm = true) (hN : X.N.Nodup) (I : Inv X pins σ H s) (hi : PI X tg iter wi) (ok : BlkOk X.N X.env.scope scope own) (hs : ∀ x, foldedSetIterable iter X.env x = pure x) {RR : It → Hp → Addr → Prop}
    (h : wi σ H fun J H1 => ∀ D, H1 D = none → RR J (upd H1 D o0) D)
    (loop : ∀ (D it : Addr) (s3 s4 : Shared) (H3 : Hp) (ce : Env) (fp : List Addr) (tn : Nat → Heap → Prop) (J : It) (P : Result → Shared → Prop),
      (ce = compEnvC scope (cellsFrom (s3.heap.objs.size + 1) scope.names (cloFrom X.env.cells scope.names [])) s3.heap.objs.size X.env) → Inv (X.blk s3 H3 scope ce fp) [] (wipe σ (own.map (·.2))) H3 s4 → Turn X.prog X.w X.K tg J fp it tn → tn 0 s4.heap →
      (∀ b ∈ fp, H3 b = none) → RR J H3 D → (∀ (σ' : L2.St) (H5 : Hp) (s6 : Shared), Inv (X.blk s3 H3 scope ce fp) [] σ' H5 s6 → Q (.ref D) H5 → P (.ok .next) s6) →
      codeAny (model X.prog X.w) X.A (.compLoop (.DictComp kx vx (⟨tg, iter, ifs, 0⟩ :: rest) scope pos) 0 (.ref it) (.ref D) ce) P s4)
    (hRR : ∀ D C s' m H', Inv X pins σ H' s' → Q (.ref D) H' → s'.heap.Ns C m → FpOk X pins H' C → compPost (model X.prog X.w) X.A X.xe use Qf (.ref D) C (.ok .next) s') :
    wpAny (model X.prog X.w) X.A (comprehension (.DictComp kx vx (⟨tg, iter, ifs, 0⟩ :: rest) scope pos) scope X.env pos' newDict false (eval iter X.env) use) Qf X.xe s := by
  have hfree : ∀ y ∈ scope.names, y.2 = .free → ∃ c, X.env.cells.lookup y.1 = some c := fun y hy e => (ok.free y hy e).elim (fun k => I.ok.has _ (.inl k)) fun k => I.ok.has _ (.inr k)
  refine wpAny_comprehension_free (use := use) rfl hs (closure_ok hfree) ok.kind (fun y hy e => by rw [ok.uniq y hy, e]) (thn (hi.run pins s σ H _ I h) fun xv s1 hx => thn hx fun itv s2 h2 => ?_)
  obtain ⟨it, fp, tn, J, H2, e, I2, T, st2, f2, q⟩ := h2
  subst e
  refine wpAny_newObj_type (newEnv_comp ?_)
  have I3 := ini_laid hi0 I2
  have rr := q s2.heap.objs.size (I2.hok.fresh (Nat.le_refl _))
  generalize hD : s2.heap.objs.size = D at I3 rr ⊢
  generalize hs3 : ({ s2 with heap := s2.heap.push { cls := .type "dict", data := .dict #[] } } : Shared) = s3 at I3
  have h3 : s3.heap = s2.heap.push { cls := .type "dict", data := .dict #[] } := by rw [← hs3]
  have f3 : ∀ b ∈ fp, FpOk X pins (upd H2 D o0) b ∧ b < s3.heap.objs.size := fun b hb => by
    obtain ⟨ob, eb, _⟩ := T.obj _ _ st2 b hb
    have hlt := Heap.lt_size eb
    refine ⟨⟨?_, (f2 b hb).2⟩, by rw [h3, Heap.size_push]; exact Nat.lt_succ_of_lt hlt⟩
    rw [upd_ne (by rw [← hD]; exact Nat.ne_of_lt hlt)]
    exact (f2 b hb).1
  have I4 := block_start I3 ok hN f3
  have st4 : tn 0 (pushCells (s3.heap.push { cls := .type "dict", data := .dict #[] }) scope.names) :=
    T.keep _ _ _ st2 fun b _ o e => pushCells_keeps _ _ _ _ (Heap.get?_push_of_some _ (by rw [h3]; exact Heap.get?_push_of_some _ e))
  refine (fun lp => codeAny_compStart_dict lp (T.self X.A 0 _ _ _ (show tn 0 (Shared.heap _) from st4) lp)) ?_
  have go := loop D it s3 _ _ _ fp tn J (compPost (model X.prog X.w) X.A X.xe use Qf (.ref D) s3.heap.objs.size) rfl I4 T st4 (fun b hb => (f3 b hb).1.1) rr fun σ' H5 s6 I6 qq => ?_
  · rw [← hs3] at go ⊢
    exact go
  · have I7 : Inv X pins σ H5 s6 := I3.call' (ch := fp) I6.os I6.base I6.hok I6.bare fun b hb => ⟨(f3 b hb).1.2.2.2.1, (f3 b hb).1.2.1, (f3 b hb).1.2.2.2.2.1, (f3 b hb).1.2.2.2.2.2⟩
    have nC : H5 s3.heap.objs.size = none := I6.free
    obtain ⟨m, hn, _⟩ := I6.loc
    exact hRR D _ s6 m H5 I7 qq hn (I3.fpOk (Nat.le_refl _) nC)
end
section
variable {X : Cx}
theorem ps_setDc1 {o0 : HO} (hi0 : Ini o0) {i : Nat} {y : Str} {py spos : Pos} {kx vx tg iter : Expr} {ifs : List Expr} {scope : Scope} {own : List (Str × Nat)} {pos : Pos} {wi : TI} {g : TG} {tt : TT} {tk tv : TE} (hu : X.A.units + 1 < cLine) (hc : X.calm = true) (hN : X.N.Nodup) (hy : X.N[i]? = some y) (hyl : X.env.scope.names.lookup y = some .local)
    (hsw : swapsWith (.DictComp kx vx [⟨tg, iter, ifs, 0⟩] scope pos) (some (.Name y py)) spos.line X.env = pure true) (hi : PI X tg iter wi) (ok : BlkOk X.N X.env.scope scope own)
    (hg : ∀ (s : Shared) (H : Hp) (C : Addr) (cl : List (Str × Addr)) (fp : List Addr), PG (X.blk s H scope (compEnvC scope cl C X.env) fp) tg g) (ht : ∀ (s : Shared) (H : Hp) (C : Addr) (cl : List (Str × Addr)) (fp : List Addr), PTs (X.blk s H scope (compEnvC scope cl C X.env) fp) ifs tt)
    (hk : ∀ (s : Shared) (H : Hp) (C : Addr) (cl : List (Str × Addr)) (fp : List Addr), PE (X.blk s H scope (compEnvC scope cl C X.env) fp) kx tk)
    (he : ∀ (s : Shared) (H : Hp) (C : Addr) (cl : List (Str × Addr)) (fp : List Addr), PE (X.blk s H scope (compEnvC scope cl C X.env) fp) vx tv) (hs : ∀ x, foldedSetIterable iter X.env x = pure x := by intro _; rfl) :
    PS X (.Assign [.Name y py] (.DictComp kx vx [⟨tg, iter, ifs, 0⟩] scope pos) spos) (tAsg (tDc1 o0 wi g tt tk tv (own.map (·.2))) (gName i)) := by
  refine ⟨fun pins s σ H De I h => ?_⟩
  rw [exec_Assign_Name_used _ _ _ _ hsw]
  refine wpAny_bind (wpAny_standAt (wpAny_bind ?_))
  show wpAny _ X.A (do let _ ← comprehension (.DictComp kx vx [⟨tg, iter, ifs, 0⟩] scope pos) scope X.env (firstIterPos [⟨tg, iter, ifs, 0⟩] pos) newDict false (eval iter X.env) (some (assign (.Name y py) X.env))) _ _ s
  have h : tDc1 o0 wi g tt tk tv (own.map (·.2)) σ H (fun x H1 => gName i x σ H1 De.nx) := h
  refine wpAny_bind (thn (comp_enterU (Q := fun x H1 => gName i x σ H1 De.nx) (Qf := fun _ s' => SP X pins De .next s') hi0 hc hN I hi ok hs (RR := fun J H0 D => rDc1 J g tt tk tv (own.map fun p : Str × Nat => p.2) σ (fun x H1 => gName i x σ H1 De.nx) H0 D) h ?loop fun L C s' m H' I' q hn f => ?fin) fun _ s' hq => wpAny_pure (wpAny_pure hq))
  case fin =>
    show wpAny _ _ (assign (.Name y py) X.env (.ref L)) _ _ _
    refine wpAny_assign_Name (store_ok2 (v := V.ref L) I' hN hy (.inl hyl) rfl (fun s2 I2 ⟨a, sb, ha⟩ => ?_) (.inr hyl))
    obtain ⟨f0, f1, f2, f3, f4, f5⟩ := f
    have haC : C ≠ a := by
      rcases ha with z | z
      · rw [z]; exact f1
      · exact fun e => f4 y a z e.symm
    refine ⟨m, hn.sameBut sb haC, fun h3 sb3 => ?_⟩
    exact ⟨_, H', I2.turned (t' := s2.toks) (fun b o hb e => (sb3.2 b hb).trans e) f0 f1 f3 f4 f5, q⟩
  intro D it s3 s4 H3 ce fp tn J P hce I4 T st4 nfp ⟨W, ⟨m0, w0⟩, turn⟩ fin
  have pg : PG (X.blk s3 H3 scope ce fp) tg g := by rw [hce]; exact hg ..
  have pt : PTs (X.blk s3 H3 scope ce fp) ifs tt := by rw [hce]; exact ht ..
  have pk : PE (X.blk s3 H3 scope ce fp) kx tk := by rw [hce]; exact hk ..
  have pe : PE (X.blk s3 H3 scope ce fp) vx tv := by rw [hce]; exact he ..
  refine compLoop_anyD (fun n s' => ∃ i H', Inv (X.blk s3 H3 scope ce fp) [] (wipe σ (own.map (·.2))) H' s' ∧ tn i s'.heap ∧ (∀ b ∈ fp, H' b = none) ∧ W i n H') ?_ m0 ⟨0, H3, I4, st4, nfp, w0⟩
  rintro n s5 ⟨i, H5, I5, st5, n5, w5⟩
  rcases turn i n H5 w5 with ⟨stop, qq⟩ | ⟨go, Nx, hNx, step⟩
  · refine thnF (T.done (X.blk s3 H3 scope ce fp) rfl rfl rfl hc i [] s5 _ H5 (fun _ _ => False) I5 (stat_of I5 n5) st5 stop) fun r s6 ⟨hr, I6⟩ => ?_
    subst hr
    exact fin _ H5 s6 I6 qq
  · refine thnF (T.item (X.blk s3 H3 scope ce fp) rfl rfl rfl hc i [] s5 _ H5 (fun _ _ => False) I5 (stat_of I5 n5) st5 go) fun r s6 ⟨u, hr, h6⟩ => ?_
    subst hr
    refine thnF h6 fun _ s7 ⟨x, H7, I7, r7, y7, st7, n7⟩ => ?_
    refine thnF (pg.run _ s7 _ H7 x u _ (I7.pinned (stat_of I7 n7) (T.obj _ _ st7)) r7 (step x H7 y7)) fun _ s8 ⟨σ8, H8, I8, hw8, q8⟩ => ?_
    refine thnF (pt.run _ s8 σ8 H8 _ I8 q8) fun b s9 ⟨H9, I9, q9⟩ => ?_
    have back : ∀ {s' : Shared} {H' : Hp}, Inv (X.blk s3 H3 scope ce fp) ([] ++ pinsAt fp s7.heap) σ8 H' s' → Nx H' → ∃ m, m < n ∧ ∃ i H', Inv (X.blk s3 H3 scope ce fp) [] (wipe σ (own.map (·.2))) H' s' ∧ tn i s'.heap ∧ (∀ b ∈ fp, H' b = none) ∧ W i m H' := fun {s' H'} I' nx => by
      obtain ⟨m', hm, w'⟩ := hNx H' nx
      have held : ∀ b ∈ fp, ∀ o, s7.heap.get? b = some o → s'.heap.get? b = some o ∧ H' b = none := fun b hb o e =>
        ⟨(I'.pin (b, o) (List.mem_append_right _ (List.mem_append_right _ (mem_pinsAt hb e)))).1, (I'.pin (b, o) (List.mem_append_right _ (List.mem_append_right _ (mem_pinsAt hb e)))).2.1⟩
      refine ⟨m', hm, i + 1, H', (I'.unpinned (pins := [])).weak (by rw [← hw8, wipe_length]) (fun j v e => by rw [← hw8] at e; exact (wipe_some e).1), T.keep _ _ _ st7 fun b hb o e => (held b hb o e).1, fun b hb => ?_, w'⟩
      obtain ⟨o, e, _⟩ := T.obj _ _ st7 b hb
      exact (held b hb o e).2
    cases b with
    | false => exact back I9 (by simpa using q9)
    | true =>
      have q9' : tk σ8 H9 fun y H4 => tv σ8 H4 fun z H5 => ∃ H6, DPut H5 D y z H6 ∧ Nx H6 := by simpa using q9
      simp only [if_true]
      refine thnF (pk.run _ s9 σ8 H9 _ I9 q9') fun z s10 ⟨yk, H10, I10, r10, q10⟩ => ?_
      refine thnF (pe.run _ s10 σ8 H10 _ I10 q10) fun z2 s11 ⟨yv, H11, I11, r11, H12, g12, nx⟩ => ?_
      exact dictSet_ok (X := X.blk s3 H3 scope ce fp) hu I11 g12 r10 r11 fun s12 I12 => back I12 nx
theorem swD_true {kx vx : Expr} {gs : List Comprehension} {scope : Scope} {pos py : Pos} {y : Str} {l : Nat} {env : Env} (hk : env.scope.kind = .function) (hy : env.scope.names.lookup y = some .local) (hl : (py.line == pos.line) = true)
    (ha : (scope.names.any fun (n, k) => n == y && (k == .local || k == .cell)) = false) : swapsWith (.DictComp kx vx gs scope pos) (some (.Name y py)) l env = pure true := by
  have ky : env.kindOf y = some .local := hy
  have hb : env.blockKind = .function := by unfold Env.blockKind; rw [hk]; rfl
  unfold swapsWith
  simp only [hb, ky, ha, Expr.pos, hl]
  rfl
end
end KN

set_option Elab.async false
set_option linter.all false
set_option maxRecDepth 100000
set_option maxHeartbeats 4000000
/-! what the top has laid (Tx), the defs' names, calls in short -/
namespace KN
open PySem PySem.Spec PyProof.Rows L2 ClX StX
open C8 (Cal Met Mak CalAt pe_c pe_mk pe_mt pe_mt0 pss_cut tCut pe_gc)

abbrev CS (K : PySem.W.Frag) : Addr := He.ga K "State"
abbrev CB (K : PySem.W.Frag) : Addr := He.ga K "NameBook"
structure Tx (K : PySem.W.Frag) (mg : Str → Option Value) : Prop where
  g_is_integer : mg "is_integer" = some (.ref (He.ga K "is_integer"))
  g_is_id_items : mg "is_id_items" = some (.ref (He.ga K "is_id_items"))
  g_is_weight : mg "is_weight" = some (.ref (He.ga K "is_weight"))
  g_are_fields : mg "are_fields" = some (.ref (He.ga K "are_fields"))
  g_is_item : mg "is_item" = some (.ref (He.ga K "is_item"))
  g_is_part : mg "is_part" = some (.ref (He.ga K "is_part"))
  g_is_rule : mg "is_rule" = some (.ref (He.ga K "is_rule"))
  g_is_name : mg "is_name" = some (.ref (He.ga K "is_name"))
  g_key_of : mg "key_of" = some (.ref (He.ga K "key_of"))
  g_keyed_groups : mg "keyed_groups" = some (.ref (He.ga K "keyed_groups"))
  g_group_items : mg "group_items" = some (.ref (He.ga K "group_items"))
  g_row_entries : mg "row_entries" = some (.ref (He.ga K "row_entries"))
  g_best_moves : mg "best_moves" = some (.ref (He.ga K "best_moves"))
  g_greatest_pairs : mg "greatest_pairs" = some (.ref (He.ga K "greatest_pairs"))
  g_label_table : mg "label_table" = some (.ref (He.ga K "label_table"))
  g_without : mg "without" = some (.ref (He.ga K "without"))
  g_table_names : mg "table_names" = some (.ref (He.ga K "table_names"))
  g_table_places : mg "table_places" = some (.ref (He.ga K "table_places"))
  g_exact_table : mg "exact_table" = some (.ref (He.ga K "exact_table"))
  g_best_carrying : mg "best_carrying" = some (.ref (He.ga K "best_carrying"))
  g_places_of : mg "places_of" = some (.ref (He.ga K "places_of"))
  g_labels_of : mg "labels_of" = some (.ref (He.ga K "labels_of"))
  g_counting_pins : mg "counting_pins" = some (.ref (He.ga K "counting_pins"))
  g_open_table : mg "open_table" = some (.ref (He.ga K "open_table"))
  g_carry_over : mg "carry_over" = some (.ref (He.ga K "carry_over"))
  g_is_id_book : mg "is_id_book" = some (.ref (He.ga K "is_id_book"))
  g__law_stream : mg "_law_stream" = some (.ref (He.ga K "_law_stream"))
  g__law_draw : mg "_law_draw" = some (.ref (He.ga K "_law_draw"))
  g__law_choose : mg "_law_choose" = some (.ref (He.ga K "_law_choose"))
  g__law_done : mg "_law_done" = some (.ref (He.ga K "_law_done"))
  g__law_dropped : mg "_law_dropped" = some (.ref (He.ga K "_law_dropped"))
  g__law_named : mg "_law_named" = some (.ref (He.ga K "_law_named"))
  g__law_unnamed : mg "_law_unnamed" = some (.ref (He.ga K "_law_unnamed"))
  g__law_item : mg "_law_item" = some (.ref (He.ga K "_law_item"))
  g__law_some_rule : mg "_law_some_rule" = some (.ref (He.ga K "_law_some_rule"))
  g__law_change : mg "_law_change" = some (.ref (He.ga K "_law_change"))
  g__law_filled : mg "_law_filled" = some (.ref (He.ga K "_law_filled"))
  g__law_right : mg "_law_right" = some (.ref (He.ga K "_law_right"))
  g__law_pins_right : mg "_law_pins_right" = some (.ref (He.ga K "_law_pins_right"))
  g_law : mg "law" = some (.ref (He.ga K "law"))
  g_State : mg "State" = some (.ref (He.ga K "State"))
  g_NameBook : mg "NameBook" = some (.ref (He.ga K "NameBook"))
  k_is_integer : PySem.W.keepIn K (.ref (He.ga K "is_integer")) = true
  k_is_id_items : PySem.W.keepIn K (.ref (He.ga K "is_id_items")) = true
  k_is_weight : PySem.W.keepIn K (.ref (He.ga K "is_weight")) = true
  k_are_fields : PySem.W.keepIn K (.ref (He.ga K "are_fields")) = true
  k_is_item : PySem.W.keepIn K (.ref (He.ga K "is_item")) = true
  k_is_part : PySem.W.keepIn K (.ref (He.ga K "is_part")) = true
  k_is_rule : PySem.W.keepIn K (.ref (He.ga K "is_rule")) = true
  k_is_name : PySem.W.keepIn K (.ref (He.ga K "is_name")) = true
  k_key_of : PySem.W.keepIn K (.ref (He.ga K "key_of")) = true
  k_keyed_groups : PySem.W.keepIn K (.ref (He.ga K "keyed_groups")) = true
  k_group_items : PySem.W.keepIn K (.ref (He.ga K "group_items")) = true
  k_row_entries : PySem.W.keepIn K (.ref (He.ga K "row_entries")) = true
  k_best_moves : PySem.W.keepIn K (.ref (He.ga K "best_moves")) = true
  k_greatest_pairs : PySem.W.keepIn K (.ref (He.ga K "greatest_pairs")) = true
  k_label_table : PySem.W.keepIn K (.ref (He.ga K "label_table")) = true
  k_without : PySem.W.keepIn K (.ref (He.ga K "without")) = true
  k_table_names : PySem.W.keepIn K (.ref (He.ga K "table_names")) = true
  k_table_places : PySem.W.keepIn K (.ref (He.ga K "table_places")) = true
  k_exact_table : PySem.W.keepIn K (.ref (He.ga K "exact_table")) = true
  k_best_carrying : PySem.W.keepIn K (.ref (He.ga K "best_carrying")) = true
  k_places_of : PySem.W.keepIn K (.ref (He.ga K "places_of")) = true
  k_labels_of : PySem.W.keepIn K (.ref (He.ga K "labels_of")) = true
  k_counting_pins : PySem.W.keepIn K (.ref (He.ga K "counting_pins")) = true
  k_open_table : PySem.W.keepIn K (.ref (He.ga K "open_table")) = true
  k_carry_over : PySem.W.keepIn K (.ref (He.ga K "carry_over")) = true
  k_is_id_book : PySem.W.keepIn K (.ref (He.ga K "is_id_book")) = true
  k__law_stream : PySem.W.keepIn K (.ref (He.ga K "_law_stream")) = true
  k__law_draw : PySem.W.keepIn K (.ref (He.ga K "_law_draw")) = true
  k__law_choose : PySem.W.keepIn K (.ref (He.ga K "_law_choose")) = true
  k__law_done : PySem.W.keepIn K (.ref (He.ga K "_law_done")) = true
  k__law_dropped : PySem.W.keepIn K (.ref (He.ga K "_law_dropped")) = true
  k__law_named : PySem.W.keepIn K (.ref (He.ga K "_law_named")) = true
  k__law_unnamed : PySem.W.keepIn K (.ref (He.ga K "_law_unnamed")) = true
  k__law_item : PySem.W.keepIn K (.ref (He.ga K "_law_item")) = true
  k__law_some_rule : PySem.W.keepIn K (.ref (He.ga K "_law_some_rule")) = true
  k__law_change : PySem.W.keepIn K (.ref (He.ga K "_law_change")) = true
  k__law_filled : PySem.W.keepIn K (.ref (He.ga K "_law_filled")) = true
  k__law_right : PySem.W.keepIn K (.ref (He.ga K "_law_right")) = true
  k__law_pins_right : PySem.W.keepIn K (.ref (He.ga K "_law_pins_right")) = true
  k_law : PySem.W.keepIn K (.ref (He.ga K "law")) = true
  z_isinstance : mg "isinstance" = none
  z_int : mg "int" = none
  z_bool : mg "bool" = none
  z_tuple : mg "tuple" = none
  z_str : mg "str" = none
  z_len : mg "len" = none
  z_all : mg "all" = none
  z_set : mg "set" = none
  z_list : mg "list" = none
  z_sorted : mg "sorted" = none
  z_dict : mg "dict" = none
  z_enumerate : mg "enumerate" = none
  z_range : mg "range" = none
  i_MAX_ID : ∃ t, mg "MAX_ID" = some (.int 1000000 t)
  i_MAX_WEIGHT : ∃ t, mg "MAX_WEIGHT" = some (.int 1000000 t)
  i_MAX_FIELD : ∃ t, mg "MAX_FIELD" = some (.int 1000000000 t)
  i_MAX_WIDTH : ∃ t, mg "MAX_WIDTH" = some (.int 4 t)
  i_MAX_NAME : ∃ t, mg "MAX_NAME" = some (.int 12 t)
  i_LETTERS : ∃ t, mg "LETTERS" = some (.str "abcdefghijklmnopqrstuvwxyz" t)
  cS : Cls K (CS K)
  cB : Cls K (CB K)
  mkS : Mk K (CS K) (He.ma K (CS K) "__init__")
  mkB : Mk K (CB K) (He.ma K (CB K) "__init__")
  n_store : NoAttr K (CS K) "store"
  n_columns : NoAttr K (CS K) "columns"
  n_parts : NoAttr K (CS K) "parts"
  n_named : NoAttr K (CS K) "named"
  n_pinned : NoAttr K (CS K) "pinned"
  n_size : NoAttr K (CB K) "size"
  n_states : NoAttr K (CB K) "states"
  n_spot : NoAttr K (CB K) "spot"
  n_depth : NoAttr K (CB K) "depth"
  m_State_told_labels : Meth K (CS K) "told_labels" (He.ma K (CS K) "told_labels")
  m_State_weights : Meth K (CS K) "weights" (He.ma K (CS K) "weights")
  m_State_place_keys : Meth K (CS K) "place_keys" (He.ma K (CS K) "place_keys")
  m_State_place_of : Meth K (CS K) "place_of" (He.ma K (CS K) "place_of")
  m_State_changed : Meth K (CS K) "changed" (He.ma K (CS K) "changed")
  m_State_renamed : Meth K (CS K) "renamed" (He.ma K (CS K) "renamed")
  m_State_given : Meth K (CS K) "given" (He.ma K (CS K) "given")
  m_NameBook_now : Meth K (CB K) "now" (He.ma K (CB K) "now")
  m_NameBook_keep : Meth K (CB K) "keep" (He.ma K (CB K) "keep")
  m_NameBook_need_known : Meth K (CB K) "need_known" (He.ma K (CB K) "need_known")
  m_NameBook_need_name : Meth K (CB K) "need_name" (He.ma K (CB K) "need_name")
  m_NameBook_add_item : Meth K (CB K) "add_item" (He.ma K (CB K) "add_item")
  m_NameBook_drop : Meth K (CB K) "drop" (He.ma K (CB K) "drop")
  m_NameBook_set_fields : Meth K (CB K) "set_fields" (He.ma K (CB K) "set_fields")
  m_NameBook_set_rule : Meth K (CB K) "set_rule" (He.ma K (CB K) "set_rule")
  m_NameBook_give : Meth K (CB K) "give" (He.ma K (CB K) "give")
  m_NameBook_pin : Meth K (CB K) "pin" (He.ma K (CB K) "pin")
  m_NameBook_unpin : Meth K (CB K) "unpin" (He.ma K (CB K) "unpin")
  m_NameBook_all_items : Meth K (CB K) "all_items" (He.ma K (CB K) "all_items")
  m_NameBook_groups : Meth K (CB K) "groups" (He.ma K (CB K) "groups")
  m_NameBook_names : Meth K (CB K) "names" (He.ma K (CB K) "names")
  m_NameBook_pins : Meth K (CB K) "pins" (He.ma K (CB K) "pins")
  m_NameBook_copied : Meth K (CB K) "copied" (He.ma K (CB K) "copied")
  p_width : PropOf K (CB K) "width" (He.ma K (CB K) "width") (He5.wf K (CB K) "property" "width")
  p_rule : PropOf K (CB K) "rule" (He.ma K (CB K) "rule") (He5.wf K (CB K) "property" "rule")
  cr : CRead K (CB K) (.type "type")
  cm : CMet K (CB K) (.type "type") "made" (He.ma K (CB K) "made") (He5.wf K (CB K) "classmethod" "made")
  con : ∃ t, Con K (CB K) "LIMIT" (.int 200) (.int 200 t)
  len_f : PySem.W.findIn K (.ref (CB K)) "__len__" = some (some (.ref (He.ma K (CB K) "__len__")))
  len_t : PySem.W.typeIn K (.ref (He.ma K (CB K) "__len__")) = some (.type "function")
  d_is_integer : ∃ fd, Fun K "is_integer" "is_integer" s_is_integer (He.ga K "is_integer") fd
  d_is_id_items : ∃ fd, Fun K "is_id" "is_id" s_is_id_items (He.ga K "is_id_items") fd
  d_is_weight : ∃ fd, Fun K "is_weight" "is_weight" s_is_weight (He.ga K "is_weight") fd
  d_are_fields : ∃ fd, Fun K "are_fields" "are_fields" s_are_fields (He.ga K "are_fields") fd
  d_is_item : ∃ fd, Fun K "is_item" "is_item" s_is_item (He.ga K "is_item") fd
  d_is_part : ∃ fd, Fun K "is_part" "is_part" s_is_part (He.ga K "is_part") fd
  d_is_rule : ∃ fd, Fun K "is_rule" "is_rule" s_is_rule (He.ga K "is_rule") fd
  d_is_name : ∃ fd, Fun K "is_name" "is_name" s_is_name (He.ga K "is_name") fd
  d_key_of : ∃ fd, Fun K "key_of" "key_of" s_key_of (He.ga K "key_of") fd
  d_keyed_groups : ∃ fd, Fun K "keyed_groups" "keyed_groups" s_keyed_groups (He.ga K "keyed_groups") fd
  d_group_items : ∃ fd, Fun K "group_items" "group_items" s_group_items (He.ga K "group_items") fd
  d_row_entries : ∃ fd, Fun K "row_entries" "row_entries" s_row_entries (He.ga K "row_entries") fd
  d_best_moves : ∃ fd, Fun K "best_moves" "best_moves" s_best_moves (He.ga K "best_moves") fd
  d_greatest_pairs : ∃ fd, Fun K "greatest_pairs" "greatest_pairs" s_greatest_pairs (He.ga K "greatest_pairs") fd
  d_label_table : ∃ fd, Fun K "label_table" "label_table" s_label_table (He.ga K "label_table") fd
  d_without : ∃ fd, Fun K "without" "without" s_without (He.ga K "without") fd
  d_table_names : ∃ fd, Fun K "table_names" "table_names" s_table_names (He.ga K "table_names") fd
  d_table_places : ∃ fd, Fun K "table_places" "table_places" s_table_places (He.ga K "table_places") fd
  d_exact_table : ∃ fd, Fun K "exact_table" "exact_table" s_exact_table (He.ga K "exact_table") fd
  d_best_carrying : ∃ fd, Fun K "best_carrying" "best_carrying" s_best_carrying (He.ga K "best_carrying") fd
  d_places_of : ∃ fd, Fun K "places_of" "places_of" s_places_of (He.ga K "places_of") fd
  d_labels_of : ∃ fd, Fun K "labels_of" "labels_of" s_labels_of (He.ga K "labels_of") fd
  d_counting_pins : ∃ fd, Fun K "counting_pins" "counting_pins" s_counting_pins (He.ga K "counting_pins") fd
  d_open_table : ∃ fd, Fun K "open_table" "open_table" s_open_table (He.ga K "open_table") fd
  d_carry_over : ∃ fd, Fun K "carry_over" "carry_over" s_carry_over (He.ga K "carry_over") fd
  d_is_id_book : ∃ fd, Fun K "is_id" "is_id" s_is_id_book (He.ga K "is_id_book") fd
  d_State_init : ∃ fd, Fun K "__init__" "State.__init__" s_State_init (He.ma K (CS K) "__init__") fd
  d_State_told_labels : ∃ fd, Fun K "told_labels" "State.told_labels" s_State_told_labels (He.ma K (CS K) "told_labels") fd
  d_State_weights : ∃ fd, Fun K "weights" "State.weights" s_State_weights (He.ma K (CS K) "weights") fd
  d_State_place_keys : ∃ fd, Fun K "place_keys" "State.place_keys" s_State_place_keys (He.ma K (CS K) "place_keys") fd
  d_State_place_of : ∃ fd, Fun K "place_of" "State.place_of" s_State_place_of (He.ma K (CS K) "place_of") fd
  d_State_changed : ∃ fd, Fun K "changed" "State.changed" s_State_changed (He.ma K (CS K) "changed") fd
  d_State_renamed : ∃ fd, Fun K "renamed" "State.renamed" s_State_renamed (He.ma K (CS K) "renamed") fd
  d_State_given : ∃ fd, Fun K "given" "State.given" s_State_given (He.ma K (CS K) "given") fd
  d_NameBook_init : ∃ fd, Fun K "__init__" "NameBook.__init__" s_NameBook_init (He.ma K (CB K) "__init__") fd
  d_NameBook_made : ∃ fd, Fun K "made" "NameBook.made" s_NameBook_made (He5.wf K (CB K) "classmethod" "made") fd
  d_NameBook_width : ∃ fd, Fun K "width" "NameBook.width" s_NameBook_width (He5.wf K (CB K) "property" "width") fd
  d_NameBook_rule : ∃ fd, Fun K "rule" "NameBook.rule" s_NameBook_rule (He5.wf K (CB K) "property" "rule") fd
  d_NameBook_now : ∃ fd, Fun K "now" "NameBook.now" s_NameBook_now (He.ma K (CB K) "now") fd
  d_NameBook_keep : ∃ fd, Fun K "keep" "NameBook.keep" s_NameBook_keep (He.ma K (CB K) "keep") fd
  d_NameBook_need_known : ∃ fd, Fun K "need_known" "NameBook.need_known" s_NameBook_need_known (He.ma K (CB K) "need_known") fd
  d_NameBook_need_name : ∃ fd, Fun K "need_name" "NameBook.need_name" s_NameBook_need_name (He.ma K (CB K) "need_name") fd
  d_NameBook_add_item : ∃ fd, Fun K "add_item" "NameBook.add_item" s_NameBook_add_item (He.ma K (CB K) "add_item") fd
  d_NameBook_drop : ∃ fd, Fun K "drop" "NameBook.drop" s_NameBook_drop (He.ma K (CB K) "drop") fd
  d_NameBook_set_fields : ∃ fd, Fun K "set_fields" "NameBook.set_fields" s_NameBook_set_fields (He.ma K (CB K) "set_fields") fd
  d_NameBook_set_rule : ∃ fd, Fun K "set_rule" "NameBook.set_rule" s_NameBook_set_rule (He.ma K (CB K) "set_rule") fd
  d_NameBook_give : ∃ fd, Fun K "give" "NameBook.give" s_NameBook_give (He.ma K (CB K) "give") fd
  d_NameBook_pin : ∃ fd, Fun K "pin" "NameBook.pin" s_NameBook_pin (He.ma K (CB K) "pin") fd
  d_NameBook_unpin : ∃ fd, Fun K "unpin" "NameBook.unpin" s_NameBook_unpin (He.ma K (CB K) "unpin") fd
  d_NameBook_all_items : ∃ fd, Fun K "all_items" "NameBook.all_items" s_NameBook_all_items (He.ma K (CB K) "all_items") fd
  d_NameBook_groups : ∃ fd, Fun K "groups" "NameBook.groups" s_NameBook_groups (He.ma K (CB K) "groups") fd
  d_NameBook_names : ∃ fd, Fun K "names" "NameBook.names" s_NameBook_names (He.ma K (CB K) "names") fd
  d_NameBook_pins : ∃ fd, Fun K "pins" "NameBook.pins" s_NameBook_pins (He.ma K (CB K) "pins") fd
  d_NameBook_copied : ∃ fd, Fun K "copied" "NameBook.copied" s_NameBook_copied (He.ma K (CB K) "copied") fd
  d_NameBook_len : ∃ fd, Fun K "__len__" "NameBook.__len__" s_NameBook_len (He.ma K (CB K) "__len__") fd
  d__law_stream : ∃ fd, Fun K "_law_stream" "_law_stream" s__law_stream (He.ga K "_law_stream") fd
  d__law_draw : ∃ fd, Fun K "_law_draw" "_law_draw" s__law_draw (He.ga K "_law_draw") fd
  d__law_choose : ∃ fd, Fun K "_law_choose" "_law_choose" s__law_choose (He.ga K "_law_choose") fd
  d__law_done : ∃ fd, Fun K "_law_done" "_law_done" s__law_done (He.ga K "_law_done") fd
  d__law_dropped : ∃ fd, Fun K "_law_dropped" "_law_dropped" s__law_dropped (He.ga K "_law_dropped") fd
  d__law_named : ∃ fd, Fun K "_law_named" "_law_named" s__law_named (He.ga K "_law_named") fd
  d__law_unnamed : ∃ fd, Fun K "_law_unnamed" "_law_unnamed" s__law_unnamed (He.ga K "_law_unnamed") fd
  d__law_item : ∃ fd, Fun K "_law_item" "_law_item" s__law_item (He.ga K "_law_item") fd
  d__law_some_rule : ∃ fd, Fun K "_law_some_rule" "_law_some_rule" s__law_some_rule (He.ga K "_law_some_rule") fd
  d__law_change : ∃ fd, Fun K "_law_change" "_law_change" s__law_change (He.ga K "_law_change") fd
  d__law_filled : ∃ fd, Fun K "_law_filled" "_law_filled" s__law_filled (He.ga K "_law_filled") fd
  d__law_right : ∃ fd, Fun K "_law_right" "_law_right" s__law_right (He.ga K "_law_right") fd
  d__law_pins_right : ∃ fd, Fun K "_law_pins_right" "_law_pins_right" s__law_pins_right (He.ga K "_law_pins_right") fd
  d_law : ∃ fd, Fun K "law" "law" s_law (He.ga K "law") fd
abbrev N_is_integer : List Str := ["value", "low", "high"]
theorem sc_is_integer : FnScope N_is_integer ["value", "low", "high"] (defScope s_is_integer) := ⟨rfl, rfl, rfl, by decide +kernel, rfl, by decide +kernel, by decide +kernel⟩
abbrev N_is_id_items : List Str := ["value"]
theorem sc_is_id_items : FnScope N_is_id_items ["value"] (defScope s_is_id_items) := ⟨rfl, rfl, rfl, by decide +kernel, rfl, by decide +kernel, by decide +kernel⟩
abbrev N_is_weight : List Str := ["value"]
theorem sc_is_weight : FnScope N_is_weight ["value"] (defScope s_is_weight) := ⟨rfl, rfl, rfl, by decide +kernel, rfl, by decide +kernel, by decide +kernel⟩
abbrev N_are_fields : List Str := ["value", "width", "field"]
theorem sc_are_fields : FnScope N_are_fields ["value", "width"] (defScope s_are_fields) := ⟨rfl, rfl, rfl, by decide +kernel, rfl, by decide +kernel, by decide +kernel⟩
abbrev N_is_item : List Str := ["value", "width", "row_id", "weight", "fields"]
theorem sc_is_item : FnScope N_is_item ["value", "width"] (defScope s_is_item) := ⟨rfl, rfl, rfl, by decide +kernel, rfl, by decide +kernel, by decide +kernel⟩
abbrev N_is_part : List Str := ["value", "width"]
theorem sc_is_part : FnScope N_is_part ["value", "width"] (defScope s_is_part) := ⟨rfl, rfl, rfl, by decide +kernel, rfl, by decide +kernel, by decide +kernel⟩
abbrev N_is_rule : List Str := ["value", "width", "columns", "column", "step", "part"]
theorem sc_is_rule : FnScope N_is_rule ["value", "width"] (defScope s_is_rule) := ⟨rfl, rfl, rfl, by decide +kernel, rfl, by decide +kernel, by decide +kernel⟩
abbrev N_is_name : List Str := ["value", "letter"]
theorem sc_is_name : FnScope N_is_name ["value"] (defScope s_is_name) := ⟨rfl, rfl, rfl, by decide +kernel, rfl, by decide +kernel, by decide +kernel⟩
abbrev N_key_of : List Str := ["rule", "fields", "column", "step"]
theorem sc_key_of : FnScope N_key_of ["rule", "fields"] (defScope s_key_of) := ⟨rfl, rfl, rfl, by decide +kernel, rfl, by decide +kernel, by decide +kernel⟩
abbrev N_keyed_groups : List Str := ["rule", "items", "found", "row_id", "key"]
theorem sc_keyed_groups : FnScope N_keyed_groups ["rule", "items"] (defScope s_keyed_groups) := ⟨rfl, rfl, rfl, by decide +kernel, rfl, by decide +kernel, by decide +kernel⟩
abbrev N_group_items : List Str := ["rule", "items"]
theorem sc_group_items : FnScope N_group_items ["rule", "items"] (defScope s_group_items) := ⟨rfl, rfl, rfl, by decide +kernel, rfl, by decide +kernel, by decide +kernel⟩
abbrev N_row_entries : List Str := ["entries", "found", "key"]
theorem sc_row_entries : FnScope N_row_entries ["entries"] (defScope s_row_entries) := ⟨rfl, rfl, rfl, by decide +kernel, rfl, by decide +kernel, by decide +kernel⟩
abbrev N_best_moves : List Str := ["rows", "pairs", "owners", "row", "gains", "moves", "is_changed", "entries", "column", "weight", "gain", "other"]
theorem sc_best_moves : FnScope N_best_moves ["rows", "pairs", "owners"] (defScope s_best_moves) := ⟨rfl, rfl, rfl, by decide +kernel, rfl, by decide +kernel, by decide +kernel⟩
abbrev N_greatest_pairs : List Str := ["entries", "every", "rows", "pairs", "owners", "first", "own", "moves", "row", "column", "other"]
theorem sc_greatest_pairs : FnScope N_greatest_pairs ["entries"] (defScope s_greatest_pairs) := ⟨rfl, rfl, rfl, by decide +kernel, rfl, by decide +kernel, by decide +kernel⟩
abbrev N_label_table : List Str := ["labels", "groups", "weights", "found", "place", "group", "row_id", "key"]
theorem sc_label_table : FnScope N_label_table ["labels", "groups", "weights"] (defScope s_label_table) := ⟨rfl, rfl, rfl, by decide +kernel, rfl, by decide +kernel, by decide +kernel⟩
abbrev N_without : List Str := ["table", "names", "places", "key"]
theorem sc_without : FnScope N_without ["table", "names", "places"] (defScope s_without) := ⟨rfl, rfl, rfl, by decide +kernel, rfl, by decide +kernel, by decide +kernel⟩
abbrev N_table_names : List Str := ["table", "name", "place"]
theorem sc_table_names : FnScope N_table_names ["table"] (defScope s_table_names) := ⟨rfl, rfl, rfl, by decide +kernel, rfl, by decide +kernel, by decide +kernel⟩
abbrev N_table_places : List Str := ["table", "name", "place"]
theorem sc_table_places : FnScope N_table_places ["table"] (defScope s_table_places) := ⟨rfl, rfl, rfl, by decide +kernel, rfl, by decide +kernel, by decide +kernel⟩
abbrev N_exact_table : List Str := ["table", "homes", "names", "places", "powers", "name", "found", "key", "weight", "place", "is_home", "digit", "rank"]
theorem sc_exact_table : FnScope N_exact_table ["table", "homes"] (defScope s_exact_table) := ⟨rfl, rfl, rfl, by decide +kernel, rfl, by decide +kernel, by decide +kernel⟩
abbrev N_best_carrying : List Str := ["table", "homes"]
theorem sc_best_carrying : FnScope N_best_carrying ["table", "homes"] (defScope s_best_carrying) := ⟨rfl, rfl, rfl, by decide +kernel, rfl, by decide +kernel, by decide +kernel⟩
abbrev N_places_of : List Str := ["groups", "place", "group", "row_id"]
theorem sc_places_of : FnScope N_places_of ["groups"] (defScope s_places_of) := ⟨rfl, rfl, rfl, by decide +kernel, rfl, by decide +kernel, by decide +kernel⟩
abbrev N_labels_of : List Str := ["groups", "names", "name", "place", "row_id"]
theorem sc_labels_of : FnScope N_labels_of ["groups", "names"] (defScope s_labels_of) := ⟨rfl, rfl, rfl, by decide +kernel, rfl, by decide +kernel, by decide +kernel⟩
abbrev N_counting_pins : List Str := ["groups", "pins", "places", "found", "taken", "name", "place"]
theorem sc_counting_pins : FnScope N_counting_pins ["groups", "pins"] (defScope s_counting_pins) := ⟨rfl, rfl, rfl, by decide +kernel, rfl, by decide +kernel, by decide +kernel⟩
abbrev N_open_table : List Str := ["labels", "groups", "weights", "pins", "places", "pinned", "row_id"]
theorem sc_open_table : FnScope N_open_table ["labels", "groups", "weights", "pins"] (defScope s_open_table) := ⟨rfl, rfl, rfl, by decide +kernel, rfl, by decide +kernel, by decide +kernel⟩
abbrev N_carry_over : List Str := ["labels", "groups", "weights", "pins", "homes", "counting", "places", "found", "name", "row_id"]
theorem sc_carry_over : FnScope N_carry_over ["labels", "groups", "weights", "pins", "homes"] (defScope s_carry_over) := ⟨rfl, rfl, rfl, by decide +kernel, rfl, by decide +kernel, by decide +kernel⟩
abbrev N_is_id_book : List Str := ["value"]
theorem sc_is_id_book : FnScope N_is_id_book ["value"] (defScope s_is_id_book) := ⟨rfl, rfl, rfl, by decide +kernel, rfl, by decide +kernel, by decide +kernel⟩
abbrev N_State_init : List Str := ["self", "items", "rule", "names", "pins"]
theorem sc_State_init : FnScope N_State_init ["self", "items", "rule", "names", "pins"] (defScope s_State_init) := ⟨rfl, rfl, rfl, by decide +kernel, rfl, by decide +kernel, by decide +kernel⟩
abbrev N_State_told_labels : List Str := ["self"]
theorem sc_State_told_labels : FnScope N_State_told_labels ["self"] (defScope s_State_told_labels) := ⟨rfl, rfl, rfl, by decide +kernel, rfl, by decide +kernel, by decide +kernel⟩
abbrev N_State_weights : List Str := ["self", "row_id", "weight", "fields"]
theorem sc_State_weights : FnScope N_State_weights ["self"] (defScope s_State_weights) := ⟨rfl, rfl, rfl, by decide +kernel, rfl, by decide +kernel, by decide +kernel⟩
abbrev N_State_place_keys : List Str := ["self", "group"]
theorem sc_State_place_keys : FnScope N_State_place_keys ["self"] (defScope s_State_place_keys) := ⟨rfl, rfl, rfl, by decide +kernel, rfl, by decide +kernel, by decide +kernel⟩
abbrev N_State_place_of : List Str := ["self", "row_id"]
theorem sc_State_place_of : FnScope N_State_place_of ["self", "row_id"] (defScope s_State_place_of) := ⟨rfl, rfl, rfl, by decide +kernel, rfl, by decide +kernel, by decide +kernel⟩
abbrev N_State_changed : List Str := ["self", "items", "rule", "found", "pins", "homes", "places", "keys", "labels", "name", "row_id", "place", "key"]
theorem sc_State_changed : FnScope N_State_changed ["self", "items", "rule"] (defScope s_State_changed) := ⟨rfl, rfl, rfl, by decide +kernel, rfl, by decide +kernel, by decide +kernel⟩
abbrev N_State_renamed : List Str := ["self", "names", "pins"]
theorem sc_State_renamed : FnScope N_State_renamed ["self", "names", "pins"] (defScope s_State_renamed) := ⟨rfl, rfl, rfl, by decide +kernel, rfl, by decide +kernel, by decide +kernel⟩
abbrev N_State_given : List Str := ["self", "name", "row_id", "place", "names", "pins", "other", "spot", "pin"]
theorem sc_State_given : FnScope N_State_given ["self", "name", "row_id"] (defScope s_State_given) := ⟨rfl, rfl, rfl, by decide +kernel, rfl, by decide +kernel, by decide +kernel⟩
abbrev N_NameBook_init : List Str := ["self", "width", "rule"]
theorem sc_NameBook_init : FnScope N_NameBook_init ["self", "width", "rule"] (defScope s_NameBook_init) := ⟨rfl, rfl, rfl, by decide +kernel, rfl, by decide +kernel, by decide +kernel⟩
abbrev N_NameBook_made : List Str := ["cls", "width", "rule", "items", "names", "pins", "book"]
theorem sc_NameBook_made : FnScope N_NameBook_made ["cls", "width", "rule", "items", "names", "pins"] (defScope s_NameBook_made) := ⟨rfl, rfl, rfl, by decide +kernel, rfl, by decide +kernel, by decide +kernel⟩
abbrev N_NameBook_width : List Str := ["self"]
theorem sc_NameBook_width : FnScope N_NameBook_width ["self"] (defScope s_NameBook_width) := ⟨rfl, rfl, rfl, by decide +kernel, rfl, by decide +kernel, by decide +kernel⟩
abbrev N_NameBook_rule : List Str := ["self"]
theorem sc_NameBook_rule : FnScope N_NameBook_rule ["self"] (defScope s_NameBook_rule) := ⟨rfl, rfl, rfl, by decide +kernel, rfl, by decide +kernel, by decide +kernel⟩
abbrev N_NameBook_now : List Str := ["self"]
theorem sc_NameBook_now : FnScope N_NameBook_now ["self"] (defScope s_NameBook_now) := ⟨rfl, rfl, rfl, by decide +kernel, rfl, by decide +kernel, by decide +kernel⟩
abbrev N_NameBook_keep : List Str := ["self", "state"]
theorem sc_NameBook_keep : FnScope N_NameBook_keep ["self", "state"] (defScope s_NameBook_keep) := ⟨rfl, rfl, rfl, by decide +kernel, rfl, by decide +kernel, by decide +kernel⟩
abbrev N_NameBook_need_known : List Str := ["self", "row_id"]
theorem sc_NameBook_need_known : FnScope N_NameBook_need_known ["self", "row_id"] (defScope s_NameBook_need_known) := ⟨rfl, rfl, rfl, by decide +kernel, rfl, by decide +kernel, by decide +kernel⟩
abbrev N_NameBook_need_name : List Str := ["self", "name"]
theorem sc_NameBook_need_name : FnScope N_NameBook_need_name ["self", "name"] (defScope s_NameBook_need_name) := ⟨rfl, rfl, rfl, by decide +kernel, rfl, by decide +kernel, by decide +kernel⟩
abbrev N_NameBook_add_item : List Str := ["self", "row_id", "weight", "fields", "items"]
theorem sc_NameBook_add_item : FnScope N_NameBook_add_item ["self", "row_id", "weight", "fields"] (defScope s_NameBook_add_item) := ⟨rfl, rfl, rfl, by decide +kernel, rfl, by decide +kernel, by decide +kernel⟩
abbrev N_NameBook_drop : List Str := ["self", "ids", "row_id", "items", "item"]
theorem sc_NameBook_drop : FnScope N_NameBook_drop ["self", "ids"] (defScope s_NameBook_drop) := ⟨rfl, rfl, rfl, by decide +kernel, rfl, by decide +kernel, by decide +kernel⟩
abbrev N_NameBook_set_fields : List Str := ["self", "row_id", "fields", "items"]
theorem sc_NameBook_set_fields : FnScope N_NameBook_set_fields ["self", "row_id", "fields"] (defScope s_NameBook_set_fields) := ⟨rfl, rfl, rfl, by decide +kernel, rfl, by decide +kernel, by decide +kernel⟩
abbrev N_NameBook_set_rule : List Str := ["self", "rule"]
theorem sc_NameBook_set_rule : FnScope N_NameBook_set_rule ["self", "rule"] (defScope s_NameBook_set_rule) := ⟨rfl, rfl, rfl, by decide +kernel, rfl, by decide +kernel, by decide +kernel⟩
abbrev N_NameBook_give : List Str := ["self", "name", "row_id"]
theorem sc_NameBook_give : FnScope N_NameBook_give ["self", "name", "row_id"] (defScope s_NameBook_give) := ⟨rfl, rfl, rfl, by decide +kernel, rfl, by decide +kernel, by decide +kernel⟩
abbrev N_NameBook_pin : List Str := ["self", "name", "row_id", "state"]
theorem sc_NameBook_pin : FnScope N_NameBook_pin ["self", "name", "row_id"] (defScope s_NameBook_pin) := ⟨rfl, rfl, rfl, by decide +kernel, rfl, by decide +kernel, by decide +kernel⟩
abbrev N_NameBook_unpin : List Str := ["self", "name", "pins"]
theorem sc_NameBook_unpin : FnScope N_NameBook_unpin ["self", "name"] (defScope s_NameBook_unpin) := ⟨rfl, rfl, rfl, by decide +kernel, rfl, by decide +kernel, by decide +kernel⟩
abbrev N_NameBook_all_items : List Str := ["self"]
theorem sc_NameBook_all_items : FnScope N_NameBook_all_items ["self"] (defScope s_NameBook_all_items) := ⟨rfl, rfl, rfl, by decide +kernel, rfl, by decide +kernel, by decide +kernel⟩
abbrev N_NameBook_groups : List Str := ["self"]
theorem sc_NameBook_groups : FnScope N_NameBook_groups ["self"] (defScope s_NameBook_groups) := ⟨rfl, rfl, rfl, by decide +kernel, rfl, by decide +kernel, by decide +kernel⟩
abbrev N_NameBook_names : List Str := ["self"]
theorem sc_NameBook_names : FnScope N_NameBook_names ["self"] (defScope s_NameBook_names) := ⟨rfl, rfl, rfl, by decide +kernel, rfl, by decide +kernel, by decide +kernel⟩
abbrev N_NameBook_pins : List Str := ["self"]
theorem sc_NameBook_pins : FnScope N_NameBook_pins ["self"] (defScope s_NameBook_pins) := ⟨rfl, rfl, rfl, by decide +kernel, rfl, by decide +kernel, by decide +kernel⟩
abbrev N_NameBook_copied : List Str := ["self", "state"]
theorem sc_NameBook_copied : FnScope N_NameBook_copied ["self"] (defScope s_NameBook_copied) := ⟨rfl, rfl, rfl, by decide +kernel, rfl, by decide +kernel, by decide +kernel⟩
abbrev N_NameBook_len : List Str := ["self"]
theorem sc_NameBook_len : FnScope N_NameBook_len ["self"] (defScope s_NameBook_len) := ⟨rfl, rfl, rfl, by decide +kernel, rfl, by decide +kernel, by decide +kernel⟩
abbrev N__law_stream : List Str := ["_law_script", "_law_start", "_law_seed", "_law_number", "_law_digits"]
theorem sc__law_stream : FnScope N__law_stream ["_law_script", "_law_start"] (defScope s__law_stream) := ⟨rfl, rfl, rfl, by decide +kernel, rfl, by decide +kernel, by decide +kernel⟩
abbrev N__law_draw : List Str := ["_law_stream_here", "_law_size", "_law_found"]
theorem sc__law_draw : FnScope N__law_draw ["_law_stream_here", "_law_size"] (defScope s__law_draw) := ⟨rfl, rfl, rfl, by decide +kernel, rfl, by decide +kernel, by decide +kernel⟩
abbrev N__law_choose : List Str := ["_law_stream_here", "_law_items"]
theorem sc__law_choose : FnScope N__law_choose ["_law_stream_here", "_law_items"] (defScope s__law_choose) := ⟨rfl, rfl, rfl, by decide +kernel, rfl, by decide +kernel, by decide +kernel⟩
abbrev N__law_done : List Str := ["_law_book", "_law_deed", "_law_word", "_law_weight", "_law_fields"]
theorem sc__law_done : FnScope N__law_done ["_law_book", "_law_deed"] (defScope s__law_done) := ⟨rfl, rfl, rfl, by decide +kernel, rfl, by decide +kernel, by decide +kernel⟩
abbrev N__law_dropped : List Str := ["_law_book", "_law_ids"]
theorem sc__law_dropped : FnScope N__law_dropped ["_law_book", "_law_ids"] (defScope s__law_dropped) := ⟨rfl, rfl, rfl, by decide +kernel, rfl, by decide +kernel, by decide +kernel⟩
abbrev N__law_named : List Str := ["_law_book", "_law_deed"]
theorem sc__law_named : FnScope N__law_named ["_law_book", "_law_deed"] (defScope s__law_named) := ⟨rfl, rfl, rfl, by decide +kernel, rfl, by decide +kernel, by decide +kernel⟩
abbrev N__law_unnamed : List Str := ["_law_book", "_law_deed"]
theorem sc__law_unnamed : FnScope N__law_unnamed ["_law_book", "_law_deed"] (defScope s__law_unnamed) := ⟨rfl, rfl, rfl, by decide +kernel, rfl, by decide +kernel, by decide +kernel⟩
abbrev N__law_item : List Str := ["_law_stream_here", "_law_size", "_law_fields", "_law_turn"]
theorem sc__law_item : FnScope N__law_item ["_law_stream_here", "_law_size"] (defScope s__law_item) := ⟨rfl, rfl, rfl, by decide +kernel, rfl, by decide +kernel, by decide +kernel⟩
abbrev N__law_some_rule : List Str := ["_law_stream_here", "_law_size", "_law_columns", "_law_found", "_law_turn", "_law_column"]
theorem sc__law_some_rule : FnScope N__law_some_rule ["_law_stream_here", "_law_size"] (defScope s__law_some_rule) := ⟨rfl, rfl, rfl, by decide +kernel, rfl, by decide +kernel, by decide +kernel⟩
abbrev N__law_change : List Str := ["_law_stream_here", "_law_book", "_law_words", "_law_items", "_law_size", "_law_names", "_law_stuck", "_law_word", "_law_ids", "_law_row_id", "_law_free"]
theorem sc__law_change : FnScope N__law_change ["_law_stream_here", "_law_book", "_law_words"] (defScope s__law_change) := ⟨rfl, rfl, rfl, by decide +kernel, rfl, by decide +kernel, by decide +kernel⟩
abbrev N__law_filled : List Str := ["_law_stream_here", "_law_amount", "_law_size", "_law_book", "_law_turn"]
theorem sc__law_filled : FnScope N__law_filled ["_law_stream_here", "_law_amount"] (defScope s__law_filled) := ⟨rfl, rfl, rfl, by decide +kernel, rfl, by decide +kernel, by decide +kernel⟩
abbrev N__law_right : List Str := ["_law_book", "_law_names", "_law_stuck", "_law_groups", "_law_name"]
theorem sc__law_right : FnScope N__law_right ["_law_book"] (defScope s__law_right) := ⟨rfl, rfl, rfl, by decide +kernel, rfl, by decide +kernel, by decide +kernel⟩
abbrev N__law_pins_right : List Str := ["_law_before", "_law_after", "_law_stuck", "_law_left", "_law_name", "_law_group", "_law_one", "_law_other"]
theorem sc__law_pins_right : FnScope N__law_pins_right ["_law_before", "_law_after"] (defScope s__law_pins_right) := ⟨rfl, rfl, rfl, by decide +kernel, rfl, by decide +kernel, by decide +kernel⟩
abbrev N_law : List Str := ["_law_script", "_law_start", "_law_stream_here", "_law_book", "_law_turn", "_law_word", "_law_before"]
theorem sc_law : FnScope N_law ["_law_script"] (defScope s_law) := ⟨rfl, rfl, rfl, by decide +kernel, rfl, by decide +kernel, by decide +kernel⟩

/-! ### calls in short -/
section
variable {P : Program} {w : World} {K : PySem.W.Frag} {mg : Str → Option Value} {base : Heap}
/-- a def called with keywords -/
structure CK (P : Program) (w : World) (K : PySem.W.Frag) (mg : Str → Option Value) (base : Heap) (k : Nat) (x : Str) (n : Nat) (ks : List Str) (gV : List V → List V → List V) (sp : Sp) : Prop where
  ex : ∃ (f : Addr) (fd : FuncData) (ps : List Str) (g : List Value → List Value → List Value), FnOk P w K mg base CX0 k f fd ps sp ∧ mg x = some (.ref f) ∧ PySem.W.keepIn K (.ref f) = true ∧ KBn K fd ps n ks g gV
/-- a class made with keywords -/
structure MKN (P : Program) (w : World) (K : PySem.W.Frag) (mg : Str → Option Value) (base : Heap) (k : Nat) (C : Addr) (n : Nat) (ks : List Str) (gV : List V → List V → List V) (sp : Sp) : Prop where
  ex : ∃ (f : Addr) (fd : FuncData) (ps : List Str) (g : List Value → List Value → List Value), Mk K C f ∧ FnOk P w K mg base CX0 k f fd ps sp ∧ KBn K fd ps (n + 1) ks g gV
structure PR (P : Program) (w : World) (K : PySem.W.Frag) (mg : Str → Option Value) (base : Heap) (k : Nat) (C : Addr) (m : Str) (sp : Sp) : Prop where
  ex : ∃ (p g : Addr) (fd : FuncData) (ps : List Str), Cls K C ∧ PropOf K C m p g ∧ FnOk P w K mg base CX0 k g fd ps sp ∧ Binds K fd ps []
structure MS (P : Program) (w : World) (K : PySem.W.Frag) (mg : Str → Option Value) (base : Heap) (k : Nat) (C : Addr) (m : Str) (sp : Sp) : Prop where
  ex : ∃ f : Addr, Cls K C ∧ Meth K C m f ∧ FnR P w K mg base CX0 k f sp
structure CM (P : Program) (w : World) (K : PySem.W.Frag) (mg : Str → Option Value) (base : Heap) (k : Nat) (x : Str) (C : Addr) (m : Str) (sp : Sp) : Prop where
  ex : ∃ (mc : Value) (p g : Addr), mg x = some (.ref C) ∧ CRead K C mc ∧ CMet K C mc m p g ∧ FnR P w K mg base CX0 k g sp
structure LN (P : Program) (w : World) (K : PySem.W.Frag) (mg : Str → Option Value) (base : Heap) (k : Nat) (C : Addr) (sp : Sp) : Prop where
  ex : ∃ f : Addr, PySem.W.findIn K (.ref C) "__len__" = some (some (.ref f)) ∧ PySem.W.typeIn K (.ref f) = some (.type "function") ∧ FnR P w K mg base CX0 k f sp
theorem kbn_of {x qual : Str} {st : Stmt} {f : Addr} {fd : FuncData} {ps : List Str} (F : Fun K x qual st f fd) (n : Nat) (ks : List Str) (g : {α : Type} → List α → List α → List α) (hrel : ∀ {vs zs : List V} {us ws : List Value}, Vals vs us → Vals zs ws → Vals (g vs zs) (g us ws))
    (h : ∀ (kV doc pm : Value) (an : Option Addr) (cdv ct : Value) (us ws : List Value), us.length = n → ws.length = ks.length → bindArgs (PySem.W.fnOf x qual (defArgs st) (defBody st) (defScope st) .none kV doc pm an cdv ct) ⟨us, ks.zip ws⟩ = pure (ps.zip (g us ws))) :
    KBn K fd ps n ks (fun us ws => g us ws) (fun vs zs => g vs zs) := by
  obtain ⟨oc, od, kV, doc, pm, an, cdv, ct, osl, rfl, lk, hcd⟩ := F.ex
  exact ⟨fun s us ws _ l1 l2 => .of_eq (h kV doc pm an cdv ct us ws l1 l2), fun r1 r2 => hrel r1 r2⟩
theorem cxup0 : CXUp CX0 := cxUp_none
theorem Fun.star {x qual : Str} {st : Stmt} {f : Addr} {fd : FuncData} {N ps : List Str} {pv : Str} {k : Nat} {sp : Sp} (F : Fun K x qual st f fd) (S : FnScope N (ps ++ [pv]) (defScope st))
    (hb : ∀ (kV doc pm : Value) (an : Option Addr) (cdv ct : Value) (us rest : List Value), us.length = ps.length → bindArgs (PySem.W.fnOf x qual (defArgs st) (defBody st) (defScope st) .none kV doc pm an cdv ct) ⟨us ++ rest, []⟩ = (newTuple rest >>= fun t => pure (ps.zip us ++ [(pv, t)])))
    (hbody : ∀ (cdv : Value) (A : Around) (outer : List Env) (s : Shared) (H : Hp) (vs : List V) (Q : VK) (E : XK), Room k (A.deeper (envOfC qual (defScope st) s.heap.objs.size f cdv)) → sp vs H Q E →
      ∃ t, PSs (cxOf CX0 P w K mg base N qual (defScope st) f cdv A outer s H E).nox (defBody st) t ∧ t { nx := fun _ H' => Q .non H', rt := Q } (start N vs) H) :
    FnR P w K mg base CX0 (k + 1) f (fun vs H Q E => ∃ ws rest, vs = ws ++ rest ∧ ws.length = ps.length ∧ rest.length ≤ sizeLine ∧ ∀ p, H p = Option.none → sp (ws ++ [V.ref p]) (upd H p (.tup rest)) Q E) := by
  obtain ⟨oc, od, kV, doc, pm, an, cdv, ct, osl, rfl, lk, hcd⟩ := F.ex
  refine fn_star lk hcd S cxup0 (hb kV doc pm an cdv ct) fun A outer s H vs Q E hr hsp => ?_
  obtain ⟨t, h, q⟩ := hbody cdv A outer s H vs Q E hr hsp
  exact ⟨t, h.nox, q⟩
end
section
variable {X : Cx} {k j n i : Nat} {C : Addr} {x m : Str} {sp : Sp} {ks : List Str} {gV : List V → List V → List V} {p pos apos : Pos} {e o : Expr} {es : List Expr} {kws : List Keyword} {ta : TE} {t tk : TA}
theorem pe_ck (c : CK X.prog X.w X.K X.mg X.base k x n ks gV sp) (hr : Room j X.A) (hk : k ≤ j) (hg : Gl X x) (ha : PA X (e :: es) t) (hkw : PK X kws tk) (hall : (backToKw pos (keywordEach kws X.env)).all (·.1.isSome) = true := by rfl) (hks : (backToKw pos (keywordEach kws X.env)).filterMap (·.1) = ks := by rfl)
    (hdb : (x == ("__debug__" : Str)) = false := by decide) (he : starEach (e :: es) X.env = (false, eval e X.env) :: starEach es X.env := by rfl)
    (hpl : ((backTo pos (starEach (e :: es) X.env)).any (·.1) || (backToKw pos (keywordEach kws X.env)).any (·.1.isNone)) = false := by rfl) : PE X (.Call (.Name x p) (e :: es) kws pos) (tCallN n ks.length sp gV E0 t tk) := by
  obtain ⟨f, fd, ps, g, F, hm, kp, b⟩ := c.ex
  exact pe_callN F (hr.mono hk) hg hm kp b pass0 ha hkw hall hks hdb he hpl
theorem pe_mkN (c : MKN X.prog X.w X.K X.mg X.base k C n ks gV sp) (hr : Room j X.A) (hk : k + 1 ≤ j) (hg : Gl X x) (hm : X.mg x = some (.ref C)) (ha : PA X (e :: es) t) (hkw : PK X kws tk) (hall : (backToKw pos (keywordEach kws X.env)).all (·.1.isSome) = true := by rfl) (hks : (backToKw pos (keywordEach kws X.env)).filterMap (·.1) = ks := by rfl)
    (hdb : (x == ("__debug__" : Str)) = false := by decide) (he : starEach (e :: es) X.env = (false, eval e X.env) :: starEach es X.env := by rfl)
    (hpl : ((backTo pos (starEach (e :: es) X.env)).any (·.1) || (backToKw pos (keywordEach kws X.env)).any (·.1.isNone)) = false := by rfl) : PE X (.Call (.Name x p) (e :: es) kws pos) (tMakeN C n ks.length sp gV E0 t tk) := by
  obtain ⟨f, fd, ps, g, M, F, b⟩ := c.ex
  exact pe_makeN M F (hr.mono hk) hg hm b pass0 ha hkw hall hks hdb he hpl
theorem pe_mkV (c : MKN X.prog X.w X.K X.mg X.base k C n ks gV sp) (hr : Room j X.A) (hk : k + 1 ≤ j) (hN : X.N[i]? = some x) (hv : Vis X.env.scope x) (ha : PA X (e :: es) t) (hkw : PK X kws tk) (hall : (backToKw pos (keywordEach kws X.env)).all (·.1.isSome) = true := by rfl) (hks : (backToKw pos (keywordEach kws X.env)).filterMap (·.1) = ks := by rfl)
    (hdb : (x == ("__debug__" : Str)) = false := by decide) (hcd : (x == ("__classdict__" : Str)) = false := by decide) (he : starEach (e :: es) X.env = (false, eval e X.env) :: starEach es X.env := by rfl)
    (hpl : ((backTo pos (starEach (e :: es) X.env)).any (·.1) || (backToKw pos (keywordEach kws X.env)).any (·.1.isNone)) = false := by rfl) : PE X (.Call (.Name x p) (e :: es) kws pos) (tMakeV i C n ks.length sp gV E0 t tk) := by
  obtain ⟨f, fd, ps, g, M, F, b⟩ := c.ex
  exact pe_makeV M F (hr.mono hk) hN hv b pass0 ha hkw hall hks hdb hcd he hpl
theorem pe_pr (c : PR X.prog X.w X.K X.mg X.base k C m sp) (hr : Room j X.A) (hk : k + 1 ≤ j) (he : PE X o ta) (hab : attributeBase o m X.env (eval o X.env) = eval o X.env := by rfl) : PE X (.Attribute o m pos) (tProp C sp [] E0 ta) := by
  obtain ⟨p, g, fd, ps, cl, hp, F, b⟩ := c.ex
  exact pe_prop he cl hp F (hr.mono hk) b .nil pass0 hab
theorem pe_ms {pl : Sem Bool} (c : MS X.prog X.w X.K X.mg X.base k C m sp) (hr : Room j X.A) (hk : k ≤ j) (he : PE X o ta) (ha : PA X (e :: es) t)
    (hst : starEach (e :: es) X.env = (false, eval e X.env) :: starEach es X.env := by rfl) (hpl : (backTo pos (starEach es X.env)).any (·.1) = false := by rfl)
    (ht : eval (.Call (.Attribute o m apos) (e :: es) [] pos) X.env = (do
      let ov ← eval o X.env
      standAt apos.atName
      let (f, first) ← holding [ov] (getMethod ov m pl)
      callWith pos f first (backTo pos (starEach (e :: es) X.env)) (backToKw pos (keywordEach [] X.env))) := by rfl) : PE X (.Call (.Attribute o m apos) (e :: es) [] pos) (tMethR C m sp E0 ta t) := by
  obtain ⟨f, cl, hm, F⟩ := c.ex
  exact pe_methR (pl := pl) he cl hm F (hr.mono hk) pass0 ha hst hpl ht
theorem pe_cm {pl : Sem Bool} (c : CM X.prog X.w X.K X.mg X.base k x C m sp) (hr : Room j X.A) (hk : k ≤ j) (hg : Gl X x) (ha : PA X (e :: es) t) (hdb : (x == ("__debug__" : Str)) = false := by decide)
    (hst : starEach (e :: es) X.env = (false, eval e X.env) :: starEach es X.env := by rfl) (hpl : (backTo pos (starEach es X.env)).any (·.1) = false := by rfl)
    (ht : eval (.Call (.Attribute (.Name x p) m apos) (e :: es) [] pos) X.env = (do
      let ov ← eval (.Name x p) X.env
      standAt apos.atName
      let (f, first) ← holding [ov] (getMethod ov m pl)
      callWith pos f first (backTo pos (starEach (e :: es) X.env)) (backToKw pos (keywordEach [] X.env))) := by rfl) : PE X (.Call (.Attribute (.Name x p) m apos) (e :: es) [] pos) (tCMeth C sp E0 (tC (.ref C)) t) := by
  obtain ⟨mc, p, g, hm, r, cm, F⟩ := c.ex
  exact pe_cmeth (pl := pl) (pe_glob hg hm rfl hdb) r cm F (hr.mono hk) pass0 ha hst hpl ht
theorem call_ln (c : LN X.prog X.w X.K X.mg X.base k C sp) (hr : Room j X.A) (hk : k + 1 ≤ j) : CallR X (.builtin "len") (fun xs H Q => ∃ a dx fs, xs = [V.ref a] ∧ H a = some (.ins C dx fs) ∧ sp [.ref a] H (fun v H' => ∃ n : Nat, v = .int n ∧ n ≤ 1000 ∧ Q (.int n) H') E0) := by
  obtain ⟨f, h1, h2, F⟩ := c.ex
  exact call_len_own F h1 h2 (hr.mono hk) pass0
end
/-! ### rules whose readings name K, told with K (within comprehensions) -/
section
variable {X : Cx} (K : PySem.W.Frag) (hK : X.K = K)
include hK
theorem ixL : IxR X (rIxL K) := by subst hK; exact ix_list
theorem ixT : IxR X (rIxT K) := by subst hK; exact ix_tup
theorem inS : OpR X (compareOp .In) (rIn K false) := by subst hK; exact op_in_seq
theorem niS : OpR X (compareOp .NotIn) (rIn K true) := by subst hK; exact op_notIn_seq
theorem lenS : CallR X (.builtin "len") (fun xs H Q => ∃ p ys, xs = [.ref p] ∧ (SqL K H p ys ∨ SqT K H p ys) ∧ Q (.int ys.length) H) := by subst hK; exact call_len_seq
theorem tupS : CallR X (.type "tuple") (fun xs H Q => ∃ p ys, xs = [.ref p] ∧ ((SqL K H p ys ∧ ∀ l, H l = none → Q (.ref l) (upd H l (.tup ys))) ∨ (SqT K H p ys ∧ Q (.ref p) H))) := by subst hK; exact call_tuple_of
theorem pe_fldK {e : Expr} {f : Str} {pos : Pos} {ta : TE} (he : PE X e ta) (hb : attributeBase e f X.env (eval e X.env) = eval e X.env) : PE X (.Attribute e f pos) (tFld K ta f) := by subst hK; exact pe_fld he hb
theorem pi_tupK {tg e : Expr} {te : TE} (he : PE X e te) : PI X tg e (iTup K te) := by subst hK; exact pi_tup he
theorem pi_listK {tg e : Expr} {te : TE} (he : PE X e te) : PI X tg e (iList K te) := by subst hK; exact pi_list he
theorem pg_tupK (n : Nat) {es : List Expr} {k : Nat} {t : TGs} {pos : Pos} (hc : X.calm = true) (h : PGs X es t)
    (hn : (assignEach es X.env).length = n := by rfl) (hst : (assignEach es X.env).findIdx? (·.1) = none := by rfl) : PG X (.Tuple es k pos) (gTup K n t) := by
  subst hK; exact pg_tup hc h hn hst
end
/-! ### a def by its promise -/
section
variable {P : Program} {w : World} {K : PySem.W.Frag} {mg : Str → Option Value} {base : Heap} {f C : Addr} {fd : FuncData} {ps : List Str} {k : Nat} {x m : Str} {sp : Sp}
theorem cal_of (F : FnOk P w K mg base CX0 k f fd ps sp) (b : Binds K fd ps []) (hm : mg x = some (.ref f)) (kp : PySem.W.keepIn K (.ref f) = true) : Cal P w K mg base k x sp [] := ⟨f, fd, ps, [], F, hm, kp, b, .nil⟩
theorem met_of (F : FnOk P w K mg base CX0 k f fd ps sp) (b : Binds K fd ps []) (c : Cls K C) (hm : Meth K C m f) : Met P w K mg base k C m sp [] := ⟨f, fd, ps, [], c, hm, F, b, .nil⟩
theorem mak_of (F : FnOk P w K mg base CX0 k f fd ps sp) (b : Binds K fd ps []) (M : Mk K C f) (hm : mg x = some (.ref C)) : Mak P w K mg base k x C sp [] := ⟨f, fd, ps, [], M, F, hm, b, .nil⟩
end
end KN

set_option Elab.async false
set_option linter.all false
set_option maxRecDepth 100000
set_option maxHeartbeats 4000000
/-! dicts as finite maps; heaps that grow; walks -/
namespace KN
open PySem PySem.Spec PyProof.Rows L2
open KM (fup fup_same fup_ne)
section
variable {κ : Type} [DecidableEq κ]
theorem valV_drop (k j : κ) : ∀ kvs : List (κ × V), valV (dropK kvs k) j = if j = k then none else valV kvs j
  | [] => by simp [dropK, valV]
  | p :: r => by
    by_cases e : p.1 = k
    · rw [dropK_pos e, valV_drop k j r]
      by_cases ej : j = k
      · rw [if_pos ej, if_pos ej]
      · rw [if_neg ej, if_neg ej, valV_neg fun z => ej (z.symm.trans e)]
    · rw [dropK_neg e]
      by_cases e2 : p.1 = j
      · rw [valV_pos e2, valV_pos e2, if_neg fun z => e (e2.trans z)]
      · rw [valV_neg e2, valV_neg e2, valV_drop k j r]
theorem keys_put (kvs : List (κ × V)) (k : κ) (v : V) (h : (kvs.map (·.1)).Nodup) : ((putK kvs k v).map (·.1)).Nodup := by
  cases e : valV kvs k with
  | none => exact nd_putK v h e
  | some y =>
    have q : (kvs.any fun kv => decide (kv.1 = k)) = true := by rw [valV_any, e]; rfl
    unfold putK
    rw [if_pos q, List.map_map]
    have z : kvs.map ((fun p : κ × V => p.1) ∘ fun kv => if kv.1 = k then (kv.1, v) else kv) = kvs.map (·.1) := List.map_congr_left fun p _ => by
      show (if p.1 = k then (p.1, v) else p).1 = p.1
      split <;> rfl
    rw [z]; exact h
theorem mem_put {kvs : List (κ × V)} {k : κ} {v : V} {p : κ × V} (h : p ∈ putK kvs k v) : p ∈ kvs ∨ p = (k, v) := by
  unfold putK at h
  split at h
  · obtain ⟨q, hq, rfl⟩ := List.mem_map.mp h
    by_cases e : q.1 = k
    · right; simp [e]
    · left; simp [e]; exact hq
  · rcases List.mem_append.mp h with h | h
    · exact .inl h
    · exact .inr (List.mem_singleton.mp h)
theorem valV_mem {kvs : List (κ × V)} {k : κ} {v : V} (h : valV kvs k = some v) : (k, v) ∈ kvs := by
  unfold valV at h
  obtain ⟨p, hp, rfl⟩ := Option.map_eq_some_iff.mp h
  have := List.find?_some hp
  have e : p.1 = k := of_decide_eq_true this
  subst e
  exact List.mem_of_find?_eq_some hp
theorem valV_of_mem : ∀ {kvs : List (κ × V)} {k : κ} {v : V}, (kvs.map (·.1)).Nodup → (k, v) ∈ kvs → valV kvs k = some v
  | p :: r, k, v, nd, h => by
    have nd : (p.1 :: r.map (·.1)).Nodup := nd
    obtain ⟨h1, h2⟩ := List.nodup_cons.mp nd
    rcases List.mem_cons.mp h with e | e
    · rw [← e]; exact valV_pos rfl
    · rw [valV_neg fun z => h1 (z ▸ List.mem_map.mpr ⟨(k, v), e, rfl⟩)]
      exact valV_of_mem h2 e
/-- k stands among the first i -/
def Seen (kvs : List (κ × V)) (i : Nat) (k : κ) : Prop := ∃ j v, j < i ∧ kvs[j]? = some (k, v)
theorem seen0 {kvs : List (κ × V)} {k : κ} : ¬ Seen kvs 0 k := fun ⟨_, _, h, _⟩ => by omega
theorem seen_succ {kvs : List (κ × V)} {i : Nat} {k k' : κ} {v : V} (h : kvs[i]? = some (k, v)) : Seen kvs (i + 1) k' ↔ Seen kvs i k' ∨ k' = k := by
  constructor
  · rintro ⟨j, w, hj, e⟩
    by_cases q : j = i
    · subst q; rw [h] at e; cases e; exact .inr rfl
    · exact .inl ⟨j, w, by omega, e⟩
  · rintro (⟨j, w, hj, e⟩ | rfl)
    · exact ⟨j, w, by omega, e⟩
    · exact ⟨i, v, by omega, h⟩
theorem seen_all {kvs : List (κ × V)} {k : κ} {v : V} (h : valV kvs k = some v) : Seen kvs kvs.length k := by
  obtain ⟨j, hj, e⟩ := List.getElem_of_mem (valV_mem h)
  exact ⟨j, v, hj, by rw [List.getElem?_eq_getElem hj, e]⟩
theorem ix_uniq {kvs : List (κ × V)} (nd : (kvs.map (·.1)).Nodup) {i j : Nat} {k : κ} {v w : V} (h1 : kvs[i]? = some (k, v)) (h2 : kvs[j]? = some (k, w)) : i = j :=
  nd_ix nd (x := k) (by rw [List.getElem?_map, h1]; rfl) (by rw [List.getElem?_map, h2]; rfl)
theorem not_seen {kvs : List (κ × V)} (nd : (kvs.map (·.1)).Nodup) {i : Nat} {k : κ} {v : V} (h : kvs[i]? = some (k, v)) : ¬ Seen kvs i k := fun ⟨j, w, hj, e⟩ => by
  have := ix_uniq nd h e
  omega
theorem val_ix {kvs : List (κ × V)} (nd : (kvs.map (·.1)).Nodup) {i : Nat} {k : κ} {v : V} (h : kvs[i]? = some (k, v)) : valV kvs k = some v := valV_of_mem nd (List.mem_of_getElem? h)
end
section
variable {κ A B : Type} [DecidableEq κ] [DecidableEq A]
/-- the pairs kvs are the finite map m, its keys and values written by f and g -/
structure DM (f : A → κ) (g : B → V) (kvs : List (κ × V)) (m : A → Option B) : Prop where
  nd : (kvs.map (·.1)).Nodup
  el : ∀ p ∈ kvs, ∃ a b, p = (f a, g b)
  at_ : ∀ a, valV kvs (f a) = (m a).map g
variable {f : A → κ} {g : B → V} {kvs : List (κ × V)} {m m' : A → Option B} {a : A} {b : B} {i : Nat} {k : κ} {v : V}
theorem DM.nil : DM f g [] (fun _ => none) := ⟨.nil, fun _ h => by simp at h, fun _ => rfl⟩
theorem DM.congr (h : DM f g kvs m) (e : ∀ a, m a = m' a) : DM f g kvs m' := ⟨h.nd, h.el, fun a => by rw [← e]; exact h.at_ a⟩
theorem DM.put (hf : ∀ a a', f a = f a' → a = a') (h : DM f g kvs m) (a : A) (b : B) : DM f g (putK kvs (f a) (g b)) (fup m a (some b)) := by
  refine ⟨keys_put _ _ _ h.nd, fun p hp => (mem_put hp).elim (h.el p) fun e => ⟨a, b, e⟩, fun x => ?_⟩
  rw [valV_put]
  by_cases e : x = a
  · subst e; rw [if_pos rfl, fup_same]; rfl
  · rw [if_neg fun z => e (hf _ _ z), fup_ne e]; exact h.at_ x
theorem DM.drop (hf : ∀ a a', f a = f a' → a = a') (h : DM f g kvs m) (a : A) : DM f g (dropK kvs (f a)) (fup m a none) := by
  refine ⟨nd_dropK h.nd, fun p hp => h.el p (dropK_mem hp), fun x => ?_⟩
  rw [valV_drop]
  by_cases e : x = a
  · subst e; rw [if_pos rfl, fup_same]; rfl
  · rw [if_neg fun z => e (hf _ _ z), fup_ne e]; exact h.at_ x
theorem DM.get (h : DM f g kvs m) (e : m a = some b) : valV kvs (f a) = some (g b) := by rw [h.at_, e]; rfl
theorem DM.no (h : DM f g kvs m) (e : m a = none) : valV kvs (f a) = none := by rw [h.at_, e]; rfl
theorem DM.ix (hf : ∀ a a', f a = f a' → a = a') (h : DM f g kvs m) (e : kvs[i]? = some (k, v)) : ∃ a b, k = f a ∧ v = g b ∧ m a = some b := by
  obtain ⟨a, b0, q⟩ := h.el _ (List.mem_of_getElem? e)
  obtain ⟨rfl, rfl⟩ : k = f a ∧ v = g b0 := by cases q; exact ⟨rfl, rfl⟩
  have e1 := val_ix h.nd e
  rw [h.at_] at e1
  cases q2 : m a with
  | none => rw [q2] at e1; cases e1
  | some b => rw [q2] at e1; exact ⟨a, b, rfl, (Option.some.inj e1).symm, q2⟩
theorem DM.seen (h : DM f g kvs m) (e : m a = some b) : Seen kvs kvs.length (f a) := seen_all (h.get e)
theorem DM.of_seen (hf : ∀ a a', f a = f a' → a = a') (h : DM f g kvs m) (e : Seen kvs i (f a)) : ∃ b, m a = some b := by
  obtain ⟨j, v, _, e⟩ := e
  obtain ⟨a', b, e1, _, e2⟩ := h.ix hf e
  have := hf _ _ e1
  subst this
  exact ⟨b, e2⟩
theorem DM.len0 (h : DM f g kvs m) (e : ∀ a, m a = none) : kvs = [] := by
  cases kvs with
  | nil => rfl
  | cons p r =>
    obtain ⟨a, b, q⟩ := h.el p (List.mem_cons_self ..)
    have := h.at_ a
    rw [e, valV_pos (by rw [q])] at this
    cases this
end
theorem valV_merge : ∀ (more kvs : List (Key × V)) (k : Key), (more.map (·.1)).Nodup → valV (mergeK kvs more) k = (valV more k).or (valV kvs k)
  | [], kvs, k, _ => rfl
  | p :: r, kvs, k, nd => by
    have nd : (p.1 :: r.map (·.1)).Nodup := nd
    obtain ⟨h1, h2⟩ := List.nodup_cons.mp nd
    show valV (mergeK (putK kvs p.1 p.2) r) k = _
    rw [valV_merge r _ k h2, valV_put]
    by_cases e : k = p.1
    · subst e
      rw [if_pos rfl, valV_pos rfl]
      have : valV r p.1 = none := by
        cases q : valV r p.1 with
        | none => rfl
        | some y => exact absurd (valV_in q) h1
      rw [this]; rfl
    · rw [if_neg e, valV_neg fun z => e z.symm]
theorem keys_merge : ∀ (more kvs : List (Key × V)), (kvs.map (·.1)).Nodup → ((mergeK kvs more).map (·.1)).Nodup
  | [], kvs, h => h
  | p :: r, kvs, h => keys_merge r _ (keys_put _ _ _ h)
theorem mem_merge : ∀ (more kvs : List (Key × V)) (p : Key × V), p ∈ mergeK kvs more → p ∈ kvs ∨ p ∈ more
  | [], kvs, p, h => .inl h
  | q :: r, kvs, p, h => by
    rcases mem_merge r _ p h with h | h
    · rcases mem_put h with h | h
      · exact .inl h
      · exact .inr (by rw [h]; exact List.mem_cons_self ..)
    · exact .inr (List.mem_cons_of_mem _ h)
theorem DM.merge {A B : Type} [DecidableEq A] {f : A → Key} {g : B → V} {kvs more : List (Key × V)} {m m' : A → Option B} (h : DM f g kvs m) (h' : DM f g more m') : DM f g (mergeK kvs more) (fun a => (m' a).or (m a)) := by
  refine ⟨keys_merge _ _ h.nd, fun p hp => (mem_merge _ _ p hp).elim (h.el p) (h'.el p), fun a => ?_⟩
  rw [valV_merge _ _ _ h'.nd, h.at_, h'.at_]
  cases m' a <;> rfl
/-! ### names and numbers as keys -/
theorem inl_inj : ∀ a a' : Int, (Sum.inl a : Key) = Sum.inl a' → a = a' := fun _ _ h => Sum.inl.inj h
theorem inr_inj : ∀ a a' : Str, (Sum.inr a : Key) = Sum.inr a' → a = a' := fun _ _ h => Sum.inr.inj h
/-- name, place -/
def kNP : Str × Int → List Key := fun q => [.inr q.1, .inl q.2]
theorem kNP_inj : ∀ a a' : Str × Int, kNP a = kNP a' → a = a' := fun a a' h => by
  obtain ⟨x, y⟩ := a
  obtain ⟨x', y'⟩ := a'
  simp only [kNP, List.cons.injEq, Sum.inr.injEq, Sum.inl.injEq, and_true] at h
  rw [h.1, h.2]
abbrev DSI (kvs : List (Key × V)) (m : Str → Option Int) : Prop := DM (A := Str) (B := Int) Sum.inr V.int kvs m
abbrev DIS (kvs : List (Key × V)) (m : Int → Option Str) : Prop := DM (A := Int) (B := Str) Sum.inl V.str kvs m
abbrev DII (kvs : List (Key × V)) (m : Int → Option Int) : Prop := DM (A := Int) (B := Int) Sum.inl V.int kvs m
abbrev DTI (kvs : List (List Key × V)) (m : Str × Int → Option Int) : Prop := DM (A := Str × Int) (B := Int) kNP V.int kvs m

/-! ### heaps -/
/-- a heap in which d is locked, then grown, and unlocked -/
theorem unlock {H H' : Hp} {d : Addr} {u : HO} {od : Obj} (hd : H d = some u) (s : Same (upd H d (.frz od u)) H') : Same H (upd H' d u) := fun b o e => by
  by_cases q : b = d
  · subst q; rw [upd_same, ← hd]; exact e
  · rw [upd_ne q]; exact s b o (by rw [upd_ne q]; exact e)
theorem lk {H : Hp} {d a : Addr} {u o : HO} {od : Obj} (hd : H d = some u) (h : H a = some o) (ne : o ≠ u) : upd H d (.frz od u) a = some o := by
  rw [upd_ne fun q => ne (by subst q; rw [hd] at h; exact (Option.some.inj h).symm)]; exact h
theorem _root_.L2.Same.new {H H' : Hp} {p : Addr} {o : HO} (s : Same H H') (hp : H' p = none) : Same H (upd H' p o) := fun b q e => by
  rw [upd_ne (ne_of_none (s _ _ e) hp)]; exact s _ _ e
theorem _root_.L2.Same.at {H H' : Hp} {p : Addr} {o : HO} (s : Same H H') (hp : H p = none) : Same H (upd H' p o) := fun b q e => by
  rw [upd_ne (ne_of_none e hp)]; exact s _ _ e
theorem same_new {H : Hp} {p : Addr} {o : HO} (hp : H p = none) : Same H (upd H p o) := (Same.refl H).new hp
theorem _root_.L2.Same.upd {H H' : Hp} {p : Addr} {o : HO} (s : Same H H') : Same (upd H p o) (upd H' p o) := fun b q e => by
  by_cases z : b = p
  · subst z; rw [upd_same] at e ⊢; exact e
  · rw [upd_ne z] at e ⊢; exact s _ _ e
theorem _root_.L2.Same.sqt {K : PySem.W.Frag} {H H' : Hp} {a : Addr} {xs : List V} (e : Same H H') (h : SqT K H a xs) : SqT K H' a xs := by
  rcases h with (h | ⟨o, h⟩) | h
  · exact .inl (.inl (e _ _ h))
  · exact .inl (.inr ⟨o, e _ _ h⟩)
  · exact .inr h
theorem _root_.L2.Same.rd {H H' : Hp} {a : Addr} {u : HO} (s : Same H H') (h : Rd H a u) : Rd H' a u := h.elim (fun h => .inl (s _ _ h)) fun ⟨o, h⟩ => .inr ⟨o, s _ _ h⟩
/-- read while d is locked -/
theorem rd_lock {H : Hp} {a d : Addr} {u o : HO} {od : Obj} (hd : H d = some u) (h : Rd H a o) (hn : ∀ x y, u ≠ .frz x y) : Rd (upd H d (.frz od u)) a o := by
  by_cases q : a = d
  · subst q
    rcases h with h | ⟨x, h⟩
    · rw [hd] at h; cases h; exact .inr ⟨od, upd_same⟩
    · rw [hd] at h; cases h; exact absurd rfl (hn _ _)
  · rcases h with h | ⟨x, h⟩
    · exact .inl (by rw [upd_ne q]; exact h)
    · exact .inr ⟨x, by rw [upd_ne q]; exact h⟩
theorem dget_rd {H : Hp} {a : Addr} {kvs : List (Key × V)} (k : Key) (e : Rd H a (.dK kvs)) : DGet H a (kV k) (valV kvs k) := .inl ⟨kvs, k, e, rfl, rfl⟩
theorem dget_rdT {H : Hp} {a b : Addr} {kvs : List (List Key × V)} (k : List Key) (e : Rd H a (.dT kvs)) (hb : H b = some (.tup (k.map kV))) : DGet H a (.ref b) (valV kvs k) := .inr ⟨kvs, k, b, e, rfl, hb, rfl⟩
theorem dput_k {H : Hp} {a : Addr} {kvs : List (Key × V)} (k : Key) (v : V) (e : H a = some (.dK kvs)) (hl : kvs.length ≤ 100000) : DPut H a (kV k) v (upd H a (.dK (putK kvs k v))) :=
  .inl ⟨kvs, k, e, rfl, Nat.lt_of_le_of_lt hl (by decide), rfl⟩
theorem dput_t {H : Hp} {a b : Addr} {kvs : List (List Key × V)} (k : List Key) (v : V) (e : H a = some (.dT kvs)) (hb : H b = some (.tup (k.map kV))) (hl : kvs.length ≤ 100000) : DPut H a (.ref b) v (upd H a (.dT (putK kvs k v))) :=
  .inr ⟨kvs, k, b, e, rfl, hb, Nat.lt_of_le_of_lt hl (by decide), rfl⟩
/-! ### walks -/
section
variable {J : It} {n : Nat} {G : Hp → Prop} {Y : Nat → Hp → V → Hp → Prop}
/-- a dict comprehension over a walk -/
theorem dc_it (w : Walk J n G Y) {g : TG} {tt : TT} {tk tv : TE} {vs : List Nat} {σ : L2.St} {H0 : Hp} {D : Addr} {Q : VK} (Pv : Nat → Hp → Prop) (h0 : Pv 0 H0) (hG : ∀ i H, i ≤ n → Pv i H → G H)
    (hs : ∀ i x H H', i < n → Pv i H → Y i H x H' → g x (wipe σ vs) H' fun σ2 H2 => wipe σ2 vs = wipe σ vs ∧ tt σ2 H2 fun b H3 =>
      if b = true then tk σ2 H3 fun y H4 => tv σ2 H4 fun z H5 => ∃ H6, DPut H5 D y z H6 ∧ Pv (i + 1) H6 else Pv (i + 1) H3) (hd : ∀ H, Pv n H → Q (.ref D) H) : rDc1 J g tt tk tv vs σ Q H0 D := by
  refine ⟨fun i m H => m = n - i ∧ i ≤ n ∧ Pv i H, ⟨n, by simp, Nat.zero_le _, h0⟩, ?_⟩
  rintro i m H ⟨rfl, hi, p⟩
  have q := hG i H hi p
  by_cases hlt : i < n
  · refine .inr ⟨w.goes i H hlt q, Pv (i + 1), fun H' p' => ⟨n - (i + 1), by omega, rfl, hlt, p'⟩, fun x H' y => hs i x H H' hlt p (w.yields i H x H' hlt q y)⟩
  · have e : i = n := by omega
    subst e
    exact .inl ⟨w.stops H q, hd H p⟩
/-- the inner loop of one with two clauses -/
theorem dc_in (w : Walk J n G Y) {g1 : TG} {tt1 : TT} {tk tv : TE} {vs1 : List Nat} {σ2 : L2.St} {H4 : Hp} {D : Addr} {Nx : Hp → Prop} (Pv : Nat → Hp → Prop) (h0 : Pv 0 H4) (hG : ∀ i H, i ≤ n → Pv i H → G H)
    (hs : ∀ i x H H', i < n → Pv i H → Y i H x H' → g1 x (wipe σ2 vs1) H' fun σ3 H5 => wipe σ3 vs1 = wipe σ2 vs1 ∧ tt1 σ3 H5 fun b H6 =>
          if b = true then tk σ3 H6 fun y H7 => tv σ3 H7 fun z H8 => ∃ H9, DPut H8 D y z H9 ∧ Pv (i + 1) H9 else Pv (i + 1) H6) (hd : ∀ H, Pv n H → Nx H) :
    ∃ W1 : Nat → Nat → Hp → Prop, (∃ m, W1 0 m H4) ∧ ∀ j k H, W1 j k H → (J.stop j H ∧ Nx H) ∨
        (J.go j H ∧ ∃ Nx1 : Hp → Prop, (∀ H', Nx1 H' → ∃ k', k' < k ∧ W1 (j + 1) k' H') ∧ ∀ x H', J.yld j H x H' → g1 x (wipe σ2 vs1) H' fun σ3 H5 => wipe σ3 vs1 = wipe σ2 vs1 ∧ tt1 σ3 H5 fun b H6 =>
          if b = true then tk σ3 H6 fun y H7 => tv σ3 H7 fun z H8 => ∃ H9, DPut H8 D y z H9 ∧ Nx1 H9 else Nx1 H6) := by
  refine ⟨fun i m H => m = n - i ∧ i ≤ n ∧ Pv i H, ⟨n, by simp, Nat.zero_le _, h0⟩, ?_⟩
  rintro i m H ⟨rfl, hi, p⟩
  have q := hG i H hi p
  by_cases hlt : i < n
  · refine .inr ⟨w.goes i H hlt q, Pv (i + 1), fun H' p' => ⟨n - (i + 1), by omega, rfl, hlt, p'⟩, fun x H' y => hs i x H H' hlt p (w.yields i H x H' hlt q y)⟩
  · have e : i = n := by omega
    subst e
    exact .inl ⟨w.stops H q, hd H p⟩
/-- the outer loop of one with two clauses -/
theorem dc_out (w : Walk J n G Y) {g g1 : TG} {tt tt1 : TT} {wi1 : TI} {tk tv : TE} {vs vs1 : List Nat} {σ : L2.St} {H0 : Hp} {D : Addr} {Q : VK} (Pv : Nat → Hp → Prop) (h0 : Pv 0 H0) (hG : ∀ i H, i ≤ n → Pv i H → G H)
    (hs : ∀ i x H H', i < n → Pv i H → Y i H x H' → g x (wipe σ vs) H' fun σ2 H2 => wipe σ2 vs = wipe σ vs ∧ tt σ2 H2 fun b H3 =>
      if b = true then wi1 σ2 H3 fun J1 H4 => ∃ W1 : Nat → Nat → Hp → Prop, (∃ m, W1 0 m H4) ∧ ∀ j k H, W1 j k H → (J1.stop j H ∧ Pv (i + 1) H) ∨
        (J1.go j H ∧ ∃ Nx1 : Hp → Prop, (∀ H', Nx1 H' → ∃ k', k' < k ∧ W1 (j + 1) k' H') ∧ ∀ x H', J1.yld j H x H' → g1 x (wipe σ2 vs1) H' fun σ3 H5 => wipe σ3 vs1 = wipe σ2 vs1 ∧ tt1 σ3 H5 fun b H6 =>
          if b = true then tk σ3 H6 fun y H7 => tv σ3 H7 fun z H8 => ∃ H9, DPut H8 D y z H9 ∧ Nx1 H9 else Nx1 H6)
      else Pv (i + 1) H3) (hd : ∀ H, Pv n H → Q (.ref D) H) : rDc2 J g tt wi1 g1 tt1 tk tv vs vs1 σ Q H0 D := by
  refine ⟨fun i m H => m = n - i ∧ i ≤ n ∧ Pv i H, ⟨n, by simp, Nat.zero_le _, h0⟩, ?_⟩
  rintro i m H ⟨rfl, hi, p⟩
  have q := hG i H hi p
  by_cases hlt : i < n
  · refine .inr ⟨w.goes i H hlt q, Pv (i + 1), fun H' p' => ⟨n - (i + 1), by omega, rfl, hlt, p'⟩, fun x H' y => hs i x H H' hlt p (w.yields i H x H' hlt q y)⟩
  · have e : i = n := by omega
    subst e
    exact .inl ⟨w.stops H q, hd H p⟩
end
/-- for k, v in d.items(), tuple keys: the pair holds the key's own tuple -/
theorem walk_itemsT {d : Addr} {o : Obj} {kvs : List (List Key × V)} : Walk (ItiT d o kvs) kvs.length (fun H => H d = some (.frz o (.dT kvs)))
    (fun i H v H' => ∃ (T : Addr) (k : List Key) (y : V) (q : Addr), kvs[i]? = some (k, y) ∧ H q = some (.tup (k.map kV)) ∧ v = .ref T ∧ H T = none ∧ H' = upd H T (.tup [.ref q, y])) :=
  ⟨fun _ _ hi q => ⟨q, hi⟩, fun _ q => ⟨q, Nat.le_refl _⟩, fun _ _ _ _ _ _ y => y⟩
end KN

set_option Elab.async false
set_option linter.all false
set_option maxRecDepth 100000
set_option maxHeartbeats 4000000
/-! the checks -/
namespace KN
open PySem PySem.Spec PyProof.Rows L2 ClX StX
open C8 (Cal Met Mak CalAt pe_c pe_mk pe_mt pe_mt0 pss_cut tCut pe_gc)
theorem raw0 {P : Program} {w : World} {K : PySem.W.Frag} {mg : Str → Option Value} {base : Heap} {k : Nat} {f : Addr} {fd : FuncData} {ps : List Str} {sp : Sp} (F : FnOk P w K mg base CX0 k f fd ps sp) (b : Binds K fd ps []) : FnR P w K mg base CX0 k f sp :=
  (F.raw b .nil).imp fun vs H Q E h => by rw [List.append_nil]; exact h
def starSp (n : Nat) (sp : Sp) : Sp := fun vs H Q E => ∃ ws rest, vs = ws ++ rest ∧ ws.length = n ∧ rest.length ≤ sizeLine ∧ ∀ p, H p = Option.none → sp (ws ++ [V.ref p]) (upd H p (.tup rest)) Q E
theorem bind_star3 {B : List Value → Sem (List (Str × Value))} {p1 p2 p3 pv : Str} (h0 : ∀ a b c, B [a, b, c] = (newTuple [] >>= fun t => pure [(p1, a), (p2, b), (p3, c), (pv, t)])) (h1 : ∀ a b c r rs, B (a :: b :: c :: r :: rs) = (newTuple (r :: rs) >>= fun t => pure [(p1, a), (p2, b), (p3, c), (pv, t)])) :
    ∀ us rest : List Value, us.length = [p1, p2, p3].length → B (us ++ rest) = (newTuple rest >>= fun t => pure ([p1, p2, p3].zip us ++ [(pv, t)]))
  | [a, b, c], [], _ => h0 a b c
  | [a, b, c], r :: rs, _ => h1 a b c r rs
/-! ### short answers -/
theorem iteD {c A B : Prop} [Decidable c] (h : c) (a : A) : if decide c = true then A else B := by rw [decide_eq_true h]; exact iteT a
theorem iteDF {c A B : Prop} [Decidable c] (h : ¬ c) (b : B) : if decide c = true then A else B := by rw [decide_eq_false h]; exact iteF b
theorem qD {Q : VK} {H : Hp} {c : Prop} [Decidable c] (h : c) (q : Q (.bl true) H) : Q (.bl (decide c)) H := by rw [decide_eq_true h]; exact q
theorem qF {Q : VK} {H : Hp} {c : Prop} [Decidable c] (h : ¬ c) (q : Q (.bl false) H) : Q (.bl (decide c)) H := by rw [decide_eq_false h]; exact q
theorem yes {σ : L2.St} {H : Hp} {Q : Bool → Hp → Prop} (h : Q true H) : tYes σ H Q := h
/-! ### is_integer -/
def spInt : Sp := fun vs H Q _ => ∃ v lo hi : Int, vs = [.int v, .int lo, .int hi] ∧ lo ≤ v ∧ v ≤ hi ∧ Q (.bl true) H
theorem k_int_int (K : PySem.W.Frag) : PySem.W.kitOne K (.type "int") (.type "int") = some true := kit_ty (by decide +kernel)
theorem k_int_bool (K : PySem.W.Frag) : PySem.W.kitOne K (.type "int") (.type "bool") = some false := kit_ty (by decide +kernel)
theorem k_tup (K : PySem.W.Frag) : PySem.W.kitOne K (.type "tuple") (.type "tuple") = some true := kit_ty (by decide +kernel)
theorem k_str (K : PySem.W.Frag) : PySem.W.kitOne K (.type "str") (.type "str") = some true := kit_ty (by decide +kernel)
theorem ok_is_integer {P : Program} {w : World} {K : PySem.W.Frag} {mg : Str → Option Value} {base : Heap} (T : Tx K mg) : Cal P w K mg base 1 "is_integer" spInt [] := by
  obtain ⟨fd, F⟩ := T.d_is_integer
  have bd : Binds K fd ["value", "low", "high"] [] := F.binds fun _ _ _ _ _ _ us hl => match us, hl with | [_, _, _], _ => rfl
  refine cal_of (F.ok sc_is_integer (fun vs H Q E h => ?len) (fun cdv A outer s H vs Q E hr h => ?body)) bd T.g_is_integer T.k_is_integer
  case len => exact (by first | (obtain ⟨rfl, _⟩ := h; rfl) | (obtain ⟨_, rfl, _⟩ := h; rfl) | (obtain ⟨_, _, rfl, _⟩ := h; rfl) | (obtain ⟨_, _, _, rfl, _⟩ := h; rfl) | (obtain ⟨_, _, _, _, rfl, _⟩ := h; rfl) | (obtain ⟨_, _, _, _, _, rfl, _⟩ := h; rfl) | (obtain ⟨_, _, _, _, _, _, rfl, _⟩ := h; rfl) | (obtain ⟨_, _, _, _, _, _, _, rfl, _⟩ := h; rfl) | (obtain ⟨_, _, _, _, _, _, _, _, rfl, _⟩ := h; rfl) | (obtain ⟨_, _, _, _, _, _, _, _, _, rfl, _⟩ := h; rfl) | (obtain ⟨_, _, _, _, _, _, _, _, _, _, rfl, _⟩ := h; rfl) | (obtain ⟨_, _, _, _, _, _, _, _, _, _, _, rfl, _⟩ := h; rfl) | (obtain ⟨_, _, _, _, _, _, _, _, _, _, _, _, rfl, _⟩ := h; rfl) | (obtain ⟨_, _, _, _, _, _, _, _, _, _, _, _, _, rfl, _⟩ := h; rfl) | (obtain ⟨_, _, _, _, _, _, _, _, _, _, _, _, _, _, rfl, _⟩ := h; rfl) | (obtain ⟨_, _, _, _, _, _, _, _, _, _, _, _, _, _, _, rfl, _⟩ := h; rfl))
  case body =>
  have hu := hu_of hr
  refine ⟨_, (pss_one (ps_ret (pe_and (pe_callB call_isi (by rfl) T.z_isinstance (by decide +kernel) (pa_cons (pv 0) (pa_cons (pe_bltn (v := .ty "int") (by rfl) T.z_int (by decide +kernel) rfl) pa_nil))) (pe_and (pe_not (pe_callB call_isi (by rfl) T.z_isinstance (by decide +kernel) (pa_cons (pv 0) (pa_cons (pe_bltn (v := .ty "bool") (by rfl) T.z_bool (by decide +kernel) rfl) pa_nil)))) (pe_one (pe_chain op_le op_le (pv 1) (pv 0) (pv 2))))))), ?_⟩
  obtain ⟨v, lo, hi, rfl, h1, h2, q⟩ := h
  refine ⟨_, rfl, _, _, _, _, _, rfl, .ty _, .base (.int _), k_int_int K, _, rfl, iteT ⟨_, rfl, _, _, _, _, _, rfl, .ty _, .base (.int _), k_int_bool K, _, rfl, _, rfl, iteT ⟨_, rfl, _, rfl, _, _, rfl, rfl, _, rfl, iteD h1 ⟨_, rfl, _, _, rfl, rfl, ?_⟩⟩⟩⟩
  exact qD h2 q
def spId : Sp := fun vs H Q _ => ∃ v : Int, vs = [.int v] ∧ 1 ≤ v ∧ v ≤ 1000000 ∧ Q (.bl true) H
theorem ok_is_id_items {P : Program} {w : World} {K : PySem.W.Frag} {mg : Str → Option Value} {base : Heap} (T : Tx K mg) : Cal P w K mg base 2 "is_id_items" spId [] := by
  obtain ⟨fd, F⟩ := T.d_is_id_items
  obtain ⟨t_MAX_ID, h_MAX_ID⟩ := T.i_MAX_ID
  have G_is_integer := ok_is_integer (P := P) (w := w) (base := base) T
  have bd : Binds K fd ["value"] [] := F.binds fun _ _ _ _ _ _ us hl => match us, hl with | [_], _ => rfl
  refine cal_of (F.ok sc_is_id_items (fun vs H Q E h => ?len) (fun cdv A outer s H vs Q E hr h => ?body)) bd T.g_is_id_items T.k_is_id_items
  case len => exact (by first | (obtain ⟨rfl, _⟩ := h; rfl) | (obtain ⟨_, rfl, _⟩ := h; rfl) | (obtain ⟨_, _, rfl, _⟩ := h; rfl) | (obtain ⟨_, _, _, rfl, _⟩ := h; rfl) | (obtain ⟨_, _, _, _, rfl, _⟩ := h; rfl) | (obtain ⟨_, _, _, _, _, rfl, _⟩ := h; rfl) | (obtain ⟨_, _, _, _, _, _, rfl, _⟩ := h; rfl) | (obtain ⟨_, _, _, _, _, _, _, rfl, _⟩ := h; rfl) | (obtain ⟨_, _, _, _, _, _, _, _, rfl, _⟩ := h; rfl) | (obtain ⟨_, _, _, _, _, _, _, _, _, rfl, _⟩ := h; rfl) | (obtain ⟨_, _, _, _, _, _, _, _, _, _, rfl, _⟩ := h; rfl) | (obtain ⟨_, _, _, _, _, _, _, _, _, _, _, rfl, _⟩ := h; rfl) | (obtain ⟨_, _, _, _, _, _, _, _, _, _, _, _, rfl, _⟩ := h; rfl) | (obtain ⟨_, _, _, _, _, _, _, _, _, _, _, _, _, rfl, _⟩ := h; rfl) | (obtain ⟨_, _, _, _, _, _, _, _, _, _, _, _, _, _, rfl, _⟩ := h; rfl) | (obtain ⟨_, _, _, _, _, _, _, _, _, _, _, _, _, _, _, rfl, _⟩ := h; rfl))
  case body =>
  have hu := hu_of hr
  refine ⟨_, (pss_one (ps_ret (pe_c G_is_integer hr (by decide) (by rfl) (pa_cons (pv 0) (pa_cons pe_int (pa_cons (pe_glob (v := .int 1000000) rfl h_MAX_ID ⟨_, rfl⟩) pa_nil)))))), ?_⟩
  obtain ⟨v, rfl, h1, h2, q⟩ := h
  exact ⟨_, rfl, _, _, _, rfl, h1, h2, q⟩
theorem ok_is_weight {P : Program} {w : World} {K : PySem.W.Frag} {mg : Str → Option Value} {base : Heap} (T : Tx K mg) : Cal P w K mg base 2 "is_weight" spId [] := by
  obtain ⟨fd, F⟩ := T.d_is_weight
  obtain ⟨t_MAX_WEIGHT, h_MAX_WEIGHT⟩ := T.i_MAX_WEIGHT
  have G_is_integer := ok_is_integer (P := P) (w := w) (base := base) T
  have bd : Binds K fd ["value"] [] := F.binds fun _ _ _ _ _ _ us hl => match us, hl with | [_], _ => rfl
  refine cal_of (F.ok sc_is_weight (fun vs H Q E h => ?len) (fun cdv A outer s H vs Q E hr h => ?body)) bd T.g_is_weight T.k_is_weight
  case len => exact (by first | (obtain ⟨rfl, _⟩ := h; rfl) | (obtain ⟨_, rfl, _⟩ := h; rfl) | (obtain ⟨_, _, rfl, _⟩ := h; rfl) | (obtain ⟨_, _, _, rfl, _⟩ := h; rfl) | (obtain ⟨_, _, _, _, rfl, _⟩ := h; rfl) | (obtain ⟨_, _, _, _, _, rfl, _⟩ := h; rfl) | (obtain ⟨_, _, _, _, _, _, rfl, _⟩ := h; rfl) | (obtain ⟨_, _, _, _, _, _, _, rfl, _⟩ := h; rfl) | (obtain ⟨_, _, _, _, _, _, _, _, rfl, _⟩ := h; rfl) | (obtain ⟨_, _, _, _, _, _, _, _, _, rfl, _⟩ := h; rfl) | (obtain ⟨_, _, _, _, _, _, _, _, _, _, rfl, _⟩ := h; rfl) | (obtain ⟨_, _, _, _, _, _, _, _, _, _, _, rfl, _⟩ := h; rfl) | (obtain ⟨_, _, _, _, _, _, _, _, _, _, _, _, rfl, _⟩ := h; rfl) | (obtain ⟨_, _, _, _, _, _, _, _, _, _, _, _, _, rfl, _⟩ := h; rfl) | (obtain ⟨_, _, _, _, _, _, _, _, _, _, _, _, _, _, rfl, _⟩ := h; rfl) | (obtain ⟨_, _, _, _, _, _, _, _, _, _, _, _, _, _, _, rfl, _⟩ := h; rfl))
  case body =>
  have hu := hu_of hr
  refine ⟨_, (pss_one (ps_ret (pe_c G_is_integer hr (by decide) (by rfl) (pa_cons (pv 0) (pa_cons pe_int (pa_cons (pe_glob (v := .int 1000000) rfl h_MAX_WEIGHT ⟨_, rfl⟩) pa_nil)))))), ?_⟩
  obtain ⟨v, rfl, h1, h2, q⟩ := h
  exact ⟨_, rfl, _, _, _, rfl, h1, h2, q⟩
def spFields : Sp := fun vs H Q _ => ∃ (f : Addr) (ns : List Int), vs = [.ref f, .int ns.length] ∧ H f = some (.tup (ns.map V.int)) ∧ ns.length ≤ 100 ∧ (∀ n ∈ ns, -1000000000 ≤ n ∧ n ≤ 1000000000) ∧ ∀ H', Same H H' → Q (.bl true) H'
theorem ok_are_fields {P : Program} {w : World} {K : PySem.W.Frag} {mg : Str → Option Value} {base : Heap} (T : Tx K mg) : Cal P w K mg base 2 "are_fields" spFields [] := by
  obtain ⟨fd, F⟩ := T.d_are_fields
  obtain ⟨t_MAX_FIELD, h_MAX_FIELD⟩ := T.i_MAX_FIELD
  have G_is_integer := ok_is_integer (P := P) (w := w) (base := base) T
  have bd : Binds K fd ["value", "width"] [] := F.binds fun _ _ _ _ _ _ us hl => match us, hl with | [_, _], _ => rfl
  refine cal_of (F.ok sc_are_fields (fun vs H Q E h => ?len) (fun cdv A outer s H vs Q E hr h => ?body)) bd T.g_are_fields T.k_are_fields
  case len => exact (by first | (obtain ⟨rfl, _⟩ := h; rfl) | (obtain ⟨_, rfl, _⟩ := h; rfl) | (obtain ⟨_, _, rfl, _⟩ := h; rfl) | (obtain ⟨_, _, _, rfl, _⟩ := h; rfl) | (obtain ⟨_, _, _, _, rfl, _⟩ := h; rfl) | (obtain ⟨_, _, _, _, _, rfl, _⟩ := h; rfl) | (obtain ⟨_, _, _, _, _, _, rfl, _⟩ := h; rfl) | (obtain ⟨_, _, _, _, _, _, _, rfl, _⟩ := h; rfl) | (obtain ⟨_, _, _, _, _, _, _, _, rfl, _⟩ := h; rfl) | (obtain ⟨_, _, _, _, _, _, _, _, _, rfl, _⟩ := h; rfl) | (obtain ⟨_, _, _, _, _, _, _, _, _, _, rfl, _⟩ := h; rfl) | (obtain ⟨_, _, _, _, _, _, _, _, _, _, _, rfl, _⟩ := h; rfl) | (obtain ⟨_, _, _, _, _, _, _, _, _, _, _, _, rfl, _⟩ := h; rfl) | (obtain ⟨_, _, _, _, _, _, _, _, _, _, _, _, _, rfl, _⟩ := h; rfl) | (obtain ⟨_, _, _, _, _, _, _, _, _, _, _, _, _, _, rfl, _⟩ := h; rfl) | (obtain ⟨_, _, _, _, _, _, _, _, _, _, _, _, _, _, _, rfl, _⟩ := h; rfl))
  case body =>
  have hu := hu_of hr
  refine ⟨_, (pss_cons (ps_if (PW.pt (pw_or (pt_not (pt_val (pe_callB call_isi (by rfl) T.z_isinstance (by decide +kernel) (pa_cons (pv 0) (pa_cons (pe_bltn (v := .ty "tuple") (by rfl) T.z_tuple (by decide +kernel) rfl) pa_nil))))) (pw_or1 (pt_cmpR op_ne (pe_callB (lenS K rfl) (by rfl) T.z_len PySem.boot_len (pa_cons (pv 0) pa_nil)) (pv 1) (nomark _))))) (pss_one (ps_ret pe_bl))
      pss_nil)
      (pss_one (ps_ret (pe_callB (cr_all rfl) (by rfl) T.z_all (by decide +kernel) (pa_cons (pe_lc (own := [("field", 2)]) rfl sc_are_fields.nd (pi_tupK K rfl (pv 0)) (blkOk_by (own := [("field", 2)]) (N := N_are_fields) (sc := defScope s_are_fields) (by decide +kernel)) (fun _ _ _ _ _ => (pg_name (i := 2) sc_are_fields.nd rfl (Or.inl rfl))) (fun _ _ _ _ _ => pts_nil) (fun _ _ _ _ _ => (pe_c G_is_integer hr (by decide) (by rfl) (pa_cons (pv 2) (pa_cons (pe_un un_neg (pe_glob (v := .int 1000000000) rfl h_MAX_FIELD ⟨_, rfl⟩)) (pa_cons (pe_glob (v := .int 1000000000) rfl h_MAX_FIELD ⟨_, rfl⟩) pa_nil)))))) pa_nil))))), ?_⟩
  obtain ⟨f, ns, rfl, hf, hl, hb, q⟩ := h
  refine ⟨_, rfl, _, _, _, _, _, rfl, .ty _, .base (.tup hf), k_tup K, _, rfl, iteF ⟨_, rfl, _, _, rfl, .inr (SqT.of hf), _, rfl, rfl, _, rfl, ?_⟩⟩
  refine iteNS (by rw [List.length_map]) ?_
  refine ⟨_, rfl, f, rfl, ⟨_, SqT.of hf⟩, fun D hD => ?_⟩
  refine lc_tup (K := K) (a := f) (xs := ns.map V.int) (fun i H' => ∃ bs : List Bool, Same H H' ∧ H' D = some (.lst (bs.map V.bl)) ∧ bs.all id = true ∧ bs.length = i) ⟨[], same_new hD, upd_same, rfl, rfl⟩ (fun i H' _ ⟨_, s, _⟩ => SqT.of (s _ _ hf)) ?_ ?_
  · rintro i x H' hx ⟨bs, s, hbs, ha, hlen⟩
    rw [List.getElem?_map] at hx
    obtain ⟨n, hn, rfl⟩ := Option.map_eq_some_iff.mp hx
    have hin := hb n (List.mem_of_getElem? hn)
    refine ⟨rfl, yes (iteT ⟨_, rfl, _, rfl, _, _, _, rfl, hin.1, hin.2, _, hbs, ?_, bs ++ [true], s.at hD, ?_, ?_, ?_⟩)⟩
    · have : i < ns.length := (List.getElem?_eq_some_iff.mp hn).1
      exact small1000 (by rw [List.length_map]; omega)
    · rw [upd_same, List.map_append]; rfl
    · simp [ha]
    · simp [hlen]
  · rintro H' ⟨bs, s, hbs, ha, hlen⟩
    exact ⟨D, bs, rfl, SqL.of hbs, by rw [ha]; exact q H' s⟩
/-- an item: id, weight, fields -/
def spItem : Sp := fun vs H Q _ => ∃ (t f : Addr) (i wt : Int) (ns : List Int), vs = [.ref t, .int ns.length] ∧ H t = some (.tup [.int i, .int wt, .ref f]) ∧ H f = some (.tup (ns.map V.int)) ∧ 1 ≤ i ∧ i ≤ 1000000 ∧ 1 ≤ wt ∧ wt ≤ 1000000 ∧ ns.length ≤ 100 ∧
  (∀ n ∈ ns, -1000000000 ≤ n ∧ n ≤ 1000000000) ∧ ∀ H', Same H H' → Q (.bl true) H'
theorem ok_is_item {P : Program} {w : World} {K : PySem.W.Frag} {mg : Str → Option Value} {base : Heap} (T : Tx K mg) : Cal P w K mg base 3 "is_item" spItem [] := by
  obtain ⟨fd, F⟩ := T.d_is_item
  have G_are_fields := ok_are_fields (P := P) (w := w) (base := base) T
  have G_is_id_items := ok_is_id_items (P := P) (w := w) (base := base) T
  have G_is_weight := ok_is_weight (P := P) (w := w) (base := base) T
  have bd : Binds K fd ["value", "width"] [] := F.binds fun _ _ _ _ _ _ us hl => match us, hl with | [_, _], _ => rfl
  refine cal_of (F.ok sc_is_item (fun vs H Q E h => ?len) (fun cdv A outer s H vs Q E hr h => ?body)) bd T.g_is_item T.k_is_item
  case len => exact (by first | (obtain ⟨rfl, _⟩ := h; rfl) | (obtain ⟨_, rfl, _⟩ := h; rfl) | (obtain ⟨_, _, rfl, _⟩ := h; rfl) | (obtain ⟨_, _, _, rfl, _⟩ := h; rfl) | (obtain ⟨_, _, _, _, rfl, _⟩ := h; rfl) | (obtain ⟨_, _, _, _, _, rfl, _⟩ := h; rfl) | (obtain ⟨_, _, _, _, _, _, rfl, _⟩ := h; rfl) | (obtain ⟨_, _, _, _, _, _, _, rfl, _⟩ := h; rfl) | (obtain ⟨_, _, _, _, _, _, _, _, rfl, _⟩ := h; rfl) | (obtain ⟨_, _, _, _, _, _, _, _, _, rfl, _⟩ := h; rfl) | (obtain ⟨_, _, _, _, _, _, _, _, _, _, rfl, _⟩ := h; rfl) | (obtain ⟨_, _, _, _, _, _, _, _, _, _, _, rfl, _⟩ := h; rfl) | (obtain ⟨_, _, _, _, _, _, _, _, _, _, _, _, rfl, _⟩ := h; rfl) | (obtain ⟨_, _, _, _, _, _, _, _, _, _, _, _, _, rfl, _⟩ := h; rfl) | (obtain ⟨_, _, _, _, _, _, _, _, _, _, _, _, _, _, rfl, _⟩ := h; rfl) | (obtain ⟨_, _, _, _, _, _, _, _, _, _, _, _, _, _, _, rfl, _⟩ := h; rfl))
  case body =>
  have hu := hu_of hr
  refine ⟨_, (pss_cons (ps_if (PW.pt (pw_or (pt_not (pt_val (pe_callB call_isi (by rfl) T.z_isinstance (by decide +kernel) (pa_cons (pv 0) (pa_cons (pe_bltn (v := .ty "tuple") (by rfl) T.z_tuple (by decide +kernel) rfl) pa_nil))))) (pw_or1 (pt_cmpR op_ne (pe_callB (lenS K rfl) (by rfl) T.z_len PySem.boot_len (pa_cons (pv 0) pa_nil)) pe_int (nomark _))))) (pss_one (ps_ret pe_bl))
      pss_nil)
      (pss_cons (ps_asg (pv 0) (pg_tup rfl (pgs_cons (pg_name (i := 2) sc_is_item.nd rfl (Or.inl rfl)) (pgs_cons (pg_name (i := 3) sc_is_item.nd rfl (Or.inl rfl)) (pgs_cons (pg_name (i := 4) sc_is_item.nd rfl (Or.inl rfl)) pgs_nil)))))
      (pss_one (ps_ret (pe_and (pe_c G_is_id_items hr (by decide) (by rfl) (pa_cons (pv 2) pa_nil)) (pe_and (pe_c G_is_weight hr (by decide) (by rfl) (pa_cons (pv 3) pa_nil)) (pe_one (pe_c G_are_fields hr (by decide) (by rfl) (pa_cons (pv 4) (pa_cons (pv 1) pa_nil)))))))))), ?_⟩
  obtain ⟨t, f, i, wt, ns, rfl, ht, hf, h1, h2, h3, h4, hl, hb, q⟩ := h
  refine ⟨_, rfl, _, _, _, _, _, rfl, .ty _, .base (.tup ht), k_tup K, _, rfl, iteF ⟨_, rfl, _, _, rfl, .inr (SqT.of ht), rfl, _, rfl, ?_⟩⟩
  refine iteNS rfl ⟨_, rfl, _, _, rfl, SqT.of ht, rfl, _, _, rfl, _, _, rfl, _, _, rfl, rfl, ?_⟩
  exact ⟨_, rfl, _, rfl, h1, h2, _, rfl, iteT ⟨_, rfl, _, rfl, h3, h4, _, rfl, iteT ⟨_, rfl, _, rfl, _, _, rfl, hf, hl, hb, q⟩⟩⟩
/-- a part of a rule -/
def spPart : Sp := fun vs H Q _ => ∃ (t : Addr) (c st w : Int), vs = [.ref t, .int w] ∧ H t = some (.tup [.int c, .int st]) ∧ 1 ≤ c ∧ c ≤ w ∧ 1 ≤ st ∧ st ≤ 1000000000 ∧ Q (.bl true) H
theorem ok_is_part {P : Program} {w : World} {K : PySem.W.Frag} {mg : Str → Option Value} {base : Heap} (T : Tx K mg) : Cal P w K mg base 2 "is_part" spPart [] := by
  obtain ⟨fd, F⟩ := T.d_is_part
  obtain ⟨t_MAX_FIELD, h_MAX_FIELD⟩ := T.i_MAX_FIELD
  have G_is_integer := ok_is_integer (P := P) (w := w) (base := base) T
  have bd : Binds K fd ["value", "width"] [] := F.binds fun _ _ _ _ _ _ us hl => match us, hl with | [_, _], _ => rfl
  refine cal_of (F.ok sc_is_part (fun vs H Q E h => ?len) (fun cdv A outer s H vs Q E hr h => ?body)) bd T.g_is_part T.k_is_part
  case len => exact (by first | (obtain ⟨rfl, _⟩ := h; rfl) | (obtain ⟨_, rfl, _⟩ := h; rfl) | (obtain ⟨_, _, rfl, _⟩ := h; rfl) | (obtain ⟨_, _, _, rfl, _⟩ := h; rfl) | (obtain ⟨_, _, _, _, rfl, _⟩ := h; rfl) | (obtain ⟨_, _, _, _, _, rfl, _⟩ := h; rfl) | (obtain ⟨_, _, _, _, _, _, rfl, _⟩ := h; rfl) | (obtain ⟨_, _, _, _, _, _, _, rfl, _⟩ := h; rfl) | (obtain ⟨_, _, _, _, _, _, _, _, rfl, _⟩ := h; rfl) | (obtain ⟨_, _, _, _, _, _, _, _, _, rfl, _⟩ := h; rfl) | (obtain ⟨_, _, _, _, _, _, _, _, _, _, rfl, _⟩ := h; rfl) | (obtain ⟨_, _, _, _, _, _, _, _, _, _, _, rfl, _⟩ := h; rfl) | (obtain ⟨_, _, _, _, _, _, _, _, _, _, _, _, rfl, _⟩ := h; rfl) | (obtain ⟨_, _, _, _, _, _, _, _, _, _, _, _, _, rfl, _⟩ := h; rfl) | (obtain ⟨_, _, _, _, _, _, _, _, _, _, _, _, _, _, rfl, _⟩ := h; rfl) | (obtain ⟨_, _, _, _, _, _, _, _, _, _, _, _, _, _, _, rfl, _⟩ := h; rfl))
  case body =>
  have hu := hu_of hr
  refine ⟨_, (pss_cons (ps_if (PW.pt (pw_or (pt_not (pt_val (pe_callB call_isi (by rfl) T.z_isinstance (by decide +kernel) (pa_cons (pv 0) (pa_cons (pe_bltn (v := .ty "tuple") (by rfl) T.z_tuple (by decide +kernel) rfl) pa_nil))))) (pw_or1 (pt_cmpR op_ne (pe_callB (lenS K rfl) (by rfl) T.z_len PySem.boot_len (pa_cons (pv 0) pa_nil)) pe_int (nomark _))))) (pss_one (ps_ret pe_bl))
      pss_nil)
      (pss_one (ps_ret (pe_and (pe_c G_is_integer hr (by decide) (by rfl) (pa_cons (pe_ix (ixT K rfl) (pv 0) pe_int (fun _ _ => rfl)) (pa_cons pe_int (pa_cons (pv 1) pa_nil)))) (pe_one (pe_c G_is_integer hr (by decide) (by rfl) (pa_cons (pe_ix (ixT K rfl) (pv 0) pe_int (fun _ _ => rfl)) (pa_cons pe_int (pa_cons (pe_glob (v := .int 1000000000) rfl h_MAX_FIELD ⟨_, rfl⟩) pa_nil))))))))), ?_⟩
  obtain ⟨t, c, st, w', rfl, ht, h1, h2, h3, h4, q⟩ := h
  refine ⟨_, rfl, _, _, _, _, _, rfl, .ty _, .base (.tup ht), k_tup K, _, rfl, iteF ⟨_, rfl, _, _, rfl, .inr (SqT.of ht), rfl, _, rfl, ?_⟩⟩
  refine iteNS rfl ⟨_, rfl, _, _, _, _, rfl, rfl, SqT.of ht, atI_nat (j := 0) rfl, _, rfl, _, _, _, rfl, h1, h2, _, rfl, iteT ⟨_, rfl, _, _, _, _, rfl, rfl, SqT.of ht, atI_nat (j := 1) rfl, _, _, _, rfl, h3, h4, q⟩⟩
/-! ### rules -/
/-- a tuple of pairs: column, step -/
def RuleAt (H : Hp) (r : Addr) (ps : List (Int × Int)) : Prop := ∃ ts : List Addr, H r = some (.tup (ts.map V.ref)) ∧ ts.length = ps.length ∧ ∀ (i : Nat) (t : Addr), ts[i]? = some t → ∃ p, ps[i]? = some p ∧ H t = some (.tup [.int p.1, .int p.2])
theorem RuleAt.same {H H' : Hp} {r : Addr} {ps : List (Int × Int)} (h : RuleAt H r ps) (s : Same H H') : RuleAt H' r ps := by
  obtain ⟨ts, h1, h2, h3⟩ := h
  exact ⟨ts, s _ _ h1, h2, fun i t e => let ⟨p, e1, e2⟩ := h3 i t e; ⟨p, e1, s _ _ e2⟩⟩
def RuleOk (w : Int) (ps : List (Int × Int)) : Prop := ps.length ≤ 10 ∧ (ps.map (·.1)).Nodup ∧ ∀ p ∈ ps, 1 ≤ p.1 ∧ p.1 ≤ w ∧ 1 ≤ p.2 ∧ p.2 ≤ 1000000
def spRule : Sp := fun vs H Q _ => ∃ (r : Addr) (ps : List (Int × Int)) (w : Int), vs = [.ref r, .int w] ∧ RuleAt H r ps ∧ RuleOk w ps ∧ 1 ≤ w ∧ w ≤ 4 ∧ ∀ H', Same H H' → Q (.bl true) H'
theorem ok_is_rule {P : Program} {w : World} {K : PySem.W.Frag} {mg : Str → Option Value} {base : Heap} (T : Tx K mg) : Cal P w K mg base 3 "is_rule" spRule [] := by
  obtain ⟨fd, F⟩ := T.d_is_rule
  obtain ⟨t_MAX_WIDTH, h_MAX_WIDTH⟩ := T.i_MAX_WIDTH
  have G_is_integer := ok_is_integer (P := P) (w := w) (base := base) T
  have G_is_part := ok_is_part (P := P) (w := w) (base := base) T
  have bd : Binds K fd ["value", "width"] [] := F.binds fun _ _ _ _ _ _ us hl => match us, hl with | [_, _], _ => rfl
  refine cal_of (F.ok sc_is_rule (fun vs H Q E h => ?len) (fun cdv A outer s H vs Q E hr h => ?body)) bd T.g_is_rule T.k_is_rule
  case len => exact (by first | (obtain ⟨rfl, _⟩ := h; rfl) | (obtain ⟨_, rfl, _⟩ := h; rfl) | (obtain ⟨_, _, rfl, _⟩ := h; rfl) | (obtain ⟨_, _, _, rfl, _⟩ := h; rfl) | (obtain ⟨_, _, _, _, rfl, _⟩ := h; rfl) | (obtain ⟨_, _, _, _, _, rfl, _⟩ := h; rfl) | (obtain ⟨_, _, _, _, _, _, rfl, _⟩ := h; rfl) | (obtain ⟨_, _, _, _, _, _, _, rfl, _⟩ := h; rfl) | (obtain ⟨_, _, _, _, _, _, _, _, rfl, _⟩ := h; rfl) | (obtain ⟨_, _, _, _, _, _, _, _, _, rfl, _⟩ := h; rfl) | (obtain ⟨_, _, _, _, _, _, _, _, _, _, rfl, _⟩ := h; rfl) | (obtain ⟨_, _, _, _, _, _, _, _, _, _, _, rfl, _⟩ := h; rfl) | (obtain ⟨_, _, _, _, _, _, _, _, _, _, _, _, rfl, _⟩ := h; rfl) | (obtain ⟨_, _, _, _, _, _, _, _, _, _, _, _, _, rfl, _⟩ := h; rfl) | (obtain ⟨_, _, _, _, _, _, _, _, _, _, _, _, _, _, rfl, _⟩ := h; rfl) | (obtain ⟨_, _, _, _, _, _, _, _, _, _, _, _, _, _, _, rfl, _⟩ := h; rfl))
  case body =>
  have hu := hu_of hr
  refine ⟨_, (pss_cons (ps_if (PW.pt (pw_or (pt_not (pt_val (pe_callB call_isi (by rfl) T.z_isinstance (by decide +kernel) (pa_cons (pv 0) (pa_cons (pe_bltn (v := .ty "tuple") (by rfl) T.z_tuple (by decide +kernel) rfl) pa_nil))))) (pw_or1 (pt_not (pt_val (pe_c G_is_integer hr (by decide) (by rfl) (pa_cons (pv 1) (pa_cons pe_int (pa_cons (pe_glob (v := .int 4) rfl h_MAX_WIDTH ⟨_, rfl⟩) pa_nil))))))))) (pss_one (ps_ret pe_bl))
      pss_nil)
      (pss_cons (ps_if (pt_not (pt_val (pe_callB (cr_all rfl) (by rfl) T.z_all (by decide +kernel) (pa_cons (pe_lc (own := [("part", 5)]) rfl sc_is_rule.nd (pi_tupK K rfl (pv 0)) (blkOk_by (own := [("part", 5)]) (N := N_is_rule) (sc := defScope s_is_rule) (by decide +kernel)) (fun _ _ _ _ _ => (pg_name (i := 5) sc_is_rule.nd rfl (Or.inl rfl))) (fun _ _ _ _ _ => pts_nil) (fun _ _ _ _ _ => (pe_c G_is_part hr (by decide) (by rfl) (pa_cons (pv 5) (pa_cons (pv 1) pa_nil))))) pa_nil)))) (pss_one (ps_ret pe_bl))
      pss_nil)
      (pss_cons (ps_setLc (i := 2) (own := [("column", 3), ("step", 4)]) rfl sc_is_rule.nd rfl rfl (sw_true rfl rfl rfl (by decide +kernel)) (pi_tupK K rfl (pv 0)) (blkOk_by (own := [("column", 3), ("step", 4)]) (N := N_is_rule) (sc := defScope s_is_rule) (by decide +kernel)) (fun _ _ _ _ _ => by exact (pg_tupK K rfl 2 rfl (pgs_cons (pg_name (i := 3) sc_is_rule.nd rfl (Or.inl rfl)) (pgs_cons (pg_name (i := 4) sc_is_rule.nd rfl (Or.inl rfl)) pgs_nil)))) (fun _ _ _ _ _ => pts_nil) (fun _ _ _ _ _ => (pv 3)))
      (pss_one (ps_ret (pe_cmpR op_eq (RZ.pe_lenSetI rfl T.z_len rfl T.z_set (pv 2)) (pe_callB (lenS K rfl) (by rfl) T.z_len PySem.boot_len (pa_cons (pv 2) pa_nil)) (nomark _))))))), ?_⟩
  obtain ⟨r, ps, w', rfl, ⟨ts, hr', hlen, hp⟩, ⟨hl, nd, hb⟩, h1, h2, q⟩ := h
  refine ⟨_, rfl, _, _, _, _, _, rfl, .ty _, .base (.tup hr'), k_tup K, _, rfl, iteF ⟨_, rfl, _, _, _, rfl, h1, h2, _, rfl, ?_⟩⟩
  refine iteF ⟨_, rfl, _, rfl, ⟨_, SqT.of hr'⟩, fun D hD => ?_⟩
  refine lc_tup (K := K) (a := r) (xs := ts.map V.ref) (fun i H' => ∃ bs : List Bool, Same H H' ∧ H' D = some (.lst (bs.map V.bl)) ∧ bs.all id = true ∧ bs.length = i) ⟨[], same_new hD, upd_same, rfl, rfl⟩ (fun i H' _ ⟨_, s, _⟩ => SqT.of (s _ _ hr')) ?_ ?_
  · rintro i x H' hx ⟨bs, s, hbs, ha, hlen'⟩
    rw [List.getElem?_map] at hx
    obtain ⟨t, ht, rfl⟩ := Option.map_eq_some_iff.mp hx
    obtain ⟨p, hpi, hpt⟩ := hp i t ht
    have hin := hb p (List.mem_of_getElem? hpi)
    refine ⟨rfl, yes (iteT ⟨_, rfl, _, rfl, _, _, _, _, rfl, s _ _ hpt, hin.1, hin.2.1, hin.2.2.1, by omega, _, hbs, ?_, bs ++ [true], s.at hD, ?_, ?_, ?_⟩)⟩
    · have : i < ts.length := (List.getElem?_eq_some_iff.mp ht).1
      exact small1000 (by rw [List.length_map]; omega)
    · rw [upd_same, List.map_append]; rfl
    · simp [ha]
    · simp [hlen']
  · rintro H1 ⟨bs, s1, hbs, ha, hlen'⟩
    refine ⟨D, bs, rfl, SqL.of hbs, _, rfl, ?_⟩
    rw [ha]
    refine iteF ⟨_, rfl, _, rfl, ⟨_, SqT.of (s1 _ _ hr')⟩, fun D2 hD2 => ?_⟩
    refine lc_tup (K := K) (a := r) (xs := ts.map V.ref) (fun i H' => Same H H' ∧ H' D2 = some (.lst (((ps.map (·.1)).take i).map V.int))) ⟨s1.new hD2, upd_same⟩ (fun i H' _ ⟨s, _⟩ => SqT.of (s _ _ hr')) ?_ ?_
    · rintro i x H' hx ⟨s, hbs⟩
      rw [List.getElem?_map] at hx
      obtain ⟨t, ht, rfl⟩ := Option.map_eq_some_iff.mp hx
      obtain ⟨p, hpi, hpt⟩ := hp i t ht
      have hD0 := s1.free hD2
      refine ⟨_, _, rfl, SqT.of (s _ _ hpt), rfl, _, _, rfl, _, _, rfl, rfl, rfl, yes (iteT ⟨_, rfl, _, hbs, ?_, s.at hD0, ?_⟩)⟩
      · rw [List.length_map, List.length_take]; exact small1000 (by rw [List.length_map]; omega)
      · rw [upd_same]
        have : (ps.map (·.1)).take (i + 1) = (ps.map (·.1)).take i ++ [p.1] := by rw [List.take_succ, List.getElem?_map, hpi]; rfl
        rw [this, List.map_append]; rfl
    · rintro H2 ⟨s2, h2'⟩
      have et : (ps.map (·.1)).take (ts.map V.ref).length = ps.map (·.1) := by rw [List.length_map, hlen]; exact List.take_of_length_le (by rw [List.length_map]; exact Nat.le_refl _)
      rw [et] at h2'
      refine ⟨_, rfl, _, _, rfl, SqL.of h2', nd, by rw [List.length_map]; omega, _, rfl, _, _, rfl, .inl (SqL.of h2'), rfl, ?_⟩
      exact qD (by simp) (q _ s2)
/-! ### names -/
def spName : Sp := fun vs H Q _ => ∃ z : Str, vs = [.str z] ∧ 1 ≤ z.length ∧ z.length ≤ 12 ∧ (∀ c ∈ z.cps.toList, c ∈ ("abcdefghijklmnopqrstuvwxyz" : Str).cps.toList) ∧ ∀ H', Same H H' → Q (.bl true) H'
theorem ok_is_name {P : Program} {w : World} {K : PySem.W.Frag} {mg : Str → Option Value} {base : Heap} (T : Tx K mg) : Cal P w K mg base 1 "is_name" spName [] := by
  obtain ⟨fd, F⟩ := T.d_is_name
  obtain ⟨t_LETTERS, h_LETTERS⟩ := T.i_LETTERS
  obtain ⟨t_MAX_NAME, h_MAX_NAME⟩ := T.i_MAX_NAME
  have bd : Binds K fd ["value"] [] := F.binds fun _ _ _ _ _ _ us hl => match us, hl with | [_], _ => rfl
  refine cal_of (F.ok sc_is_name (fun vs H Q E h => ?len) (fun cdv A outer s H vs Q E hr h => ?body)) bd T.g_is_name T.k_is_name
  case len => exact (by first | (obtain ⟨rfl, _⟩ := h; rfl) | (obtain ⟨_, rfl, _⟩ := h; rfl) | (obtain ⟨_, _, rfl, _⟩ := h; rfl) | (obtain ⟨_, _, _, rfl, _⟩ := h; rfl) | (obtain ⟨_, _, _, _, rfl, _⟩ := h; rfl) | (obtain ⟨_, _, _, _, _, rfl, _⟩ := h; rfl) | (obtain ⟨_, _, _, _, _, _, rfl, _⟩ := h; rfl) | (obtain ⟨_, _, _, _, _, _, _, rfl, _⟩ := h; rfl) | (obtain ⟨_, _, _, _, _, _, _, _, rfl, _⟩ := h; rfl) | (obtain ⟨_, _, _, _, _, _, _, _, _, rfl, _⟩ := h; rfl) | (obtain ⟨_, _, _, _, _, _, _, _, _, _, rfl, _⟩ := h; rfl) | (obtain ⟨_, _, _, _, _, _, _, _, _, _, _, rfl, _⟩ := h; rfl) | (obtain ⟨_, _, _, _, _, _, _, _, _, _, _, _, rfl, _⟩ := h; rfl) | (obtain ⟨_, _, _, _, _, _, _, _, _, _, _, _, _, rfl, _⟩ := h; rfl) | (obtain ⟨_, _, _, _, _, _, _, _, _, _, _, _, _, _, rfl, _⟩ := h; rfl) | (obtain ⟨_, _, _, _, _, _, _, _, _, _, _, _, _, _, _, rfl, _⟩ := h; rfl))
  case body =>
  have hu := hu_of hr
  refine ⟨_, (pss_cons (ps_if (PW.pt (pw_or (pt_not (pt_val (pe_callB call_isi (by rfl) T.z_isinstance (by decide +kernel) (pa_cons (pv 0) (pa_cons (pe_bltn (v := .ty "str") (by rfl) T.z_str (by decide +kernel) rfl) pa_nil))))) (pw_or1 (pt_not (pt_chain op_le op_le pe_int (pe_callB call_len_str (by rfl) T.z_len PySem.boot_len (pa_cons (pv 0) pa_nil)) (pe_glob (v := .int 12) rfl h_MAX_NAME ⟨_, rfl⟩)))))) (pss_one (ps_ret pe_bl))
      pss_nil)
      (pss_one (ps_ret (pe_callB (cr_all rfl) (by rfl) T.z_all (by decide +kernel) (pa_cons (pe_lc (own := [("letter", 1)]) rfl sc_is_name.nd (pi_str (pv 0)) (blkOk_by (own := [("letter", 1)]) (N := N_is_name) (sc := defScope s_is_name) (by decide +kernel)) (fun _ _ _ _ _ => (pg_name (i := 1) sc_is_name.nd rfl (Or.inl rfl))) (fun _ _ _ _ _ => pts_nil) (fun _ _ _ _ _ => (pe_cmpR op_inS (pv 1) (pe_glob (v := .str "abcdefghijklmnopqrstuvwxyz") rfl h_LETTERS ⟨_, rfl⟩) rfl))) pa_nil))))), ?_⟩
  obtain ⟨z, rfl, h1, h2, hc, q⟩ := h
  have hz : z.length ≤ sizeLine := Nat.le_trans h2 (by decide)
  refine ⟨_, rfl, _, _, _, _, _, rfl, .ty _, .base (.str _), k_str K, _, rfl, iteF ⟨_, rfl, _, rfl, hz, _, _, rfl, rfl, _, rfl, iteD (by omega) ⟨_, _, rfl, rfl, _, rfl, ?_⟩⟩⟩
  rw [decide_eq_true (by omega)]
  refine iteF ⟨_, rfl, _, rfl, fun D hD => ?_⟩
  refine lc_it (walk_str (z := z)) (fun i H' => ∃ bs : List Bool, Same H H' ∧ H' D = some (.lst (bs.map V.bl)) ∧ bs.all id = true ∧ bs.length = i) ⟨[], same_new hD, upd_same, rfl, rfl⟩ (fun _ _ _ _ => trivial) ?_ ?_
  · rintro i x H' H2 hi ⟨bs, s, hbs, ha, hlen'⟩ ⟨rfl, c, hcc, rfl⟩
    have hmem : c ∈ z.cps.toList := by
      rw [← Array.getElem?_toList] at hcc
      exact List.mem_of_getElem? hcc
    refine ⟨rfl, yes (iteT ⟨_, rfl, _, _, rfl, rfl, _, hbs, ?_, bs ++ [true], s.at hD, ?_, ?_, ?_⟩)⟩
    · have : z.cps.size = z.length := rfl
      exact small1000 (by rw [List.length_map]; omega)
    · rw [upd_same, List.map_append, decide_eq_true (hc c hmem)]; rfl
    · simp [ha]
    · simp [hlen']
  · rintro H' ⟨bs, s, hbs, ha, hlen⟩
    exact ⟨D, bs, rfl, SqL.of hbs, by rw [ha]; exact q H' s⟩
end KN

set_option Elab.async false
set_option linter.all false
set_option maxRecDepth 100000
set_option maxHeartbeats 4000000
/-! keys and groups -/
namespace KN
open PySem PySem.Spec PyProof.Rows L2 ClX StX
open C8 (Cal Met Mak CalAt pe_c pe_mk pe_mt pe_mt0 pss_cut tCut pe_gc)
/-- the key of some fields -/
def keyF (ps : List (Int × Int)) (ns : List Int) : List Int := ps.map fun p => ns.getD (p.1 - 1).toNat 0 / p.2
def spKey : Sp := fun vs H Q _ => ∃ (r f : Addr) (ps : List (Int × Int)) (w : Int) (ns : List Int), vs = [.ref r, .ref f] ∧ RuleAt H r ps ∧ RuleOk w ps ∧ H f = some (.tup (ns.map V.int)) ∧ (ns.length : Int) = w ∧
  ∀ H' p (ks : List Int), Same H H' → H p = none → H' p = some (.tup (ks.map V.int)) → ks = keyF ps ns → Q (.ref p) H'
theorem ok_key_of {P : Program} {w : World} {K : PySem.W.Frag} {mg : Str → Option Value} {base : Heap} (T : Tx K mg) : Cal P w K mg base 1 "key_of" spKey [] := by
  obtain ⟨fd, F⟩ := T.d_key_of
  have bd : Binds K fd ["rule", "fields"] [] := F.binds fun _ _ _ _ _ _ us hl => match us, hl with | [_, _], _ => rfl
  refine cal_of (F.ok sc_key_of (fun vs H Q E h => ?len) (fun cdv A outer s H vs Q E hr h => ?body)) bd T.g_key_of T.k_key_of
  case len => exact (by first | (obtain ⟨rfl, _⟩ := h; rfl) | (obtain ⟨_, rfl, _⟩ := h; rfl) | (obtain ⟨_, _, rfl, _⟩ := h; rfl) | (obtain ⟨_, _, _, rfl, _⟩ := h; rfl) | (obtain ⟨_, _, _, _, rfl, _⟩ := h; rfl) | (obtain ⟨_, _, _, _, _, rfl, _⟩ := h; rfl) | (obtain ⟨_, _, _, _, _, _, rfl, _⟩ := h; rfl) | (obtain ⟨_, _, _, _, _, _, _, rfl, _⟩ := h; rfl) | (obtain ⟨_, _, _, _, _, _, _, _, rfl, _⟩ := h; rfl) | (obtain ⟨_, _, _, _, _, _, _, _, _, rfl, _⟩ := h; rfl) | (obtain ⟨_, _, _, _, _, _, _, _, _, _, rfl, _⟩ := h; rfl) | (obtain ⟨_, _, _, _, _, _, _, _, _, _, _, rfl, _⟩ := h; rfl) | (obtain ⟨_, _, _, _, _, _, _, _, _, _, _, _, rfl, _⟩ := h; rfl) | (obtain ⟨_, _, _, _, _, _, _, _, _, _, _, _, _, rfl, _⟩ := h; rfl) | (obtain ⟨_, _, _, _, _, _, _, _, _, _, _, _, _, _, rfl, _⟩ := h; rfl) | (obtain ⟨_, _, _, _, _, _, _, _, _, _, _, _, _, _, _, rfl, _⟩ := h; rfl))
  case body =>
  have hu := hu_of hr
  refine ⟨_, (pss_one (ps_ret (pe_callTy (tupS K rfl) (by rfl) T.z_tuple (by decide +kernel) (pa_cons (pe_lc (own := [("column", 2), ("step", 3)]) rfl sc_key_of.nd (pi_tupK K rfl (pv 0)) (blkOk_by (own := [("column", 2), ("step", 3)]) (N := N_key_of) (sc := defScope s_key_of) (by decide +kernel)) (fun _ _ _ _ _ => by exact (pg_tupK K rfl 2 rfl (pgs_cons (pg_name (i := 2) sc_key_of.nd rfl (Or.inl rfl)) (pgs_cons (pg_name (i := 3) sc_key_of.nd rfl (Or.inl rfl)) pgs_nil)))) (fun _ _ _ _ _ => pts_nil) (fun _ _ _ _ _ => (pe_op op_fdiv (pe_ix (ixT K rfl) (pv 1) (pe_op op_sub (pv 2) pe_int) (fun _ _ => rfl)) (pv 3)))) pa_nil)))), ?_⟩
  obtain ⟨r, f, ps, w', ns, rfl, ⟨ts, hr', hlen, hp⟩, ⟨hl, nd, hb⟩, hf, hw, q⟩ := h
  refine ⟨_, rfl, _, rfl, ⟨_, SqT.of hr'⟩, fun D hD => ?_⟩
  refine lc_tup (K := K) (a := r) (xs := ts.map V.ref) (fun i H' => ∃ ks : List Int, Same H H' ∧ H' D = some (.lst (ks.map V.int)) ∧ ks = (keyF ps ns).take i) ⟨[], same_new hD, upd_same, by simp⟩ (fun i H' _ ⟨_, s, _⟩ => SqT.of (s _ _ hr')) ?_ ?_
  · rintro i x H' hx ⟨ks, s, hks, hl'⟩
    rw [List.getElem?_map] at hx
    obtain ⟨t, ht, rfl⟩ := Option.map_eq_some_iff.mp hx
    obtain ⟨p, hpi, hpt⟩ := hp i t ht
    obtain ⟨c1, c2, c3, c4⟩ := hb p (List.mem_of_getElem? hpi)
    have hc : (p.1 - 1).toNat < ns.length := by omega
    refine ⟨_, _, rfl, SqT.of (s _ _ hpt), rfl, _, _, rfl, _, _, rfl, rfl, rfl, yes (iteT ⟨_, rfl, _, rfl, _, _, rfl, rfl, _, _, _, _, rfl, rfl, SqT.of (s _ _ hf), at_of (j := (p.1 - 1).toNat) (v := .int ns[(p.1 - 1).toNat]) (by omega) ?_, _, rfl, _, _, rfl, rfl, ⟨by omega, by omega⟩, _, hks, ?_, ?_⟩)⟩
    · rw [List.getElem?_map, List.getElem?_eq_getElem hc]; rfl
    · have : i < ts.length := (List.getElem?_eq_some_iff.mp ht).1
      exact small1000 (by rw [List.length_map, hl', List.length_take]; omega)
    · refine ⟨ks ++ [_], s.at hD, by rw [upd_same, List.map_append]; rfl, ?_⟩
      have e1 : (keyF ps ns)[i]? = some (ns.getD (p.1 - 1).toNat 0 / p.2) := by unfold keyF; rw [List.getElem?_map, hpi]; rfl
      rw [List.take_succ, e1, hl', List.getD_eq_getElem?_getD, List.getElem?_eq_getElem hc]; rfl
  · rintro H' ⟨ks, s, hks, hl'⟩
    refine ⟨D, _, rfl, .inl ⟨SqL.of hks, fun l hl2 => ?_⟩⟩
    refine q _ l ks (s.new hl2) (s.free hl2) upd_same ?_
    rw [hl', List.length_map, hlen]
    exact List.take_of_length_le (by unfold keyF; rw [List.length_map]; exact Nat.le_refl _)
/-! ### items -/
structure ItemAt (w : Int) (H : Hp) (t : Addr) (wt : Int) (ns : List Int) : Prop where
  f : ∃ f : Addr, H t = some (.tup [.int wt, .ref f]) ∧ H f = some (.tup (ns.map V.int))
  len : (ns.length : Int) = w
  wt1 : 1 ≤ wt
  wt2 : wt ≤ 1000000
  bd : ∀ n ∈ ns, -1000000000 ≤ n ∧ n ≤ 1000000000
theorem ItemAt.same {w : Int} {H H' : Hp} {t : Addr} {wt : Int} {ns : List Int} (h : ItemAt w H t wt ns) (s : Same H H') : ItemAt w H' t wt ns :=
  ⟨let ⟨f, h1, h2⟩ := h.f; ⟨f, s _ _ h1, s _ _ h2⟩, h.len, h.wt1, h.wt2, h.bd⟩
/-- the pairs of a dict of items -/
structure Items (w : Int) (H : Hp) (kvs : List (Key × V)) : Prop where
  nd : (kvs.map (·.1)).Nodup
  el : ∀ p ∈ kvs, ∃ (i : Int) (t : Addr) (wt : Int) (ns : List Int), p = (.inl i, .ref t) ∧ 1 ≤ i ∧ i ≤ 39 ∧ ItemAt w H t wt ns
  len : kvs.length ≤ 20
theorem Items.same {w : Int} {H H' : Hp} {kvs : List (Key × V)} (h : Items w H kvs) (s : Same H H') : Items w H' kvs :=
  ⟨h.nd, fun p hp => let ⟨i, t, wt, ns, e, h1, h2, h3⟩ := h.el p hp; ⟨i, t, wt, ns, e, h1, h2, h3.same s⟩, h.len⟩
def idOf : Key → Int
  | .inl i => i
  | .inr _ => 0
/-- the ids -/
def idsK (kvs : List (Key × V)) : List Int := kvs.map fun p => idOf p.1
theorem Items.keys {w : Int} {H : Hp} {kvs : List (Key × V)} (h : Items w H kvs) : kvs.map (·.1) = (idsK kvs).map Sum.inl := by
  unfold idsK
  rw [List.map_map]
  refine List.map_congr_left fun p hp => ?_
  obtain ⟨i, t, wt, ns, rfl, _⟩ := h.el p hp
  rfl
theorem Items.idnd {w : Int} {H : Hp} {kvs : List (Key × V)} (h : Items w H kvs) : (idsK kvs).Nodup := by
  have q := h.nd
  rw [h.keys] at q
  exact List.Pairwise.of_map Sum.inl (fun a b h e => h (by rw [e])) q
theorem Items.get {w : Int} {H : Hp} {kvs : List (Key × V)} (h : Items w H kvs) {i : Int} (hi : i ∈ idsK kvs) : ∃ t wt ns, valV kvs (.inl i) = some (.ref t) ∧ 1 ≤ i ∧ i ≤ 39 ∧ ItemAt w H t wt ns := by
  obtain ⟨p, hp, e⟩ := List.mem_map.mp hi
  obtain ⟨j, t, wt, ns, rfl, h1, h2, h3⟩ := h.el p hp
  cases e
  exact ⟨t, wt, ns, valV_of_mem h.nd hp, h1, h2, h3⟩
theorem Items.no {w : Int} {H : Hp} {kvs : List (Key × V)} (h : Items w H kvs) {i : Int} (hi : ¬ i ∈ idsK kvs) : valV kvs (.inl i) = none := by
  cases q : valV kvs (.inl i) with
  | none => rfl
  | some y =>
    refine absurd ?_ hi
    have := valV_in q
    rw [h.keys] at this
    obtain ⟨j, hj, e⟩ := List.mem_map.mp this
    cases e
    exact hj
/-- the fields of an id -/
def intOf : V → Int
  | .int i => i
  | _ => 0
def fldOf (H : Hp) (kvs : List (Key × V)) (i : Int) : List Int := match valV kvs (.inl i) with
  | some (.ref t) => (match H t with
    | some (.tup [_, .ref f]) => (match H f with
      | some (.tup xs) => xs.map intOf
      | _ => [])
    | _ => [])
  | _ => []
theorem fldOf_eq {w : Int} {H : Hp} {kvs : List (Key × V)} {i : Int} {t : Addr} {wt : Int} {ns : List Int} (hv : valV kvs (.inl i) = some (.ref t)) (h : ItemAt w H t wt ns) : fldOf H kvs i = ns := by
  obtain ⟨f, h1, h2⟩ := h.f
  unfold fldOf
  rw [hv]
  simp only [h1, h2, List.map_map]
  exact (List.map_congr_left fun a _ => rfl).trans (List.map_id _)
theorem fldOf_same {w : Int} {H H' : Hp} {kvs : List (Key × V)} (h : Items w H kvs) (s : Same H H') {i : Int} (hi : i ∈ idsK kvs) : fldOf H kvs i = fldOf H' kvs i := by
  obtain ⟨t, wt, ns, hv, _, _, hit⟩ := h.get hi
  rw [fldOf_eq hv hit, fldOf_eq hv (hit.same s)]
def memB (k : List Key) (l : List (List Key)) : Bool := l.any fun x => decide (x = k)
theorem memB_iff {k : List Key} {l : List (List Key)} : memB k l = true ↔ k ∈ l := by
  unfold memB
  rw [List.any_eq_true]
  exact ⟨fun ⟨x, hx, e⟩ => of_decide_eq_true e ▸ hx, fun h => ⟨k, h, decide_eq_true rfl⟩⟩
def firstsA : List (List Key) → List (List Key) → List (List Key)
  | acc, [] => acc
  | acc, k :: r => firstsA (if memB k acc = true then acc else acc ++ [k]) r
def firsts (l : List (List Key)) : List (List Key) := firstsA [] l
theorem firstsA_snoc : ∀ (l acc : List (List Key)) (k : List Key), firstsA acc (l ++ [k]) = if memB k (firstsA acc l) = true then firstsA acc l else firstsA acc l ++ [k]
  | [], acc, k => rfl
  | a :: r, acc, k => firstsA_snoc r _ k
theorem firsts_snoc (l : List (List Key)) (k : List Key) : firsts (l ++ [k]) = if memB k (firsts l) = true then firsts l else firsts l ++ [k] := firstsA_snoc l [] k
theorem firstsA_mem : ∀ (l acc : List (List Key)) (k : List Key), k ∈ acc ∨ k ∈ l → k ∈ firstsA acc l
  | [], acc, k, h => h.resolve_right (by simp)
  | a :: r, acc, k, h => by
    refine firstsA_mem r _ k ?_
    by_cases q : memB a acc = true
    · rw [if_pos q]
      rcases h with h | h
      · exact .inl h
      · rcases List.mem_cons.mp h with h | h
        · exact .inl (h ▸ memB_iff.mp q)
        · exact .inr h
    · rw [if_neg q]
      rcases h with h | h
      · exact .inl (List.mem_append_left _ h)
      · rcases List.mem_cons.mp h with h | h
        · exact .inl (by rw [h]; simp)
        · exact .inr h
theorem firsts_mem {l : List (List Key)} {k : List Key} (h : k ∈ l) : k ∈ firsts l := firstsA_mem l [] k (.inr h)
/-- the groups of the sorted ids ys -/
def keyK (ps : List (Int × Int)) (fo : Int → List Int) (i : Int) : List Key := (keyF ps (fo i)).map Sum.inl
def gsY (ps : List (Int × Int)) (ys : List Int) (fo : Int → List Int) : List (List Int) := ((firsts (ys.map (keyK ps fo))).mergeSort (PySem.W.dataLe false encT)).map fun k => ys.filter fun i => decide (keyK ps fo i = k)
def GsRel (ps : List (Int × Int)) (ids : List Int) (fo : Int → List Int) (gs : List (List Int)) : Prop := ∃ ys : List Int, ys.Perm ids ∧ ys.Pairwise (· ≤ ·) ∧ gs = gsY ps ys fo
theorem sorted_uniq : ∀ {l m : List Int}, l.Perm m → l.Pairwise (· ≤ ·) → m.Pairwise (· ≤ ·) → l = m
  | [], m, h, _, _ => (List.Perm.nil_eq h)
  | a :: r, m, h, h1, h2 => by
    cases m with
    | nil => exact absurd h.length_eq (by simp)
    | cons b t =>
      have e : a = b := by
        have hb : b ∈ a :: r := h.mem_iff.mpr List.mem_cons_self
        have ha : a ∈ b :: t := h.mem_iff.mp List.mem_cons_self
        rcases List.mem_cons.mp hb with q | q
        · exact q.symm
        · rcases List.mem_cons.mp ha with q2 | q2
          · exact q2
          · have := (List.pairwise_cons.mp h1).1 b q
            have := (List.pairwise_cons.mp h2).1 a q2
            omega
      subst e
      rw [sorted_uniq (List.Perm.cons_inv h) (List.pairwise_cons.mp h1).2 (List.pairwise_cons.mp h2).2]
theorem GsRel.uniq {ps : List (Int × Int)} {ids : List Int} {fo fo' : Int → List Int} {gs gs' : List (List Int)} (h : GsRel ps ids fo gs) (h' : GsRel ps ids fo' gs') (e : ∀ i ∈ ids, fo i = fo' i) : gs = gs' := by
  obtain ⟨ys, p, s, rfl⟩ := h
  obtain ⟨ys', p', s', rfl⟩ := h'
  have := sorted_uniq (p.trans p'.symm) s s'
  subst this
  unfold gsY
  have ek : ∀ i ∈ ys, keyK ps fo i = keyK ps fo' i := fun i hi => by unfold keyK; rw [e i (p.mem_iff.mp hi)]
  rw [List.map_congr_left ek]
  refine List.map_congr_left fun k _ => List.filter_congr fun i hi => ?_
  rw [ek i hi]
/-! ### groups -/
/-- a list of tuples of ids -/
structure GrpsT (H : Hp) (ts : List Addr) (gs : List (List Int)) : Prop where
  len : ts.length = gs.length
  at_ : ∀ (i : Nat) (t : Addr), ts[i]? = some t → ∃ g, gs[i]? = some g ∧ H t = some (.tup (g.map V.int))
theorem GrpsT.same {H H' : Hp} {ts : List Addr} {gs : List (List Int)} (h : GrpsT H ts gs) (s : Same H H') : GrpsT H' ts gs :=
  ⟨h.len, fun i t e => let ⟨g, e1, e2⟩ := h.at_ i t e; ⟨g, e1, s _ _ e2⟩⟩
theorem flat_upd {α : Type} [DecidableEq α] {G : α → List Int} {x : Int} {k : α} : ∀ {l : List α}, l.Nodup → k ∈ l → ((l.map (KM.fup G k (G k ++ [x]))).flatten).Perm ((l.map G).flatten ++ [x])
  | [], _, h => by simp at h
  | a :: r, nd, h => by
    obtain ⟨h1, h2⟩ := List.nodup_cons.mp nd
    by_cases e : a = k
    · subst e
      have : r.map (KM.fup G a (G a ++ [x])) = r.map G := List.map_congr_left fun b hb => KM.fup_ne fun z => h1 (z ▸ hb)
      rw [List.map_cons, List.flatten_cons, this, KM.fup_same, List.map_cons, List.flatten_cons, List.append_assoc, List.append_assoc]
      exact List.Perm.append_left _ List.perm_append_comm
    · have hk : k ∈ r := (List.mem_cons.mp h).resolve_left fun z => e z.symm
      rw [List.map_cons, List.flatten_cons, KM.fup_ne e, List.map_cons, List.flatten_cons, List.append_assoc]
      exact List.Perm.append_left _ (flat_upd h2 hk)
theorem flat_new {α : Type} [DecidableEq α] {G : α → List Int} {x : Int} {k : α} {l : List α} (h : ¬ k ∈ l) : ((l ++ [k]).map (KM.fup G k [x])).flatten = (l.map G).flatten ++ [x] := by
  have : l.map (KM.fup G k [x]) = l.map G := List.map_congr_left fun b hb => KM.fup_ne fun z => h (z ▸ hb)
  rw [List.map_append, List.flatten_append, this, List.map_singleton, KM.fup_same]; simp
structure Fd (key : Int → List Key) (n : Nat) (H0 H : Hp) (d : Addr) (kvs : List (List Key × V)) (G : List Key → List Int) (done : List Int) : Prop where
  at_ : H d = some (.dT kvs)
  nd : (kvs.map (·.1)).Nodup
  ky : ∀ k ∈ kvs.map (·.1), ∃ ks : List Int, k = ks.map Sum.inl ∧ ks.length = n
  vl : ∀ k v, valV kvs k = some v → ∃ l, v = .ref l ∧ H0 l = none ∧ H l = some (.lst ((G k).map V.int))
  inj : ∀ k k' l, valV kvs k = some (.ref l) → valV kvs k' = some (.ref l) → k = k'
  ne : ∀ k ∈ kvs.map (·.1), G k ≠ []
  pm : ((kvs.map (·.1)).map G).flatten.Perm done
  len : kvs.length ≤ done.length
  gl : ∀ k, (G k).length ≤ done.length
  fst : kvs.map (·.1) = firsts (done.map key)
  flt : ∀ k, G k = done.filter fun i => decide (key i = k)
theorem Fd.same {key : Int → List Key} {n : Nat} {H0 H H' : Hp} {d : Addr} {kvs : List (List Key × V)} {G : List Key → List Int} {done : List Int} (h : Fd key n H0 H d kvs G done) (s : Same H H') : Fd key n H0 H' d kvs G done :=
  ⟨s _ _ h.at_, h.nd, h.ky, fun k v e => let ⟨l, e1, e2, e3⟩ := h.vl k v e; ⟨l, e1, e2, s _ _ e3⟩, h.inj, h.ne, h.pm, h.len, h.gl, h.fst, h.flt⟩
theorem Fd.init {key : Int → List Key} {n : Nat} {H0 H : Hp} {d : Addr} (h : H d = some (.dT [])) : Fd key n H0 H d [] (fun _ => []) [] :=
  ⟨h, .nil, fun _ hk => (nomatch hk), fun _ _ e => (nomatch e), fun _ _ _ e => (nomatch e), fun _ hk => (nomatch hk), List.Perm.refl _, Nat.le_refl _, fun _ => Nat.le_refl _, rfl, fun _ => rfl⟩
/-- one more id to a key that is there -/
theorem Fd.old {key : Int → List Key} {n : Nat} {H0 H : Hp} {d l : Addr} {kvs : List (List Key × V)} {G : List Key → List Int} {done : List Int} {k : List Key} {x : Int} (h : Fd key n H0 H d kvs G done) (e : valV kvs k = some (.ref l)) (hk : k = key x) :
    Fd key n H0 (upd H l (.lst ((G k ++ [x]).map V.int))) d kvs (KM.fup G k (G k ++ [x])) (done ++ [x]) := by
  obtain ⟨l', e1, e2, e3⟩ := h.vl k _ e
  cases e1
  refine ⟨by rw [upd_ne (ne_of h.at_ e3 (fun z => nomatch z))]; exact h.at_, h.nd, h.ky, fun k' v e' => ?_, h.inj, fun k' hk' => ?_, ?_, ?_, fun k' => ?_, ?_, fun k' => ?_⟩
  · obtain ⟨l2, f1, f2, f3⟩ := h.vl k' v e'
    subst f1
    refine ⟨l2, rfl, f2, ?_⟩
    by_cases z : k' = k
    · subst z; rw [e] at e'; cases e'; rw [upd_same, KM.fup_same]
    · rw [KM.fup_ne z, upd_ne fun q => z (h.inj _ _ l (by rw [← q]; exact e') e)]; exact f3
  · by_cases z : k' = k
    · subst z; rw [KM.fup_same]; simp
    · rw [KM.fup_ne z]; exact h.ne k' hk'
  · exact (flat_upd h.nd (valV_in e)).trans (h.pm.append_right _)
  · have := h.len; simp; omega
  · by_cases z : k' = k
    · subst z; rw [KM.fup_same]; have := h.gl k'; simp; omega
    · rw [KM.fup_ne z]; have := h.gl k'; simp; omega
  · rw [List.map_append, List.map_singleton, firsts_snoc, ← hk, ← h.fst, if_pos (memB_iff.mpr (valV_in e))]
  · rw [List.filter_append]
    by_cases z : k' = k
    · subst z; rw [KM.fup_same, h.flt, hk]; simp
    · rw [KM.fup_ne z, h.flt]
      have : ([x] : List Int).filter (fun i => decide (key i = k')) = [] := by rw [List.filter_cons, if_neg (by rw [← hk]; simpa using fun q => z q.symm)]; rfl
      rw [this, List.append_nil]
/-- .. to a new one -/
theorem Fd.add {key : Int → List Key} {n : Nat} {H0 H : Hp} {d l : Addr} {kvs : List (List Key × V)} {G : List Key → List Int} {done : List Int} {ks : List Int} {x : Int} (h : Fd key n H0 H d kvs G done) (e : valV kvs (ks.map Sum.inl) = none) (hn : ks.length = n)
    (hl : H l = none) (h0 : H0 l = none) (hkx : ks.map Sum.inl = key x) :
    Fd key n H0 (upd (upd (upd H l (.lst [])) d (.dT (putK kvs (ks.map Sum.inl) (.ref l)))) l (.lst [.int x])) d (putK kvs (ks.map Sum.inl) (.ref l)) (KM.fup G (ks.map Sum.inl) [x]) (done ++ [x]) := by
  have nld : l ≠ d := fun q => by subst q; rw [h.at_] at hl; cases hl
  have hk : (putK kvs (ks.map Sum.inl) (V.ref l)).map (·.1) = kvs.map (·.1) ++ [ks.map Sum.inl] := by rw [putK_new _ e]; simp
  refine ⟨by rw [upd_ne nld.symm, upd_same], keys_put _ _ _ h.nd, fun k' hk' => ?_, fun k' v e' => ?_, fun k' k2 l' e1 e2 => ?_, fun k' hk' => ?_, ?_, ?_, fun k' => ?_, ?_, fun k' => ?_⟩
  · rw [hk] at hk'
    rcases List.mem_append.mp hk' with z | z
    · exact h.ky k' z
    · exact ⟨ks, List.mem_singleton.mp z, hn⟩
  · rw [valV_put] at e'
    by_cases z : k' = ks.map Sum.inl
    · subst z; rw [if_pos rfl] at e'; cases e'; exact ⟨l, rfl, h0, by rw [upd_same, KM.fup_same]; rfl⟩
    · rw [if_neg z] at e'
      obtain ⟨l2, f1, f2, f3⟩ := h.vl k' v e'
      have n2 : l2 ≠ l := fun q => by subst q; rw [hl] at f3; cases f3
      exact ⟨l2, f1, f2, by rw [KM.fup_ne z, upd_ne n2, upd_ne (ne_of f3 h.at_ (fun z => nomatch z)), upd_ne n2]; exact f3⟩
  · rw [valV_put] at e1 e2
    have old : ∀ k0, valV kvs k0 = some (.ref l) → False := fun k0 q => by
      obtain ⟨l2, f1, f2, f3⟩ := h.vl k0 _ q
      cases f1; rw [hl] at f3; cases f3
    by_cases z : k' = ks.map Sum.inl
    · by_cases z2 : k2 = ks.map Sum.inl
      · rw [z, z2]
      · rw [if_pos z] at e1; rw [if_neg z2] at e2; cases e1; exact (old _ e2).elim
    · by_cases z2 : k2 = ks.map Sum.inl
      · rw [if_neg z] at e1; rw [if_pos z2] at e2; cases e2; exact (old _ e1).elim
      · rw [if_neg z] at e1; rw [if_neg z2] at e2; exact h.inj _ _ _ e1 e2
  · rw [hk] at hk'
    by_cases z : k' = ks.map Sum.inl
    · subst z; rw [KM.fup_same]; simp
    · rw [KM.fup_ne z]
      rcases List.mem_append.mp hk' with q | q
      · exact h.ne k' q
      · exact absurd (List.mem_singleton.mp q) z
  · rw [hk, flat_new (valV_not e)]; exact h.pm.append_right _
  · have := h.len; have := length_putK kvs (ks.map Sum.inl) (V.ref l); simp; omega
  · by_cases z : k' = ks.map Sum.inl
    · subst z; rw [KM.fup_same]; simp
    · rw [KM.fup_ne z]; have := h.gl k'; simp; omega
  · rw [hk, List.map_append, List.map_singleton, firsts_snoc, ← hkx, ← h.fst, if_neg fun z => valV_not e (memB_iff.mp z)]
  · rw [List.filter_append]
    by_cases z : k' = ks.map Sum.inl
    · subst z; rw [KM.fup_same]
      have : done.filter (fun i => decide (key i = ks.map Sum.inl)) = [] := by
        rw [← h.flt]
        cases q : G (ks.map Sum.inl) with
        | nil => rfl
        | cons a r =>
          exfalso
          have ha : a ∈ done.filter fun i => decide (key i = ks.map Sum.inl) := by rw [← h.flt, q]; exact List.mem_cons_self
          obtain ⟨h1, h2⟩ := List.mem_filter.mp ha
          have hin : key a ∈ firsts (done.map key) := firsts_mem (List.mem_map.mpr ⟨a, h1, rfl⟩)
          rw [← h.fst, of_decide_eq_true h2] at hin
          exact valV_not e hin
      rw [this, hkx]; simp
    · rw [KM.fup_ne z, h.flt]
      have : ([x] : List Int).filter (fun i => decide (key i = k')) = [] := by rw [List.filter_cons, if_neg (by rw [← hkx]; simpa using fun q => z q.symm)]; rfl
      rw [this, List.append_nil]
theorem keysAt_ix : ∀ {H : Hp} {ks : List (List Key)} {bs : List Addr} {i : Nat} {b : Addr}, KeysAt H ks bs → bs[i]? = some b → ∃ k, ks[i]? = some k ∧ H b = some (.tup (k.map kV))
  | H, [], [], _, _, .nil, e => by simp at e
  | H, k :: ks, c :: bs, 0, b, .cons h t, e => by cases e; exact ⟨k, rfl, h⟩
  | H, k :: ks, c :: bs, i + 1, b, .cons h t, e => keysAt_ix (ks := ks) t e
theorem keysAt_len : ∀ {H : Hp} {ks : List (List Key)} {bs : List Addr}, KeysAt H ks bs → ks.length = bs.length
  | H, [], [], .nil => rfl
  | H, k :: ks, c :: bs, .cons h t => by rw [List.length_cons, List.length_cons, keysAt_len (ks := ks) t]
theorem KeysAt.same {H H' : Hp} (s : Same H H') : ∀ {ks : List (List Key)} {bs : List Addr}, KeysAt H ks bs → KeysAt H' ks bs
  | [], [], .nil => .nil
  | k :: ks, c :: bs, .cons h t => .cons (s _ _ h) (KeysAt.same s (ks := ks) t)
theorem sort_ok {n : Nat} {l : List (List Key)} (nd : l.Nodup) (h : ∀ k ∈ l, ∃ ks : List Int, k = ks.map Sum.inl ∧ ks.length = n) : SortOk l := by
  refine ⟨List.replicate n (isT (.inl 0)), fun k hk => ?_, fun e => ?_⟩
  · obtain ⟨ks, rfl, hn⟩ := h k hk
    subst hn
    rw [List.map_map]
    exact List.eq_replicate_iff.mpr ⟨by simp, fun b hb => by obtain ⟨x, _, rfl⟩ := List.mem_map.mp hb; rfl⟩
  · have n0 : n = 0 := by cases n with | zero => rfl | succ m => cases e
    subst n0
    have : ∀ k ∈ l, k = [] := fun k hk => by obtain ⟨ks, rfl, hn⟩ := h k hk; rw [List.length_eq_zero_iff.mp hn]; rfl
    match l, nd, this with
    | [], _, _ => exact Nat.zero_le _
    | [_], _, _ => exact Nat.le_refl _
    | a :: b :: r, nd, this =>
      have h1 := this a (by simp)
      have h2 := this b (by simp)
      simp [h1, h2] at nd
theorem mem_val {κ : Type} [DecidableEq κ] {kvs : List (κ × V)} {k : κ} (h : k ∈ kvs.map (·.1)) : ∃ v, valV kvs k = some v := by
  cases e : valV kvs k with
  | none => exact absurd h (valV_not e)
  | some v => exact ⟨v, rfl⟩
def spKeyed : Sp := fun vs H Q _ => ∃ (r d : Addr) (ps : List (Int × Int)) (w : Int) (kvs : List (Key × V)), vs = [.ref r, .ref d] ∧ RuleAt H r ps ∧ RuleOk w ps ∧ H d = some (.dK kvs) ∧ Items w H kvs ∧
  ∀ (H' : Hp) (p : Addr) (K2 : List (List Key × V)) (ts : List Addr) (gs : List (List Int)), Same H H' → H p = none → H' p = some (.dT K2) → K2.map (·.2) = ts.map V.ref → GrpsT H' ts gs → gs.flatten.Perm (idsK kvs) → (∀ g ∈ gs, g ≠ []) → GsRel ps (idsK kvs) (fldOf H kvs) gs → Q (.ref p) H'
theorem ok_keyed_groups {P : Program} {w : World} {K : PySem.W.Frag} {mg : Str → Option Value} {base : Heap} (T : Tx K mg) : Cal P w K mg base 2 "keyed_groups" spKeyed [] := by
  obtain ⟨fd, F⟩ := T.d_keyed_groups
  have G_key_of := ok_key_of (P := P) (w := w) (base := base) T
  have bd : Binds K fd ["rule", "items"] [] := F.binds fun _ _ _ _ _ _ us hl => match us, hl with | [_, _], _ => rfl
  refine cal_of (F.ok sc_keyed_groups (fun vs H Q E h => ?len) (fun cdv A outer s H vs Q E hr h => ?body)) bd T.g_keyed_groups T.k_keyed_groups
  case len => exact (by first | (obtain ⟨rfl, _⟩ := h; rfl) | (obtain ⟨_, rfl, _⟩ := h; rfl) | (obtain ⟨_, _, rfl, _⟩ := h; rfl) | (obtain ⟨_, _, _, rfl, _⟩ := h; rfl) | (obtain ⟨_, _, _, _, rfl, _⟩ := h; rfl) | (obtain ⟨_, _, _, _, _, rfl, _⟩ := h; rfl) | (obtain ⟨_, _, _, _, _, _, rfl, _⟩ := h; rfl) | (obtain ⟨_, _, _, _, _, _, _, rfl, _⟩ := h; rfl) | (obtain ⟨_, _, _, _, _, _, _, _, rfl, _⟩ := h; rfl) | (obtain ⟨_, _, _, _, _, _, _, _, _, rfl, _⟩ := h; rfl) | (obtain ⟨_, _, _, _, _, _, _, _, _, _, rfl, _⟩ := h; rfl) | (obtain ⟨_, _, _, _, _, _, _, _, _, _, _, rfl, _⟩ := h; rfl) | (obtain ⟨_, _, _, _, _, _, _, _, _, _, _, _, rfl, _⟩ := h; rfl) | (obtain ⟨_, _, _, _, _, _, _, _, _, _, _, _, _, rfl, _⟩ := h; rfl) | (obtain ⟨_, _, _, _, _, _, _, _, _, _, _, _, _, _, rfl, _⟩ := h; rfl) | (obtain ⟨_, _, _, _, _, _, _, _, _, _, _, _, _, _, _, rfl, _⟩ := h; rfl))
  case body =>
  have hu := hu_of hr
  refine ⟨_, (pss_cons (ps_set (i := 2) sc_keyed_groups.nd rfl (Or.inr rfl) pe_dnewT)
      (pss_cons (ps_for PassesOwn.never rfl (pi_listK K rfl (pe_callB (call_sortedDI rfl) (by rfl) T.z_sorted (by decide +kernel) (pa_cons (pv 1) pa_nil))) (pg_name (i := 3) sc_keyed_groups.nd rfl (Or.inl rfl))
      (pss_one (ps_expr (pe_bm PySem.F.plainAttrs_list PySem.F.slot_list_append PySem.F.type_list_append mt_append (pe_dsetT hu (pv 2) (pe_c G_key_of hr (by decide) (by rfl) (pa_cons (pv 0) (pa_cons (pe_ix (ixT K rfl) (pe_dget hu (pv 1) (pv 3) (fun _ _ => rfl)) pe_int (fun _ _ => rfl)) pa_nil))) (pe_lst pa_nil) ⟨rfl, rfl, rfl, rfl⟩) (pa_cons (pv 3) pa_nil)))))
      (pss_one (ps_ret (pe_dc1 (own := [("key", 4)]) (.inr rfl) hu rfl sc_keyed_groups.nd (pi_listK K rfl (pe_callB (cr_sortedDT rfl hr.units) (by rfl) T.z_sorted (by decide +kernel) (pa_cons (pv 2) pa_nil))) (blkOk_by (own := [("key", 4)]) (N := N_keyed_groups) (sc := defScope s_keyed_groups) (by decide +kernel)) (fun _ _ _ _ _ => (pg_name (i := 4) sc_keyed_groups.nd rfl (Or.inl rfl))) (fun _ _ _ _ _ => pts_nil) (fun _ _ _ _ _ => (pv 4)) (fun _ _ _ _ _ => (pe_callTy (tupS K rfl) (by rfl) T.z_tuple (by decide +kernel) (pa_cons (pe_dget hu (pv 2) (pv 4) (fun _ _ => rfl)) pa_nil)))))))), ?_⟩
  obtain ⟨r, d, ps, w', kvs, rfl, hr1, hok, hd, hI, q⟩ := h
  refine fun f hf => ⟨_, rfl, _, _, idsK kvs, rfl, .inl (by rw [upd_ne (ne_of_none hd hf)]; exact hd), hI.keys, by unfold idsK; rw [List.length_map]; have := hI.len; omega, fun ys p hperm hsorted hp => ?_⟩
  have s1 : Same H (upd (upd H f (.dT [])) p (.lst (ys.map V.int))) := (same_new hf).new hp
  have npf : p ≠ f := fun z => by subst z; rw [upd_same] at hp; cases hp
  have hpH : H p = none := (same_new hf).free hp
  have hylen : ys.length ≤ 20 := by have h3 := hperm.length_eq; have h4 := hI.len; unfold idsK at h3; rw [List.length_map] at h3; omega
  have hjlen : ∀ j, (ys.take j).length ≤ 20 := fun j => by rw [List.length_take]; omega
  generalize hH1 : upd (upd H f (.dT [])) p (.lst (ys.map V.int)) = H1 at s1
  have hp1 : H1 p = some (.lst (ys.map V.int)) := by rw [← hH1, upd_same]
  have hf1 : H1 f = some (.dT []) := by rw [← hH1, upd_ne npf.symm, upd_same]
  refine ⟨p, rfl, ⟨_, SqL.of hp1⟩, for_list (K := K) (a := p) (xs := ys.map V.int) (fun j σ H' => ∃ (v : Option V) (K1 : List (List Key × V)) (G : List Key → List Int), σ = [some (.ref r), some (.ref d), some (.ref f), v, none] ∧ Same H H' ∧ H' p = some (.lst (ys.map V.int)) ∧ Fd (keyK ps (fldOf H kvs)) ps.length H1 H' f K1 G (ys.take j)) ?_ ?_ ?_ ?_⟩
  · exact ⟨none, [], fun _ => [], rfl, s1, hp1, Fd.init hf1⟩
  · rintro j σ H' _ ⟨v, K1, G, rfl, s, hp', _⟩
    exact SqL.of hp'
  · rintro j x σ H' hx ⟨v, K1, G, rfl, s, hp', hF⟩
    rw [List.getElem?_map] at hx
    obtain ⟨i, hi, rfl⟩ := Option.map_eq_some_iff.mp hx
    have him : i ∈ idsK kvs := hperm.mem_iff.mp (List.mem_of_getElem? hi)
    obtain ⟨t, wt, ns, hv, _, _, hit⟩ := hI.get him
    obtain ⟨fa, ht, hfa⟩ := hit.f
    have htake : ys.take (j + 1) = ys.take j ++ [i] := by rw [List.take_succ, hi]; rfl
    refine ⟨_, rfl, _, rfl, .inr ⟨_, .inl hF.at_⟩, _, rfl, _, rfl, _, rfl, _, _, rfl, (by have := dget_rd (H := H') (.inl i) (Rd.of (s _ _ hd)); rw [hv] at this; exact this), _, _, _, _, rfl, rfl, SqT.of (s _ _ ht), atI_nat (j := 1) rfl, r, fa, ps, w', ns, rfl, hr1.same s, hok, s _ _ hfa, hit.len, ?_⟩
    intro H2 kp ks s2 hkp hkp2 hkq
    have hkl : ks.length = ps.length := by rw [hkq]; unfold keyF; rw [List.length_map]
    have hkx : ks.map Sum.inl = keyK ps (fldOf H kvs) i := by unfold keyK; rw [fldOf_eq hv hit, hkq]
    have hF2 := hF.same s2
    have sH2 := s.trans s2
    refine ⟨Nat.zero_le _, fun l hl => ?_⟩
    have nlf : l ≠ f := fun z => by subst z; rw [hF2.at_] at hl; cases hl
    have nlp : l ≠ p := fun z => by subst z; rw [s2 _ _ hp'] at hl; cases hl
    have nlk : kp ≠ l := fun z => by subst z; rw [hkp2] at hl; cases hl
    have hlH : H l = none := sH2.free hl
    have hl1 : H1 l = none := by rw [← hH1, upd_ne nlp, upd_ne nlf]; exact hlH
    refine ⟨K1, ks.map Sum.inl, kp, by rw [upd_ne nlf.symm]; exact hF2.at_, rfl, by rw [upd_ne nlk, hkp2, List.map_map]; rfl, small1000 (by have := hF.len; have := hjlen j; omega), fun v2 e => ?_, fun e => ?_⟩
    · obtain ⟨l2, e1, e2, e3⟩ := hF2.vl _ _ e
      subst e1
      have n2 : l2 ≠ l := fun z => by subst z; rw [e3] at hl; cases hl
      have e4 : upd H2 l (.lst []) l2 = some (.lst ((G (ks.map Sum.inl)).map V.int)) := by rw [upd_ne n2]; exact e3
      have n3 : l2 ≠ p := fun z => by subst z; rw [hp1] at e2; cases e2
      refine ⟨.inl ⟨rfl, _, SqL.of e4⟩, _, rfl, _, _, _, rfl, rfl, e4, small1000 (by have := hF.gl (ks.map Sum.inl); have := hjlen j; rw [List.length_map]; omega), ?_⟩
      have hF3 := (hF2.same (same_new (o := .lst []) hl)).old (x := i) e hkx
      rw [← htake, List.map_append] at hF3
      exact ⟨_, _, _, rfl, (sH2.at hlH).at (s1.free e2), by rw [upd_ne n3.symm, upd_ne nlp.symm]; exact s2 _ _ hp', hF3⟩
    · refine ⟨.inl ⟨rfl, _, SqL.of (upd_ne nlf ▸ upd_same : upd (upd H2 l (.lst [])) f (.dT (putK K1 (ks.map Sum.inl) (.ref l))) l = some (.lst []))⟩, _, rfl, _, _, _, rfl, rfl, (by rw [upd_ne nlf, upd_same]), small1000 (Nat.zero_le _), ?_⟩
      have hF3 := hF2.add (x := i) e hkl hl hl1 hkx
      rw [← htake] at hF3
      exact ⟨_, _, _, rfl, ((sH2.at hlH).at hf).at hlH, by rw [upd_ne nlp.symm, upd_ne npf, upd_ne nlp.symm]; exact s2 _ _ hp', hF3⟩
  · rintro σ H2 ⟨v, K1, G, rfl, s, hp', hF⟩
    have hall : ys.take (ys.map V.int).length = ys := by rw [List.length_map]; exact List.take_length
    rw [hall] at hF
    refine ⟨_, rfl, _, _, rfl, .inl hF.at_, sort_ok hF.nd hF.ky, fun m sk bs hsk0 hka hm => ?_⟩
    have hsk : sk.Perm (K1.map (·.1)) := by rw [hsk0]; exact List.mergeSort_perm _ _
    have hmH : H m = none := s.free hm
    have hF3 := hF.same (same_new (o := .lst (bs.map V.ref)) hm)
    have hka3 := hka.same (same_new (o := .lst (bs.map V.ref)) hm)
    have sm : Same H (upd H2 m (.lst (bs.map V.ref))) := s.new hm
    have hm3 : upd H2 m (.lst (bs.map V.ref)) m = some (.lst (bs.map V.ref)) := upd_same
    generalize upd H2 m (.lst (bs.map V.ref)) = H3 at hF3 hka3 sm hm3
    have hskn : sk.Nodup := hsk.nodup_iff.mpr hF.nd
    have hkl := keysAt_len hka
    have hsl : sk.length ≤ 20 := by have h1 := hsk.length_eq; have h2 := hF.len; rw [List.length_map] at h1; omega
    refine ⟨m, rfl, ⟨_, SqL.of hm3⟩, fun D hD => ?_⟩
    refine dc_it (walk_list (K := K) (a := m) (xs := bs.map V.ref)) (fun i H' => ∃ (K2 : List (List Key × V)) (ts : List Addr), Same H3 H' ∧ H' D = some (.dT K2) ∧ K2.map (·.1) = sk.take i ∧ K2.map (·.2) = ts.map V.ref ∧ GrpsT H' ts ((sk.take i).map G)) ?_ ?_ ?_ ?_
    · exact ⟨[], [], same_new hD, upd_same, by simp, rfl, ⟨by simp, fun i t e => by simp at e⟩⟩
    · rintro i H' _ ⟨K2, ts, s3, _⟩
      exact SqL.of (s3 _ _ hm3)
    · rintro i x H' H4 hi ⟨K2, ts, s3, hD3, hk, hv, hg⟩ ⟨rfl, hx⟩
      rw [List.getElem?_map] at hx
      obtain ⟨b, hb, rfl⟩ := Option.map_eq_some_iff.mp hx
      obtain ⟨k, hki, hkb⟩ := keysAt_ix hka3 hb
      have hkm : k ∈ K1.map (·.1) := hsk.mem_iff.mp (List.mem_of_getElem? hki)
      obtain ⟨v2, hv2⟩ := mem_val hkm
      obtain ⟨l2, e1, e2, e3⟩ := hF3.vl _ _ hv2
      subst e1
      have htk : sk.take (i + 1) = sk.take i ++ [k] := by rw [List.take_succ, hki]; rfl
      refine ⟨rfl, yes (iteT ⟨_, rfl, _, rfl, _, rfl, _, _, rfl, (by have := dget_rdT (H := H4) k (.inl (s3 _ _ hF3.at_)) (s3 _ _ hkb); rw [hv2] at this; exact this), _, _, rfl, .inl ⟨SqL.of (s3 _ _ e3), fun l hl => ?_⟩⟩)⟩
      have nlD : D ≠ l := fun z => by subst z; rw [hD3] at hl; cases hl
      have hlen2 : K2.length ≤ 20 := by have := congrArg List.length hk; rw [List.length_map, List.length_take] at this; omega
      have nv : valV K2 k = none := by
        cases q2 : valV K2 k with
        | none => rfl
        | some y =>
          have q3 := valV_in q2
          rw [hk] at q3
          obtain ⟨j, hj, e4⟩ := List.getElem_of_mem q3
          rw [List.length_take] at hj
          have e5 : sk[j]? = some k := by rw [List.getElem_take] at e4; rw [List.getElem?_eq_getElem (by omega), e4]
          have := nd_ix hskn e5 hki
          omega
      have s4 : Same H3 (upd (upd H4 l (.tup ((G k).map V.int))) D (.dT (putK K2 k (.ref l)))) := (s3.new hl).at hD
      refine ⟨_, dput_t k (.ref l) (by rw [upd_ne nlD]; exact hD3) (by rw [upd_ne (ne_of_none (s3 _ _ hkb) hl)]; exact s3 _ _ hkb) (by omega), putK K2 k (.ref l), ts ++ [l], s4, upd_same, ?_, ?_, ?_⟩
      · rw [putK_new _ nv, List.map_append, hk, htk]; rfl
      · rw [putK_new _ nv, List.map_append, hv, List.map_append]; rfl
      · refine ⟨by rw [htk, List.map_append, List.length_append, List.length_append, hg.len]; rfl, fun j t e => ?_⟩
        rw [htk, List.map_append]
        by_cases hj : j < ts.length
        · rw [List.getElem?_append_left hj] at e
          obtain ⟨g, e1, e2⟩ := hg.at_ j t e
          refine ⟨g, by rw [List.getElem?_append_left (by rw [← hg.len]; exact hj)]; exact e1, ?_⟩
          rw [upd_ne (ne_of e2 hD3 (fun z => nomatch z)), upd_ne (ne_of_none e2 hl)]; exact e2
        · rw [List.getElem?_append_right (by omega)] at e
          have hj0 : j - ts.length = 0 := by
            cases q2 : j - ts.length with
            | zero => rfl
            | succ n => rw [q2] at e; simp at e
          rw [hj0] at e
          cases e
          refine ⟨G k, ?_, by rw [upd_ne nlD.symm, upd_same]⟩
          rw [List.getElem?_append_right (by rw [← hg.len]; omega), ← hg.len, hj0]; rfl
    · rintro H' ⟨K2, ts, s3, hD3, hk, hv, hg⟩
      have ht : sk.take (bs.map V.ref).length = sk := by rw [List.length_map, ← hkl]; exact List.take_length
      rw [ht] at hk hg
      refine q H' D K2 ts (sk.map G) (sm.trans s3) (sm.free hD) hD3 hv hg ?_ ?_ ⟨ys, hperm, hsorted, ?_⟩
      · exact ((hsk.map G).flatten).trans (hF.pm.trans hperm)
      · intro g hg2
        obtain ⟨k, hk2, rfl⟩ := List.mem_map.mp hg2
        exact hF.ne k (hsk.mem_iff.mp hk2)
      · unfold gsY
        rw [hsk0, hF.fst]
        exact List.map_congr_left fun k _ => hF.flt k
end KN

set_option Elab.async false
set_option linter.all false
set_option maxRecDepth 100000
set_option maxHeartbeats 4000000
/-! groups, places, labels -/
namespace KN
open PySem PySem.Spec PyProof.Rows L2 ClX StX
open C8 (Cal Met Mak CalAt pe_c pe_mk pe_mt pe_mt0 pss_cut tCut pe_gc)
def spGroups : Sp := fun vs H Q _ => ∃ (r d : Addr) (ps : List (Int × Int)) (w : Int) (kvs : List (Key × V)), vs = [.ref r, .ref d] ∧ RuleAt H r ps ∧ RuleOk w ps ∧ H d = some (.dK kvs) ∧ Items w H kvs ∧
  ∀ (H' : Hp) (p : Addr) (ts : List Addr) (gs : List (List Int)), Same H H' → H p = none → H' p = some (.lst (ts.map V.ref)) → GrpsT H' ts gs → gs.flatten.Perm (idsK kvs) → (∀ g ∈ gs, g ≠ []) → GsRel ps (idsK kvs) (fldOf H kvs) gs → Q (.ref p) H'
theorem ok_group_items {P : Program} {w : World} {K : PySem.W.Frag} {mg : Str → Option Value} {base : Heap} (T : Tx K mg) : Cal P w K mg base 3 "group_items" spGroups [] := by
  obtain ⟨fd, F⟩ := T.d_group_items
  have G_keyed_groups := ok_keyed_groups (P := P) (w := w) (base := base) T
  have bd : Binds K fd ["rule", "items"] [] := F.binds fun _ _ _ _ _ _ us hl => match us, hl with | [_, _], _ => rfl
  refine cal_of (F.ok sc_group_items (fun vs H Q E h => ?len) (fun cdv A outer s H vs Q E hr h => ?body)) bd T.g_group_items T.k_group_items
  case len => exact (by first | (obtain ⟨rfl, _⟩ := h; rfl) | (obtain ⟨_, rfl, _⟩ := h; rfl) | (obtain ⟨_, _, rfl, _⟩ := h; rfl) | (obtain ⟨_, _, _, rfl, _⟩ := h; rfl) | (obtain ⟨_, _, _, _, rfl, _⟩ := h; rfl) | (obtain ⟨_, _, _, _, _, rfl, _⟩ := h; rfl) | (obtain ⟨_, _, _, _, _, _, rfl, _⟩ := h; rfl) | (obtain ⟨_, _, _, _, _, _, _, rfl, _⟩ := h; rfl) | (obtain ⟨_, _, _, _, _, _, _, _, rfl, _⟩ := h; rfl) | (obtain ⟨_, _, _, _, _, _, _, _, _, rfl, _⟩ := h; rfl) | (obtain ⟨_, _, _, _, _, _, _, _, _, _, rfl, _⟩ := h; rfl) | (obtain ⟨_, _, _, _, _, _, _, _, _, _, _, rfl, _⟩ := h; rfl) | (obtain ⟨_, _, _, _, _, _, _, _, _, _, _, _, rfl, _⟩ := h; rfl) | (obtain ⟨_, _, _, _, _, _, _, _, _, _, _, _, _, rfl, _⟩ := h; rfl) | (obtain ⟨_, _, _, _, _, _, _, _, _, _, _, _, _, _, rfl, _⟩ := h; rfl) | (obtain ⟨_, _, _, _, _, _, _, _, _, _, _, _, _, _, _, rfl, _⟩ := h; rfl))
  case body =>
  have hu := hu_of hr
  refine ⟨_, (pss_one (ps_ret (pe_listVals rfl (pe_c G_keyed_groups hr (by decide) (by rfl) (pa_cons (pv 0) (pa_cons (pv 1) pa_nil))) (by rfl) T.z_list))), ?_⟩
  obtain ⟨r, d, ps, w', kvs, rfl, hr1, hok, hd, hI, q⟩ := h
  refine ⟨_, rfl, _, rfl, r, d, ps, w', kvs, rfl, hr1, hok, hd, hI, fun H1 p K2 ts gs s hp hp1 hv hg hpm hne hrel => ?_⟩
  refine ⟨p, _, rfl, .inr ⟨K2, .inl hp1, rfl⟩, fun l hl => ?_⟩
  exact q _ l ts gs (s.new hl) (s.free hl) (by rw [upd_same, hv]) (hg.same (same_new hl)) hpm hne hrel
/-! ### where an id is -/
def InG (gs : List (List Int)) (i : Int) (j : Nat) : Prop := ∃ g, gs[j]? = some g ∧ i ∈ g
theorem InG.uniq : ∀ {gs : List (List Int)} {i : Int} {j k : Nat}, gs.flatten.Nodup → InG gs i j → InG gs i k → j = k
  | [], i, j, k, _, ⟨g, e, _⟩, _ => by simp at e
  | a :: r, i, 0, 0, _, _, _ => rfl
  | a :: r, i, 0, k + 1, nd, ⟨g, e, h⟩, ⟨g', e', h'⟩ => by
    cases e
    have := (List.nodup_append.mp nd).2.2 i h i (List.mem_flatten.mpr ⟨g', List.mem_of_getElem? e', h'⟩)
    exact absurd rfl this
  | a :: r, i, j + 1, 0, nd, ⟨g', e', h'⟩, ⟨g, e, h⟩ => by
    cases e
    have := (List.nodup_append.mp nd).2.2 i h i (List.mem_flatten.mpr ⟨g', List.mem_of_getElem? e', h'⟩)
    exact absurd rfl this
  | a :: r, i, j + 1, k + 1, nd, ⟨g', e', h'⟩, ⟨g, e, h⟩ => by
    have := InG.uniq (gs := r) (List.nodup_append.mp nd).2.1 ⟨g', e', h'⟩ ⟨g, e, h⟩
    omega
/-- few groups of few ids -/
structure GOk (gs : List (List Int)) : Prop where
  nd : gs.flatten.Nodup
  len : gs.length ≤ 20
  gl : ∀ g ∈ gs, g.length ≤ 20
def spPlaces : Sp := fun vs H Q _ => ∃ (a : Addr) (ts : List Addr) (gs : List (List Int)), vs = [.ref a] ∧ H a = some (.lst (ts.map V.ref)) ∧ GrpsT H ts gs ∧ GOk gs ∧
  ∀ (H' : Hp) (p : Addr) (kvs : List (Key × V)) (m : Int → Option Int), Same H H' → H p = none → H' p = some (.dK kvs) → DII kvs m → kvs.length ≤ 400 → (∀ i z, m i = some z ↔ ∃ j : Nat, z = j ∧ InG gs i j) → Q (.ref p) H'
theorem ok_places_of {P : Program} {w : World} {K : PySem.W.Frag} {mg : Str → Option Value} {base : Heap} (T : Tx K mg) : Cal P w K mg base 1 "places_of" spPlaces [] := by
  obtain ⟨fd, F⟩ := T.d_places_of
  have bd : Binds K fd ["groups"] [] := F.binds fun _ _ _ _ _ _ us hl => match us, hl with | [_], _ => rfl
  refine cal_of (F.ok sc_places_of (fun vs H Q E h => ?len) (fun cdv A outer s H vs Q E hr h => ?body)) bd T.g_places_of T.k_places_of
  case len => exact (by first | (obtain ⟨rfl, _⟩ := h; rfl) | (obtain ⟨_, rfl, _⟩ := h; rfl) | (obtain ⟨_, _, rfl, _⟩ := h; rfl) | (obtain ⟨_, _, _, rfl, _⟩ := h; rfl) | (obtain ⟨_, _, _, _, rfl, _⟩ := h; rfl) | (obtain ⟨_, _, _, _, _, rfl, _⟩ := h; rfl) | (obtain ⟨_, _, _, _, _, _, rfl, _⟩ := h; rfl) | (obtain ⟨_, _, _, _, _, _, _, rfl, _⟩ := h; rfl) | (obtain ⟨_, _, _, _, _, _, _, _, rfl, _⟩ := h; rfl) | (obtain ⟨_, _, _, _, _, _, _, _, _, rfl, _⟩ := h; rfl) | (obtain ⟨_, _, _, _, _, _, _, _, _, _, rfl, _⟩ := h; rfl) | (obtain ⟨_, _, _, _, _, _, _, _, _, _, _, rfl, _⟩ := h; rfl) | (obtain ⟨_, _, _, _, _, _, _, _, _, _, _, _, rfl, _⟩ := h; rfl) | (obtain ⟨_, _, _, _, _, _, _, _, _, _, _, _, _, rfl, _⟩ := h; rfl) | (obtain ⟨_, _, _, _, _, _, _, _, _, _, _, _, _, _, rfl, _⟩ := h; rfl) | (obtain ⟨_, _, _, _, _, _, _, _, _, _, _, _, _, _, _, rfl, _⟩ := h; rfl))
  case body =>
  have hu := hu_of hr
  refine ⟨_, (pss_one (ps_ret (pe_dc2 (own := [("place", 1), ("group", 2), ("row_id", 3)]) (vs1 := [3]) (.inl rfl) hu rfl sc_places_of.nd (pi_enum (by rfl) T.z_enumerate (pa_cons (pv 0) pa_nil)) (blkOk_by (own := [("place", 1), ("group", 2), ("row_id", 3)]) (N := N_places_of) (sc := defScope s_places_of) (by decide +kernel)) (by decide) (fun _ _ _ _ _ => by exact (pg_tupK K rfl 2 rfl (pgs_cons (pg_name (i := 1) sc_places_of.nd rfl (Or.inl rfl)) (pgs_cons (pg_name (i := 2) sc_places_of.nd rfl (Or.inl rfl)) pgs_nil)))) (fun _ _ _ _ _ => pts_nil) (fun _ _ _ _ _ => (pi_tupK K rfl (pv 2))) (fun _ _ _ _ _ => (pg_name (i := 3) sc_places_of.nd rfl (Or.inl rfl))) (fun _ _ _ _ _ => pts_nil) (fun _ _ _ _ _ => (pv 3)) (fun _ _ _ _ _ => (pv 1))))), ?_⟩
  obtain ⟨a, ts, gs, rfl, ha, hg, hok, q⟩ := h
  refine ⟨_, rfl, a, _, rfl, SqL.of ha, fun D hD => ?_⟩
  refine dc_out (walk_enum (K := K) (a := a) (xs := ts.map V.ref)) (fun k H' => ∃ (kvs : List (Key × V)) (m : Int → Option Int), Same H H' ∧ H' D = some (.dK kvs) ∧ DII kvs m ∧ kvs.length ≤ 20 * k ∧ ∀ i z, m i = some z ↔ ∃ j : Nat, z = j ∧ InG gs i j ∧ j < k) ?_ ?_ ?_ ?_
  · exact ⟨[], fun _ => none, same_new hD, upd_same, .nil, Nat.le_refl _, fun i z => ⟨fun e => (nomatch e), fun ⟨j, _, _, hj⟩ => absurd hj (Nat.not_lt_zero _)⟩⟩
  · rintro k H' _ ⟨_, _, s, _⟩
    exact SqL.of (s _ _ ha)
  · rintro k x H1 H2 hk ⟨kvs, m, s, hDk, hm, hl, hmi⟩ ⟨T, v1, v2, rfl, hT, rfl, e1, e2⟩
    cases e1
    replace e2 : (ts.map V.ref)[k]? = some v2 := e2
    rw [List.getElem?_map] at e2
    obtain ⟨t, ht, rfl⟩ := Option.map_eq_some_iff.mp e2
    obtain ⟨g, hgk, hgt⟩ := hg.at_ k t ht
    have s2 : Same H (upd H1 T (.tup [.int k, .ref t])) := s.new hT
    have hD2 : upd H1 T (.tup [.int k, .ref t]) D = some (.dK kvs) := by rw [upd_ne (ne_of_none hDk hT)]; exact hDk
    have hTt : upd H1 T (.tup [.int k, .ref t]) T = some (.tup [.int k, .ref t]) := upd_same
    generalize upd H1 T (.tup [.int k, .ref t]) = H3 at s2 hD2 hTt
    have hgl := hok.gl g (List.mem_of_getElem? hgk)
    have hkl : k < 20 := by have := (List.getElem?_eq_some_iff.mp hgk).1; have := hok.len; omega
    refine ⟨T, _, rfl, SqT.of hTt, rfl, _, _, rfl, _, _, rfl, rfl, rfl, yes (iteT ⟨_, rfl, t, rfl, ⟨_, SqT.of (s2 _ _ hgt)⟩, ?_⟩)⟩
    refine dc_in (walk_tup (K := K) (a := t) (xs := g.map V.int)) (fun n H' => ∃ (kvs : List (Key × V)) (m : Int → Option Int), Same H H' ∧ H' D = some (.dK kvs) ∧ DII kvs m ∧ kvs.length ≤ 20 * k + n ∧ ∀ i z, m i = some z ↔ ∃ j : Nat, z = j ∧ InG gs i j ∧ (j < k ∨ (j = k ∧ i ∈ g.take n))) ?_ ?_ ?_ ?_
    · exact ⟨kvs, m, s2, hD2, hm, by omega, fun i z => (hmi i z).trans ⟨fun ⟨j, h1, h2, h3⟩ => ⟨j, h1, h2, .inl h3⟩, fun ⟨j, h1, h2, h3⟩ => ⟨j, h1, h2, h3.elim id fun z => by simp at z⟩⟩⟩
    · rintro n H' _ ⟨_, _, s, _⟩
      exact SqT.of (s _ _ hgt)
    · rintro n x H4 H5 hn ⟨kvs, m, s3, hD3, hm, hl, hmi⟩ ⟨rfl, hx⟩
      rw [List.getElem?_map] at hx
      obtain ⟨i, hi, rfl⟩ := Option.map_eq_some_iff.mp hx
      have htk : g.take (n + 1) = g.take n ++ [i] := by rw [List.take_succ, hi]; rfl
      have hn20 : n < 20 := by rw [List.length_map] at hn; omega
      refine ⟨rfl, yes (iteT ⟨_, rfl, _, rfl, _, dput_k (.inl i) (.int k) hD3 (by omega), _, _, s3.at hD, upd_same, hm.put inl_inj i (k : Int), by have := length_putK kvs (.inl i) (V.int k); omega, fun i' z => ?_⟩)⟩
      by_cases e : i' = i
      · subst e
        rw [KM.fup_same]
        constructor
        · intro e; cases e; exact ⟨k, rfl, ⟨g, hgk, List.mem_of_getElem? hi⟩, .inr ⟨rfl, by rw [htk]; simp⟩⟩
        · rintro ⟨j, rfl, h2, _⟩
          rw [InG.uniq hok.nd h2 ⟨g, hgk, List.mem_of_getElem? hi⟩]
      · rw [KM.fup_ne e, hmi, htk]
        have : i' ∈ g.take n ++ [i] ↔ i' ∈ g.take n := by simp [e]
        simp only [this]
    · rintro H' ⟨kvs, m, s3, hD3, hm, hl, hmi⟩
      rw [List.length_map] at hl hmi
      refine ⟨kvs, m, s3, hD3, hm, by omega, fun i z => (hmi i z).trans ⟨fun ⟨j, h1, h2, h3⟩ => ⟨j, h1, h2, ?_⟩, fun ⟨j, h1, h2, h3⟩ => ⟨j, h1, h2, ?_⟩⟩⟩
      · rcases h3 with h3 | ⟨h3, _⟩ <;> omega
      · by_cases e : j = k
        · obtain ⟨g', e1, e2⟩ := h2
          subst e
          rw [hgk] at e1; cases e1
          exact .inr ⟨rfl, by rw [List.take_length]; exact e2⟩
        · exact .inl (by omega)
  · rintro H' ⟨kvs, m, s, hDk, hm, hl, hmi⟩
    rw [List.length_map, hg.len] at hl hmi
    have := hok.len
    refine q H' D kvs m s hD hDk hm (by omega) fun i z => (hmi i z).trans ⟨fun ⟨j, h1, h2, _⟩ => ⟨j, h1, h2⟩, fun ⟨j, h1, h2⟩ => ⟨j, h1, h2, ?_⟩⟩
    obtain ⟨g, e, _⟩ := h2
    exact (List.getElem?_eq_some_iff.mp e).1
/-! ### who names an id -/
def spLabels : Sp := fun vs H Q _ => ∃ (a d : Addr) (ts : List Addr) (gs : List (List Int)) (kvs : List (Key × V)) (nm : Str → Option Int), vs = [.ref a, .ref d] ∧ H a = some (.lst (ts.map V.ref)) ∧ GrpsT H ts gs ∧ GOk gs ∧ H d = some (.dK kvs) ∧ DSI kvs nm ∧ kvs.length ≤ 20 ∧
  (∀ n z, nm n = some z → ∃ j : Nat, z = j ∧ j < gs.length) ∧
  ∀ (H' : Hp) (p : Addr) (kvs : List (Key × V)) (m : Int → Option Str), Same H H' → H p = none → H' p = some (.dK kvs) → DIS kvs m → kvs.length ≤ 400 → (∀ i n, m i = some n → ∃ z, nm n = some z) → Q (.ref p) H'
theorem ok_labels_of {P : Program} {w : World} {K : PySem.W.Frag} {mg : Str → Option Value} {base : Heap} (T : Tx K mg) : Cal P w K mg base 1 "labels_of" spLabels [] := by
  obtain ⟨fd, F⟩ := T.d_labels_of
  have bd : Binds K fd ["groups", "names"] [] := F.binds fun _ _ _ _ _ _ us hl => match us, hl with | [_, _], _ => rfl
  refine cal_of (F.ok sc_labels_of (fun vs H Q E h => ?len) (fun cdv A outer s H vs Q E hr h => ?body)) bd T.g_labels_of T.k_labels_of
  case len => exact (by first | (obtain ⟨rfl, _⟩ := h; rfl) | (obtain ⟨_, rfl, _⟩ := h; rfl) | (obtain ⟨_, _, rfl, _⟩ := h; rfl) | (obtain ⟨_, _, _, rfl, _⟩ := h; rfl) | (obtain ⟨_, _, _, _, rfl, _⟩ := h; rfl) | (obtain ⟨_, _, _, _, _, rfl, _⟩ := h; rfl) | (obtain ⟨_, _, _, _, _, _, rfl, _⟩ := h; rfl) | (obtain ⟨_, _, _, _, _, _, _, rfl, _⟩ := h; rfl) | (obtain ⟨_, _, _, _, _, _, _, _, rfl, _⟩ := h; rfl) | (obtain ⟨_, _, _, _, _, _, _, _, _, rfl, _⟩ := h; rfl) | (obtain ⟨_, _, _, _, _, _, _, _, _, _, rfl, _⟩ := h; rfl) | (obtain ⟨_, _, _, _, _, _, _, _, _, _, _, rfl, _⟩ := h; rfl) | (obtain ⟨_, _, _, _, _, _, _, _, _, _, _, _, rfl, _⟩ := h; rfl) | (obtain ⟨_, _, _, _, _, _, _, _, _, _, _, _, _, rfl, _⟩ := h; rfl) | (obtain ⟨_, _, _, _, _, _, _, _, _, _, _, _, _, _, rfl, _⟩ := h; rfl) | (obtain ⟨_, _, _, _, _, _, _, _, _, _, _, _, _, _, _, rfl, _⟩ := h; rfl))
  case body =>
  have hu := hu_of hr
  refine ⟨_, (pss_one (ps_ret (pe_lock (pe_dc2 (own := [("name", 2), ("place", 3), ("row_id", 4)]) (vs1 := [4]) (.inl rfl) hu rfl sc_labels_of.nd (pi_items (pv 1)) (blkOk_by (own := [("name", 2), ("place", 3), ("row_id", 4)]) (N := N_labels_of) (sc := defScope s_labels_of) (by decide +kernel)) (by decide) (fun _ _ _ _ _ => by exact (pg_tupK K rfl 2 rfl (pgs_cons (pg_name (i := 2) sc_labels_of.nd rfl (Or.inl rfl)) (pgs_cons (pg_name (i := 3) sc_labels_of.nd rfl (Or.inl rfl)) pgs_nil)))) (fun _ _ _ _ _ => pts_nil) (fun _ _ _ _ _ => (pi_tupK K rfl (pe_ix (ixL K rfl) (pv 0) (pv 3) (fun _ _ => rfl)))) (fun _ _ _ _ _ => (pg_name (i := 4) sc_labels_of.nd rfl (Or.inl rfl))) (fun _ _ _ _ _ => pts_nil) (fun _ _ _ _ _ => (pv 4)) (fun _ _ _ _ _ => (pv 2)))))), ?_⟩
  obtain ⟨a, d, ts, gs, kvs, nm, rfl, ha, hg, hok, hd, hnm, hl, hr2, q⟩ := h
  refine ⟨d, _, hd, trivial, fun od => ?_⟩
  have hd0 : upd H d (.frz od (.dK kvs)) d = some (.frz od (.dK kvs)) := upd_same
  have ha0 := lk (od := od) hd ha (fun z => nomatch z)
  have hat : ∀ (i : Nat) (t : Addr), ts[i]? = some t → ∃ g, gs[i]? = some g ∧ upd H d (.frz od (.dK kvs)) t = some (.tup (g.map V.int)) := fun i t e => let ⟨g, e1, e2⟩ := hg.at_ i t e; ⟨g, e1, lk hd e2 (fun z => nomatch z)⟩
  refine ⟨_, rfl, _, _, _, rfl, hd0, fun D hD => ?_⟩
  have hDH : H D = none := by
    by_cases e : D = d
    · subst e; rw [hd0] at hD; cases hD
    · rw [upd_ne e] at hD; exact hD
  refine dc_out (walk_items (kvs := kvs)) (fun k H' => ∃ (K2 : List (Key × V)) (m : Int → Option Str), Same (upd H d (.frz od (.dK kvs))) H' ∧ H' D = some (.dK K2) ∧ DIS K2 m ∧ K2.length ≤ 20 * k ∧ ∀ i n, m i = some n → ∃ z, nm n = some z) ?_ ?_ ?_ ?_
  · exact ⟨[], fun _ => none, same_new hD, upd_same, .nil, Nat.le_refl _, fun i z e => nomatch e⟩
  · rintro k H' _ ⟨_, _, s, _⟩
    exact s _ _ hd0
  · rintro k x H1 H2 hk ⟨K2, m, s, hDk, hm, hl2, hmi⟩ ⟨T, v1, v2, rfl, hT, rfl, e1, e2⟩
    obtain ⟨⟨ky, vl⟩, hkv, e3⟩ := Option.map_eq_some_iff.mp e1
    replace e2 : kvs[k]?.map Prod.snd = some v2 := e2
    rw [hkv] at e2
    cases e2
    obtain ⟨n, z, rfl, rfl, hnz⟩ := hnm.ix inr_inj hkv
    subst e3
    obtain ⟨j, rfl, hj⟩ := hr2 n z hnz
    have hjt : j < ts.length := by rw [hg.len]; exact hj
    obtain ⟨g, hgk, hgt⟩ := hat j ts[j] (List.getElem?_eq_getElem hjt)
    have s2 : Same (upd H d (.frz od (.dK kvs))) (upd H1 T (.tup [kV (.inr n), .int j])) := s.new hT
    have hD2 : upd H1 T (.tup [kV (.inr n), .int j]) D = some (.dK K2) := by rw [upd_ne (ne_of_none hDk hT)]; exact hDk
    have hTt : upd H1 T (.tup [kV (.inr n), .int j]) T = some (.tup [kV (.inr n), .int j]) := upd_same
    generalize upd H1 T (.tup [kV (.inr n), .int j]) = H3 at s2 hD2 hTt
    have hgl := hok.gl g (List.mem_of_getElem? hgk)
    refine ⟨T, _, rfl, SqT.of hTt, rfl, _, _, rfl, _, _, rfl, rfl, rfl, yes (iteT ⟨_, rfl, _, rfl, _, _, _, _, rfl, rfl, SqL.of (s2 _ _ ha0), atI_nat (j := j) (v := .ref ts[j]) (by rw [List.getElem?_map, List.getElem?_eq_getElem hjt]; rfl), ts[j], rfl, ⟨_, SqT.of (s2 _ _ hgt)⟩, ?_⟩)⟩
    refine dc_in (walk_tup (K := K) (a := ts[j]) (xs := g.map V.int)) (fun c H' => ∃ (K2 : List (Key × V)) (m : Int → Option Str), Same (upd H d (.frz od (.dK kvs))) H' ∧ H' D = some (.dK K2) ∧ DIS K2 m ∧ K2.length ≤ 20 * k + c ∧ ∀ i n, m i = some n → ∃ z, nm n = some z) ?_ ?_ ?_ ?_
    · exact ⟨K2, m, s2, hD2, hm, by omega, hmi⟩
    · rintro n H' _ ⟨_, _, s, _⟩
      exact SqT.of (s _ _ hgt)
    · rintro c x H4 H5 hn ⟨K2, m, s3, hD3, hm, hl, hmi⟩ ⟨rfl, hx⟩
      rw [List.getElem?_map] at hx
      obtain ⟨i, hi, rfl⟩ := Option.map_eq_some_iff.mp hx
      have hn20 : c < 20 := by rw [List.length_map] at hn; omega
      refine ⟨rfl, yes (iteT ⟨_, rfl, _, rfl, _, dput_k (.inl i) (.str n) hD3 (by omega), _, _, s3.at hD, upd_same, hm.put inl_inj i n, by have := length_putK K2 (.inl i) (V.str n); omega, fun i' n' => ?_⟩)⟩
      by_cases e : i' = i
      · subst e; rw [KM.fup_same]; intro e; cases e; exact ⟨_, hnz⟩
      · rw [KM.fup_ne e]; exact hmi i' n'
    · rintro H' ⟨K2, m, s3, hD3, hm, hl, hmi⟩
      rw [List.length_map] at hl
      exact ⟨K2, m, s3, hD3, hm, by omega, hmi⟩
  · rintro H' ⟨K2, m, s, hDk, hm, hl2, hmi⟩
    have nDd : D ≠ d := fun z => by subst z; rw [hd0] at hD; cases hD
    refine ⟨s _ _ hd0, q _ D K2 m (unlock hd s) hDH (by rw [upd_ne nDd]; exact hDk) hm (by omega) hmi⟩
end KN

set_option Elab.async false
set_option linter.all false
set_option maxRecDepth 100000
set_option maxHeartbeats 4000000
/-! tables -/
namespace KN
open PySem PySem.Spec PyProof.Rows L2 ClX StX
open C8 (Cal Met Mak CalAt pe_c pe_mk pe_mt pe_mt0 pss_cut tCut pe_gc)
/-- a table: what a name and a place weigh -/
structure TabAt (H : Hp) (p : Addr) (m : Str × Int → Option Int) : Prop where
  ex : ∃ kvs, H p = some (.dT kvs) ∧ DTI kvs m ∧ kvs.length ≤ 400
theorem TabAt.same {H H' : Hp} {p : Addr} {m : Str × Int → Option Int} (h : TabAt H p m) (s : Same H H') : TabAt H' p m := let ⟨k, a, b, c⟩ := h.ex; ⟨k, s _ _ a, b, c⟩
def spTable : Sp := fun vs H Q _ => ∃ (l a d : Addr) (ts : List Addr) (gs : List (List Int)) (kl kw : List (Key × V)) (lm : Int → Option Str) (wm : Int → Option Int), vs = [.ref l, .ref a, .ref d] ∧ H l = some (.dK kl) ∧ DIS kl lm ∧ H a = some (.lst (ts.map V.ref)) ∧ GrpsT H ts gs ∧ GOk gs ∧
  H d = some (.dK kw) ∧ DII kw wm ∧ (∀ g ∈ gs, ∀ i ∈ g, ∃ z, wm i = some z ∧ 1 ≤ z ∧ z ≤ 1000000) ∧
  ∀ (H' : Hp) (p : Addr) (m : Str × Int → Option Int), Same H H' → H p = none → TabAt H' p m → (∀ n z v, m (n, z) = some v → (∃ i, lm i = some n) ∧ (∃ j : Nat, z = j ∧ j < gs.length) ∧ 0 ≤ v ∧ v ≤ 400000000) → Q (.ref p) H'
theorem ok_label_table {P : Program} {w : World} {K : PySem.W.Frag} {mg : Str → Option Value} {base : Heap} (T : Tx K mg) : Cal P w K mg base 1 "label_table" spTable [] := by
  obtain ⟨fd, F⟩ := T.d_label_table
  have bd : Binds K fd ["labels", "groups", "weights"] [] := F.binds fun _ _ _ _ _ _ us hl => match us, hl with | [_, _, _], _ => rfl
  refine cal_of (F.ok sc_label_table (fun vs H Q E h => ?len) (fun cdv A outer s H vs Q E hr h => ?body)) bd T.g_label_table T.k_label_table
  case len => exact (by first | (obtain ⟨rfl, _⟩ := h; rfl) | (obtain ⟨_, rfl, _⟩ := h; rfl) | (obtain ⟨_, _, rfl, _⟩ := h; rfl) | (obtain ⟨_, _, _, rfl, _⟩ := h; rfl) | (obtain ⟨_, _, _, _, rfl, _⟩ := h; rfl) | (obtain ⟨_, _, _, _, _, rfl, _⟩ := h; rfl) | (obtain ⟨_, _, _, _, _, _, rfl, _⟩ := h; rfl) | (obtain ⟨_, _, _, _, _, _, _, rfl, _⟩ := h; rfl) | (obtain ⟨_, _, _, _, _, _, _, _, rfl, _⟩ := h; rfl) | (obtain ⟨_, _, _, _, _, _, _, _, _, rfl, _⟩ := h; rfl) | (obtain ⟨_, _, _, _, _, _, _, _, _, _, rfl, _⟩ := h; rfl) | (obtain ⟨_, _, _, _, _, _, _, _, _, _, _, rfl, _⟩ := h; rfl) | (obtain ⟨_, _, _, _, _, _, _, _, _, _, _, _, rfl, _⟩ := h; rfl) | (obtain ⟨_, _, _, _, _, _, _, _, _, _, _, _, _, rfl, _⟩ := h; rfl) | (obtain ⟨_, _, _, _, _, _, _, _, _, _, _, _, _, _, rfl, _⟩ := h; rfl) | (obtain ⟨_, _, _, _, _, _, _, _, _, _, _, _, _, _, _, rfl, _⟩ := h; rfl))
  case body =>
  have hu := hu_of hr
  refine ⟨_, (pss_cons (ps_set (i := 3) sc_label_table.nd rfl (Or.inl rfl) pe_dnewT)
      (pss_cons (ps_for PassesOwn.never rfl (pi_enum (by rfl) T.z_enumerate (pa_cons (pv 1) pa_nil)) (pg_tup rfl (pgs_cons (pg_name (i := 4) sc_label_table.nd rfl (Or.inl rfl)) (pgs_cons (pg_name (i := 5) sc_label_table.nd rfl (Or.inl rfl)) pgs_nil)))
      (pss_one (ps_for PassesOwn.never rfl (pi_tupK K rfl (pv 5)) (pg_name (i := 6) sc_label_table.nd rfl (Or.inl rfl))
      (pss_one (ps_if (pt_cmp (pc_din hu (pv 6) (pv 0)) rfl) (pss_cons (ps_set (i := 7) sc_label_table.nd rfl (Or.inl rfl) (pe_tup (pa_cons (pe_dget hu (pv 0) (pv 6) (fun _ _ => rfl)) (pa_cons (pv 4) pa_nil))))
      (pss_one (ps_dput hu (pv 3) (pv 7) (pe_op op_add (pe_dget2 hu (pv 3) (pv 7) pe_int ⟨rfl, rfl, rfl, rfl⟩) (pe_dget hu (pv 2) (pv 6) (fun _ _ => rfl))) rfl)))
      pss_nil)))))
      (pss_one (ps_ret (pv 3))))), ?_⟩
  obtain ⟨l, a, d, ts, gs, kl, kw, lm, wm, rfl, hl, hlm, ha, hg, hok, hd, hwm, hwb, q⟩ := h
  refine fun f hf => ⟨_, rfl, a, _, rfl, SqL.of ((same_new hf) _ _ ha), ?_⟩
  refine for_it (walk_enum (K := K) (a := a) (xs := ts.map V.ref)) (fun k σ H' => ∃ (v4 v5 v6 v7 : Option V) (kvs : List (List Key × V)) (m : Str × Int → Option Int), σ = [some (.ref l), some (.ref a), some (.ref d), some (.ref f), v4, v5, v6, v7] ∧ Same H H' ∧ H' f = some (.dT kvs) ∧ DTI kvs m ∧ kvs.length ≤ 20 * k ∧
    (∀ n z v, m (n, z) = some v → (∃ i, lm i = some n) ∧ (∃ j : Nat, z = j ∧ j < gs.length) ∧ 0 ≤ v ∧ v ≤ 1000000 * (20 * k : Nat))) ?_ ?_ ?_ ?_
  · exact ⟨none, none, none, none, [], fun _ => none, rfl, same_new hf, upd_same, .nil, Nat.le_refl _, fun n z v e => (nomatch e)⟩
  · rintro k σ H' _ ⟨_, _, _, _, _, _, _, s, _⟩
    exact SqL.of (s _ _ ha)
  · rintro k x σ H1 H2 hk ⟨v4, v5, v6, v7, kvs, m, rfl, s, hfk, hm, hlen, hmi⟩ ⟨T, y1, y2, rfl, hT, rfl, e1, e2⟩
    cases e1
    replace e2 : (ts.map V.ref)[k]? = some y2 := e2
    rw [List.getElem?_map] at e2
    obtain ⟨t, ht, rfl⟩ := Option.map_eq_some_iff.mp e2
    obtain ⟨g, hgk, hgt⟩ := hg.at_ k t ht
    have s2 : Same H (upd H1 T (.tup [.int k, .ref t])) := s.new hT
    have hf2 : upd H1 T (.tup [.int k, .ref t]) f = some (.dT kvs) := by rw [upd_ne (ne_of_none hfk hT)]; exact hfk
    have hTt : upd H1 T (.tup [.int k, .ref t]) T = some (.tup [.int k, .ref t]) := upd_same
    generalize upd H1 T (.tup [.int k, .ref t]) = H3 at s2 hf2 hTt
    have hgl := hok.gl g (List.mem_of_getElem? hgk)
    have hkl : k < gs.length := (List.getElem?_eq_some_iff.mp hgk).1
    have hk20 := hok.len
    refine ⟨T, _, rfl, SqT.of hTt, rfl, _, _, rfl, _, _, rfl, rfl, _, rfl, t, rfl, ⟨_, SqT.of (s2 _ _ hgt)⟩, ?_⟩
    refine for_it (walk_tup (K := K) (a := t) (xs := g.map V.int)) (fun c σ H' => ∃ (v6 v7 : Option V) (kvs : List (List Key × V)) (m : Str × Int → Option Int), σ = [some (.ref l), some (.ref a), some (.ref d), some (.ref f), some (.int k), some (.ref t), v6, v7] ∧ Same H H' ∧ H' f = some (.dT kvs) ∧ DTI kvs m ∧ kvs.length ≤ 20 * k + c ∧
      (∀ n z v, m (n, z) = some v → (∃ i, lm i = some n) ∧ (∃ j : Nat, z = j ∧ j < gs.length) ∧ 0 ≤ v ∧ v ≤ 1000000 * (20 * k + c : Nat))) ?_ ?_ ?_ ?_
    · exact ⟨v6, v7, kvs, m, rfl, s2, hf2, hm, by omega, fun n z v e => hmi n z v e⟩
    · rintro c σ H' _ ⟨_, _, _, _, _, s, _⟩
      exact SqT.of (s _ _ hgt)
    · rintro c x σ H4 H5 hc ⟨v6, v7, kvs, m, rfl, s3, hf3, hm, hlen, hmi⟩ ⟨rfl, hx⟩
      rw [List.getElem?_map] at hx
      obtain ⟨i, hi, rfl⟩ := Option.map_eq_some_iff.mp hx
      have hgi := List.mem_of_getElem? hi
      obtain ⟨z, hz, hz1, hz2⟩ := hwb g (List.mem_of_getElem? hgk) i hgi
      have hc20 : c < 20 := by rw [List.length_map] at hc; omega
      have hwd : DGet H5 d (.int i) (some (.int z)) := by have := dget_rd (H := H5) (.inl i) (Rd.of (s3 _ _ hd)); rw [hwm.get hz] at this; exact this
      cases e : lm i with
      | none =>
        have hld : DGet H5 l (.int i) none := by have := dget_rd (H := H5) (.inl i) (Rd.of (s3 _ _ hl)); rw [hlm.no e] at this; exact this
        refine ⟨_, rfl, _, rfl, _, _, rfl, hld, _, rfl, iteF ⟨_, _, kvs, m, rfl, s3, hf3, hm, by omega, fun n z v e => ?_⟩⟩
        obtain ⟨h1, h2, h3, h4⟩ := hmi n z v e
        exact ⟨h1, h2, h3, by omega⟩
      | some n =>
        have hld : DGet H5 l (.int i) (some (.str n)) := by have := dget_rd (H := H5) (.inl i) (Rd.of (s3 _ _ hl)); rw [hlm.get e] at this; exact this
        refine ⟨_, rfl, _, rfl, _, _, rfl, hld, _, rfl, iteT ⟨_, rfl, _, rfl, _, _, rfl, hld, _, rfl, by show 2 ≤ sizeLine; decide, fun kt hkt => ?_⟩⟩
        have s4 : Same H (upd H5 kt (.tup [.str n, .int k])) := s3.new hkt
        have hf4 : upd H5 kt (.tup [.str n, .int k]) f = some (.dT kvs) := by rw [upd_ne (ne_of_none hf3 hkt)]; exact hf3
        have hkey : upd H5 kt (.tup [.str n, .int k]) kt = some (.tup ((kNP (n, (k : Int))).map kV)) := upd_same
        have hwd4 : DGet (upd H5 kt (.tup [.str n, .int k])) d (.int i) (some (.int z)) := by have := dget_rd (.inl i) (Rd.of (s4 _ _ hd)); rw [hwm.get hz] at this; exact this
        generalize upd H5 kt (.tup [.str n, .int k]) = H6 at s4 hf4 hkey hwd4
        have hget := dget_rdT (kNP (n, (k : Int))) (.inl hf4) hkey
        refine ⟨_, rfl, _, rfl, .inr ⟨_, .inl hf4⟩, _, rfl, _, hget, _, rfl, _, rfl, _, _, rfl, hwd4, (m (n, (k : Int))).getD 0, z, ?_, rfl, _, rfl, _, rfl, _, _, rfl, dput_t _ (.int ((m (n, (k : Int))).getD 0 + z)) hf4 hkey (by omega), _, _, _, _, rfl, s4.at hf, upd_same, hm.put kNP_inj (n, (k : Int)) ((m (n, (k : Int))).getD 0 + z), by have := length_putK kvs (kNP (n, (k : Int))) (V.int ((m (n, (k : Int))).getD 0 + z)); omega, fun n' z' v e' => ?_⟩
        · rw [hm.at_]; cases m (n, (k : Int)) <;> rfl
        · by_cases e2 : (n', z') = (n, (k : Int))
          · rw [e2, KM.fup_same] at e'
            cases e'
            cases e2
            refine ⟨⟨i, e⟩, ⟨k, rfl, hkl⟩, ?_⟩
            cases e3 : m (n, (k : Int)) with
            | none => simp only [Option.getD_none]; omega
            | some v0 =>
              obtain ⟨_, _, h3, h4⟩ := hmi _ _ _ e3
              simp only [Option.getD_some]; omega
          · rw [KM.fup_ne e2] at e'
            obtain ⟨h1, h2, h3, h4⟩ := hmi _ _ _ e'
            exact ⟨h1, h2, h3, by omega⟩
    · rintro σ H' ⟨v6, v7, kvs, m, rfl, s3, hf3, hm, hlen, hmi⟩
      rw [List.length_map] at hlen hmi
      refine ⟨_, _, _, _, kvs, m, rfl, s3, hf3, hm, by omega, fun n z v e => ?_⟩
      obtain ⟨h1, h2, h3, h4⟩ := hmi n z v e
      exact ⟨h1, h2, h3, by omega⟩
  · rintro σ H' ⟨v4, v5, v6, v7, kvs, m, rfl, s, hfk, hm, hlen, hmi⟩
    rw [List.length_map, hg.len] at hlen hmi
    have := hok.len
    refine ⟨_, rfl, q H' f m s hf ⟨kvs, hfk, hm, by omega⟩ fun n z v e => ?_⟩
    obtain ⟨h1, h2, h3, h4⟩ := hmi n z v e
    exact ⟨h1, h2, h3, by omega⟩
end KN

set_option Elab.async false
set_option linter.all false
set_option maxRecDepth 100000
set_option maxHeartbeats 4000000
/-! tables, further -/
namespace KN
open PySem PySem.Spec PyProof.Rows L2 ClX StX
open C8 (Cal Met Mak CalAt pe_c pe_mk pe_mt pe_mt0 pss_cut tCut pe_gc)
theorem inV_str (n : Str) (ns : List Str) : inV (.str n) (ns.map V.str) = decide (n ∈ ns) := by
  unfold inV
  rw [List.any_map]
  rw [Bool.eq_iff_iff, List.any_eq_true, decide_eq_true_eq]
  constructor
  · rintro ⟨x, hx, e⟩
    have : x = n := by simpa [eqV] using e
    exact this ▸ hx
  · intro h; exact ⟨n, h, by simp [eqV]⟩
theorem inV_int (n : Int) (ns : List Int) : inV (.int n) (ns.map V.int) = decide (n ∈ ns) := by
  unfold inV
  rw [List.any_map]
  rw [Bool.eq_iff_iff, List.any_eq_true, decide_eq_true_eq]
  constructor
  · rintro ⟨x, hx, e⟩
    have : x = n := by simpa [eqV] using e
    exact this ▸ hx
  · intro h; exact ⟨n, h, by simp [eqV]⟩
theorem flat_str (ns : List Str) : (ns.map V.str).all flatV = true := by simp [flatV]
theorem flat_int (ns : List Int) : (ns.map V.int).all flatV = true := by simp [flatV]
def spWithout : Sp := fun vs H Q _ => ∃ (t a b : Addr) (m : Str × Int → Option Int) (ns : List Str) (zs : List Int), vs = [.ref t, .ref a, .ref b] ∧ TabAt H t m ∧ H a = some (.lst (ns.map V.str)) ∧ H b = some (.lst (zs.map V.int)) ∧
  ∀ (H' : Hp) (p : Addr) (m' : Str × Int → Option Int), Same H H' → H p = none → TabAt H' p m' → (∀ n z v, m' (n, z) = some v → m (n, z) = some v ∧ n ∉ ns ∧ z ∉ zs) → Q (.ref p) H'
theorem ok_without {P : Program} {w : World} {K : PySem.W.Frag} {mg : Str → Option Value} {base : Heap} (T : Tx K mg) : CK P w K mg base 1 "without" 1 ["names", "places"] (fun vs zs => vs ++ zs) spWithout := by
  obtain ⟨fd, F⟩ := T.d_without
  refine ⟨_, fd, ["table", "names", "places"], _, (F.ok sc_without (fun vs H Q E h => ?len) (fun cdv A outer s H vs Q E hr h => ?body)), T.g_without, T.k_without, kbn_of F 1 ["names", "places"] (fun us ws => us ++ ws) (fun r1 r2 => r1.append r2) (fun _ _ _ _ _ _ us ws l1 l2 => match us, ws, l1, l2 with | [_], [_, _], _, _ => rfl)⟩
  case len => exact (by first | (obtain ⟨rfl, _⟩ := h; rfl) | (obtain ⟨_, rfl, _⟩ := h; rfl) | (obtain ⟨_, _, rfl, _⟩ := h; rfl) | (obtain ⟨_, _, _, rfl, _⟩ := h; rfl) | (obtain ⟨_, _, _, _, rfl, _⟩ := h; rfl) | (obtain ⟨_, _, _, _, _, rfl, _⟩ := h; rfl) | (obtain ⟨_, _, _, _, _, _, rfl, _⟩ := h; rfl) | (obtain ⟨_, _, _, _, _, _, _, rfl, _⟩ := h; rfl) | (obtain ⟨_, _, _, _, _, _, _, _, rfl, _⟩ := h; rfl) | (obtain ⟨_, _, _, _, _, _, _, _, _, rfl, _⟩ := h; rfl) | (obtain ⟨_, _, _, _, _, _, _, _, _, _, rfl, _⟩ := h; rfl) | (obtain ⟨_, _, _, _, _, _, _, _, _, _, _, rfl, _⟩ := h; rfl) | (obtain ⟨_, _, _, _, _, _, _, _, _, _, _, _, rfl, _⟩ := h; rfl) | (obtain ⟨_, _, _, _, _, _, _, _, _, _, _, _, _, rfl, _⟩ := h; rfl) | (obtain ⟨_, _, _, _, _, _, _, _, _, _, _, _, _, _, rfl, _⟩ := h; rfl) | (obtain ⟨_, _, _, _, _, _, _, _, _, _, _, _, _, _, _, rfl, _⟩ := h; rfl))
  case body =>
  have hu := hu_of hr
  refine ⟨_, (pss_one (ps_ret (pe_lock (pe_dc1 (own := [("key", 3)]) (.inr rfl) hu rfl sc_without.nd (pi_keys (pv 0)) (blkOk_by (own := [("key", 3)]) (N := N_without) (sc := defScope s_without) (by decide +kernel)) (fun _ _ _ _ _ => (pg_name (i := 3) sc_without.nd rfl (Or.inl rfl))) (fun _ _ _ _ _ => (pts_one (PW.pt (pw_and (pt_cmpR (niS K rfl) (pe_ix (ixT K rfl) (pv 3) pe_int (fun _ _ => rfl)) (pv 1) rfl) (pw_and1 (pt_cmpR (niS K rfl) (pe_ix (ixT K rfl) (pv 3) pe_int (fun _ _ => rfl)) (pv 2) rfl)))))) (fun _ _ _ _ _ => (pv 3)) (fun _ _ _ _ _ => (pe_dget hu (pv 0) (pv 3) (fun _ _ => rfl))))))), ?_⟩
  obtain ⟨t, a, b, m, ns, zs, rfl, ⟨kvs, ht, hm, hl⟩, ha, hb, q⟩ := h
  refine ⟨t, _, ht, trivial, fun od => ?_⟩
  have ht0 : upd H t (.frz od (.dT kvs)) t = some (.frz od (.dT kvs)) := upd_same
  have ha0 := lk (od := od) ht ha (fun z => nomatch z)
  have hb0 := lk (od := od) ht hb (fun z => nomatch z)
  refine ⟨_, rfl, _, _, rfl, .inr ⟨_, ht0, fun D hD => ?_⟩⟩
  have nDd : D ≠ t := fun z => by subst z; rw [ht0] at hD; cases hD
  have hDH : H D = none := by rw [upd_ne nDd] at hD; exact hD
  refine dc_it (walk_keysT (kvs := kvs)) (fun k H' => ∃ (K2 : List (List Key × V)) (m' : Str × Int → Option Int), Same (upd H t (.frz od (.dT kvs))) H' ∧ H' D = some (.dT K2) ∧ DTI K2 m' ∧ K2.length ≤ k ∧ ∀ n z v, m' (n, z) = some v → m (n, z) = some v ∧ n ∉ ns ∧ z ∉ zs) ?_ ?_ ?_ ?_
  · exact ⟨[], fun _ => none, same_new hD, upd_same, .nil, Nat.le_refl _, fun n z v e => (nomatch e)⟩
  · rintro k H' _ ⟨_, _, s, _⟩
    exact s _ _ ht0
  · rintro k x H1 H2 hk ⟨K2, m', s, hDk, hm', hl2, hmi⟩ ⟨rfl, ky, v, kt, hkv, rfl, hkt⟩
    obtain ⟨⟨n, z⟩, v0, rfl, rfl, hv⟩ := hm.ix kNP_inj hkv
    have keep : ∃ (K2 : List (List Key × V)) (m' : Str × Int → Option Int), Same (upd H t (.frz od (.dT kvs))) H2 ∧ H2 D = some (.dT K2) ∧ DTI K2 m' ∧ K2.length ≤ k + 1 ∧ ∀ n z v, m' (n, z) = some v → m (n, z) = some v ∧ n ∉ ns ∧ z ∉ zs := ⟨K2, m', s, hDk, hm', by omega, hmi⟩
    refine ⟨rfl, _, rfl, _, _, _, _, rfl, rfl, SqT.of hkt, atI_nat (j := 0) rfl, _, rfl, _, _, rfl, .inl (SqL.of (s _ _ ha0)), rfl, flat_str ns, _, rfl, ?_⟩
    show if (!inV (.str n) (ns.map V.str)) = true then _ else _
    rw [inV_str]
    by_cases h1 : n ∈ ns
    · rw [decide_eq_true h1]; exact iteF (iteF keep)
    rw [decide_eq_false h1]
    refine iteT ⟨_, rfl, _, _, _, _, rfl, rfl, SqT.of hkt, atI_nat (j := 1) rfl, _, rfl, _, _, rfl, .inl (SqL.of (s _ _ hb0)), rfl, flat_int zs, _, rfl, ?_⟩
    show if (!inV (.int z) (zs.map V.int)) = true then _ else _
    rw [inV_int]
    by_cases h2 : z ∈ zs
    · rw [decide_eq_true h2]; exact iteF keep
    rw [decide_eq_false h2]
    refine iteT ⟨_, rfl, _, rfl, _, rfl, _, _, rfl, (by have := dget_rdT (kNP (n, z)) (.inr ⟨_, s _ _ ht0⟩) hkt; rw [hm.get hv] at this; exact this), _, dput_t _ (.int v0) hDk hkt (by have := (List.getElem?_eq_some_iff.mp hkv).1; omega), _, _, s.at hD, upd_same, hm'.put kNP_inj (n, z) v0, by have := length_putK K2 (kNP (n, z)) (V.int v0); omega, fun n' z' v' e => ?_⟩
    by_cases e2 : (n', z') = (n, z)
    · rw [e2, KM.fup_same] at e
      cases e; cases e2
      exact ⟨hv, h1, h2⟩
    · rw [KM.fup_ne e2] at e; exact hmi _ _ _ e
  · rintro H' ⟨K2, m', s, hDk, hm', hl2, hmi⟩
    exact ⟨s _ _ ht0, q _ D m' (unlock ht s) hDH ⟨K2, by rw [upd_ne nDd]; exact hDk, hm', by omega⟩ hmi⟩
/-! ### the names, the places -/
def five : List Str := ["blue", "ab", "red", "zz", "b"]
theorem nodup_le {α : Type} [DecidableEq α] : ∀ {ks l : List α}, ks.Nodup → (∀ k ∈ ks, k ∈ l) → ks.length ≤ l.length
  | [], _, _, _ => Nat.zero_le _
  | k :: r, l, nd, h => by
    obtain ⟨h1, h2⟩ := List.nodup_cons.mp nd
    have hk := h k List.mem_cons_self
    have := nodup_le (ks := r) (l := l.erase k) h2 fun x hx => (List.mem_erase_of_ne fun z : x = k => h1 (z ▸ hx)).mpr (h x (List.mem_cons_of_mem _ hx))
    rw [List.length_erase_of_mem hk] at this
    have := List.length_pos_of_mem hk
    rw [List.length_cons]; omega
/-- its keys -/
theorem DM.keys {κ A B : Type} [DecidableEq κ] [DecidableEq A] {f : A → κ} {g : B → V} {kvs : List (κ × V)} {m : A → Option B} (h : DM f g kvs m) : ∃ ks : List A, kvs.map (·.1) = ks.map f ∧ ks.Nodup ∧ (∀ k ∈ ks, ∃ b, m k = some b) ∧ ∀ k b, m k = some b → f k ∈ ks.map f := by
  have : ∀ kv2 : List (κ × V), (∀ p ∈ kv2, p ∈ kvs) → ∃ ks : List A, kv2.map (·.1) = ks.map f ∧ ∀ k ∈ ks, ∃ b, m k = some b := by
    intro kv2
    induction kv2 with
    | nil => intro _; exact ⟨[], rfl, fun k hk => (nomatch hk)⟩
    | cons p r ih =>
      intro hp
      obtain ⟨ks, e1, e2⟩ := ih fun q hq => hp q (List.mem_cons_of_mem _ hq)
      obtain ⟨a, b, e3⟩ := h.el p (hp p List.mem_cons_self)
      have hv : valV kvs (f a) = some (g b) := valV_of_mem h.nd (e3 ▸ hp p List.mem_cons_self)
      rw [h.at_] at hv
      obtain ⟨b', hb', _⟩ := Option.map_eq_some_iff.mp hv
      refine ⟨a :: ks, by rw [List.map_cons, e1, e3]; rfl, fun k hk => ?_⟩
      rcases List.mem_cons.mp hk with rfl | hk
      · exact ⟨_, hb'⟩
      · exact e2 k hk
  obtain ⟨ks, e1, e2⟩ := this kvs fun _ h => h
  refine ⟨ks, e1, ?_, e2, fun k b e => ?_⟩
  · have := h.nd
    rw [e1] at this
    exact List.Pairwise.of_map f (fun a b h e => h (by rw [e])) this
  · rw [← e1]; exact valV_in (h.get e)
def spTNames : Sp := fun vs H Q _ => ∃ (t : Addr) (m : Str × Int → Option Int), vs = [.ref t] ∧ TabAt H t m ∧ (∀ n z v, m (n, z) = some v → n ∈ five) ∧
  ∀ (H' : Hp) (p : Addr) (ns : List Str), Same H H' → H p = none → H' p = some (.lst (ns.map V.str)) → ns.length ≤ 20 → (∀ n z v, m (n, z) = some v → n ∈ ns) → Q (.ref p) H'
theorem ok_table_names {P : Program} {w : World} {K : PySem.W.Frag} {mg : Str → Option Value} {base : Heap} (T : Tx K mg) : Cal P w K mg base 1 "table_names" spTNames [] := by
  obtain ⟨fd, F⟩ := T.d_table_names
  have bd : Binds K fd ["table"] [] := F.binds fun _ _ _ _ _ _ us hl => match us, hl with | [_], _ => rfl
  refine cal_of (F.ok sc_table_names (fun vs H Q E h => ?len) (fun cdv A outer s H vs Q E hr h => ?body)) bd T.g_table_names T.k_table_names
  case len => exact (by first | (obtain ⟨rfl, _⟩ := h; rfl) | (obtain ⟨_, rfl, _⟩ := h; rfl) | (obtain ⟨_, _, rfl, _⟩ := h; rfl) | (obtain ⟨_, _, _, rfl, _⟩ := h; rfl) | (obtain ⟨_, _, _, _, rfl, _⟩ := h; rfl) | (obtain ⟨_, _, _, _, _, rfl, _⟩ := h; rfl) | (obtain ⟨_, _, _, _, _, _, rfl, _⟩ := h; rfl) | (obtain ⟨_, _, _, _, _, _, _, rfl, _⟩ := h; rfl) | (obtain ⟨_, _, _, _, _, _, _, _, rfl, _⟩ := h; rfl) | (obtain ⟨_, _, _, _, _, _, _, _, _, rfl, _⟩ := h; rfl) | (obtain ⟨_, _, _, _, _, _, _, _, _, _, rfl, _⟩ := h; rfl) | (obtain ⟨_, _, _, _, _, _, _, _, _, _, _, rfl, _⟩ := h; rfl) | (obtain ⟨_, _, _, _, _, _, _, _, _, _, _, _, rfl, _⟩ := h; rfl) | (obtain ⟨_, _, _, _, _, _, _, _, _, _, _, _, _, rfl, _⟩ := h; rfl) | (obtain ⟨_, _, _, _, _, _, _, _, _, _, _, _, _, _, rfl, _⟩ := h; rfl) | (obtain ⟨_, _, _, _, _, _, _, _, _, _, _, _, _, _, _, rfl, _⟩ := h; rfl))
  case body =>
  have hu := hu_of hr
  refine ⟨_, (pss_one (ps_ret (pe_callB (call_sortedD rfl) (by rfl) T.z_sorted (by decide +kernel) (pa_cons (pe_lock (pe_dc1 (own := [("name", 1), ("place", 2)]) (.inl rfl) hu rfl sc_table_names.nd (pi_keys (pv 0)) (blkOk_by (own := [("name", 1), ("place", 2)]) (N := N_table_names) (sc := defScope s_table_names) (by decide +kernel)) (fun _ _ _ _ _ => by exact (pg_tupK K rfl 2 rfl (pgs_cons (pg_name (i := 1) sc_table_names.nd rfl (Or.inl rfl)) (pgs_cons (pg_name (i := 2) sc_table_names.nd rfl (Or.inl rfl)) pgs_nil)))) (fun _ _ _ _ _ => pts_nil) (fun _ _ _ _ _ => (pv 1)) (fun _ _ _ _ _ => pe_bl))) pa_nil)))), ?_⟩
  obtain ⟨t, m, rfl, ⟨kvs, ht, hm, hl⟩, h5, q⟩ := h
  refine ⟨t, _, ht, trivial, fun od => ?_⟩
  have ht0 : upd H t (.frz od (.dT kvs)) t = some (.frz od (.dT kvs)) := upd_same
  refine ⟨_, rfl, _, _, rfl, .inr ⟨_, ht0, fun D hD => ?_⟩⟩
  have nDd : D ≠ t := fun z => by subst z; rw [ht0] at hD; cases hD
  have hDH : H D = none := by rw [upd_ne nDd] at hD; exact hD
  refine dc_it (walk_keysT (kvs := kvs)) (fun k H' => ∃ (K2 : List (Key × V)) (m1 : Str → Option Bool), Same (upd H t (.frz od (.dT kvs))) H' ∧ H' D = some (.dK K2) ∧ DM Sum.inr V.bl K2 m1 ∧ K2.length ≤ k ∧ (∀ n b, m1 n = some b → n ∈ five) ∧ ∀ n z, Seen kvs k (kNP (n, z)) → ∃ b, m1 n = some b) ?_ ?_ ?_ ?_
  · exact ⟨[], fun _ => none, same_new hD, upd_same, .nil, Nat.le_refl _, fun n b e => (nomatch e), fun n z e => absurd e seen0⟩
  · rintro k H' _ ⟨_, _, s, _⟩
    exact s _ _ ht0
  · rintro k x H1 H2 hk ⟨K2, m1, s, hDk, hm1, hl2, hmi, hse⟩ ⟨rfl, ky, v, kt, hkv, rfl, hkt⟩
    obtain ⟨⟨n, z⟩, v0, rfl, rfl, hv⟩ := hm.ix kNP_inj hkv
    refine ⟨_, _, rfl, SqT.of hkt, rfl, _, _, rfl, _, _, rfl, rfl, rfl, yes (iteT ⟨_, rfl, _, dput_k (.inr n) (.bl true) hDk (by have := (List.getElem?_eq_some_iff.mp hkv).1; omega), _, _, s.at hD, upd_same, hm1.put inr_inj n true, by have := length_putK K2 (.inr n) (V.bl true); omega, fun n' b e => ?_, fun n' z' e => ?_⟩)⟩
    · by_cases e2 : n' = n
      · rw [e2]; exact h5 n z v0 hv
      · rw [KM.fup_ne e2] at e; exact hmi _ _ e
    · by_cases e2 : n' = n
      · rw [e2, KM.fup_same]; exact ⟨_, rfl⟩
      · rw [KM.fup_ne e2]
        rcases (seen_succ hkv).mp e with e | e
        · exact hse _ _ e
        · exact absurd (congrArg Prod.fst (kNP_inj _ _ e)) e2
  · rintro H' ⟨K2, m1, s, hDk, hm1, hl2, hmi, hse⟩
    refine ⟨s _ _ ht0, ?_⟩
    obtain ⟨ks, e1, e2, e3, e4⟩ := hm1.keys
    have hks : ks.length ≤ 5 := nodup_le (l := five) e2 fun k hk => let ⟨b, e⟩ := e3 k hk; hmi k b e
    refine ⟨D, K2, ks, rfl, .inl (by rw [upd_ne nDd]; exact hDk), e1, by omega, fun ys p hpm _ hp => ?_⟩
    have s3 := (unlock ht s).new (o := .lst (ys.map V.str)) hp
    refine q _ p ys s3 ((unlock ht s).free hp) upd_same (by have := hpm.length_eq; omega) fun n z v e => ?_
    obtain ⟨b, hb⟩ := hse n z (hm.seen e)
    obtain ⟨k, hk, e5⟩ := List.mem_map.mp (e4 n b hb)
    cases e5
    exact hpm.mem_iff.mpr hk
def spTPlaces : Sp := fun vs H Q _ => ∃ (t : Addr) (m : Str × Int → Option Int), vs = [.ref t] ∧ TabAt H t m ∧ (∀ n z v, m (n, z) = some v → ∃ j : Nat, z = j ∧ j < 20) ∧
  ∀ (H' : Hp) (p : Addr) (zs : List Int), Same H H' → H p = none → H' p = some (.lst (zs.map V.int)) → zs.length ≤ 20 → (∀ n z v, m (n, z) = some v → z ∈ zs) → Q (.ref p) H'
theorem ok_table_places {P : Program} {w : World} {K : PySem.W.Frag} {mg : Str → Option Value} {base : Heap} (T : Tx K mg) : Cal P w K mg base 1 "table_places" spTPlaces [] := by
  obtain ⟨fd, F⟩ := T.d_table_places
  have bd : Binds K fd ["table"] [] := F.binds fun _ _ _ _ _ _ us hl => match us, hl with | [_], _ => rfl
  refine cal_of (F.ok sc_table_places (fun vs H Q E h => ?len) (fun cdv A outer s H vs Q E hr h => ?body)) bd T.g_table_places T.k_table_places
  case len => exact (by first | (obtain ⟨rfl, _⟩ := h; rfl) | (obtain ⟨_, rfl, _⟩ := h; rfl) | (obtain ⟨_, _, rfl, _⟩ := h; rfl) | (obtain ⟨_, _, _, rfl, _⟩ := h; rfl) | (obtain ⟨_, _, _, _, rfl, _⟩ := h; rfl) | (obtain ⟨_, _, _, _, _, rfl, _⟩ := h; rfl) | (obtain ⟨_, _, _, _, _, _, rfl, _⟩ := h; rfl) | (obtain ⟨_, _, _, _, _, _, _, rfl, _⟩ := h; rfl) | (obtain ⟨_, _, _, _, _, _, _, _, rfl, _⟩ := h; rfl) | (obtain ⟨_, _, _, _, _, _, _, _, _, rfl, _⟩ := h; rfl) | (obtain ⟨_, _, _, _, _, _, _, _, _, _, rfl, _⟩ := h; rfl) | (obtain ⟨_, _, _, _, _, _, _, _, _, _, _, rfl, _⟩ := h; rfl) | (obtain ⟨_, _, _, _, _, _, _, _, _, _, _, _, rfl, _⟩ := h; rfl) | (obtain ⟨_, _, _, _, _, _, _, _, _, _, _, _, _, rfl, _⟩ := h; rfl) | (obtain ⟨_, _, _, _, _, _, _, _, _, _, _, _, _, _, rfl, _⟩ := h; rfl) | (obtain ⟨_, _, _, _, _, _, _, _, _, _, _, _, _, _, _, rfl, _⟩ := h; rfl))
  case body =>
  have hu := hu_of hr
  refine ⟨_, (pss_one (ps_ret (pe_callB (call_sortedDI rfl) (by rfl) T.z_sorted (by decide +kernel) (pa_cons (pe_lock (pe_dc1 (own := [("name", 1), ("place", 2)]) (.inl rfl) hu rfl sc_table_places.nd (pi_keys (pv 0)) (blkOk_by (own := [("name", 1), ("place", 2)]) (N := N_table_places) (sc := defScope s_table_places) (by decide +kernel)) (fun _ _ _ _ _ => by exact (pg_tupK K rfl 2 rfl (pgs_cons (pg_name (i := 1) sc_table_places.nd rfl (Or.inl rfl)) (pgs_cons (pg_name (i := 2) sc_table_places.nd rfl (Or.inl rfl)) pgs_nil)))) (fun _ _ _ _ _ => pts_nil) (fun _ _ _ _ _ => (pv 2)) (fun _ _ _ _ _ => pe_bl))) pa_nil)))), ?_⟩
  obtain ⟨t, m, rfl, ⟨kvs, ht, hm, hl⟩, h5, q⟩ := h
  refine ⟨t, _, ht, trivial, fun od => ?_⟩
  have ht0 : upd H t (.frz od (.dT kvs)) t = some (.frz od (.dT kvs)) := upd_same
  refine ⟨_, rfl, _, _, rfl, .inr ⟨_, ht0, fun D hD => ?_⟩⟩
  have nDd : D ≠ t := fun z => by subst z; rw [ht0] at hD; cases hD
  have hDH : H D = none := by rw [upd_ne nDd] at hD; exact hD
  refine dc_it (walk_keysT (kvs := kvs)) (fun k H' => ∃ (K2 : List (Key × V)) (m1 : Int → Option Bool), Same (upd H t (.frz od (.dT kvs))) H' ∧ H' D = some (.dK K2) ∧ DM Sum.inl V.bl K2 m1 ∧ K2.length ≤ k ∧ (∀ n b, m1 n = some b → ∃ j : Nat, n = j ∧ j < 20) ∧ ∀ n z, Seen kvs k (kNP (n, z)) → ∃ b, m1 z = some b) ?_ ?_ ?_ ?_
  · exact ⟨[], fun _ => none, same_new hD, upd_same, .nil, Nat.le_refl _, fun n b e => (nomatch e), fun n z e => absurd e seen0⟩
  · rintro k H' _ ⟨_, _, s, _⟩
    exact s _ _ ht0
  · rintro k x H1 H2 hk ⟨K2, m1, s, hDk, hm1, hl2, hmi, hse⟩ ⟨rfl, ky, v, kt, hkv, rfl, hkt⟩
    obtain ⟨⟨n, z⟩, v0, rfl, rfl, hv⟩ := hm.ix kNP_inj hkv
    refine ⟨_, _, rfl, SqT.of hkt, rfl, _, _, rfl, _, _, rfl, rfl, rfl, yes (iteT ⟨_, rfl, _, dput_k (.inl z) (.bl true) hDk (by have := (List.getElem?_eq_some_iff.mp hkv).1; omega), _, _, s.at hD, upd_same, hm1.put inl_inj z true, by have := length_putK K2 (.inl z) (V.bl true); omega, fun n' b e => ?_, fun n' z' e => ?_⟩)⟩
    · by_cases e2 : n' = z
      · rw [e2]; exact h5 n z v0 hv
      · rw [KM.fup_ne e2] at e; exact hmi _ _ e
    · by_cases e2 : z' = z
      · rw [e2, KM.fup_same]; exact ⟨_, rfl⟩
      · rw [KM.fup_ne e2]
        rcases (seen_succ hkv).mp e with e | e
        · exact hse _ _ e
        · exact absurd (congrArg Prod.snd (kNP_inj _ _ e)) e2
  · rintro H' ⟨K2, m1, s, hDk, hm1, hl2, hmi, hse⟩
    refine ⟨s _ _ ht0, ?_⟩
    obtain ⟨ks, e1, e2, e3, e4⟩ := hm1.keys
    have hks : ks.length ≤ 20 := by
      have := nodup_le (l := (List.range 20).map fun j => ((j : Nat) : Int)) e2 fun k hk => by
        obtain ⟨b, e⟩ := e3 k hk
        obtain ⟨j, rfl, hj⟩ := hmi k b e
        exact List.mem_map.mpr ⟨j, List.mem_range.mpr hj, rfl⟩
      rw [List.length_map, List.length_range] at this
      exact this
    refine ⟨D, K2, ks, rfl, .inl (by rw [upd_ne nDd]; exact hDk), e1, by omega, fun ys p hpm _ hp => ?_⟩
    have s3 := (unlock ht s).new (o := .lst (ys.map V.int)) hp
    refine q _ p ys s3 ((unlock ht s).free hp) upd_same (by have := hpm.length_eq; omega) fun n z v e => ?_
    obtain ⟨b, hb⟩ := hse n z (hm.seen e)
    obtain ⟨k, hk, e5⟩ := List.mem_map.mp (e4 z b hb)
    cases e5
    exact hpm.mem_iff.mpr hk
end KN

set_option Elab.async false
set_option linter.all false
set_option maxRecDepth 100000
set_option maxHeartbeats 4000000
/-! the exact weights -/
namespace KN
open PySem PySem.Spec PyProof.Rows L2 ClX StX
open C8 (Cal Met Mak CalAt pe_c pe_mk pe_mt pe_mt0 pss_cut tCut pe_gc)
theorem first_ix {α : Type} [DecidableEq α] : ∀ {l : List α} {x : α}, x ∈ l → ∃ j : Nat, l[j]? = some x ∧ j < l.length ∧ ∀ (k : Nat) (y : α), k < j → l[k]? = some y → y ≠ x
  | a :: r, x, h => by
    by_cases e : a = x
    · subst e; exact ⟨0, rfl, by simp, fun k y hk => by omega⟩
    · obtain ⟨j, h1, h2, h3⟩ := first_ix ((List.mem_cons.mp h).resolve_left fun z => e z.symm)
      refine ⟨j + 1, h1, by simp; omega, fun k y hk hy => ?_⟩
      cases k with
      | zero => cases hy; exact e
      | succ k => exact h3 k y (by omega) hy
theorem iteND {c A B : Prop} [Decidable c] (h : ¬ c) (a : A) : if (!decide c) = true then A else B := by rw [decide_eq_false h]; exact iteT a
theorem mul_bd {a b A B : Int} (h1 : 0 ≤ a) (h2 : a ≤ A) (h3 : 0 ≤ b) (h4 : b ≤ B) : 0 ≤ a * b ∧ a * b ≤ A * B :=
  ⟨Int.mul_nonneg h1 h3, Int.mul_le_mul h2 h4 h3 (Int.le_trans h1 h2)⟩
def spExact : Sp := fun vs H Q _ => ∃ (t h : Addr) (m : Str × Int → Option Int) (kh : List (Key × V)) (hm : Str → Option Int), vs = [.ref t, .ref h] ∧ TabAt H t m ∧ H h = some (.dK kh) ∧ DSI kh hm ∧ (∀ n z v, m (n, z) = some v → n ∈ five ∧ (∃ j : Nat, z = j ∧ j < 20) ∧ 0 ≤ v ∧ v ≤ 400000000) ∧
  ∀ (H' : Hp) (p : Addr) (m' : Str × Int → Option Int), Same H H' → H p = none → TabAt H' p m' → (∀ n z v, m' (n, z) = some v → ∃ w, m (n, z) = some w) → Q (.ref p) H'
theorem ok_exact_table {P : Program} {w : World} {K : PySem.W.Frag} {mg : Str → Option Value} {base : Heap} (T : Tx K mg) : CK P w K mg base 2 "exact_table" 1 ["homes"] (fun vs zs => vs ++ zs) spExact := by
  obtain ⟨fd, F⟩ := T.d_exact_table
  have G_table_names := ok_table_names (P := P) (w := w) (base := base) T
  have G_table_places := ok_table_places (P := P) (w := w) (base := base) T
  refine ⟨_, fd, ["table", "homes"], _, (F.ok sc_exact_table (fun vs H Q E h => ?len) (fun cdv A outer s H vs Q E hr h => ?body)), T.g_exact_table, T.k_exact_table, kbn_of F 1 ["homes"] (fun us ws => us ++ ws) (fun r1 r2 => r1.append r2) (fun _ _ _ _ _ _ us ws l1 l2 => match us, ws, l1, l2 with | [_], [_], _, _ => rfl)⟩
  case len => exact (by first | (obtain ⟨rfl, _⟩ := h; rfl) | (obtain ⟨_, rfl, _⟩ := h; rfl) | (obtain ⟨_, _, rfl, _⟩ := h; rfl) | (obtain ⟨_, _, _, rfl, _⟩ := h; rfl) | (obtain ⟨_, _, _, _, rfl, _⟩ := h; rfl) | (obtain ⟨_, _, _, _, _, rfl, _⟩ := h; rfl) | (obtain ⟨_, _, _, _, _, _, rfl, _⟩ := h; rfl) | (obtain ⟨_, _, _, _, _, _, _, rfl, _⟩ := h; rfl) | (obtain ⟨_, _, _, _, _, _, _, _, rfl, _⟩ := h; rfl) | (obtain ⟨_, _, _, _, _, _, _, _, _, rfl, _⟩ := h; rfl) | (obtain ⟨_, _, _, _, _, _, _, _, _, _, rfl, _⟩ := h; rfl) | (obtain ⟨_, _, _, _, _, _, _, _, _, _, _, rfl, _⟩ := h; rfl) | (obtain ⟨_, _, _, _, _, _, _, _, _, _, _, _, rfl, _⟩ := h; rfl) | (obtain ⟨_, _, _, _, _, _, _, _, _, _, _, _, _, rfl, _⟩ := h; rfl) | (obtain ⟨_, _, _, _, _, _, _, _, _, _, _, _, _, _, rfl, _⟩ := h; rfl) | (obtain ⟨_, _, _, _, _, _, _, _, _, _, _, _, _, _, _, rfl, _⟩ := h; rfl))
  case body =>
  have hu := hu_of hr
  refine ⟨_, (pss_cons (ps_par rfl sc_exact_table.nd (i := 2) (j := 3) rfl rfl (by decide) rfl rfl (pa_cons (pe_c G_table_names hr (by decide) (by rfl) (pa_cons (pv 0) pa_nil)) (pa_cons (pe_c G_table_places hr (by decide) (by rfl) (pa_cons (pv 0) pa_nil)) pa_nil)) rfl)
      (pss_cons (ps_set (i := 4) sc_exact_table.nd rfl (Or.inl rfl) (pe_lst (pa_cons pe_int pa_nil)))
      (pss_cons (ps_for PassesOwn.never rfl (pi_listK K rfl (pv 2)) (pg_name (i := 5) sc_exact_table.nd rfl (Or.inl rfl))
      (pss_one (ps_expr (pe_bm PySem.F.plainAttrs_list PySem.F.slot_list_append PySem.F.type_list_append mt_append (pv 4) (pa_cons (pe_op op_mul (pe_ix (ixL K rfl) (pv 4) (pe_un un_neg pe_int) (fun _ _ => rfl)) (pe_op op_add (pe_callB (lenS K rfl) (by rfl) T.z_len PySem.boot_len (pa_cons (pv 3) pa_nil)) pe_int)) pa_nil)))))
      (pss_cons (ps_set (i := 6) sc_exact_table.nd rfl (Or.inl rfl) pe_dnewT)
      (pss_cons (ps_lock (ps_for PassesOwn.never rfl (pi_itemsT (pv 0)) (pg_tup rfl (pgs_cons (pg_name (i := 7) sc_exact_table.nd rfl (Or.inl rfl)) (pgs_cons (pg_name (i := 8) sc_exact_table.nd rfl (Or.inl rfl)) pgs_nil)))
      (pss_cons (ps_asg (pv 7) (pg_tup rfl (pgs_cons (pg_name (i := 5) sc_exact_table.nd rfl (Or.inl rfl)) (pgs_cons (pg_name (i := 9) sc_exact_table.nd rfl (Or.inl rfl)) pgs_nil))))
      (pss_cut (ps_set (i := 10) sc_exact_table.nd rfl (Or.inl rfl) (pe_and (pe_cmpR op_notN (pv 1) pe_non (nomark _)) (pe_and (pe_cmp (pc_din hu (pv 5) (pv 1)) rfl) (pe_one (pe_cmpR op_eq (pe_dget hu (pv 1) (pv 5) (fun _ _ => rfl)) (pv 9) (nomark _))))))
      (pss_cons (ps_set (i := 11) sc_exact_table.nd rfl (Or.inl rfl) (pe_op op_mul (pe_op op_sub (pe_callB (lenS K rfl) (by rfl) T.z_len PySem.boot_len (pa_cons (pv 3) pa_nil)) (pe_bm PySem.F.plainAttrs_list PySem.F.slot_list_index PySem.F.type_list_index mt_index (pv 3) (pa_cons (pv 9) pa_nil))) (pe_ix (ixL K rfl) (pv 4) (pe_op op_sub (pe_op op_sub (pe_callB (lenS K rfl) (by rfl) T.z_len PySem.boot_len (pa_cons (pv 2) pa_nil)) pe_int) (pe_bm PySem.F.plainAttrs_list PySem.F.slot_list_index PySem.F.type_list_index mt_index (pv 2) (pa_cons (pv 5) pa_nil))) (fun _ _ => rfl))))
      (pss_cons (ps_set (i := 12) sc_exact_table.nd rfl (Or.inl rfl) (pe_op op_add (pe_op op_mul (pe_op op_add (pe_op op_mul (pv 8) (pe_op op_add (pe_callB (lenS K rfl) (by rfl) T.z_len PySem.boot_len (pa_cons (pv 2) pa_nil)) pe_int)) pe_int) (pe_op op_add (pe_callB (lenS K rfl) (by rfl) T.z_len PySem.boot_len (pa_cons (pv 2) pa_nil)) pe_int)) (pe_callTy call_int1 (by rfl) T.z_int (by decide +kernel) (pa_cons (pv 10) pa_nil))))
      (pss_one (ps_dput hu (pv 6) (pv 7) (pe_op op_add (pe_op op_mul (pv 12) (pe_ix (ixL K rfl) (pv 4) (pe_callB (lenS K rfl) (by rfl) T.z_len PySem.boot_len (pa_cons (pv 2) pa_nil)) (fun _ _ => rfl))) (pv 11)) rfl))))))))
      (pss_one (ps_ret (pv 6)))))))), ?_⟩
  obtain ⟨t, h, m, kh, hmap, rfl, hT, hh, hhm, hb, q⟩ := h
  refine ⟨_, rfl, t, m, rfl, hT, fun n z v e => (hb n z v e).1, fun H1 a1 ns s1 ha1 hns hnl hnm => ?_⟩
  refine ⟨_, rfl, t, m, rfl, hT.same s1, fun n z v e => (hb n z v e).2.1, fun H2 a2 zs s2 ha2 hzs hzl hzm => ?_⟩
  have s02 := s1.trans s2
  have hns2 := s2 _ _ hns
  refine ⟨_, _, rfl, Nat.succ_le_of_lt (by decide), fun pw hpw => ?_⟩
  have npa : a1 ≠ pw := fun z => by subst z; rw [hns2] at hpw; cases hpw
  have npz : a2 ≠ pw := fun z => by subst z; rw [hzs] at hpw; cases hpw
  have hpwH := s02.free hpw
  have hns3 : upd H2 pw (.lst [.int 1]) a1 = some (.lst (ns.map V.str)) := by rw [upd_ne npa]; exact hns2
  have hzs3 : upd H2 pw (.lst [.int 1]) a2 = some (.lst (zs.map V.int)) := by rw [upd_ne npz]; exact hzs
  refine ⟨_, rfl, _, rfl, ⟨_, SqL.of hns3⟩, ?_⟩
  refine for_it (walk_list (K := K) (a := a1) (xs := ns.map V.str)) (fun k σ H' => ∃ (v : Option V) (pws : List Int) (la : Int), σ = [some (.ref t), some (.ref h), some (.ref a1), some (.ref a2), some (.ref pw), v, none, none, none, none, none, none, none] ∧ Same H H' ∧ H' a1 = some (.lst (ns.map V.str)) ∧ H' a2 = some (.lst (zs.map V.int)) ∧
    H' pw = some (.lst (pws.map V.int ++ [V.int la])) ∧ pws.length = k) ?_ ?_ ?_ ?_
  · exact ⟨none, [], 1, rfl, s02.new hpw, hns3, hzs3, upd_same, rfl⟩
  · rintro k σ H' _ ⟨v, pws, la, rfl, s, h1, _⟩
    exact SqL.of h1
  · rintro k x σ H3 H4 hk ⟨v, pws, la, rfl, s, h1, h2, h3, h4⟩ ⟨rfl, hx⟩
    rw [List.getElem?_map] at hx
    obtain ⟨n, hn, rfl⟩ := Option.map_eq_some_iff.mp hx
    have hk20 : k < 20 := by rw [List.length_map] at hk; omega
    refine ⟨_, rfl, .inl ⟨rfl, _, SqL.of h3⟩, _, rfl, _, rfl, _, _, _, _, rfl, rfl, SqL.of h3, atI_last _ _, _, rfl, _, _, rfl, .inl (SqL.of h2), _, _, rfl, rfl, _, _, rfl, rfl, .inr ⟨by rw [List.length_map]; omega, by rw [List.length_map]; omega⟩, pw, _, _, rfl, rfl, h3, small1000 (by rw [List.length_append, List.length_map]; simp; omega), ?_⟩
    refine ⟨_, pws ++ [la], _, rfl, s.at hpwH, by rw [upd_ne npa]; exact h1, by rw [upd_ne npz]; exact h2, by rw [upd_same, List.map_append]; rfl, by simp [h4]⟩
  · rintro σ H3 ⟨v, pws, la, rfl, s, h1, h2, h3, h4⟩
    rw [List.length_map] at h4
    obtain ⟨kvs, ht, hm, hl⟩ := (hT.same s).ex
    have hpws : ∃ qs : List Int, H3 pw = some (.lst (qs.map V.int)) ∧ qs.length = ns.length + 1 := ⟨pws ++ [la], by rw [List.map_append]; exact h3, by simp [h4]⟩
    clear h3 h4
    obtain ⟨qs, h3, h4⟩ := hpws
    refine fun f hf => ?_
    have hfH := s.free hf
    have sf : Same H (upd H3 f (.dT [])) := s.new hf
    have htf : upd H3 f (.dT []) t = some (.dT kvs) := (same_new hf) _ _ ht
    have e1 := (same_new (o := .dT []) hf) _ _ h1
    have e2 := (same_new (o := .dT []) hf) _ _ h2
    have e3 := (same_new (o := .dT []) hf) _ _ h3
    have hff : upd H3 f (.dT []) f = some (.dT []) := upd_same
    have hhf := sf _ _ hh
    have nft : f ≠ t := fun z => by subst z; rw [hf] at ht; cases ht
    generalize upd H3 f (.dT []) = H4 at sf htf e1 e2 e3 hff hhf
    refine ⟨t, _, htf, trivial, fun od => ?_⟩
    have ht0 : upd H4 t (.frz od (.dT kvs)) t = some (.frz od (.dT kvs)) := upd_same
    have f1 := lk (od := od) htf e1 (fun z => nomatch z)
    have f2 := lk (od := od) htf e2 (fun z => nomatch z)
    have f3 := lk (od := od) htf e3 (fun z => nomatch z)
    have f4 : upd H4 t (.frz od (.dT kvs)) f = some (.dT []) := by rw [upd_ne nft]; exact hff
    have f5 := lk (od := od) htf hhf (fun z => nomatch z)
    generalize hB : upd H4 t (.frz od (.dT kvs)) = B at ht0 f1 f2 f3 f4 f5
    refine ⟨_, rfl, _, _, _, rfl, ht0, ?_⟩
    refine for_it (walk_itemsT (kvs := kvs)) (fun k σ H' => ∃ (v v7 v8 v9 v10 v11 v12 : Option V) (K2 : List (List Key × V)) (m' : Str × Int → Option Int), σ = [some (.ref t), some (.ref h), some (.ref a1), some (.ref a2), some (.ref pw), v, some (.ref f), v7, v8, v9, v10, v11, v12] ∧
      (∀ b o, b ≠ f → B b = some o → H' b = some o) ∧ H' f = some (.dT K2) ∧ DTI K2 m' ∧ K2.length ≤ k ∧ ∀ n z v, m' (n, z) = some v → ∃ w, m (n, z) = some w) ?_ ?_ ?_ ?_
    · exact ⟨_, _, _, _, _, _, _, [], fun _ => none, rfl, fun b o _ e => e, f4, .nil, Nat.le_refl _, fun n z v e => (nomatch e)⟩
    · rintro k σ H' _ ⟨_, _, _, _, _, _, _, _, _, _, sB, _⟩
      exact sB _ _ nft.symm ht0
    · rintro k x σ H5 H6 hk ⟨v, v7, v8, v9, v10, v11, v12, K2, m', rfl, sB, hfK, hm', hl2, hmi⟩ ⟨T, ky, y, kt, hkv, hkt, rfl, hTn, rfl⟩
      obtain ⟨⟨n, z⟩, wt, rfl, rfl, hv⟩ := hm.ix kNP_inj hkv
      obtain ⟨hn5, ⟨j, rfl, hj⟩, hw0, hw1⟩ := hb n z wt hv
      have sT : ∀ b o, b ≠ f → B b = some o → upd H5 T (.tup [.ref kt, .int wt]) b = some o := fun b o hbf e => (same_new hTn) _ _ (sB b o hbf e)
      have hfT : upd H5 T (.tup [.ref kt, .int wt]) f = some (.dT K2) := (same_new hTn) _ _ hfK
      have hkT : upd H5 T (.tup [.ref kt, .int wt]) kt = some (.tup ((kNP (n, (j : Int))).map kV)) := (same_new hTn) _ _ hkt
      have hTT : upd H5 T (.tup [.ref kt, .int wt]) T = some (.tup [.ref kt, .int wt]) := upd_same
      generalize upd H5 T (.tup [.ref kt, .int wt]) = H7 at sT hfT hkT hTT
      have ne1 : a1 ≠ f := fun z => by subst z; rw [f1] at f4; cases f4
      have ne2 : a2 ≠ f := fun z => by subst z; rw [f2] at f4; cases f4
      have ne3 : pw ≠ f := fun z => by subst z; rw [f3] at f4; cases f4
      have ne4 : h ≠ f := fun z => by subst z; rw [hfH] at hh; cases hh
      have g1 := sT _ _ ne1 f1
      have g2 := sT _ _ ne2 f2
      have g3 := sT _ _ ne3 f3
      have g5 := sT _ _ ne4 f5
      refine ⟨T, _, rfl, SqT.of hTT, rfl, _, _, rfl, _, _, rfl, rfl, _, rfl, kt, _, rfl, SqT.of hkT, rfl, _, _, rfl, _, _, rfl, rfl, ?_⟩
      refine ⟨fun σ' H' => H' = H7 ∧ ∃ b : Bool, σ' = [some (.ref t), some (.ref h), some (.ref a1), some (.ref a2), some (.ref pw), some (.str n), some (.ref f), some (.ref kt), some (.int wt), some (.int j), some (.bl b), v11, v12], ?_, ?_⟩
      · refine ⟨_, rfl, rfl, _, rfl, iteND (fun z => nomatch z) ⟨_, rfl, _, rfl, _, _, rfl, dget_rd (.inr n) (.inl g5), _, rfl, ?_⟩⟩
        rw [hhm.at_]
        cases hn2 : hmap n with
        | none => exact iteF ⟨rfl, _, rfl⟩
        | some z2 => exact iteT ⟨_, rfl, _, rfl, _, _, rfl, (by have := dget_rd (.inr n) (Rd.of g5); rw [hhm.get hn2] at this; exact this), _, rfl, rfl, rfl, _, rfl⟩
      · rintro σ' H' ⟨rfl, b, rfl⟩
        obtain ⟨jn, j1, j2, j3⟩ := first_ix (hnm n _ wt hv)
        obtain ⟨jz, z1, z2, z3⟩ := first_ix (hzm n _ wt hv)
        have hi1 : jn < qs.length := by omega
        have hq : ns.length - 1 - jn < qs.length := by omega
        have hL0 : (0 : Int) ≤ ((ns.map V.str).length : Int) + 1 := by omega
        have hL1 : ((ns.map V.str).length : Int) + 1 ≤ 21 := by rw [List.length_map]; omega
        obtain ⟨m1, m2⟩ := mul_bd hw0 hw1 hL0 hL1
        obtain ⟨m3, m4⟩ := mul_bd (a := wt * (((ns.map V.str).length : Int) + 1) + 1) (A := 400000000 * 21 + 1) (by omega) (by omega) hL0 hL1
        refine ⟨_, rfl, _, _, rfl, .inl (SqL.of g2), _, rfl, .inl ⟨rfl, _, SqL.of g2⟩, _, rfl, a2, _, _, jz, .int j, rfl, rfl, SqL.of g2, rfl, flat_int zs, by rw [List.getElem?_map, z1]; rfl, by simp [eqV], ?_, _, _, rfl, rfl,
          _, rfl, _, rfl, _, _, rfl, .inl (SqL.of g1), _, _, rfl, rfl, _, rfl, .inl ⟨rfl, _, SqL.of g1⟩, _, rfl, a1, _, _, jn, .str n, rfl, rfl, SqL.of g1, rfl, flat_str ns, by rw [List.getElem?_map, j1]; rfl, by simp [eqV], ?_, _, _, rfl, rfl,
          _, _, _, _, rfl, rfl, SqL.of g3, at_of (j := ns.length - 1 - jn) (v := .int (qs[ns.length - 1 - jn])) (by rw [List.length_map]; omega) (by rw [List.getElem?_map, List.getElem?_eq_getElem hq]; rfl), _, _, rfl, rfl, .inl ⟨by rw [List.length_map]; omega, by rw [List.length_map]; omega⟩,
          _, rfl, _, rfl, _, _, rfl, .inl (SqL.of g1), _, _, rfl, rfl, _, _, rfl, rfl, .inl ⟨by omega, by omega⟩, _, _, rfl, rfl, _, rfl, _, _, rfl, .inl (SqL.of g1), _, _, rfl, rfl, _, _, rfl, rfl, .inr ⟨by omega, by omega⟩, _, rfl, .inr ⟨_, rfl, _, (if b then 1 else 0), rfl, by cases b <;> rfl, ?_⟩⟩
        · intro m z' hm hz'
          rw [List.getElem?_map] at hz'
          obtain ⟨z0, hz0, rfl⟩ := Option.map_eq_some_iff.mp hz'
          have := z3 m z0 hm hz0
          simp [eqV, this]
        · intro m z' hm hz'
          rw [List.getElem?_map] at hz'
          obtain ⟨z0, hz0, rfl⟩ := Option.map_eq_some_iff.mp hz'
          have := j3 m z0 hm hz0
          simp [eqV, this]
        · have hq2 : ns.length < qs.length := by omega
          have hk400 : k < 400 := by omega
          have hb2 : (if b then (1 : Int) else 0) ≤ 1 ∧ (0 : Int) ≤ (if b then (1 : Int) else 0) := by cases b <;> simp
          refine ⟨_, rfl, _, rfl, _, rfl, _, _, rfl, .inl (SqL.of g1), _, _, _, _, rfl, rfl, SqL.of g3, at_of (j := ns.length) (v := .int (qs[ns.length])) (by rw [List.length_map]) (by rw [List.getElem?_map, List.getElem?_eq_getElem hq2]; rfl), _, _, rfl, rfl, .inl ⟨by omega, by omega⟩, _, rfl, _, _, rfl, rfl, _, rfl, _, rfl, _, _, rfl, dput_t _ (.int _) hfT hkT (by omega), ?_⟩
          refine ⟨_, _, _, _, _, _, _, _, _, rfl, fun b' o hbf e => by rw [upd_ne hbf]; exact sT _ _ hbf e, upd_same, hm'.put kNP_inj (n, (j : Int)) _, by have := length_putK K2 (kNP (n, (j : Int))) (V.int ((wt * (↑(List.map V.str ns).length + 1) + 1) * (↑(List.map V.str ns).length + 1) + (if b then 1 else 0))); exact Nat.le_trans (length_putK _ _ _) (by omega), fun n' z' v' e' => ?_⟩
          by_cases e2 : (n', z') = (n, (j : Int))
          · cases e2; exact ⟨wt, hv⟩
          · rw [KM.fup_ne e2] at e'; exact hmi _ _ _ e'
    · rintro σ H' ⟨v, v7, v8, v9, v10, v11, v12, K2, m', rfl, sB, hfK, hm', hl2, hmi⟩
      refine ⟨sB _ _ nft.symm ht0, _, rfl, ?_⟩
      refine q _ f m' ?_ hfH ⟨K2, by rw [upd_ne nft]; exact hfK, hm', by omega⟩ hmi
      intro b o e
      by_cases e1 : b = t
      · subst e1; have := sf _ _ e; rw [htf] at this; rw [upd_same]; exact this
      · rw [upd_ne e1]
        refine sB b o (fun z => by subst z; rw [hfH] at e; cases e) ?_
        rw [← hB, upd_ne e1]; exact sf _ _ e
end KN

set_option Elab.async false
set_option linter.all false
set_option maxRecDepth 100000
set_option maxHeartbeats 4000000
/-! the matching -/
namespace KN
open PySem PySem.Spec PyProof.Rows L2 ClX StX
open C8 (Cal Met Mak CalAt pe_c pe_mk pe_mt pe_mt0 pss_cut tCut pe_gc)
structure RE (H0 H : Hp) (f : Addr) (kvs : List (Key × V)) (rm : Str → Option Addr) (W : Str → Int → Option Int) (c : Nat) : Prop where
  at_ : H f = some (.dK kvs)
  dm : DM (A := Str) (B := Addr) Sum.inr V.ref kvs rm
  row : ∀ n e, rm n = some e → H0 e = none ∧ ∃ ke, H e = some (.dK ke) ∧ DII ke (W n) ∧ ke.length ≤ c
  no : ∀ n, rm n = none → ∀ z, W n z = none
  inj : ∀ n n' e, rm n = some e → rm n' = some e → n = n'
  len : kvs.length ≤ c
theorem RE.same {H0 H H' : Hp} {f : Addr} {kvs : List (Key × V)} {rm : Str → Option Addr} {W : Str → Int → Option Int} {c c' : Nat} (h : RE H0 H f kvs rm W c) (s : Same H H') (hc : c ≤ c') : RE H0 H' f kvs rm W c' :=
  ⟨s _ _ h.at_, h.dm, fun n e q => let ⟨a, ke, b, d, l⟩ := h.row n e q; ⟨a, ke, s _ _ b, d, Nat.le_trans l hc⟩, h.no, h.inj, Nat.le_trans h.len hc⟩
theorem RE.add {H0 H : Hp} {f e : Addr} {kvs : List (Key × V)} {rm : Str → Option Addr} {W : Str → Int → Option Int} {c : Nat} {n : Str} (h : RE H0 H f kvs rm W c) (hn : rm n = none) (he : H e = none) (h0 : H0 e = none) :
    RE H0 (upd (upd H e (.dK [])) f (.dK (putK kvs (.inr n) (.ref e)))) f (putK kvs (.inr n) (.ref e)) (KM.fup rm n (some e)) W (c + 1) := by
  have nef : e ≠ f := fun z => by subst z; rw [h.at_] at he; cases he
  refine ⟨upd_same, h.dm.put inr_inj n e, fun a x q => ?_, fun a q => ?_, fun a b x q1 q2 => ?_, by have := h.len; have := length_putK kvs (.inr n) (V.ref e); omega⟩
  · by_cases z : a = n
    · subst z; rw [KM.fup_same] at q; cases q
      exact ⟨h0, [], by rw [upd_ne nef, upd_same], DM.nil.congr fun z => (h.no _ hn z).symm, Nat.zero_le _⟩
    · rw [KM.fup_ne z] at q
      obtain ⟨p, ke, b, d, l⟩ := h.row a x q
      have nx : x ≠ e := fun z => by subst z; rw [b] at he; cases he
      have nxf : x ≠ f := fun z2 => by
        subst z2
        rw [h.at_] at b; cases b
        have := h.dm.get q
        obtain ⟨i, b0, e1⟩ := d.el _ (valV_mem this)
        cases e1
      exact ⟨p, ke, by rw [upd_ne nxf, upd_ne nx]; exact b, d, by omega⟩
  · by_cases z : a = n
    · subst z; rw [KM.fup_same] at q; cases q
    · rw [KM.fup_ne z] at q; exact h.no a q
  · have old : ∀ a, rm a = some e → False := fun a q => by
      obtain ⟨_, ke, b, _⟩ := h.row a e q
      rw [he] at b; cases b
    by_cases z : a = n
    · by_cases z2 : b = n
      · rw [z, z2]
      · subst z; rw [KM.fup_same] at q1; rw [KM.fup_ne z2] at q2; cases q1; exact (old _ q2).elim
    · by_cases z2 : b = n
      · subst z2; rw [KM.fup_same] at q2; rw [KM.fup_ne z] at q1; cases q2; exact (old _ q1).elim
      · rw [KM.fup_ne z] at q1; rw [KM.fup_ne z2] at q2; exact h.inj _ _ _ q1 q2
theorem RE.nef {H0 H : Hp} {f e : Addr} {kvs : List (Key × V)} {rm : Str → Option Addr} {W : Str → Int → Option Int} {c : Nat} {n : Str} (h : RE H0 H f kvs rm W c) (q : rm n = some e) : e ≠ f := fun z2 => by
  subst z2
  obtain ⟨p, ke, b, d, l⟩ := h.row n _ q
  rw [h.at_] at b; cases b
  have := h.dm.get q
  obtain ⟨i, b0, e1⟩ := d.el _ (valV_mem this)
  cases e1
theorem RE.put {H0 H : Hp} {f e : Addr} {kvs ke : List (Key × V)} {rm : Str → Option Addr} {W : Str → Int → Option Int} {c : Nat} {n : Str} (h : RE H0 H f kvs rm W c) (q : rm n = some e) (he : H e = some (.dK ke)) (hd : DII ke (W n)) (hl : ke.length ≤ c) (z v : Int) :
    RE H0 (upd H e (.dK (putK ke (.inl z) (.int v)))) f kvs rm (KM.fup W n (KM.fup (W n) z (some v))) (c + 1) := by
  have nef := h.nef q
  refine ⟨by rw [upd_ne nef.symm]; exact h.at_, h.dm, fun a x q2 => ?_, fun a q2 z2 => ?_, h.inj, by have := h.len; omega⟩
  · obtain ⟨p, k2, b, d, l⟩ := h.row a x q2
    by_cases z2 : a = n
    · subst z2; rw [q] at q2; cases q2
      exact ⟨p, _, upd_same, by rw [KM.fup_same]; exact hd.put inl_inj z v, by have := length_putK ke (.inl z) (V.int v); omega⟩
    · refine ⟨p, k2, ?_, by rw [KM.fup_ne z2]; exact d, by omega⟩
      rw [upd_ne fun z3 => z2 (h.inj _ _ x q2 (by rw [z3]; exact q))]; exact b
  · have : a ≠ n := fun z3 => by subst z3; rw [q] at q2; cases q2
    rw [KM.fup_ne this]; exact h.no a q2 z2
/-- the rows of a table -/
structure RowsAt (H : Hp) (p : Addr) (rm : Str → Option Addr) (W : Str → Int → Option Int) : Prop where
  ex : ∃ kvs, H p = some (.dK kvs) ∧ DM (A := Str) (B := Addr) Sum.inr V.ref kvs rm ∧ kvs.length ≤ 1000
  row : ∀ n e, rm n = some e → ∃ ke, H e = some (.dK ke) ∧ DII ke (W n) ∧ ke.length ≤ 1000
def spRows : Sp := fun vs H Q _ => ∃ (t : Addr) (m : Str × Int → Option Int), vs = [.ref t] ∧ TabAt H t m ∧
  ∀ (H' : Hp) (p : Addr) (rm : Str → Option Addr) (W : Str → Int → Option Int), Same H H' → H p = none → RowsAt H' p rm W → (∀ n z, W n z = m (n, z)) → Q (.ref p) H'
theorem ok_row_entries {P : Program} {w : World} {K : PySem.W.Frag} {mg : Str → Option Value} {base : Heap} (T : Tx K mg) : Cal P w K mg base 1 "row_entries" spRows [] := by
  obtain ⟨fd, F⟩ := T.d_row_entries
  have bd : Binds K fd ["entries"] [] := F.binds fun _ _ _ _ _ _ us hl => match us, hl with | [_], _ => rfl
  refine cal_of (F.ok sc_row_entries (fun vs H Q E h => ?len) (fun cdv A outer s H vs Q E hr h => ?body)) bd T.g_row_entries T.k_row_entries
  case len => exact (by first | (obtain ⟨rfl, _⟩ := h; rfl) | (obtain ⟨_, rfl, _⟩ := h; rfl) | (obtain ⟨_, _, rfl, _⟩ := h; rfl) | (obtain ⟨_, _, _, rfl, _⟩ := h; rfl) | (obtain ⟨_, _, _, _, rfl, _⟩ := h; rfl) | (obtain ⟨_, _, _, _, _, rfl, _⟩ := h; rfl) | (obtain ⟨_, _, _, _, _, _, rfl, _⟩ := h; rfl) | (obtain ⟨_, _, _, _, _, _, _, rfl, _⟩ := h; rfl) | (obtain ⟨_, _, _, _, _, _, _, _, rfl, _⟩ := h; rfl) | (obtain ⟨_, _, _, _, _, _, _, _, _, rfl, _⟩ := h; rfl) | (obtain ⟨_, _, _, _, _, _, _, _, _, _, rfl, _⟩ := h; rfl) | (obtain ⟨_, _, _, _, _, _, _, _, _, _, _, rfl, _⟩ := h; rfl) | (obtain ⟨_, _, _, _, _, _, _, _, _, _, _, _, rfl, _⟩ := h; rfl) | (obtain ⟨_, _, _, _, _, _, _, _, _, _, _, _, _, rfl, _⟩ := h; rfl) | (obtain ⟨_, _, _, _, _, _, _, _, _, _, _, _, _, _, rfl, _⟩ := h; rfl) | (obtain ⟨_, _, _, _, _, _, _, _, _, _, _, _, _, _, _, rfl, _⟩ := h; rfl))
  case body =>
  have hu := hu_of hr
  refine ⟨_, (pss_cons (ps_set (i := 1) sc_row_entries.nd rfl (Or.inl rfl) pe_dnewK)
      (pss_cons (ps_for PassesOwn.never rfl (pi_listK K rfl (pe_callB (cr_sortedDT rfl hr.units) (by rfl) T.z_sorted (by decide +kernel) (pa_cons (pv 0) pa_nil))) (pg_name (i := 2) sc_row_entries.nd rfl (Or.inl rfl))
      (pss_cut (ps_expr (pe_dsetd (pv 1) (pe_ix (ixT K rfl) (pv 2) pe_int (fun _ _ => rfl)) pe_dnewK ⟨rfl, rfl, rfl, rfl⟩))
      (pss_one (ps_dput hu (pe_dget hu (pv 1) (pe_ix (ixT K rfl) (pv 2) pe_int (fun _ _ => rfl)) (fun _ _ => rfl)) (pe_ix (ixT K rfl) (pv 2) pe_int (fun _ _ => rfl)) (pe_dget hu (pv 0) (pv 2) (fun _ _ => rfl)) rfl))))
      (pss_one (ps_ret (pv 1))))), ?_⟩
  obtain ⟨t, m, rfl, ⟨kvs, ht, hm, hl⟩, q⟩ := h
  refine fun f hf => ⟨_, rfl, _, _, rfl, .inl ((same_new hf) _ _ ht), ⟨[true, false], fun k hk => ?_, fun e => nomatch e⟩, fun p ks bs hks0 hka hp => ?_⟩
  · obtain ⟨y, hy, rfl⟩ := List.mem_map.mp hk
    obtain ⟨a, b, rfl⟩ := hm.el y hy
    rfl
  have hks : ks.Perm (kvs.map (·.1)) := by rw [hks0]; exact List.mergeSort_perm _ _
  have s1 : Same H (upd (upd H f (.dK [])) p (.lst (bs.map V.ref))) := (same_new hf).new hp
  have hka2 := hka.same (same_new (o := .lst (bs.map V.ref)) hp)
  have npf : p ≠ f := fun z => by subst z; rw [upd_same] at hp; cases hp
  have hp1 : upd (upd H f (.dK [])) p (.lst (bs.map V.ref)) p = some (.lst (bs.map V.ref)) := upd_same
  have hf1 : upd (upd H f (.dK [])) p (.lst (bs.map V.ref)) f = some (.dK []) := by rw [upd_ne npf.symm, upd_same]
  generalize upd (upd H f (.dK [])) p (.lst (bs.map V.ref)) = H1 at s1 hka2 hp1 hf1
  have hkl := keysAt_len hka
  have hsl : ks.length ≤ 400 := by have h1 := hks.length_eq; rw [List.length_map] at h1; omega
  have ntf : t ≠ f := fun z => by subst z; rw [hf] at ht; cases ht
  refine ⟨p, rfl, ⟨_, SqL.of hp1⟩, for_it (walk_list (K := K) (a := p) (xs := bs.map V.ref)) (fun j σ H' => ∃ (v : Option V) (K1 : List (Key × V)) (rm : Str → Option Addr) (W : Str → Int → Option Int), σ = [some (.ref t), some (.ref f), v] ∧ (∀ b o, b ≠ f → H1 b = some o → H' b = some o) ∧ RE H1 H' f K1 rm W (2 * j) ∧
    (∀ n z v, W n z = some v → m (n, z) = some v) ∧ ∀ n z, kNP (n, z) ∈ ks.take j → W n z = m (n, z)) ?_ ?_ ?_ ?_⟩
  · exact ⟨none, [], fun _ => none, fun _ _ => none, rfl, fun b o _ e => e, ⟨hf1, .nil, fun n e q => (nomatch q), fun _ _ _ => rfl, fun _ _ _ q => (nomatch q), Nat.le_refl _⟩, fun n z v e => (nomatch e), fun n z e => by simp at e⟩
  · rintro j σ H' _ ⟨v, K1, rm, W, rfl, sB, _⟩
    exact SqL.of (sB _ _ npf hp1)
  · rintro j x σ H2 H3 hj ⟨v, K1, rm, W, rfl, sB, hR, hsub, hcov⟩ ⟨rfl, hx⟩
    rw [List.getElem?_map] at hx
    obtain ⟨b, hb, rfl⟩ := Option.map_eq_some_iff.mp hx
    obtain ⟨k, hki, hkb⟩ := keysAt_ix hka2 hb
    have hkm : k ∈ kvs.map (·.1) := hks.mem_iff.mp (List.mem_of_getElem? hki)
    obtain ⟨v0, hv0⟩ := mem_val hkm
    obtain ⟨⟨n, z⟩, w, e1⟩ := hm.el _ (valV_mem hv0)
    cases e1
    rw [hm.at_] at hv0
    obtain ⟨w', hw, e2⟩ := Option.map_eq_some_iff.mp hv0
    cases e2
    have nbf : b ≠ f := fun z => by subst z; rw [hf1] at hkb; cases hkb
    have hkb3 := sB _ _ nbf hkb
    have ht3 := sB _ _ ntf (s1 _ _ ht)
    have hj400 : j < 400 := by have := (List.getElem?_eq_some_iff.mp hki).1; omega
    have htk : ks.take (j + 1) = ks.take j ++ [kNP (n, z)] := by rw [List.take_succ, hki]; rfl
    refine ⟨fun σ' H' => ∃ (K1 : List (Key × V)) (rm : Str → Option Addr) (e : Addr), σ' = [some (.ref t), some (.ref f), some (.ref b)] ∧ (∀ b o, b ≠ f → H1 b = some o → H' b = some o) ∧ RE H1 H' f K1 rm W (2 * j + 1) ∧ rm n = some e, ?_, ?_⟩
    · refine ⟨_, rfl, f, rfl, .inl ⟨_, .inl hR.at_⟩, _, rfl, _, _, _, _, rfl, rfl, SqT.of hkb3, atI_nat (j := 0) rfl, fun e he => ?_⟩
      have nef : e ≠ f := fun z => by subst z; rw [hR.at_] at he; cases he
      have h1e : H1 e = none := by
        cases q2 : H1 e with
        | none => rfl
        | some o => have := sB _ _ nef q2; rw [he] at this; cases this
      refine ⟨K1, .inr n, by rw [upd_ne nef.symm]; exact hR.at_, rfl, small1000 (by have := hR.len; omega), fun v2 e2 => ?_, fun e2 => ?_⟩
      · rw [hR.dm.at_] at e2
        obtain ⟨e3, h3, _⟩ := Option.map_eq_some_iff.mp e2
        exact ⟨K1, rm, e3, rfl, fun b o hbf q2 => (same_new he) _ _ (sB b o hbf q2), hR.same (same_new he) (Nat.le_succ _), h3⟩
      · have hn : rm n = none := by
          cases q2 : rm n with
          | none => rfl
          | some e3 => rw [hR.dm.get q2] at e2; cases e2
        refine ⟨_, _, e, rfl, fun b o hbf q2 => ?_, hR.add hn he h1e, KM.fup_same⟩
        rw [upd_ne hbf]; exact (same_new he) _ _ (sB b o hbf q2)
    · rintro σ' H4 ⟨K1, rm, e, rfl, sB, hR, hn⟩
      obtain ⟨p0, ke, he, hd, hle⟩ := hR.row n e hn
      have hkb4 := sB _ _ nbf hkb
      refine ⟨_, rfl, _, rfl, _, _, rfl, (by have := dget_rdT (kNP (n, z)) (.inl (sB _ _ ntf (s1 _ _ ht))) hkb4; rw [hm.get hw] at this; exact this), _, rfl, _, rfl, _, _, _, _, rfl, rfl, SqT.of hkb4, atI_nat (j := 0) rfl, _, _, rfl, (by have := dget_rd (.inr n) (Rd.of hR.at_); rw [hR.dm.get hn] at this; exact this), _, rfl, _, _, _, _, rfl, rfl, SqT.of hkb4, atI_nat (j := 1) rfl, _, _, rfl, dput_k (.inl z) (.int w) he (by omega), ?_⟩
      have hR2 := hR.put hn he hd hle z w
      refine ⟨_, K1, rm, _, rfl, fun b o hbf q2 => ?_, hR2, fun n' z' v' e' => ?_, fun n' z' e' => ?_⟩
      · rw [upd_ne (ne_of_none q2 p0)]; exact sB b o hbf q2
      · by_cases h1 : n' = n
        · subst h1; rw [KM.fup_same] at e'
          by_cases h2 : z' = z
          · subst h2; rw [KM.fup_same] at e'; cases e'; exact hw
          · rw [KM.fup_ne h2] at e'; exact hsub _ _ _ e'
        · rw [KM.fup_ne h1] at e'; exact hsub _ _ _ e'
      · rw [htk] at e'
        by_cases h1 : n' = n
        · subst h1; rw [KM.fup_same]
          by_cases h2 : z' = z
          · subst h2; rw [KM.fup_same]; exact hw.symm
          · rw [KM.fup_ne h2]
            rcases List.mem_append.mp e' with e' | e'
            · exact hcov _ _ e'
            · have := kNP_inj _ _ (List.mem_singleton.mp e'); cases this; exact absurd rfl h2
        · rw [KM.fup_ne h1]
          rcases List.mem_append.mp e' with e' | e'
          · exact hcov _ _ e'
          · have := kNP_inj _ _ (List.mem_singleton.mp e'); cases this; exact absurd rfl h1
  · rintro σ H2 ⟨v, K1, rm, W, rfl, sB, hR, hsub, hcov⟩
    have hll : 2 * (bs.map V.ref).length ≤ 1000 := by rw [List.length_map]; omega
    refine ⟨_, rfl, q H2 f rm W (fun b o e => sB b o (fun z => by subst z; rw [hf] at e; cases e) (s1 _ _ e)) hf ⟨⟨K1, hR.at_, hR.dm, Nat.le_trans hR.len hll⟩, fun n e h => let ⟨_, ke, a, b, c⟩ := hR.row n e h; ⟨ke, a, b, Nat.le_trans c hll⟩⟩ fun n z => ?_⟩
    cases e : m (n, z) with
    | some v =>
      have : kNP (n, z) ∈ ks := hks.mem_iff.mpr (valV_in (hm.get e))
      rw [← e]; refine hcov n z ?_
      rw [List.length_map, ← hkl, List.take_length]; exact this
    | none =>
      cases e2 : W n z with
      | none => rfl
      | some v => rw [hsub _ _ _ e2] at e; cases e
end KN

set_option Elab.async false
set_option linter.all false
set_option maxRecDepth 100000
set_option maxHeartbeats 4000000
/-! the moves -/
namespace KN
open PySem PySem.Spec PyProof.Rows L2 ClX StX
open C8 (Cal Met Mak CalAt pe_c pe_mk pe_mt pe_mt0 pss_cut tCut pe_gc)
open KM (Mat Dual Mv Moves Aug room val)
theorem few' {κ A B : Type} [DecidableEq κ] [DecidableEq A] {f : A → κ} {g : B → V} {kvs : List (κ × V)} {m : A → Option B} (h : DM f g kvs m) (l : List A) (hl : ∀ a b, m a = some b → a ∈ l) : kvs.length ≤ l.length := by
  obtain ⟨ks, e1, e2, e3, _⟩ := h.keys
  have := nodup_le (l := l) e2 fun k hk => let ⟨b, e⟩ := e3 k hk; hl k b e
  have e4 := congrArg List.length e1
  rw [List.length_map, List.length_map] at e4
  omega
theorem RowsAt.same {H H' : Hp} {p : Addr} {rm : Str → Option Addr} {W : Str → Int → Option Int} (h : RowsAt H p rm W) (s : Same H H') : RowsAt H' p rm W :=
  ⟨let ⟨k, a, b, c⟩ := h.ex; ⟨k, s _ _ a, b, c⟩, fun n e q => let ⟨k, a, b, c⟩ := h.row n e q; ⟨k, s _ _ a, b, c⟩⟩
theorem RowsAt.ne {H : Hp} {p : Addr} {rm : Str → Option Addr} {W : Str → Int → Option Int} (h : RowsAt H p rm W) {n : Str} {e : Addr} (q : rm n = some e) : e ≠ p := fun z => by
  subst z
  obtain ⟨kvs, a, b, _⟩ := h.ex
  obtain ⟨ke, a2, b2, _⟩ := h.row n _ q
  rw [a] at a2; cases a2
  obtain ⟨i, b0, e1⟩ := b2.el _ (valV_mem (b.get q))
  cases e1
/-- the rows that are there -/
abbrev Sr (rm : Str → Option Addr) : Str → Prop := fun r => ∃ e, rm r = some e
/-- gains and moves as they stand -/
structure BS (gd md : Addr) (rm : Str → Option Addr) (W : Str → Int → Option Int) (p : Str → Option Int) (o : Int → Option Str) (u : Str → Int) (H : Hp) (g : Str → Int) (mm : Str → Option Int) : Prop where
  kg : ∃ kg, H gd = some (.dK kg) ∧ DSI kg (fun r => (rm r).map fun _ => g r)
  km : ∃ km, H md = some (.dK km) ∧ DSI km mm
  mv : Mv (Sr rm) W p o u g mm
theorem BS.heap {gd md : Addr} {rm : Str → Option Addr} {W : Str → Int → Option Int} {p : Str → Option Int} {o : Int → Option Str} {u : Str → Int} {H H' : Hp} {g : Str → Int} {mm : Str → Option Int} (h : BS gd md rm W p o u H g mm) (h1 : H' gd = H gd) (h2 : H' md = H md) : BS gd md rm W p o u H' g mm :=
  ⟨let ⟨k, a, b⟩ := h.kg; ⟨k, h1.trans a, b⟩, let ⟨k, a, b⟩ := h.km; ⟨k, h2.trans a, b⟩, h.mv⟩
def okM (W : Str → Int → Option Int) (p : Str → Option Int) (o : Int → Option Str) (g : Str → Int) (r : Str) (z : Int) : Prop := ∀ w, W r z = some w → p r ≠ some z → val W o g r z ≤ g r
def spMoves : Sp := fun vs H Q _ => ∃ (rd pd ow : Addr) (rm : Str → Option Addr) (W : Str → Int → Option Int) (kp ko : List (Key × V)) (p : Str → Option Int) (o : Int → Option Str) (x : Str → Prop) (u : Str → Int) (v : Int → Int), vs = [.ref rd, .ref pd, .ref ow] ∧
  RowsAt H rd rm W ∧ H pd = some (.dK kp) ∧ DSI kp p ∧ H ow = some (.dK ko) ∧ DIS ko o ∧ Mat (Sr rm) W p o ∧ Dual (Sr rm) W p o x u v ∧ (∀ r c, p r = some c → Sr rm r) ∧
  ∀ (H' : Hp) (q : Addr) (km : List (Key × V)) (mm : Str → Option Int) (u' : Str → Int) (v' : Int → Int), Same H H' → H q = none → H' q = some (.dK km) → DSI km mm → Moves (Sr rm) W p o x mm u' v' → Q (.ref q) H'
theorem ok_best_moves {P : Program} {w : World} {K : PySem.W.Frag} {mg : Str → Option Value} {base : Heap} (T : Tx K mg) : Cal P w K mg base 1 "best_moves" spMoves [] := by
  obtain ⟨fd, F⟩ := T.d_best_moves
  have bd : Binds K fd ["rows", "pairs", "owners"] [] := F.binds fun _ _ _ _ _ _ us hl => match us, hl with | [_, _, _], _ => rfl
  refine cal_of (F.ok sc_best_moves (fun vs H Q E h => ?len) (fun cdv A outer s H vs Q E hr h => ?body)) bd T.g_best_moves T.k_best_moves
  case len => exact (by first | (obtain ⟨rfl, _⟩ := h; rfl) | (obtain ⟨_, rfl, _⟩ := h; rfl) | (obtain ⟨_, _, rfl, _⟩ := h; rfl) | (obtain ⟨_, _, _, rfl, _⟩ := h; rfl) | (obtain ⟨_, _, _, _, rfl, _⟩ := h; rfl) | (obtain ⟨_, _, _, _, _, rfl, _⟩ := h; rfl) | (obtain ⟨_, _, _, _, _, _, rfl, _⟩ := h; rfl) | (obtain ⟨_, _, _, _, _, _, _, rfl, _⟩ := h; rfl) | (obtain ⟨_, _, _, _, _, _, _, _, rfl, _⟩ := h; rfl) | (obtain ⟨_, _, _, _, _, _, _, _, _, rfl, _⟩ := h; rfl) | (obtain ⟨_, _, _, _, _, _, _, _, _, _, rfl, _⟩ := h; rfl) | (obtain ⟨_, _, _, _, _, _, _, _, _, _, _, rfl, _⟩ := h; rfl) | (obtain ⟨_, _, _, _, _, _, _, _, _, _, _, _, rfl, _⟩ := h; rfl) | (obtain ⟨_, _, _, _, _, _, _, _, _, _, _, _, _, rfl, _⟩ := h; rfl) | (obtain ⟨_, _, _, _, _, _, _, _, _, _, _, _, _, _, rfl, _⟩ := h; rfl) | (obtain ⟨_, _, _, _, _, _, _, _, _, _, _, _, _, _, _, rfl, _⟩ := h; rfl))
  case body =>
  have hu := hu_of hr
  refine ⟨_, (pss_cons (ps_lock (ps_setDc1 (i := 4) (own := [("row", 3)]) (.inl rfl) hu rfl sc_best_moves.nd rfl rfl (swD_true rfl rfl rfl (by decide +kernel)) (pi_keys (pv 0)) (blkOk_by (own := [("row", 3)]) (N := N_best_moves) (sc := defScope s_best_moves) (by decide +kernel)) (fun _ _ _ _ _ => (pg_name (i := 3) sc_best_moves.nd rfl (Or.inl rfl))) (fun _ _ _ _ _ => pts_nil) (fun _ _ _ _ _ => (pv 3)) (fun _ _ _ _ _ => pe_int)))
      (pss_cons (ps_set (i := 5) sc_best_moves.nd rfl (Or.inl rfl) pe_dnewK)
      (pss_cons (ps_set (i := 6) sc_best_moves.nd rfl (Or.inl rfl) pe_bl)
      (pss_cons (ps_while PassesOwn.never (pt_val (pv 6))
      (pss_cons (ps_set (i := 6) sc_best_moves.nd rfl (Or.inl rfl) pe_bl)
      (pss_one (ps_lock (ps_for PassesOwn.never rfl (pi_items (pv 0)) (pg_tup rfl (pgs_cons (pg_name (i := 3) sc_best_moves.nd rfl (Or.inl rfl)) (pgs_cons (pg_name (i := 7) sc_best_moves.nd rfl (Or.inl rfl)) pgs_nil)))
      (pss_one (ps_lock (ps_for PassesOwn.never rfl (pi_items (pv 7)) (pg_tup rfl (pgs_cons (pg_name (i := 8) sc_best_moves.nd rfl (Or.inl rfl)) (pgs_cons (pg_name (i := 9) sc_best_moves.nd rfl (Or.inl rfl)) pgs_nil)))
      (pss_cons (ps_set (i := 10) sc_best_moves.nd rfl (Or.inl rfl) (pv 9))
      (pss_cut (ps_if (pt_cmp (pc_din hu (pv 8) (pv 2)) rfl) (pss_cons (ps_set (i := 11) sc_best_moves.nd rfl (Or.inl rfl) (pe_dget hu (pv 2) (pv 8) (fun _ _ => rfl)))
      (pss_one (ps_aug (i := 10) sc_best_moves.nd rfl (Or.inl rfl) (pe_op op_sub (pe_dget hu (pv 4) (pv 11) (fun _ _ => rfl)) (pe_dget hu (pe_dget hu (pv 0) (pv 11) (fun _ _ => rfl)) (pv 8) (fun _ _ => rfl))) ip_add)))
      pss_nil)
      (pss_one (ps_if (PW.pt (pw_and (pt_cmpR op_gt (pv 10) (pe_dget hu (pv 4) (pv 3) (fun _ _ => rfl)) (nomark _)) (pw_and1 (pt_cmpR op_ne (pe_dget1 hu (pv 1) (pv 3) ⟨rfl, rfl, rfl, rfl⟩) (pv 8) (nomark _))))) (pss_cons (ps_asg (pe_tup (pa_cons (pv 10) (pa_cons (pv 8) pa_nil))) (pg_tup rfl (pgs_cons (pg_sub (pv 4) (pv 3) (set_dict hu)) (pgs_cons (pg_sub (pv 5) (pv 3) (set_dict hu)) pgs_nil))))
      (pss_one (ps_set (i := 6) sc_best_moves.nd rfl (Or.inl rfl) pe_bl)))
      pss_nil))))))))))))
      (pss_one (ps_ret (pv 5))))))), ?_⟩
  obtain ⟨rd, pd, ow, rm, W, kp, ko, p, o, x, u, v, rfl, hR, hpd, hp, how, ho, hM, hD, hps, q⟩ := h
  obtain ⟨kr, hrd, hrm, hrl⟩ := hR.ex
  obtain ⟨rl, rl1, rl2, rl3, rl4⟩ := hrm.keys
  have hrlen : rl.length ≤ 1000 := by have := congrArg List.length rl1; rw [List.length_map, List.length_map] at this; omega
  have hrl5 : ∀ r, Sr rm r → r ∈ rl := fun r ⟨e, h⟩ => by
    obtain ⟨k, hk, e1⟩ := List.mem_map.mp (rl4 r e h)
    cases e1; exact hk
  -- gains = {row: 0 for row in rows}
  refine ⟨rd, _, hrd, trivial, fun od => ?_⟩
  have h0 : upd H rd (.frz od (.dK kr)) rd = some (.frz od (.dK kr)) := upd_same
  refine ⟨_, rfl, _, _, rfl, .inl ⟨_, h0, fun gd hgd => ?_⟩⟩
  have ngr : gd ≠ rd := fun z => by subst z; rw [h0] at hgd; cases hgd
  have hgH : H gd = none := by rw [upd_ne ngr] at hgd; exact hgd
  refine dc_it (walk_keys (kvs := kr)) (fun k H' => ∃ (kg : List (Key × V)) (gm : Str → Option Int), Same (upd H rd (.frz od (.dK kr))) H' ∧ H' gd = some (.dK kg) ∧ DSI kg gm ∧ kg.length ≤ k ∧ (∀ r z, gm r = some z → z = 0 ∧ Sr rm r) ∧ ∀ r, Seen kr k (.inr r) → gm r = some 0) ?_ ?_ ?_ ?_
  · exact ⟨[], fun _ => none, same_new hgd, upd_same, .nil, Nat.le_refl _, fun r z e => (nomatch e), fun r e => absurd e seen0⟩
  · rintro k H' _ ⟨_, _, s, _⟩
    exact s _ _ h0
  · rintro k y H1 H2 hk ⟨kg, gm, s, hg, hgm, hl, hg0, hse⟩ ⟨rfl, ky, v0, hkv, rfl⟩
    obtain ⟨r, e, rfl, rfl, hre⟩ := hrm.ix inr_inj hkv
    refine ⟨rfl, yes (iteT ⟨_, rfl, _, dput_k (.inr r) (.int 0) hg (by omega), _, _, s.at hgd, upd_same, hgm.put inr_inj r 0, by have := length_putK kg (.inr r) (V.int 0); omega, fun r' z e' => ?_, fun r' e' => ?_⟩)⟩
    · by_cases h1 : r' = r
      · subst h1; rw [KM.fup_same] at e'; cases e'; exact ⟨rfl, e, hre⟩
      · rw [KM.fup_ne h1] at e'; exact hg0 _ _ e'
    · by_cases h1 : r' = r
      · subst h1; exact KM.fup_same
      · rw [KM.fup_ne h1]
        rcases (seen_succ hkv).mp e' with e' | e'
        · exact hse _ e'
        · exact absurd (inr_inj _ _ e') h1
  rintro H1 ⟨kg, gm, s, hg, hgm, hl, hg0, hse⟩
  refine ⟨s _ _ h0, ?_⟩
  have s1 : Same H (upd H1 rd (.dK kr)) := unlock hrd s
  have hg1 : upd H1 rd (.dK kr) gd = some (.dK kg) := by rw [upd_ne ngr]; exact hg
  have hgm1 : DSI kg (fun r => (rm r).map fun _ => (fun _ => (0 : Int)) r) := hgm.congr fun r => by
    cases e : rm r with
    | none =>
      cases e2 : gm r with
      | none => rfl
      | some z => obtain ⟨_, e3, h3⟩ := hg0 r z e2; rw [e] at h3; cases h3
    | some e2 => rw [hse r (hrm.seen e)]; rfl
  generalize upd H1 rd (.dK kr) = H2 at s1 hg1
  clear hg hgm hl hg0 hse s
  -- moves = {}
  refine fun md hmd => ?_
  have nmg : md ≠ gd := fun z => by subst z; rw [hg1] at hmd; cases hmd
  have hmH := s1.free hmd
  have s3 : Same H (upd H2 md (.dK [])) := s1.new hmd
  have hg3 : upd H2 md (.dK []) gd = some (.dK kg) := by rw [upd_ne nmg.symm]; exact hg1
  have hm3 : upd H2 md (.dK []) md = some (.dK []) := upd_same
  generalize upd H2 md (.dK []) = H3 at s3 hg3 hm3
  have hB : BS gd md rm W p o u H3 (fun _ => 0) (fun _ => none) := ⟨⟨kg, hg3, hgm1⟩, ⟨[], hm3, .nil⟩, Mv.start hD⟩
  refine ⟨fun n σ H' => ∃ (v3 v7 v8 v9 v10 v11 : Option V) (ch : Bool) (g : Str → Int) (mm : Str → Option Int), σ = [some (.ref rd), some (.ref pd), some (.ref ow), v3, some (.ref gd), some (.ref md), some (.bl ch), v7, v8, v9, v10, v11] ∧ Same H H' ∧ BS gd md rm W p o u H' g mm ∧
    n = 2 * room rl u g + (if ch then 1 else 0) ∧ (ch = false → ∀ r z, Sr rm r → okM W p o g r z), ⟨_, none, none, none, none, none, none, true, _, _, rfl, s3, hB, rfl, fun z => nomatch z⟩, ?_⟩
  rintro n σ H4 ⟨v3, v7, v8, v9, v10, v11, ch, g, mm, rfl, s4, hB4, hn, hdone⟩
  refine ⟨_, rfl, ch, rfl, ?_⟩
  cases ch with
  | false =>
    refine iteF ⟨_, rfl, ?_⟩
    obtain ⟨km, hkm, hmm⟩ := hB4.km
    exact q H4 md km mm _ _ s4 hmH hkm hmm (Mv.done hM hD hB4.mv (fun r c w hs hw hpn => hdone rfl r c hs w hw hpn) hps)
  | true =>
    refine iteT ⟨fun σ' H' => ∃ (v3 v7 v8 v9 v10 v11 : Option V) (ch : Bool) (g' : Str → Int) (mm : Str → Option Int), σ' = [some (.ref rd), some (.ref pd), some (.ref ow), v3, some (.ref gd), some (.ref md), some (.bl ch), v7, v8, v9, v10, v11] ∧ Same H H' ∧ BS gd md rm W p o u H' g' mm ∧
      room rl u g' ≤ room rl u g ∧ (ch = true → room rl u g' < room rl u g) ∧ (ch = false → ∀ r z, Sr rm r → okM W p o g' r z), ?_, ?_⟩
    · rintro σ' H' ⟨v3, v7, v8, v9, v10, v11, ch, g', mm, rfl, s, hB, hr1, hr2, hok⟩
      refine ⟨2 * room rl u g' + (if ch then 1 else 0), ?_, v3, v7, v8, v9, v10, v11, ch, g', mm, rfl, s, hB, rfl, hok⟩
      rw [hn]
      cases ch with
      | false => simp; omega
      | true => have := hr2 rfl; simp; omega
    · refine ⟨rd, _, s4 _ _ hrd, trivial, fun od1 => ?_⟩
      have sL : Same (upd H rd (.frz od1 (.dK kr))) (upd H4 rd (.frz od1 (.dK kr))) := s4.upd
      have b1 : upd H rd (.frz od1 (.dK kr)) rd = some (.frz od1 (.dK kr)) := upd_same
      have b1p : Rd (upd H rd (.frz od1 (.dK kr))) pd (.dK kp) := rd_lock hrd (.inl hpd) (fun _ _ z => nomatch z)
      have b1o : Rd (upd H rd (.frz od1 (.dK kr))) ow (.dK ko) := rd_lock hrd (.inl how) (fun _ _ z => nomatch z)
      have b1r : ∀ n e, rm n = some e → ∃ ke, upd H rd (.frz od1 (.dK kr)) e = some (.dK ke) ∧ DII ke (W n) ∧ ke.length ≤ 1000 := fun n e h => let ⟨ke, a, b, c⟩ := hR.row n e h; ⟨ke, by rw [upd_ne (hR.ne h)]; exact a, b, c⟩
      have ngd : gd ≠ rd := ngr
      have nmd : md ≠ rd := fun z => by subst z; rw [hmH] at hrd; cases hrd
      have hB5 : BS gd md rm W p o u (upd H4 rd (.frz od1 (.dK kr))) g mm := hB4.heap (upd_ne ngd) (upd_ne nmd)
      have fin1 : ∀ H', Same (upd H rd (.frz od1 (.dK kr))) H' → Same H (upd H' rd (.dK kr)) := fun H' s => unlock hrd s
      have g1 : upd H rd (.frz od1 (.dK kr)) gd = none := by rw [upd_ne ngd]; exact hgH
      have m1 : upd H rd (.frz od1 (.dK kr)) md = none := by rw [upd_ne nmd]; exact hmH
      generalize hB1 : upd H rd (.frz od1 (.dK kr)) = B1 at sL b1 b1p b1o b1r fin1 g1 m1
      generalize upd H4 rd (.frz od1 (.dK kr)) = H5 at sL hB5
      refine ⟨_, rfl, _, _, _, rfl, sL _ _ b1, ?_⟩
      refine for_it (walk_items (kvs := kr)) (fun k σ' H' => ∃ (v3 v7 v8 v9 v10 v11 : Option V) (ch : Bool) (g' : Str → Int) (mm : Str → Option Int), σ' = [some (.ref rd), some (.ref pd), some (.ref ow), v3, some (.ref gd), some (.ref md), some (.bl ch), v7, v8, v9, v10, v11] ∧ Same B1 H' ∧ BS gd md rm W p o u H' g' mm ∧
        room rl u g' ≤ room rl u g ∧ (ch = true → room rl u g' < room rl u g) ∧ (ch = false → ∀ r z, Seen kr k (.inr r) → okM W p o g' r z)) ?_ ?_ ?_ ?_
      · exact ⟨v3, v7, v8, v9, v10, v11, false, g, mm, rfl, sL, hB5, Nat.le_refl _, fun z => (nomatch z), fun _ r z e => absurd e seen0⟩
      · rintro k σ' H' _ ⟨_, _, _, _, _, _, _, _, _, _, s, _⟩
        exact s _ _ b1
      · rintro k y σ' H6 H7 hk ⟨v3, v7, v8, v9, v10, v11, ch, g', mm, rfl, s6, hB6, hr1, hr2, hok⟩ ⟨T, y1, y2, rfl, hT, rfl, e1, e2⟩
        obtain ⟨⟨ky, vl⟩, hkv, e3⟩ := Option.map_eq_some_iff.mp e1
        replace e2 : kr[k]?.map Prod.snd = some y2 := e2
        rw [hkv] at e2
        cases e2
        obtain ⟨r, e, rfl, rfl, hre⟩ := hrm.ix inr_inj hkv
        subst e3
        have sr : Sr rm r := ⟨e, hre⟩
        obtain ⟨ke, he1, hke, _⟩ := b1r r e hre
        have nTg : gd ≠ T := fun z => by subst z; obtain ⟨kg, h, _⟩ := hB6.kg; rw [h] at hT; cases hT
        have nTm : md ≠ T := fun z => by subst z; obtain ⟨kg, h, _⟩ := hB6.km; rw [h] at hT; cases hT
        have s7 : Same B1 (upd H6 T (.tup [kV (.inr r), .ref e])) := s6.new hT
        have hB7 : BS gd md rm W p o u (upd H6 T (.tup [kV (.inr r), .ref e])) g' mm := hB6.heap (upd_ne nTg) (upd_ne nTm)
        have hTT : upd H6 T (.tup [kV (.inr r), .ref e]) T = some (.tup [kV (.inr r), .ref e]) := upd_same
        generalize upd H6 T (.tup [kV (.inr r), .ref e]) = H8 at s7 hB7 hTT
        refine ⟨T, _, rfl, SqT.of hTT, rfl, _, _, rfl, _, _, rfl, rfl, ?_⟩
        refine ⟨e, _, s7 _ _ he1, trivial, fun od2 => ?_⟩
        have nge : gd ≠ e := fun z => by subst z; rw [g1] at he1; cases he1
        have nme : md ≠ e := fun z => by subst z; rw [m1] at he1; cases he1
        have sM : Same (upd B1 e (.frz od2 (.dK ke))) (upd H8 e (.frz od2 (.dK ke))) := s7.upd
        have hB9 : BS gd md rm W p o u (upd H8 e (.frz od2 (.dK ke))) g' mm := hB7.heap (upd_ne nge) (upd_ne nme)
        have c0 : upd B1 e (.frz od2 (.dK ke)) e = some (.frz od2 (.dK ke)) := upd_same
        have cp : Rd (upd B1 e (.frz od2 (.dK ke))) pd (.dK kp) := rd_lock he1 b1p (fun _ _ z => nomatch z)
        have co : Rd (upd B1 e (.frz od2 (.dK ke))) ow (.dK ko) := rd_lock he1 b1o (fun _ _ z => nomatch z)
        have cr : Rd (upd B1 e (.frz od2 (.dK ke))) rd (.dK kr) := rd_lock he1 (.inr ⟨_, b1⟩) (fun _ _ z => nomatch z)
        have cw : ∀ n e', rm n = some e' → ∃ k', Rd (upd B1 e (.frz od2 (.dK ke))) e' (.dK k') ∧ DII k' (W n) := fun n e' h => let ⟨k', a, b, _⟩ := b1r n e' h; ⟨k', rd_lock he1 (.inl a) (fun _ _ z => nomatch z), b⟩
        have fin2 : ∀ H', Same (upd B1 e (.frz od2 (.dK ke))) H' → Same B1 (upd H' e (.dK ke)) := fun H' s => unlock he1 s
        have g2 : upd B1 e (.frz od2 (.dK ke)) gd = none := by rw [upd_ne nge]; exact g1
        have m2 : upd B1 e (.frz od2 (.dK ke)) md = none := by rw [upd_ne nme]; exact m1
        generalize upd B1 e (.frz od2 (.dK ke)) = B2 at sM c0 cp co cr cw fin2 g2 m2
        generalize upd H8 e (.frz od2 (.dK ke)) = H9 at sM hB9
        refine ⟨_, rfl, _, _, _, rfl, sM _ _ c0, ?_⟩
        refine for_it (walk_items (kvs := ke)) (fun c σ' H' => ∃ (v8 v9 v10 v11 : Option V) (ch : Bool) (g' : Str → Int) (mm : Str → Option Int), σ' = [some (.ref rd), some (.ref pd), some (.ref ow), some (.str r), some (.ref gd), some (.ref md), some (.bl ch), some (.ref e), v8, v9, v10, v11] ∧ Same B2 H' ∧ BS gd md rm W p o u H' g' mm ∧
          room rl u g' ≤ room rl u g ∧ (ch = true → room rl u g' < room rl u g) ∧ (ch = false → (∀ r z, Seen kr k (.inr r) → okM W p o g' r z) ∧ ∀ z, Seen ke c (.inl z) → okM W p o g' r z)) ?_ ?_ ?_ ?_
        · exact ⟨v8, v9, v10, v11, ch, g', mm, rfl, sM, hB9, hr1, hr2, fun h => ⟨hok h, fun z e => absurd e seen0⟩⟩
        · rintro c σ' H' _ ⟨_, _, _, _, _, _, _, _, s, _⟩
          exact s _ _ c0
        · rintro c y σ' Ha Hb hc ⟨v8, v9, v10, v11, ch, g', mm, rfl, sa, hBa, hr1, hr2, hok⟩ ⟨T2, y1, y2, rfl, hT2, rfl, e1, e2⟩
          obtain ⟨⟨ky, vl⟩, hkc, e3⟩ := Option.map_eq_some_iff.mp e1
          replace e2 : ke[c]?.map Prod.snd = some y2 := e2
          rw [hkc] at e2
          cases e2
          obtain ⟨z, wt, rfl, rfl, hw⟩ := hke.ix inl_inj hkc
          subst e3
          have nTg : gd ≠ T2 := fun z => by subst z; obtain ⟨kg, h, _⟩ := hBa.kg; rw [h] at hT2; cases hT2
          have nTm : md ≠ T2 := fun z => by subst z; obtain ⟨kg, h, _⟩ := hBa.km; rw [h] at hT2; cases hT2
          have sb : Same B2 (upd Ha T2 (.tup [kV (.inl z), .int wt])) := sa.new hT2
          have hBb : BS gd md rm W p o u (upd Ha T2 (.tup [kV (.inl z), .int wt])) g' mm := hBa.heap (upd_ne nTg) (upd_ne nTm)
          have hTT2 : upd Ha T2 (.tup [kV (.inl z), .int wt]) T2 = some (.tup [kV (.inl z), .int wt]) := upd_same
          generalize upd Ha T2 (.tup [kV (.inl z), .int wt]) = Hc at sb hBb hTT2
          refine ⟨T2, _, rfl, SqT.of hTT2, rfl, _, _, rfl, _, _, rfl, rfl, _, rfl, ?_⟩
          obtain ⟨kg, hkg, hgm⟩ := hBb.kg
          obtain ⟨km, hkm, hmm⟩ := hBb.km
          refine ⟨fun σ' H' => H' = Hc ∧ ∃ v11, σ' = [some (.ref rd), some (.ref pd), some (.ref ow), some (.str r), some (.ref gd), some (.ref md), some (.bl ch), some (.ref e), some (.int z), some (.int wt), some (.int (val W o g' r z)), v11], ?_, ?_⟩
          · have hod := dget_rd (.inl z) (sb.rd co)
            rw [ho.at_] at hod
            cases hoz : o z with
            | none =>
              rw [hoz] at hod
              refine ⟨_, rfl, _, rfl, _, _, rfl, hod, _, rfl, iteF ⟨rfl, v11, ?_⟩⟩
              rw [KM.val_none hw hoz]; rfl
            | some y =>
              rw [hoz] at hod
              obtain ⟨⟨ye, hye⟩, py⟩ := hM.own z y hoz
              obtain ⟨_, w2, hw2⟩ := hM.pin y z py
              obtain ⟨k', hk', hd'⟩ := cw y ye hye
              have d1 := dget_rd (.inr y) (Rd.of hkg)
              rw [hgm.at_, hye] at d1
              have d2 := dget_rd (.inr y) (sb.rd cr)
              rw [hrm.get hye] at d2
              have d3 := dget_rd (.inl z) (sb.rd hk')
              rw [hd'.get hw2] at d3
              refine ⟨_, rfl, _, rfl, _, _, rfl, hod, _, rfl, iteT ⟨_, rfl, _, rfl, _, _, rfl, hod, _, rfl, _, rfl, _, rfl, _, _, rfl, d1, _, rfl, _, rfl, _, _, rfl, d2, _, rfl, _, _, rfl, d3, _, _, rfl, rfl, _, _, rfl, rfl, rfl, some (.str y), ?_⟩⟩
              rw [KM.val_some hw hoz hw2]; rfl
          · rintro σ' H' ⟨rfl, v11, rfl⟩
            have d1 := dget_rd (.inr r) (Rd.of hkg)
            rw [hgm.at_, hre] at d1
            refine ⟨_, rfl, _, rfl, _, rfl, _, _, rfl, d1, _, _, rfl, rfl, _, rfl, ?_⟩
            have stay : (g' r < val W o g' r z → p r = some z) → ∃ (v8 v9 v10 v11' : Option V) (ch' : Bool) (g'' : Str → Int) (mm : Str → Option Int), [some (V.ref rd), some (.ref pd), some (.ref ow), some (.str r), some (.ref gd), some (.ref md), some (.bl ch), some (.ref e), some (.int z), some (.int wt), some (.int (val W o g' r z)), v11] = [some (.ref rd), some (.ref pd), some (.ref ow), some (.str r), some (.ref gd), some (.ref md), some (.bl ch'), some (.ref e), v8, v9, v10, v11'] ∧ Same B2 H' ∧ BS gd md rm W p o u H' g'' mm ∧
                room rl u g'' ≤ room rl u g ∧ (ch' = true → room rl u g'' < room rl u g) ∧ (ch' = false → (∀ r z, Seen kr k (.inr r) → okM W p o g'' r z) ∧ ∀ z, Seen ke (c + 1) (.inl z) → okM W p o g'' r z) := fun hno => by
              refine ⟨_, _, _, _, ch, g', mm, rfl, sb, hBb, hr1, hr2, fun h => ⟨(hok h).1, fun z' hs => ?_⟩⟩
              rcases (seen_succ hkc).mp hs with hs | hs
              · exact (hok h).2 z' hs
              · have := inl_inj _ _ hs
                subst this
                intro w hw' hpn
                exact Int.not_lt.mp fun hlt => hpn (hno hlt)
            by_cases hlt : g' r < val W o g' r z
            · refine iteD hlt ?_
              have d2 := dget_rd (.inr r) (sb.rd cp)
              rw [hp.at_] at d2
              refine ⟨_, rfl, _, rfl, .inl ⟨_, sb.rd cp⟩, _, rfl, _, d2, _, rfl, by cases p r <;> rfl, _, rfl, ?_⟩
              by_cases hpz : p r = some z
              · rw [hpz]
                exact iteNS rfl (stay fun _ => hpz)
              · refine iteND (fun h => ?_) ?_
                · cases hpr : p r with
                  | none => rw [hpr] at h; cases h
                  | some z2 => rw [hpr] at h; cases h; exact hpz hpr
                refine ⟨_, rfl, _, rfl, by show 2 ≤ sizeLine; decide, fun tp htp => ⟨_, _, rfl, SqT.of upd_same, rfl, _, _, rfl, _, rfl, _, rfl, ?_⟩⟩
                have hkgT : upd H' tp (.tup [.int (val W o g' r z), .int z]) gd = some (.dK kg) := by rw [upd_ne (ne_of_none hkg htp)]; exact hkg
                have hkmT : upd H' tp (.tup [.int (val W o g' r z), .int z]) md = some (.dK km) := by rw [upd_ne (ne_of_none hkm htp)]; exact hkm
                have sT : Same B2 (upd H' tp (.tup [.int (val W o g' r z), .int z])) := sb.new htp
                generalize upd H' tp (.tup [.int (val W o g' r z), .int z]) = Hd at hkgT hkmT sT
                have lg : kg.length ≤ 1000 := Nat.le_trans (few' hgm rl fun a b h => by obtain ⟨e', h1, _⟩ := Option.map_eq_some_iff.mp h; exact hrl5 a ⟨e', h1⟩) hrlen
                have lm : km.length ≤ 1000 := Nat.le_trans (few' hmm rl fun a b h => hrl5 a (hBb.mv.ms a b h).1) hrlen
                have hkm2 : upd Hd gd (.dK (putK kg (.inr r) (.int (val W o g' r z)))) md = some (.dK km) := by rw [upd_ne nmg]; exact hkmT
                refine ⟨gd, _, rfl, dput_k (.inr r) (.int (val W o g' r z)) hkgT (by omega), _, _, rfl, _, rfl, _, rfl, md, _, rfl, dput_k (.inr r) (.int z) hkm2 (by omega), rfl, ?_⟩
                have hlt2 := KM.room_put (l := rl) (u := u) (g := g') (hrl5 r sr) hlt (Mv.val_le hM hD hBb.mv.gu sr hw)
                refine ⟨_, _, _, _, true, KM.fup g' r (val W o g' r z), KM.fup mm r (some z), rfl, (sT.at g2).at m2, ⟨⟨_, by rw [upd_ne nmg.symm, upd_same], (hgm.put inr_inj r (val W o g' r z)).congr fun a => ?_⟩, ⟨_, upd_same, hmm.put inr_inj r z⟩, Mv.put hM hD hBb.mv sr hw hpz hlt⟩, by omega, fun _ => by omega, fun h => nomatch h⟩
                by_cases ha : a = r
                · subst ha; rw [KM.fup_same, KM.fup_same, hre]; rfl
                · rw [KM.fup_ne ha, KM.fup_ne ha]
            · exact iteDF hlt (iteF (stay fun h => absurd h hlt))
        · rintro σ' Ha ⟨v8, v9, v10, v11, ch, g', mm, rfl, sa, hBa, hr1, hr2, hok⟩
          refine ⟨sa _ _ c0, _, _, _, _, _, _, ch, g', mm, rfl, fin2 _ sa, hBa.heap (upd_ne nge) (upd_ne nme), hr1, hr2, fun h r' z hs => ?_⟩
          rcases (seen_succ hkv).mp hs with hs | hs
          · exact (hok h).1 r' z hs
          · have := inr_inj _ _ hs
            subst this
            intro w hw hpn
            exact (hok h).2 z (hke.seen hw) w hw hpn
      · rintro σ' H6 ⟨v3, v7, v8, v9, v10, v11, ch, g', mm, rfl, s6, hB6, hr1, hr2, hok⟩
        refine ⟨s6 _ _ b1, _, _, _, _, _, _, ch, g', mm, rfl, fin1 _ s6, hB6.heap (upd_ne ngd) (upd_ne nmd), hr1, hr2, fun h r z ⟨e, hs⟩ => ?_⟩
        exact hok h r z (hrm.seen hs)
end KN

set_option Elab.async false
set_option linter.all false
set_option maxRecDepth 100000
set_option maxHeartbeats 4000000
/-! the pairs of greatest weight: none twice -/
namespace KN
open PySem PySem.Spec PyProof.Rows L2 ClX StX
open C8 (Cal Met Mak CalAt pe_c pe_mk pe_mt pe_mt0 pss_cut tCut pe_gc)
open KM (Mat Dual Mv Moves Aug room val fup fdel)
theorem top_of {kvs : List (Key × V)} {m : Int → Option Int} (h : DII kvs m) : ∃ B : Int, 0 ≤ B ∧ ∀ c w, m c = some w → w ≤ B := by
  have : ∀ l : List (Key × V), ∃ B : Int, 0 ≤ B ∧ ∀ p ∈ l, ∀ w, p.2 = V.int w → w ≤ B := by
    intro l
    induction l with
    | nil => exact ⟨0, Int.le_refl 0, fun p hp => (nomatch hp)⟩
    | cons p r ih =>
      obtain ⟨B, h1, h2⟩ := ih
      cases e : p.2 with
      | int i =>
        refine ⟨if i ≤ B then B else i, by split <;> omega, fun q hq w hw => ?_⟩
        rcases List.mem_cons.mp hq with rfl | hq
        · rw [e] at hw; cases hw; split <;> omega
        · have := h2 q hq w hw; split <;> omega
      | _ =>
        refine ⟨B, h1, fun q hq w hw => ?_⟩
        rcases List.mem_cons.mp hq with rfl | hq
        · rw [e] at hw; cases hw
        · exact h2 q hq w hw
  obtain ⟨B, h1, h2⟩ := this kvs
  exact ⟨B, h1, fun c w e => h2 _ (valV_mem (h.get e)) w rfl⟩
theorem few_o {ko : List (Key × V)} {o : Int → Option Str} {p : Str → Option Int} {rl : List Str} (h : DIS ko o) (hp : ∀ c r, o c = some r → p r = some c ∧ r ∈ rl) : ko.length ≤ rl.length := by
  obtain ⟨ks, e1, e2, e3, _⟩ := h.keys
  have nd : (ks.map o).Nodup := List.pairwise_map.mpr (List.Pairwise.imp_of_mem (fun {a b} ha hb hab e => by
    obtain ⟨r, h1⟩ := e3 a ha
    have h2 : o b = some r := e ▸ h1
    have h3 := (hp a r h1).1
    rw [(hp b r h2).1] at h3
    exact hab (Option.some.inj h3).symm) e2)
  have := nodup_le (l := rl.map some) nd fun k hk => by
    obtain ⟨c, hc, rfl⟩ := List.mem_map.mp hk
    obtain ⟨r, h1⟩ := e3 c hc
    rw [h1]; exact List.mem_map.mpr ⟨r, (hp c r h1).2, rfl⟩
  have e4 := congrArg List.length e1
  rw [List.length_map, List.length_map] at e4
  rw [List.length_map, List.length_map] at this
  omega
def vName : Option Str → V
  | none => .non
  | some r => .str r
def spPairs : Sp := fun vs H Q _ => ∃ (t : Addr) (m : Str × Int → Option Int), vs = [.ref t] ∧ TabAt H t m ∧
  ∀ (H' : Hp) (q : Addr) (kp : List (Key × V)) (p : Str → Option Int), Same H H' → H q = none → H' q = some (.dK kp) → DSI kp p → kp.length ≤ 1000 → (∀ n z, p n = some z → ∃ w, m (n, z) = some w) → (∀ n n' z, p n = some z → p n' = some z → n = n') → Q (.ref q) H'
def WAug (t ev rd pd ow md e : Addr) (r : Str) (B1 : Hp) (kr km : List (Key × V)) (S : Str → Prop) (W : Str → Int → Option Int) (o : Int → Option Str) (mm : Str → Option Int) (u' : Str → Int) (v' : Int → Int) (n : Nat) (σ' : L2.St) (H' : Hp) : Prop :=
  ∃ (v9 v10 : Option V) (kp ko : List (Key × V)) (pp : Str → Option Int) (oo : Int → Option Str) (xo : Option Str), σ' = [some (.ref t), some (.ref ev), some (.ref rd), some (.ref pd), some (.ref ow), some (.str r), some (.ref e), some (.ref md), some (vName xo), v9, v10] ∧ Same B1 H' ∧
    H' rd = some (.dK kr) ∧ H' md = some (.dK km) ∧ H' pd = some (.dK kp) ∧ DSI kp pp ∧ H' ow = some (.dK ko) ∧ DIS ko oo ∧ Aug S W o mm u' v' pp oo xo ∧ KM.dep (fun z => (mm z).bind o) n xo
theorem ok_greatest_pairs {P : Program} {w : World} {K : PySem.W.Frag} {mg : Str → Option Value} {base : Heap} (T : Tx K mg) : Cal P w K mg base 2 "greatest_pairs" spPairs [] := by
  obtain ⟨fd, F⟩ := T.d_greatest_pairs
  have G_best_moves := ok_best_moves (P := P) (w := w) (base := base) T
  have G_row_entries := ok_row_entries (P := P) (w := w) (base := base) T
  have bd : Binds K fd ["entries"] [] := F.binds fun _ _ _ _ _ _ us hl => match us, hl with | [_], _ => rfl
  refine cal_of (F.ok sc_greatest_pairs (fun vs H Q E h => ?len) (fun cdv A outer s H vs Q E hr h => ?body)) bd T.g_greatest_pairs T.k_greatest_pairs
  case len => exact (by first | (obtain ⟨rfl, _⟩ := h; rfl) | (obtain ⟨_, rfl, _⟩ := h; rfl) | (obtain ⟨_, _, rfl, _⟩ := h; rfl) | (obtain ⟨_, _, _, rfl, _⟩ := h; rfl) | (obtain ⟨_, _, _, _, rfl, _⟩ := h; rfl) | (obtain ⟨_, _, _, _, _, rfl, _⟩ := h; rfl) | (obtain ⟨_, _, _, _, _, _, rfl, _⟩ := h; rfl) | (obtain ⟨_, _, _, _, _, _, _, rfl, _⟩ := h; rfl) | (obtain ⟨_, _, _, _, _, _, _, _, rfl, _⟩ := h; rfl) | (obtain ⟨_, _, _, _, _, _, _, _, _, rfl, _⟩ := h; rfl) | (obtain ⟨_, _, _, _, _, _, _, _, _, _, rfl, _⟩ := h; rfl) | (obtain ⟨_, _, _, _, _, _, _, _, _, _, _, rfl, _⟩ := h; rfl) | (obtain ⟨_, _, _, _, _, _, _, _, _, _, _, _, rfl, _⟩ := h; rfl) | (obtain ⟨_, _, _, _, _, _, _, _, _, _, _, _, _, rfl, _⟩ := h; rfl) | (obtain ⟨_, _, _, _, _, _, _, _, _, _, _, _, _, _, rfl, _⟩ := h; rfl) | (obtain ⟨_, _, _, _, _, _, _, _, _, _, _, _, _, _, _, rfl, _⟩ := h; rfl))
  case body =>
  have hu := hu_of hr
  refine ⟨_, (pss_cons (ps_set (i := 1) sc_greatest_pairs.nd rfl (Or.inl rfl) (pe_c G_row_entries hr (by decide) (by rfl) (pa_cons (pv 0) pa_nil)))
      (pss_cons (ps_par3 rfl sc_greatest_pairs.nd (i := 2) (j := 3) (l := 4) rfl rfl rfl (by decide) (by decide) (by decide) rfl rfl rfl (pa_cons pe_dnewK (pa_cons pe_dnewK (pa_cons pe_dnewK pa_nil))) rfl)
      (pss_cons (ps_lock (ps_for PassesOwn.never rfl (pi_items (pv 1)) (pg_tup rfl (pgs_cons (pg_name (i := 5) sc_greatest_pairs.nd rfl (Or.inl rfl)) (pgs_cons (pg_name (i := 6) sc_greatest_pairs.nd rfl (Or.inl rfl)) pgs_nil)))
      (pss_cons (ps_dput hu (pv 2) (pv 5) (pv 6) rfl)
      (pss_cons (ps_set (i := 7) sc_greatest_pairs.nd rfl (Or.inl rfl) (pe_c G_best_moves hr (by decide) (by rfl) (pa_cons (pv 2) (pa_cons (pv 3) (pa_cons (pv 4) pa_nil)))))
      (pss_cons (ps_set (i := 8) sc_greatest_pairs.nd rfl (Or.inl rfl) (pv 5))
      (pss_cons (ps_while PassesOwn.never (pt_cmp (pc_dinN hu (pv 8) (pv 7)) rfl)
      (pss_cons (ps_set (i := 9) sc_greatest_pairs.nd rfl (Or.inl rfl) (pe_dget hu (pv 7) (pv 8) (fun _ _ => rfl)))
      (pss_cons (ps_set (i := 10) sc_greatest_pairs.nd rfl (Or.inl rfl) (pe_dget1 hu (pv 4) (pv 9) ⟨rfl, rfl, rfl, rfl⟩))
      (pss_cons (ps_asg (pe_tup (pa_cons (pv 9) (pa_cons (pv 8) pa_nil))) (pg_tup rfl (pgs_cons (pg_sub (pv 3) (pv 8) (set_dict hu)) (pgs_cons (pg_sub (pv 4) (pv 9) (set_dict hu)) pgs_nil))))
      (pss_one (ps_set (i := 8) sc_greatest_pairs.nd rfl (Or.inl rfl) (pv 10)))))))
      (pss_one (ps_expr (pe_dpopN (pv 3) (pv 8) pe_non ⟨rfl, rfl, rfl, rfl⟩)))))))))
      (pss_one (ps_ret (pv 3)))))), ?_⟩
  obtain ⟨t, m, rfl, hT, q⟩ := h
  refine ⟨_, rfl, t, m, rfl, hT, fun H1 ev rE W s1 hev hRE hWm => ?_⟩
  obtain ⟨kE, hkE, hrE, hEl⟩ := hRE.ex
  obtain ⟨rl, rl1, rl2, rl3, rl4⟩ := hrE.keys
  have hrlen : rl.length ≤ 1000 := by have := congrArg List.length rl1; rw [List.length_map, List.length_map] at this; omega
  have hrl5 : ∀ r e, rE r = some e → r ∈ rl := fun r e h => by
    obtain ⟨k, hk, e1⟩ := List.mem_map.mp (rl4 r e h)
    cases e1; exact hk
  refine fun rd hrd => fun pd hpd => fun ow how => ⟨_, _, _, rfl, ?_⟩
  have npr : pd ≠ rd := fun z => by subst z; rw [upd_same] at hpd; cases hpd
  have nor : ow ≠ rd := fun z => by subst z; rw [upd_ne npr.symm, upd_same] at how; cases how
  have nop : ow ≠ pd := fun z => by subst z; rw [upd_same] at how; cases how
  have s4 : Same H1 (upd (upd (upd H1 rd (.dK [])) pd (.dK [])) ow (.dK [])) := ((same_new hrd).new hpd).new how
  have hpd1 : H1 pd = none := (same_new hrd).free hpd
  have how1 : H1 ow = none := ((same_new hrd).new hpd).free how
  have a1 : upd (upd (upd H1 rd (.dK [])) pd (.dK [])) ow (.dK []) rd = some (.dK []) := by rw [upd_ne nor.symm, upd_ne npr.symm, upd_same]
  have a2 : upd (upd (upd H1 rd (.dK [])) pd (.dK [])) ow (.dK []) pd = some (.dK []) := by rw [upd_ne nop.symm, upd_same]
  have a3 : upd (upd (upd H1 rd (.dK [])) pd (.dK [])) ow (.dK []) ow = some (.dK []) := upd_same
  generalize upd (upd (upd H1 rd (.dK [])) pd (.dK [])) ow (.dK []) = H2 at s4 a1 a2 a3
  have hevr : ev ≠ rd := fun z => by subst z; rw [hkE] at hrd; cases hrd
  have hevp : ev ≠ pd := fun z => by subst z; rw [hkE] at hpd1; cases hpd1
  have hevo : ev ≠ ow := fun z => by subst z; rw [hkE] at how1; cases how1
  -- for first, own in every.items()
  refine ⟨ev, _, s4 _ _ hkE, trivial, fun od => ?_⟩
  have sL : Same (upd H1 ev (.frz od (.dK kE))) (upd H2 ev (.frz od (.dK kE))) := s4.upd
  have b0 : upd H1 ev (.frz od (.dK kE)) ev = some (.frz od (.dK kE)) := upd_same
  have br : ∀ n e, rE n = some e → ∃ ke, upd H1 ev (.frz od (.dK kE)) e = some (.dK ke) ∧ DII ke (W n) ∧ ke.length ≤ 1000 := fun n e h => let ⟨ke, a, b, c⟩ := hRE.row n e h; ⟨ke, by rw [upd_ne (hRE.ne h)]; exact a, b, c⟩
  have fin1 : ∀ H', Same (upd H1 ev (.frz od (.dK kE))) H' → Same H1 (upd H' ev (.dK kE)) := fun H' s => unlock hkE s
  have f1 : upd H1 ev (.frz od (.dK kE)) rd = none := by rw [upd_ne hevr.symm]; exact hrd
  have f2 : upd H1 ev (.frz od (.dK kE)) pd = none := by rw [upd_ne hevp.symm]; exact hpd1
  have f3 : upd H1 ev (.frz od (.dK kE)) ow = none := by rw [upd_ne hevo.symm]; exact how1
  have c1 : upd H2 ev (.frz od (.dK kE)) rd = some (.dK []) := by rw [upd_ne hevr.symm]; exact a1
  have c2 : upd H2 ev (.frz od (.dK kE)) pd = some (.dK []) := by rw [upd_ne hevp.symm]; exact a2
  have c3 : upd H2 ev (.frz od (.dK kE)) ow = some (.dK []) := by rw [upd_ne hevo.symm]; exact a3
  generalize upd H1 ev (.frz od (.dK kE)) = B1 at sL b0 br fin1 f1 f2 f3
  generalize upd H2 ev (.frz od (.dK kE)) = H3 at sL c1 c2 c3
  refine ⟨_, rfl, _, _, _, rfl, sL _ _ b0, ?_⟩
  refine for_it (walk_items (kvs := kE)) (fun k σ' H' => ∃ (v5 v6 v7 v8 v9 v10 : Option V) (kr kp ko : List (Key × V)) (rm : Str → Option Addr) (p : Str → Option Int) (o : Int → Option Str) (u : Str → Int) (v : Int → Int), σ' = [some (.ref t), some (.ref ev), some (.ref rd), some (.ref pd), some (.ref ow), v5, v6, v7, v8, v9, v10] ∧ Same B1 H' ∧
    H' rd = some (.dK kr) ∧ DM (A := Str) (B := Addr) Sum.inr V.ref kr rm ∧ (∀ r e, rm r = some e → rE r = some e) ∧ (∀ r, Sr rm r ↔ Seen kE k (.inr r)) ∧ H' pd = some (.dK kp) ∧ DSI kp p ∧ H' ow = some (.dK ko) ∧ DIS ko o ∧
    Mat (Sr rm) W p o ∧ Dual (Sr rm) W p o (fun _ => False) u v ∧ ∀ r c, p r = some c → Sr rm r) ?_ ?_ ?_ ?_
  · exact ⟨_, _, _, _, _, _, [], [], [], fun _ => none, fun _ => none, fun _ => none, _, _, rfl, sL, c1, .nil, fun r e h => (nomatch h), fun r => ⟨fun ⟨e, h⟩ => (nomatch h), fun h => absurd h seen0⟩, c2, .nil, c3, .nil, Mat.none, Dual.none fun r ⟨e, h⟩ => (nomatch h), fun r c h => (nomatch h)⟩
  · rintro k σ' H' _ ⟨_, _, _, _, _, _, _, _, _, _, _, _, _, _, _, s, _⟩
    exact s _ _ b0
  · rintro k y σ' H4 H5 hk ⟨v5, v6, v7, v8, v9, v10, kr, kp, ko, rm, p, o, u, v, rfl, s, hr, hrm, hsub, hseen, hpH, hp, hoH, ho, hM, hD, hps⟩ ⟨T, y1, y2, rfl, hTn, rfl, e1, e2⟩
    obtain ⟨⟨ky, vl⟩, hkv, e3⟩ := Option.map_eq_some_iff.mp e1
    replace e2 : kE[k]?.map Prod.snd = some y2 := e2
    rw [hkv] at e2
    cases e2
    obtain ⟨r, e, rfl, rfl, hre⟩ := hrE.ix inr_inj hkv
    subst e3
    have sT : Same B1 (upd H4 T (.tup [kV (.inr r), .ref e])) := s.new hTn
    have hrT := (same_new (o := .tup [kV (.inr r), .ref e]) hTn) _ _ hr
    have hpT := (same_new (o := .tup [kV (.inr r), .ref e]) hTn) _ _ hpH
    have hoT := (same_new (o := .tup [kV (.inr r), .ref e]) hTn) _ _ hoH
    have hTT : upd H4 T (.tup [kV (.inr r), .ref e]) T = some (.tup [kV (.inr r), .ref e]) := upd_same
    generalize upd H4 T (.tup [kV (.inr r), .ref e]) = H6 at sT hrT hpT hoT hTT
    have hkl : kr.length ≤ 1000 := Nat.le_trans (few' hrm rl fun a b h => hrl5 a b (hsub a b h)) hrlen
    refine ⟨T, _, rfl, SqT.of hTT, rfl, _, _, rfl, _, _, rfl, rfl, _, rfl, _, rfl, _, rfl, rd, _, rfl, dput_k (.inr r) (.ref e) hrT (by omega), ?_⟩
    -- best_moves
    have nf : ¬ Sr rm r := fun h => not_seen hrE.nd hkv ((hseen r).mp h)
    have hS : Sr (fup rm r (some e)) = fun z => Sr rm z ∨ z = r := funext fun z => propext (by
      constructor
      · rintro ⟨e', h⟩
        by_cases q : z = r
        · exact .inr q
        · rw [KM.fup_ne q] at h; exact .inl ⟨e', h⟩
      · rintro (⟨e', h⟩ | rfl)
        · have : z ≠ r := fun q => nf (q ▸ ⟨e', h⟩)
          exact ⟨e', by rw [KM.fup_ne this]; exact h⟩
        · exact ⟨e, KM.fup_same⟩)
    obtain ⟨ke, he, hke, _⟩ := br r e hre
    obtain ⟨B, hB0, hBw⟩ := top_of hke
    have hM2 := hM.more r
    have hD2 := hD.more nf hps hB0 hBw
    rw [← hS] at hM2 hD2
    have hps2 : ∀ z c, p z = some c → Sr (fup rm r (some e)) z := fun z c h => by rw [hS]; exact .inl (hps z c h)
    have hsub2 : ∀ z e', fup rm r (some e) z = some e' → rE z = some e' := fun z e' h => by
      by_cases q : z = r
      · subst q; rw [KM.fup_same] at h; cases h; exact hre
      · rw [KM.fup_ne q] at h; exact hsub z e' h
    have hrm2 := hrm.put inr_inj r e
    have sR : Same B1 (upd H6 rd (.dK (putK kr (.inr r) (.ref e)))) := sT.at f1
    have hp7 : upd H6 rd (.dK (putK kr (.inr r) (.ref e))) pd = some (.dK kp) := by rw [upd_ne npr]; exact hpT
    have ho7 : upd H6 rd (.dK (putK kr (.inr r) (.ref e))) ow = some (.dK ko) := by rw [upd_ne nor]; exact hoT
    have hr7 : upd H6 rd (.dK (putK kr (.inr r) (.ref e))) rd = some (.dK (putK kr (.inr r) (.ref e))) := upd_same
    have hRows : RowsAt (upd H6 rd (.dK (putK kr (.inr r) (.ref e)))) rd (fup rm r (some e)) W := by
      refine ⟨⟨_, upd_same, hrm2, ?_⟩, fun n e' h => ?_⟩
      · exact Nat.le_trans (few' hrm2 rl fun a b h => hrl5 a b (hsub2 a b h)) hrlen
      · obtain ⟨k', a, b, c⟩ := br n e' (hsub2 n e' h)
        exact ⟨k', sR _ _ a, b, c⟩
    generalize upd H6 rd (.dK (putK kr (.inr r) (.ref e))) = H7 at sR hp7 ho7 hr7 hRows
    generalize hrm' : fup rm r (some e) = rm' at *
    have hseen2 : ∀ z, Sr rm' z ↔ Seen kE (k + 1) (.inr z) := fun z => by
      rw [hS, seen_succ hkv, ← hseen z]
      exact ⟨fun h => h.imp id fun h => by rw [h], fun h => h.imp id fun h => inr_inj _ _ h⟩
    refine ⟨_, rfl, _, rfl, _, rfl, rd, pd, ow, rm', W, kp, ko, p, o, (fun z => z = r), fup u r B, v, rfl, hRows, hp7, hp, ho7, ho, hM2, hD2, hps2, ?_⟩
    intro H8 md km mm u' v' s8 hmd hkm hmm hZ
    have sB : Same B1 H8 := sR.trans s8
    have hp8 := s8 _ _ hp7
    have ho8 := s8 _ _ ho7
    have hr8 := s8 _ _ hr7
    have npm : pd ≠ md := fun z => by subst z; rw [hp7] at hmd; cases hmd
    have nom : ow ≠ md := fun z => by subst z; rw [ho7] at hmd; cases hmd
    have hpr : p r = none := by
      cases q2 : p r with
      | none => rfl
      | some c => exact absurd (hps r c q2) nf
    have sr : Sr rm' r := by rw [hS]; exact .inr rfl
    have hA := Aug.start hM2 hZ (f := r) (fun _ h => h) sr hpr hps2
    obtain ⟨N, hN⟩ := hZ.en r
    have nrm : rd ≠ md := fun z => by subst z; rw [hr7] at hmd; cases hmd
    have g3 : ∀ {r' e'}, rm' r' = some e' → r' ∈ rl := fun {r' e'} h => hrl5 r' e' (hsub2 r' e' h)
    refine ⟨_, rfl, WAug t ev rd pd ow md e r B1 (putK kr (.inr r) (.ref e)) km (Sr rm') W o mm u' v', ⟨N, v9, v10, kp, ko, p, o, some r, rfl, sB, hr8, hkm, hp8, hp, ho8, ho, hA, hN⟩, ?_⟩
    rintro n σ' H9 ⟨w9, w10, kp2, ko2, pp, oo, xo, rfl, s9, hr9, hm9, hp9, hpp, ho9, hoo, hA9, hdep⟩
    have exitS : (∀ z, xo = some z → mm z = none) → ∀ (H' : Hp) (kp3 : List (Key × V)), Same B1 H' → H' rd = some (.dK (putK kr (.inr r) (.ref e))) → H' pd = some (.dK kp3) → DSI kp3 (fdel pp xo) → H' ow = some (.dK ko2) →
        ∃ (v5 v6 v7 v8 v9 v10 : Option V) (kr kp ko : List (Key × V)) (rm : Str → Option Addr) (p : Str → Option Int) (o : Int → Option Str) (u : Str → Int) (v : Int → Int), [some (V.ref t), some (.ref ev), some (.ref rd), some (.ref pd), some (.ref ow), some (.str r), some (.ref e), some (.ref md), some (vName xo), w9, w10] = [some (.ref t), some (.ref ev), some (.ref rd), some (.ref pd), some (.ref ow), v5, v6, v7, v8, v9, v10] ∧ Same B1 H' ∧
          H' rd = some (.dK kr) ∧ DM (A := Str) (B := Addr) Sum.inr V.ref kr rm ∧ (∀ r e, rm r = some e → rE r = some e) ∧ (∀ r, Sr rm r ↔ Seen kE (k + 1) (.inr r)) ∧ H' pd = some (.dK kp) ∧ DSI kp p ∧ H' ow = some (.dK ko) ∧ DIS ko o ∧
          Mat (Sr rm) W p o ∧ Dual (Sr rm) W p o (fun _ => False) u v ∧ ∀ r c, p r = some c → Sr rm r := fun hx H' kp3 sx hrx hpx hdx hox => by
      obtain ⟨d1, d2, d3⟩ := Aug.done hZ hA9 hx
      exact ⟨_, _, _, _, _, _, _, kp3, ko2, rm', _, oo, u', v', rfl, sx, hrx, hrm2, hsub2, hseen2, hpx, hdx, hox, hoo, d1, d2, d3⟩
    have lkp : kp2.length ≤ 1000 := Nat.le_trans (few' hpp rl fun a b h => let ⟨e', h2⟩ := hA9.a3 a b h; g3 h2) hrlen
    have lko : ko2.length ≤ 1000 := Nat.le_trans (few_o (p := pp) (rl := rl) hoo fun c z h => ⟨(hA9.a1 c z h).2.1, let ⟨e', h2⟩ := (hA9.a1 c z h).1; g3 h2⟩) hrlen
    cases xo with
    | none =>
      refine ⟨_, rfl, _, rfl, .inr ⟨md, km, rfl, rfl, .inl hm9, _, rfl, iteF ⟨_, rfl, pd, rfl, .inl ⟨_, .inl hp9⟩, _, rfl, kp2, hp9, .inl ⟨rfl, ?_⟩⟩⟩⟩
      exact exitS (fun z h => nomatch h) H9 kp2 s9 hr9 hp9 hpp ho9
    | some z =>
      have dm := dget_rd (.inr z) (Rd.of hm9)
      rw [hmm.at_] at dm
      cases hmz : mm z with
      | none =>
        rw [hmz] at dm
        refine ⟨_, rfl, _, rfl, .inl ⟨md, _, rfl, dm, _, rfl, iteF ⟨_, rfl, pd, rfl, .inl ⟨_, .inl hp9⟩, _, rfl, kp2, hp9, .inr ⟨.inr z, rfl, fun v2 h2 => ?_, fun h2 => ?_⟩⟩⟩⟩
        · refine exitS (fun z' h => by cases h; exact hmz) _ (dropK kp2 (.inr z)) (s9.at f2) (by rw [upd_ne npr.symm]; exact hr9) upd_same (hpp.drop inr_inj z) (by rw [upd_ne nop]; exact ho9)
        · refine exitS (fun z' h => by cases h; exact hmz) H9 kp2 s9 hr9 hp9 (hpp.congr fun a => ?_) ho9
          show pp a = fup pp z none a
          by_cases ha : a = z
          · subst ha
            rw [KM.fup_same]
            cases q2 : pp a with
            | none => rfl
            | some c => rw [hpp.get q2] at h2; cases h2
          · rw [KM.fup_ne ha]
      | some c =>
        rw [hmz] at dm
        obtain ⟨hA10, hb⟩ := Aug.step hZ hA9 rfl hmz
        have do1 := dget_rd (.inl c) (Rd.of ho9)
        rw [hoo.at_] at do1
        cases n with
        | zero => exact hdep.elim
        | succ n =>
          refine ⟨_, rfl, _, rfl, .inl ⟨md, _, rfl, dm, _, rfl, iteT ⟨WAug t ev rd pd ow md e r B1 (putK kr (.inr r) (.ref e)) km (Sr rm') W o mm u' v' n, fun σ'' H'' h => ⟨n, Nat.lt_succ_self n, h⟩, ?_⟩⟩⟩
          refine ⟨_, rfl, _, rfl, _, _, rfl, dm, _, rfl, ow, rfl, .inl ⟨_, .inl ho9⟩, _, rfl, _, do1, _, rfl, _, rfl, by show 2 ≤ sizeLine; decide, fun tp htp => ⟨_, _, rfl, SqT.of upd_same, rfl, _, _, rfl, _, rfl, _, rfl, ?_⟩⟩
          have sT9 : Same B1 (upd H9 tp (.tup [.int c, vName (some z)])) := s9.new htp
          have k1 := (same_new (o := .tup [.int c, vName (some z)]) htp) _ _ hp9
          have k2 := (same_new (o := .tup [.int c, vName (some z)]) htp) _ _ ho9
          have k3 := (same_new (o := .tup [.int c, vName (some z)]) htp) _ _ hr9
          have k4 := (same_new (o := .tup [.int c, vName (some z)]) htp) _ _ hm9
          generalize upd H9 tp (.tup [.int c, vName (some z)]) = Ht at sT9 k1 k2 k3 k4
          have k5 : upd Ht pd (.dK (putK kp2 (.inr z) (.int c))) ow = some (.dK ko2) := by rw [upd_ne nop]; exact k2
          refine ⟨pd, _, rfl, dput_k (.inr z) (.int c) k1 (by omega), _, _, rfl, _, rfl, _, rfl, ow, _, rfl, dput_k (.inl c) (.str z) k5 (by omega), rfl, _, rfl, ?_⟩
          refine ⟨some (.int c), some (((oo c).map V.str).getD .non), putK kp2 (.inr z) (.int c), putK ko2 (.inl c) (.str z), _, _, oo c, ?_, (sT9.at f2).at f3, by rw [upd_ne nor.symm, upd_ne npr.symm]; exact k3, by rw [upd_ne nom.symm, upd_ne npm.symm]; exact k4, by rw [upd_ne nop.symm, upd_same], hpp.put inr_inj z c, upd_same, hoo.put inl_inj c z, hA10, ?_⟩
          · have : ((oo c).map V.str).getD .non = vName (oo c) := by cases oo c <;> rfl
            rw [this]; rfl
          · have hd2 : KM.dep (fun z => (mm z).bind o) n ((mm z).bind o) := hdep
            rw [hb] at hd2; exact hd2
  · rintro σ' H4 ⟨v5, v6, v7, v8, v9, v10, kr, kp, ko, rm, p, o, u, v, rfl, s, hr, hrm, hsub, hseen, hpH, hp, hoH, ho, hM, hD, hps⟩
    refine ⟨s _ _ b0, _, rfl, ?_⟩
    refine q _ pd kp p (s1.trans (fin1 _ s)) (s1.free hpd1) (by rw [upd_ne hevp.symm]; exact hpH) hp (Nat.le_trans (few' hp rl fun a b h => let ⟨e, h2⟩ := hps a b h; hrl5 a e (hsub a e h2)) hrlen) (fun n z h => ?_) fun n n' z h h' => ?_
    · obtain ⟨_, w, hw⟩ := hM.pin n z h
      exact ⟨w, by rw [← hWm]; exact hw⟩
    · have h1 := (hM.pin n z h).1
      rw [(hM.pin n' z h').1] at h1
      exact (Option.some.inj h1).symm
def spBest : Sp := fun vs H Q _ => ∃ (t h : Addr) (m : Str × Int → Option Int) (kh : List (Key × V)) (hm : Str → Option Int), vs = [.ref t, .ref h] ∧ TabAt H t m ∧ H h = some (.dK kh) ∧ DSI kh hm ∧ (∀ n z v, m (n, z) = some v → n ∈ five ∧ (∃ j : Nat, z = j ∧ j < 20) ∧ 0 ≤ v ∧ v ≤ 400000000) ∧
  ∀ (H' : Hp) (q : Addr) (kp : List (Key × V)) (p : Str → Option Int), Same H H' → H q = none → H' q = some (.dK kp) → DSI kp p → kp.length ≤ 1000 → (∀ n z, p n = some z → ∃ w, m (n, z) = some w) → (∀ n n' z, p n = some z → p n' = some z → n = n') → Q (.ref q) H'
theorem ok_best_carrying {P : Program} {w : World} {K : PySem.W.Frag} {mg : Str → Option Value} {base : Heap} (T : Tx K mg) : CK P w K mg base 3 "best_carrying" 1 ["homes"] (fun vs zs => vs ++ zs) spBest := by
  obtain ⟨fd, F⟩ := T.d_best_carrying
  have G_exact_table := ok_exact_table (P := P) (w := w) (base := base) T
  have G_greatest_pairs := ok_greatest_pairs (P := P) (w := w) (base := base) T
  refine ⟨_, fd, ["table", "homes"], _, (F.ok sc_best_carrying (fun vs H Q E h => ?len) (fun cdv A outer s H vs Q E hr h => ?body)), T.g_best_carrying, T.k_best_carrying, kbn_of F 1 ["homes"] (fun us ws => us ++ ws) (fun r1 r2 => r1.append r2) (fun _ _ _ _ _ _ us ws l1 l2 => match us, ws, l1, l2 with | [_], [_], _, _ => rfl)⟩
  case len => exact (by first | (obtain ⟨rfl, _⟩ := h; rfl) | (obtain ⟨_, rfl, _⟩ := h; rfl) | (obtain ⟨_, _, rfl, _⟩ := h; rfl) | (obtain ⟨_, _, _, rfl, _⟩ := h; rfl) | (obtain ⟨_, _, _, _, rfl, _⟩ := h; rfl) | (obtain ⟨_, _, _, _, _, rfl, _⟩ := h; rfl) | (obtain ⟨_, _, _, _, _, _, rfl, _⟩ := h; rfl) | (obtain ⟨_, _, _, _, _, _, _, rfl, _⟩ := h; rfl) | (obtain ⟨_, _, _, _, _, _, _, _, rfl, _⟩ := h; rfl) | (obtain ⟨_, _, _, _, _, _, _, _, _, rfl, _⟩ := h; rfl) | (obtain ⟨_, _, _, _, _, _, _, _, _, _, rfl, _⟩ := h; rfl) | (obtain ⟨_, _, _, _, _, _, _, _, _, _, _, rfl, _⟩ := h; rfl) | (obtain ⟨_, _, _, _, _, _, _, _, _, _, _, _, rfl, _⟩ := h; rfl) | (obtain ⟨_, _, _, _, _, _, _, _, _, _, _, _, _, rfl, _⟩ := h; rfl) | (obtain ⟨_, _, _, _, _, _, _, _, _, _, _, _, _, _, rfl, _⟩ := h; rfl) | (obtain ⟨_, _, _, _, _, _, _, _, _, _, _, _, _, _, _, rfl, _⟩ := h; rfl))
  case body =>
  have hu := hu_of hr
  refine ⟨_, (pss_one (ps_ret (pe_c G_greatest_pairs hr (by decide) (by rfl) (pa_cons (pe_ck G_exact_table hr (by decide) (by rfl) (pa_cons (pv 0) pa_nil) (pk_cons (pv 1) pk_nil)) pa_nil)))), ?_⟩
  obtain ⟨t, h, m, kh, hm, rfl, hT, hh, hhm, hb, q⟩ := h
  refine ⟨_, rfl, _, rfl, rfl, rfl, t, h, m, kh, hm, rfl, hT, hh, hhm, hb, fun H1 p m' s1 hp hT1 hsub => ?_⟩
  exact ⟨p, m', rfl, hT1, fun H2 q2 kp pp s2 hq2 hk hd hl h1 h2 => q H2 q2 kp pp (s1.trans s2) (s1.free hq2) hk hd hl (fun n z e => let ⟨w, hw⟩ := h1 n z e; hsub n z w hw) h2⟩
end KN

set_option Elab.async false
set_option linter.all false
set_option maxRecDepth 100000
set_option maxHeartbeats 4000000
/-! the pins that count -/
namespace KN
open PySem PySem.Spec PyProof.Rows L2 ClX StX
open C8 (Cal Met Mak CalAt pe_c pe_mk pe_mt pe_mt0 pss_cut tCut pe_gc)
/-! ### the order of names -/
def SLt (x y : Str) : Prop := ltCps x.cps.toList y.cps.toList = true
theorem lt_irr : ∀ a : List Nat, ltCps a a = false
  | [] => rfl
  | a :: r => by simp [ltCps, lt_irr r]
theorem lt_tri : ∀ a b : List Nat, ltCps a b = false → ltCps b a = false → a = b
  | [], [], _, _ => rfl
  | [], b :: t, h, _ => by simp [ltCps] at h
  | a :: r, [], _, h => by simp [ltCps] at h
  | a :: r, b :: t, h1, h2 => by
    simp only [ltCps, Bool.or_eq_false_iff, decide_eq_false_iff_not, Bool.and_eq_false_iff, beq_eq_false_iff_ne] at h1 h2
    have e : a = b := by omega
    subst e
    have := lt_tri r t (h1.2.resolve_left fun h => h rfl) (h2.2.resolve_left fun h => h rfl)
    rw [this]
theorem lt_tr : ∀ a b c : List Nat, ltCps a b = true → ltCps b c = true → ltCps a c = true
  | _, [], [], _, h => by simp [ltCps] at h
  | [], _ :: _, [], _, h => by simp [ltCps] at h
  | _ :: _, _ :: _, [], _, h => by simp [ltCps] at h
  | [], _, c :: u, _, _ => rfl
  | a :: r, [], c :: u, h, _ => by simp [ltCps] at h
  | a :: r, b :: t, c :: u, h1, h2 => by
    simp only [ltCps, Bool.or_eq_true, decide_eq_true_eq, Bool.and_eq_true, beq_iff_eq] at h1 h2 ⊢
    rcases h1 with h1 | ⟨h1, h1'⟩
    · rcases h2 with h2 | ⟨h2, _⟩
      · exact .inl (by omega)
      · exact .inl (by omega)
    · rcases h2 with h2 | ⟨h2, h2'⟩
      · exact .inl (by omega)
      · exact .inr ⟨by omega, lt_tr r t u h1' h2'⟩
theorem slt_irr {x : Str} : ¬ SLt x x := fun h => by unfold SLt at h; rw [lt_irr] at h; cases h
theorem slt_tr {x y z : Str} (h1 : SLt x y) (h2 : SLt y z) : SLt x z := lt_tr _ _ _ h1 h2
theorem slt_tri {x y : Str} (h1 : ¬ SLt x y) (h2 : ¬ SLt y x) : x = y := by
  have := lt_tri x.cps.toList y.cps.toList (Bool.eq_false_iff.mpr h1) (Bool.eq_false_iff.mpr h2)
  obtain ⟨a⟩ := x
  obtain ⟨b⟩ := y
  have e : a = b := by cases a; cases b; simp at this; rw [this]
  rw [e]
theorem rising_lt : ∀ (r : List Str) (p : Str), risingS p r = true → (p :: r).Nodup → ∀ x ∈ r, SLt p x
  | [], _, _, _, _, h => nomatch h
  | x :: r, p, h, nd, y, hy => by
    simp only [risingS, Bool.and_eq_true, Bool.not_eq_true'] at h
    obtain ⟨n1, n2⟩ := List.nodup_cons.mp nd
    have hpx : SLt p x := Classical.byContradiction fun h1 => n1 (by rw [slt_tri h1 (by unfold SLt; rw [h.1]; simp)]; exact List.mem_cons_self)
    rcases List.mem_cons.mp hy with rfl | hy
    · exact hpx
    · exact slt_tr hpx (rising_lt r x h.2 n2 y hy)
theorem sorted_lt : ∀ {ys : List Str}, sortedS ys = true → ys.Nodup → ∀ {i j : Nat} {a b : Str}, i < j → ys[i]? = some a → ys[j]? = some b → SLt a b
  | [], _, _, i, j, a, b, _, h, _ => by simp at h
  | p :: r, hs, nd, 0, j + 1, a, b, _, h1, h2 => by
    cases h1
    exact rising_lt r p hs nd b (List.mem_of_getElem? h2)
  | p :: r, hs, nd, i + 1, j + 1, a, b, hij, h1, h2 => by
    refine sorted_lt (ys := r) ?_ (List.nodup_cons.mp nd).2 (Nat.lt_of_succ_lt_succ hij) h1 h2
    cases r with
    | nil => rfl
    | cons x r =>
      have hs : (!ltCps x.cps.toList p.cps.toList && risingS x r) = true := hs
      rw [Bool.and_eq_true] at hs
      exact hs.2
/-- what counting_pins gives: the pin of the least name of each group -/
structure CPr (gs : List (List Int)) (pn f : Str → Option Int) : Prop where
  sub : ∀ n i, f n = some i → pn n = some i ∧ ∃ j, InG gs i j
  inj : ∀ n n' i i' j, f n = some i → f n' = some i' → InG gs i j → InG gs i' j → n = n'
  lost : ∀ n i j, pn n = some i → InG gs i j → f n = none → ∃ n' i', f n' = some i' ∧ InG gs i' j ∧ SLt n' n
  least : ∀ n i n' i' j, f n = some i → InG gs i j → pn n' = some i' → InG gs i' j → ¬ SLt n' n
theorem CPr.uniq {gs : List (List Int)} {pn f f' : Str → Option Int} (h : CPr gs pn f) (h' : CPr gs pn f') : ∀ n, f n = f' n := by
  have half : ∀ {f f' : Str → Option Int}, CPr gs pn f → CPr gs pn f' → ∀ n i, f n = some i → f' n = some i := fun {f f'} h h' n i e => by
    obtain ⟨e1, j, hj⟩ := h.sub n i e
    cases e2 : f' n with
    | some i' => rw [(h'.sub n i' e2).1] at e1; exact e1
    | none =>
      obtain ⟨n2, i2, e3, hj2, hlt⟩ := h'.lost n i j e1 hj e2
      exact absurd hlt (h.least n i n2 i2 j e hj (h'.sub n2 i2 e3).1 hj2)
  intro n
  cases e : f n with
  | some i => exact (half h h' n i e).symm
  | none =>
    cases e2 : f' n with
    | none => rfl
    | some i => rw [half h' h n i e2] at e; cases e
def spCount : Sp := fun vs H Q _ => ∃ (a d : Addr) (ts : List Addr) (gs : List (List Int)) (kp : List (Key × V)) (pn : Str → Option Int), vs = [.ref a, .ref d] ∧ H a = some (.lst (ts.map V.ref)) ∧ GrpsT H ts gs ∧ GOk gs ∧ H d = some (.dK kp) ∧ DSI kp pn ∧ kp.length ≤ 20 ∧
  ∀ (H' : Hp) (q : Addr) (kf : List (Key × V)) (f : Str → Option Int), Same H H' → H q = none → H' q = some (.dK kf) → DSI kf f → kf.length ≤ 20 → CPr gs pn f → Q (.ref q) H'
theorem ok_counting_pins {P : Program} {w : World} {K : PySem.W.Frag} {mg : Str → Option Value} {base : Heap} (T : Tx K mg) : Cal P w K mg base 2 "counting_pins" spCount [] := by
  obtain ⟨fd, F⟩ := T.d_counting_pins
  have G_places_of := ok_places_of (P := P) (w := w) (base := base) T
  have bd : Binds K fd ["groups", "pins"] [] := F.binds fun _ _ _ _ _ _ us hl => match us, hl with | [_, _], _ => rfl
  refine cal_of (F.ok sc_counting_pins (fun vs H Q E h => ?len) (fun cdv A outer s H vs Q E hr h => ?body)) bd T.g_counting_pins T.k_counting_pins
  case len => exact (by first | (obtain ⟨rfl, _⟩ := h; rfl) | (obtain ⟨_, rfl, _⟩ := h; rfl) | (obtain ⟨_, _, rfl, _⟩ := h; rfl) | (obtain ⟨_, _, _, rfl, _⟩ := h; rfl) | (obtain ⟨_, _, _, _, rfl, _⟩ := h; rfl) | (obtain ⟨_, _, _, _, _, rfl, _⟩ := h; rfl) | (obtain ⟨_, _, _, _, _, _, rfl, _⟩ := h; rfl) | (obtain ⟨_, _, _, _, _, _, _, rfl, _⟩ := h; rfl) | (obtain ⟨_, _, _, _, _, _, _, _, rfl, _⟩ := h; rfl) | (obtain ⟨_, _, _, _, _, _, _, _, _, rfl, _⟩ := h; rfl) | (obtain ⟨_, _, _, _, _, _, _, _, _, _, rfl, _⟩ := h; rfl) | (obtain ⟨_, _, _, _, _, _, _, _, _, _, _, rfl, _⟩ := h; rfl) | (obtain ⟨_, _, _, _, _, _, _, _, _, _, _, _, rfl, _⟩ := h; rfl) | (obtain ⟨_, _, _, _, _, _, _, _, _, _, _, _, _, rfl, _⟩ := h; rfl) | (obtain ⟨_, _, _, _, _, _, _, _, _, _, _, _, _, _, rfl, _⟩ := h; rfl) | (obtain ⟨_, _, _, _, _, _, _, _, _, _, _, _, _, _, _, rfl, _⟩ := h; rfl))
  case body =>
  have hu := hu_of hr
  refine ⟨_, (pss_cons (ps_set (i := 2) sc_counting_pins.nd rfl (Or.inl rfl) (pe_c G_places_of hr (by decide) (by rfl) (pa_cons (pv 0) pa_nil)))
      (pss_cons (ps_set (i := 3) sc_counting_pins.nd rfl (Or.inl rfl) pe_dnewK)
      (pss_cons (ps_set (i := 4) sc_counting_pins.nd rfl (Or.inl rfl) pe_dnewK)
      (pss_cons (ps_for PassesOwn.never rfl (pi_listK K rfl (pe_callB (call_sortedD rfl) (by rfl) T.z_sorted (by decide +kernel) (pa_cons (pv 1) pa_nil))) (pg_name (i := 5) sc_counting_pins.nd rfl (Or.inl rfl))
      (pss_cons (ps_set (i := 6) sc_counting_pins.nd rfl (Or.inl rfl) (pe_dget1 hu (pv 2) (pe_dget hu (pv 1) (pv 5) (fun _ _ => rfl)) ⟨rfl, rfl, rfl, rfl⟩))
      (pss_one (ps_if (PW.pt (pw_and (pt_cmpR op_notN (pv 6) pe_non (nomark _)) (pw_and1 (pt_cmp (pc_dnotin hu (pv 6) (pv 4)) rfl)))) (pss_cons (ps_dput hu (pv 4) (pv 6) (pv 5) rfl)
      (pss_one (ps_dput hu (pv 3) (pv 5) (pe_dget hu (pv 1) (pv 5) (fun _ _ => rfl)) rfl)))
      pss_nil))))
      (pss_one (ps_ret (pv 3))))))), ?_⟩
  obtain ⟨a, d, ts, gs, kp, pn, rfl, ha, hg, hok, hd, hpn, hl, q⟩ := h
  refine ⟨_, rfl, a, ts, gs, rfl, ha, hg, hok, fun H1 pl kl pm s1 hpl hkl hpm hll hpmi => ?_⟩
  refine fun fo hfo => fun tk htk => ?_
  have ntf : tk ≠ fo := fun z => by subst z; rw [upd_same] at htk; cases htk
  have s3 : Same H1 (upd (upd H1 fo (.dK [])) tk (.dK [])) := (same_new hfo).new htk
  have a1 : upd (upd H1 fo (.dK [])) tk (.dK []) fo = some (.dK []) := by rw [upd_ne ntf.symm, upd_same]
  have a2 : upd (upd H1 fo (.dK [])) tk (.dK []) tk = some (.dK []) := upd_same
  have htk1 := (same_new hfo).free htk
  generalize upd (upd H1 fo (.dK [])) tk (.dK []) = H2 at s3 a1 a2
  obtain ⟨ns, n1, n2, n3, n4⟩ := hpn.keys
  have hnl : ns.length ≤ 20 := by have := congrArg List.length n1; rw [List.length_map, List.length_map] at this; omega
  have hnm : ∀ n i, pn n = some i → n ∈ ns := fun n i h => by
    obtain ⟨k, hk, e1⟩ := List.mem_map.mp (n4 n i h)
    cases e1; exact hk
  refine ⟨_, rfl, d, kp, ns, rfl, .inl (s3 _ _ (s1 _ _ hd)), n1, by omega, fun ys p hperm hsort hp => ?_⟩
  have hynd := hperm.nodup_iff.mpr n2
  have s4 : Same H1 (upd H2 p (.lst (ys.map V.str))) := s3.new hp
  have npf : p ≠ fo := fun z => by subst z; rw [a1] at hp; cases hp
  have npt : p ≠ tk := fun z => by subst z; rw [a2] at hp; cases hp
  have b1 : upd H2 p (.lst (ys.map V.str)) fo = some (.dK []) := by rw [upd_ne npf.symm]; exact a1
  have b2 : upd H2 p (.lst (ys.map V.str)) tk = some (.dK []) := by rw [upd_ne npt.symm]; exact a2
  have b3 : upd H2 p (.lst (ys.map V.str)) p = some (.lst (ys.map V.str)) := upd_same
  generalize upd H2 p (.lst (ys.map V.str)) = H3 at s4 b1 b2 b3
  refine ⟨p, rfl, ⟨_, SqL.of b3⟩, for_it (walk_list (K := K) (a := p) (xs := ys.map V.str)) (fun j σ H' => ∃ (v5 v6 : Option V) (kf kt : List (Key × V)) (f : Str → Option Int) (tm : Int → Option Str), σ = [some (.ref a), some (.ref d), some (.ref pl), some (.ref fo), some (.ref tk), v5, v6] ∧ Same H1 H' ∧ H' p = some (.lst (ys.map V.str)) ∧
    H' fo = some (.dK kf) ∧ DSI kf f ∧ kf.length ≤ j ∧ H' tk = some (.dK kt) ∧ DIS kt tm ∧ kt.length ≤ j ∧ (∀ n i, f n = some i → pn n = some i ∧ ∃ g : Nat, InG gs i g ∧ tm g = some n) ∧ (∀ z n, tm z = some n → ∃ (g : Nat) (i : Int), z = g ∧ f n = some i ∧ InG gs i g) ∧
    (∀ n i (g : Nat), n ∈ ys.take j → pn n = some i → InG gs i g → ∃ n', tm g = some n' ∧ (n' = n ∨ SLt n' n)) ∧ (∀ z n, tm z = some n → n ∈ ys.take j)) ?_ ?_ ?_ ?_⟩
  · exact ⟨none, none, [], [], fun _ => none, fun _ => none, rfl, s4, b3, b1, .nil, Nat.le_refl _, b2, .nil, Nat.le_refl _, fun n i h => (nomatch h), fun n i h => (nomatch h), fun n i g h => by simp at h, fun n i h => (nomatch h)⟩
  · rintro j σ H' _ ⟨_, _, _, _, _, _, _, _, h, _⟩
    exact SqL.of h
  · rintro j x σ H4 H5 hj ⟨v5, v6, kf, kt, f, tm, rfl, s, hp4, hf4, hf, hfl, ht4, ht, htl, i1, i2, i3, i4⟩ ⟨rfl, hx⟩
    rw [List.getElem?_map] at hx
    obtain ⟨n, hn, rfl⟩ := Option.map_eq_some_iff.mp hx
    have hnm2 : n ∈ ns := hperm.mem_iff.mp (List.mem_of_getElem? hn)
    obtain ⟨i, hi⟩ := n3 n hnm2
    have htake : ys.take (j + 1) = ys.take j ++ [n] := by rw [List.take_succ, hn]; rfl
    have hj20 : j < 20 := by have := (List.getElem?_eq_some_iff.mp hn).1; have := hperm.length_eq; omega
    have hlt : ∀ n', n' ∈ ys.take j → SLt n' n := fun n' h => by
      obtain ⟨k, hk, e⟩ := List.getElem_of_mem h
      rw [List.length_take] at hk
      rw [List.getElem_take] at e
      exact sorted_lt hsort hynd (i := k) (j := j) (by omega) (by rw [List.getElem?_eq_getElem (by omega), e]) hn
    have dp := dget_rd (.inr n) (Rd.of (s _ _ (s1 _ _ hd)))
    rw [hpn.get hi] at dp
    have dl := dget_rd (.inl i) (Rd.of (s _ _ hkl))
    rw [hpm.at_] at dl
    refine ⟨_, rfl, pl, rfl, .inl ⟨_, .inl (s _ _ hkl)⟩, _, rfl, _, rfl, _, _, rfl, dp, _, dl, _, rfl, rfl, _, rfl, ?_⟩
    cases hpi : pm i with
    | none =>
      refine iteNS rfl (iteF ⟨_, _, kf, kt, f, tm, rfl, s, hp4, hf4, hf, by omega, ht4, ht, by omega, i1, i2, fun n' i' g hm h1 h2 => ?_, fun z n' h => by rw [htake]; exact List.mem_append_left _ (i4 z n' h)⟩)
      rw [htake] at hm
      rcases List.mem_append.mp hm with hm | hm
      · exact i3 n' i' g hm h1 h2
      · have := List.mem_singleton.mp hm
        subst this
        rw [hi] at h1; cases h1
        rw [(hpmi i g).mpr ⟨g, rfl, h2⟩] at hpi; cases hpi
    | some z =>
      obtain ⟨g, rfl, hig⟩ := (hpmi i z).mp hpi
      have dt := dget_rd (.inl (g : Int)) (Rd.of ht4)
      rw [ht.at_] at dt
      refine iteND (fun h => nomatch h) ⟨_, rfl, _, rfl, _, _, rfl, dt, _, rfl, ?_⟩
      cases htg : tm g with
      | some n2 =>
        refine iteF ⟨_, _, kf, kt, f, tm, rfl, s, hp4, hf4, hf, by omega, ht4, ht, by omega, i1, i2, fun n' i' g' hm h1 h2 => ?_, fun z n' h => by rw [htake]; exact List.mem_append_left _ (i4 z n' h)⟩
        rw [htake] at hm
        rcases List.mem_append.mp hm with hm | hm
        · exact i3 n' i' g' hm h1 h2
        · have := List.mem_singleton.mp hm
          subst this
          rw [hi] at h1; cases h1
          rw [InG.uniq hok.nd h2 hig]
          exact ⟨n2, htg, .inr (hlt n2 (i4 _ _ htg))⟩
      | none =>
        have k1 : upd H5 tk (.dK (putK kt (.inl (g : Int)) (.str n))) fo = some (.dK kf) := by rw [upd_ne ntf.symm]; exact hf4
        have k2 : Same H1 (upd H5 tk (.dK (putK kt (.inl (g : Int)) (.str n)))) := s.at htk1
        have dp2 := dget_rd (.inr n) (Rd.of (k2 _ _ (s1 _ _ hd)))
        rw [hpn.get hi] at dp2
        refine iteT ⟨_, rfl, _, rfl, _, rfl, tk, _, rfl, dput_k (.inl (g : Int)) (.str n) ht4 (by omega), _, rfl, _, rfl, _, _, rfl, dp2, _, rfl, _, rfl, fo, _, rfl, dput_k (.inr n) (.int i) k1 (by omega), ?_⟩
        have nf : ∀ n' i', f n' = some i' → n' ≠ n := fun n' i' h e => by
          subst e
          obtain ⟨_, g', h2, h3⟩ := i1 n' i' h
          exact slt_irr (hlt n' (i4 _ _ h3))
        refine ⟨_, _, _, _, KM.fup f n (some i), KM.fup tm g (some n), rfl, k2.at hfo, by rw [upd_ne npf, upd_ne npt]; exact hp4, upd_same, hf.put inr_inj n i, by have := length_putK kf (.inr n) (V.int i); omega, by rw [upd_ne ntf, upd_same], ht.put inl_inj g n, by have := length_putK kt (.inl (g : Int)) (V.str n); omega, fun n' i' h => ?_, fun z n' h => ?_, fun n' i' g' hm h1 h2 => ?_, fun z n' h => ?_⟩
        · by_cases e : n' = n
          · subst e; rw [KM.fup_same] at h; cases h
            exact ⟨hi, g, hig, KM.fup_same⟩
          · rw [KM.fup_ne e] at h
            obtain ⟨h1, g', h2, h3⟩ := i1 n' i' h
            refine ⟨h1, g', h2, ?_⟩
            rw [KM.fup_ne fun z => by rw [z, htg] at h3; cases h3]; exact h3
        · by_cases e : z = (g : Int)
          · subst e; rw [KM.fup_same] at h; cases h
            exact ⟨g, i, rfl, KM.fup_same, hig⟩
          · rw [KM.fup_ne e] at h
            obtain ⟨g', i', h1, h2, h3⟩ := i2 z n' h
            exact ⟨g', i', h1, by rw [KM.fup_ne (nf n' i' h2)]; exact h2, h3⟩
        · rw [htake] at hm
          rcases List.mem_append.mp hm with hm | hm
          · obtain ⟨n2, h3, h4⟩ := i3 n' i' g' hm h1 h2
            exact ⟨n2, by rw [KM.fup_ne fun z => by rw [z, htg] at h3; cases h3]; exact h3, h4⟩
          · have := List.mem_singleton.mp hm
            subst this
            rw [hi] at h1; cases h1
            rw [InG.uniq hok.nd h2 hig]
            exact ⟨n', KM.fup_same, .inl rfl⟩
        · rw [htake]
          by_cases e : z = (g : Int)
          · subst e; rw [KM.fup_same] at h; cases h; simp
          · rw [KM.fup_ne e] at h; exact List.mem_append_left _ (i4 z n' h)
  · rintro σ H4 ⟨v5, v6, kf, kt, f, tm, rfl, s, hp4, hf4, hf, hfl, ht4, ht, htl, i1, i2, i3, i4⟩
    have hall : ys.take (ys.map V.str).length = ys := by rw [List.length_map]; exact List.take_length
    rw [hall] at i3 i4
    rw [List.length_map] at hfl
    have hyl := hperm.length_eq
    have hym : ∀ n i, pn n = some i → n ∈ ys := fun n i h => hperm.mem_iff.mpr (hnm n i h)
    refine ⟨_, rfl, q H4 fo kf f (s1.trans s) (s1.free hfo) hf4 hf (by omega) ⟨fun n i h => ?_, fun n n' i i' j h h' hj hj' => ?_, fun n i j h hj hn => ?_, fun n i n' i' j h hj h' hj' hlt => ?_⟩⟩
    · obtain ⟨h1, g, h2, _⟩ := i1 n i h
      exact ⟨h1, g, h2⟩
    · obtain ⟨_, g, h2, h3⟩ := i1 n i h
      obtain ⟨_, g', h2', h3'⟩ := i1 n' i' h'
      rw [InG.uniq hok.nd h2 hj] at h3
      rw [InG.uniq hok.nd h2' hj'] at h3'
      rw [h3] at h3'
      exact Option.some.inj h3'
    · obtain ⟨n', h1, h2⟩ := i3 n i j (hym n i h) h hj
      obtain ⟨g, i', h3, h4, h5⟩ := i2 _ _ h1
      have : j = g := by omega
      subst this
      refine ⟨n', i', h4, h5, h2.resolve_left fun e => ?_⟩
      rw [e, hn] at h4; cases h4
    · obtain ⟨_, g, h2, h3⟩ := i1 n i h
      rw [InG.uniq hok.nd h2 hj] at h3
      obtain ⟨n2, h5, h6⟩ := i3 n' i' j (hym n' i' h') h' hj'
      rw [h3] at h5; cases h5
      rcases h6 with h6 | h6
      · rw [h6] at hlt; exact slt_irr hlt
      · exact slt_irr (slt_tr h6 hlt)
end KN

set_option Elab.async false
set_option linter.all false
set_option maxRecDepth 100000
set_option maxHeartbeats 4000000
/-! names carried over -/
namespace KN
open PySem PySem.Spec PyProof.Rows L2 ClX StX
open C8 (Cal Met Mak CalAt pe_c pe_mk pe_mt pe_mt0 pss_cut tCut pe_gc)
def WOk (gs : List (List Int)) (wm : Int → Option Int) : Prop := ∀ g ∈ gs, ∀ i ∈ g, ∃ z, wm i = some z ∧ 1 ≤ z ∧ z ≤ 1000000
def spOpen : Sp := fun vs H Q _ => ∃ (l a d fo : Addr) (ts : List Addr) (gs : List (List Int)) (kl kw kf : List (Key × V)) (lm : Int → Option Str) (wm : Int → Option Int) (f : Str → Option Int), vs = [.ref l, .ref a, .ref d, .ref fo] ∧ H l = some (.dK kl) ∧ DIS kl lm ∧ H a = some (.lst (ts.map V.ref)) ∧ GrpsT H ts gs ∧ GOk gs ∧
  H d = some (.dK kw) ∧ DII kw wm ∧ WOk gs wm ∧ H fo = some (.dK kf) ∧ DSI kf f ∧ kf.length ≤ 20 ∧ (∀ n i, f n = some i → ∃ j, InG gs i j) ∧
  ∀ (H' : Hp) (p : Addr) (m : Str × Int → Option Int), Same H H' → H p = none → TabAt H' p m → (∀ n z v, m (n, z) = some v → (∃ i, lm i = some n) ∧ (∃ j : Nat, z = j ∧ j < gs.length ∧ ∀ n' i, f n' = some i → ¬ InG gs i j) ∧ 0 ≤ v ∧ v ≤ 400000000 ∧ f n = none) → Q (.ref p) H'
theorem ok_open_table {P : Program} {w : World} {K : PySem.W.Frag} {mg : Str → Option Value} {base : Heap} (T : Tx K mg) : Cal P w K mg base 2 "open_table" spOpen [] := by
  obtain ⟨fd, F⟩ := T.d_open_table
  have G_label_table := ok_label_table (P := P) (w := w) (base := base) T
  have G_places_of := ok_places_of (P := P) (w := w) (base := base) T
  have G_without := ok_without (P := P) (w := w) (base := base) T
  have bd : Binds K fd ["labels", "groups", "weights", "pins"] [] := F.binds fun _ _ _ _ _ _ us hl => match us, hl with | [_, _, _, _], _ => rfl
  refine cal_of (F.ok sc_open_table (fun vs H Q E h => ?len) (fun cdv A outer s H vs Q E hr h => ?body)) bd T.g_open_table T.k_open_table
  case len => exact (by first | (obtain ⟨rfl, _⟩ := h; rfl) | (obtain ⟨_, rfl, _⟩ := h; rfl) | (obtain ⟨_, _, rfl, _⟩ := h; rfl) | (obtain ⟨_, _, _, rfl, _⟩ := h; rfl) | (obtain ⟨_, _, _, _, rfl, _⟩ := h; rfl) | (obtain ⟨_, _, _, _, _, rfl, _⟩ := h; rfl) | (obtain ⟨_, _, _, _, _, _, rfl, _⟩ := h; rfl) | (obtain ⟨_, _, _, _, _, _, _, rfl, _⟩ := h; rfl) | (obtain ⟨_, _, _, _, _, _, _, _, rfl, _⟩ := h; rfl) | (obtain ⟨_, _, _, _, _, _, _, _, _, rfl, _⟩ := h; rfl) | (obtain ⟨_, _, _, _, _, _, _, _, _, _, rfl, _⟩ := h; rfl) | (obtain ⟨_, _, _, _, _, _, _, _, _, _, _, rfl, _⟩ := h; rfl) | (obtain ⟨_, _, _, _, _, _, _, _, _, _, _, _, rfl, _⟩ := h; rfl) | (obtain ⟨_, _, _, _, _, _, _, _, _, _, _, _, _, rfl, _⟩ := h; rfl) | (obtain ⟨_, _, _, _, _, _, _, _, _, _, _, _, _, _, rfl, _⟩ := h; rfl) | (obtain ⟨_, _, _, _, _, _, _, _, _, _, _, _, _, _, _, rfl, _⟩ := h; rfl))
  case body =>
  have hu := hu_of hr
  refine ⟨_, (pss_cons (ps_set (i := 4) sc_open_table.nd rfl (Or.inr rfl) (pe_c G_places_of hr (by decide) (by rfl) (pa_cons (pv 1) pa_nil)))
      (pss_cons (ps_lock (ps_setLc (i := 5) (own := [("row_id", 6)]) rfl sc_open_table.nd rfl rfl (sw_true rfl rfl rfl (by decide +kernel)) (pi_values (pv 3)) (blkOk_by (own := [("row_id", 6)]) (N := N_open_table) (sc := defScope s_open_table) (by decide +kernel)) (fun _ _ _ _ _ => (pg_name (i := 6) sc_open_table.nd rfl (Or.inl rfl))) (fun _ _ _ _ _ => pts_nil) (fun _ _ _ _ _ => (pe_dget hu (pv 4) (pv 6) (fun _ _ => rfl)))))
      (pss_one (ps_ret (pe_ck G_without hr (by decide) (by rfl) (pa_cons (pe_c G_label_table hr (by decide) (by rfl) (pa_cons (pv 0) (pa_cons (pv 1) (pa_cons (pv 2) pa_nil)))) pa_nil) (pk_cons (pe_callTy (call_listD rfl) (by rfl) T.z_list (by decide +kernel) (pa_cons (pv 3) pa_nil)) (pk_cons (pv 5) pk_nil))))))), ?_⟩
  obtain ⟨l, a, d, fo, ts, gs, kl, kw, kf, lm, wm, f, rfl, hl, hlm, ha, hg, hok, hd, hwm, hw, hfo, hf, hfl, hfi, q⟩ := h
  refine ⟨_, rfl, a, ts, gs, rfl, ha, hg, hok, fun H1 pl kp pm s1 hpl hkp hpm _ hpmi => ?_⟩
  -- pinned = [places[row_id] for row_id in pins.values()]
  have hfo1 := s1 _ _ hfo
  refine ⟨fo, _, hfo1, trivial, fun od => ?_⟩
  have h0 : upd H1 fo (.frz od (.dK kf)) fo = some (.frz od (.dK kf)) := upd_same
  have hp0 : Rd (upd H1 fo (.frz od (.dK kf))) pl (.dK kp) := rd_lock hfo1 (.inl hkp) (fun _ _ z => nomatch z)
  refine ⟨_, rfl, _, _, _, rfl, h0, fun D hD => ?_⟩
  have nDf : D ≠ fo := fun z => by subst z; rw [h0] at hD; cases hD
  have hDH : H1 D = none := by rw [upd_ne nDf] at hD; exact hD
  refine lc_it (walk_values (kvs := kf)) (fun k H' => ∃ zs : List Int, Same (upd H1 fo (.frz od (.dK kf))) H' ∧ H' D = some (.lst (zs.map V.int)) ∧ zs.length = k ∧ ∀ n i (j : Nat), Seen kf k (.inr n) → f n = some i → InG gs i j → (j : Int) ∈ zs) ?_ ?_ ?_ ?_
  · exact ⟨[], same_new hD, upd_same, rfl, fun n i j h => absurd h seen0⟩
  · rintro k H' _ ⟨_, s, _⟩
    exact s _ _ h0
  · rintro k x H2 H3 hk ⟨zs, s, hz, hzl, hzi⟩ ⟨rfl, ky, hkv⟩
    obtain ⟨n, i, rfl, rfl, hni⟩ := hf.ix inr_inj hkv
    obtain ⟨j, hj⟩ := hfi n i hni
    have hpi := (hpmi i j).mpr ⟨j, rfl, hj⟩
    have dp := dget_rd (.inl i) (s.rd hp0)
    rw [hpm.get hpi] at dp
    refine ⟨rfl, yes (iteT ⟨_, rfl, _, rfl, _, _, rfl, dp, _, hz, ?_, zs ++ [(j : Int)], s.at hD, by rw [upd_same, List.map_append]; rfl, by simp [hzl], fun n' i' j' h h1 h2 => ?_⟩)⟩
    · rw [List.length_map, hzl]
      exact small1000 (by omega)
    · rcases (seen_succ hkv).mp h with h | h
      · exact List.mem_append_left _ (hzi n' i' j' h h1 h2)
      · have := inr_inj _ _ h
        subst this
        rw [hni] at h1; cases h1
        rw [InG.uniq hok.nd h2 hj]
        exact List.mem_append_right _ (List.mem_singleton.mpr rfl)
  rintro H2 ⟨zs, s, hz, hzl, hzi⟩
  refine ⟨s _ _ h0, ?_⟩
  have sH : Same H1 (upd H2 fo (.dK kf)) := unlock hfo1 s
  have hz2 : upd H2 fo (.dK kf) D = some (.lst (zs.map V.int)) := by rw [upd_ne nDf]; exact hz
  have hfo2 : upd H2 fo (.dK kf) fo = some (.dK kf) := upd_same
  generalize upd H2 fo (.dK kf) = H3 at sH hz2 hfo2
  have s3 := s1.trans sH
  refine ⟨_, rfl, _, rfl, _, rfl, l, a, d, ts, gs, kl, kw, lm, wm, rfl, s3 _ _ hl, hlm, s3 _ _ ha, hg.same s3, hok, s3 _ _ hd, hwm, hw, fun H4 p m s4 hp hT hm => ?_⟩
  obtain ⟨ns, n1, n2, n3, n4⟩ := hf.keys
  refine ⟨_, rfl, fo, kf, rfl, .inl (s4 _ _ hfo2), fun np hnp => ?_⟩
  have hnv : (kf.map fun kv => kV kv.1) = ns.map V.str := by
    have := congrArg (List.map kV) n1
    rw [List.map_map, List.map_map] at this
    exact this
  rw [hnv]
  have s5 : Same H4 (upd H4 np (.lst (ns.map V.str))) := same_new hnp
  refine ⟨_, rfl, rfl, rfl, p, np, D, m, ns, zs, rfl, hT.same s5, upd_same, s5 _ _ (s4 _ _ hz2), fun H5 q5 m' s6 hq5 hT' hm' => ?_⟩
  have s7 : Same H H5 := ((s3.trans s4).trans s5).trans s6
  refine q H5 q5 m' s7 (((s3.trans s4).trans s5).free hq5) hT' fun n z v e => ?_
  obtain ⟨e1, e2, e3⟩ := hm' n z v e
  obtain ⟨h1, ⟨j, rfl, hj⟩, h3, h4⟩ := hm n z v e1
  refine ⟨h1, ⟨j, rfl, hj, fun n' i h5 h6 => e3 (hzi n' i j (hf.seen h5) h5 h6)⟩, h3, h4, ?_⟩
  cases e5 : f n with
  | none => rfl
  | some i =>
    obtain ⟨k, hk, e6⟩ := List.mem_map.mp (n4 n i e5)
    cases e6
    exact absurd hk e2
/-- the names carried over -/
def spCarry : Sp := fun vs H Q _ => ∃ (l a d pi ho : Addr) (ts : List Addr) (gs : List (List Int)) (kl kw kp kh : List (Key × V)) (lm : Int → Option Str) (wm : Int → Option Int) (pn hm : Str → Option Int), vs = [.ref l, .ref a, .ref d, .ref pi, .ref ho] ∧ H l = some (.dK kl) ∧ DIS kl lm ∧ (∀ i n, lm i = some n → n ∈ five) ∧
  H a = some (.lst (ts.map V.ref)) ∧ GrpsT H ts gs ∧ GOk gs ∧ H d = some (.dK kw) ∧ DII kw wm ∧ WOk gs wm ∧ H pi = some (.dK kp) ∧ DSI kp pn ∧ kp.length ≤ 20 ∧ H ho = some (.dK kh) ∧ DSI kh hm ∧
  ∀ (H' : Hp) (q : Addr) (kn : List (Key × V)) (nm f : Str → Option Int), Same H H' → H q = none → H' q = some (.dK kn) → DSI kn nm → CPr gs pn f → (∀ n i, f n = some i → ∃ j : Nat, nm n = some (j : Int) ∧ InG gs i j) → (∀ n n' z, nm n = some z → nm n' = some z → n = n') → (∀ n z, nm n = some z → ∃ j : Nat, z = j ∧ j < gs.length) →
    (∀ n z, nm n = some z → (∃ i, f n = some i) ∨ ∃ i, lm i = some n) → Q (.ref q) H'
theorem ok_carry_over {P : Program} {w : World} {K : PySem.W.Frag} {mg : Str → Option Value} {base : Heap} (T : Tx K mg) : CK P w K mg base 4 "carry_over" 3 ["pins", "homes"] (fun vs zs => vs ++ zs) spCarry := by
  obtain ⟨fd, F⟩ := T.d_carry_over
  have G_best_carrying := ok_best_carrying (P := P) (w := w) (base := base) T
  have G_counting_pins := ok_counting_pins (P := P) (w := w) (base := base) T
  have G_open_table := ok_open_table (P := P) (w := w) (base := base) T
  have G_places_of := ok_places_of (P := P) (w := w) (base := base) T
  refine ⟨_, fd, ["labels", "groups", "weights", "pins", "homes"], _, (F.ok sc_carry_over (fun vs H Q E h => ?len) (fun cdv A outer s H vs Q E hr h => ?body)), T.g_carry_over, T.k_carry_over, kbn_of F 3 ["pins", "homes"] (fun us ws => us ++ ws) (fun r1 r2 => r1.append r2) (fun _ _ _ _ _ _ us ws l1 l2 => match us, ws, l1, l2 with | [_, _, _], [_, _], _, _ => rfl)⟩
  case len => exact (by first | (obtain ⟨rfl, _⟩ := h; rfl) | (obtain ⟨_, rfl, _⟩ := h; rfl) | (obtain ⟨_, _, rfl, _⟩ := h; rfl) | (obtain ⟨_, _, _, rfl, _⟩ := h; rfl) | (obtain ⟨_, _, _, _, rfl, _⟩ := h; rfl) | (obtain ⟨_, _, _, _, _, rfl, _⟩ := h; rfl) | (obtain ⟨_, _, _, _, _, _, rfl, _⟩ := h; rfl) | (obtain ⟨_, _, _, _, _, _, _, rfl, _⟩ := h; rfl) | (obtain ⟨_, _, _, _, _, _, _, _, rfl, _⟩ := h; rfl) | (obtain ⟨_, _, _, _, _, _, _, _, _, rfl, _⟩ := h; rfl) | (obtain ⟨_, _, _, _, _, _, _, _, _, _, rfl, _⟩ := h; rfl) | (obtain ⟨_, _, _, _, _, _, _, _, _, _, _, rfl, _⟩ := h; rfl) | (obtain ⟨_, _, _, _, _, _, _, _, _, _, _, _, rfl, _⟩ := h; rfl) | (obtain ⟨_, _, _, _, _, _, _, _, _, _, _, _, _, rfl, _⟩ := h; rfl) | (obtain ⟨_, _, _, _, _, _, _, _, _, _, _, _, _, _, rfl, _⟩ := h; rfl) | (obtain ⟨_, _, _, _, _, _, _, _, _, _, _, _, _, _, _, rfl, _⟩ := h; rfl))
  case body =>
  have hu := hu_of hr
  refine ⟨_, (pss_cons (ps_set (i := 5) sc_carry_over.nd rfl (Or.inl rfl) (pe_c G_counting_pins hr (by decide) (by rfl) (pa_cons (pv 1) (pa_cons (pe_ifExp (pt_cmpR op_isN (pv 3) pe_non (nomark _)) pe_dnewK (pv 3)) pa_nil))))
      (pss_cons (ps_set (i := 6) sc_carry_over.nd rfl (Or.inr rfl) (pe_c G_places_of hr (by decide) (by rfl) (pa_cons (pv 1) pa_nil)))
      (pss_cons (ps_lock (ps_setDc1 (i := 7) (own := [("name", 8), ("row_id", 9)]) (.inl rfl) hu rfl sc_carry_over.nd rfl rfl (swD_true rfl rfl rfl (by decide +kernel)) (pi_items (pv 5)) (blkOk_by (own := [("name", 8), ("row_id", 9)]) (N := N_carry_over) (sc := defScope s_carry_over) (by decide +kernel)) (fun _ _ _ _ _ => by exact (pg_tupK K rfl 2 rfl (pgs_cons (pg_name (i := 8) sc_carry_over.nd rfl (Or.inl rfl)) (pgs_cons (pg_name (i := 9) sc_carry_over.nd rfl (Or.inl rfl)) pgs_nil)))) (fun _ _ _ _ _ => pts_nil) (fun _ _ _ _ _ => (pv 8)) (fun _ _ _ _ _ => (pe_dget hu (pv 6) (pv 9) (fun _ _ => rfl)))))
      (pss_one (ps_ret (pe_dispSS (pv 7) (pe_ck G_best_carrying hr (by decide) (by rfl) (pa_cons (pe_c G_open_table hr (by decide) (by rfl) (pa_cons (pv 0) (pa_cons (pv 1) (pa_cons (pv 2) (pa_cons (pv 5) pa_nil))))) pa_nil) (pk_cons (pv 4) pk_nil)))))))), ?_⟩
  obtain ⟨l, a, d, pi, ho, ts, gs, kl, kw, kp, kh, lm, wm, pn, hm, rfl, hl, hlm, hl5, ha, hg, hok, hd, hwm, hw, hpi, hpn, hpl, hho, hhm, q⟩ := h
  refine ⟨_, rfl, _, rfl, rfl, _, rfl, ?_⟩
  refine iteDF (fun h => nomatch h) ⟨_, rfl, a, pi, ts, gs, kp, pn, rfl, ha, hg, hok, hpi, hpn, hpl, fun H1 c kf f s1 hc hkf hf hfl hCP => ?_⟩
  refine ⟨_, rfl, a, ts, gs, rfl, s1 _ _ ha, hg.same s1, hok, fun H2 pl kl2 pm s2 hpl2 hkl hpm _ hpmi => ?_⟩
  have hc2 := s2 _ _ hkf
  refine ⟨c, _, hc2, trivial, fun od => ?_⟩
  have h0 : upd H2 c (.frz od (.dK kf)) c = some (.frz od (.dK kf)) := upd_same
  have hp0 : Rd (upd H2 c (.frz od (.dK kf))) pl (.dK kl2) := rd_lock hc2 (.inl hkl) (fun _ _ z => nomatch z)
  refine ⟨_, rfl, _, _, _, rfl, h0, fun D hD => ?_⟩
  have nDc : D ≠ c := fun z => by subst z; rw [h0] at hD; cases hD
  have hDH : H2 D = none := by rw [upd_ne nDc] at hD; exact hD
  refine dc_it (walk_items (kvs := kf)) (fun k H' => ∃ (kn : List (Key × V)) (fm : Str → Option Int), Same (upd H2 c (.frz od (.dK kf))) H' ∧ H' D = some (.dK kn) ∧ DSI kn fm ∧ kn.length ≤ k ∧ (∀ n z, fm n = some z → ∃ (i : Int) (j : Nat), z = j ∧ f n = some i ∧ InG gs i j) ∧ ∀ n, Seen kf k (.inr n) → ∃ z, fm n = some z) ?_ ?_ ?_ ?_
  · exact ⟨[], fun _ => none, same_new hD, upd_same, .nil, Nat.le_refl _, fun n z h => (nomatch h), fun n h => absurd h seen0⟩
  · rintro k H' _ ⟨_, _, s, _⟩
    exact s _ _ h0
  · rintro k x H3 H4 hk ⟨kn, fm, s, hn, hfm, hl2, i1, i2⟩ ⟨T, y1, y2, rfl, hT, rfl, e1, e2⟩
    obtain ⟨⟨ky, vl⟩, hkv, e3⟩ := Option.map_eq_some_iff.mp e1
    replace e2 : kf[k]?.map Prod.snd = some y2 := e2
    rw [hkv] at e2
    cases e2
    obtain ⟨n, i, rfl, rfl, hni⟩ := hf.ix inr_inj hkv
    subst e3
    obtain ⟨_, j, hj⟩ := hCP.sub n i hni
    have sT : Same (upd H2 c (.frz od (.dK kf))) (upd H3 T (.tup [kV (.inr n), .int i])) := s.new hT
    have hnT := (same_new (o := .tup [kV (.inr n), .int i]) hT) _ _ hn
    have hTT : upd H3 T (.tup [kV (.inr n), .int i]) T = some (.tup [kV (.inr n), .int i]) := upd_same
    generalize upd H3 T (.tup [kV (.inr n), .int i]) = H5 at sT hnT hTT
    have dp := dget_rd (.inl i) (sT.rd hp0)
    rw [hpm.get ((hpmi i j).mpr ⟨j, rfl, hj⟩)] at dp
    refine ⟨T, _, rfl, SqT.of hTT, rfl, _, _, rfl, _, _, rfl, rfl, rfl, yes (iteT ⟨_, rfl, _, rfl, _, rfl, _, _, rfl, dp, _, dput_k (.inr n) (.int j) hnT (by omega), _, _, sT.at hD, upd_same, hfm.put inr_inj n (j : Int), by have := length_putK kn (.inr n) (V.int j); omega, fun n' z h => ?_, fun n' h => ?_⟩)⟩
    · by_cases e : n' = n
      · subst e; rw [KM.fup_same] at h; cases h; exact ⟨i, j, rfl, hni, hj⟩
      · rw [KM.fup_ne e] at h; exact i1 n' z h
    · by_cases e : n' = n
      · subst e; exact ⟨_, KM.fup_same⟩
      · rw [KM.fup_ne e]
        rcases (seen_succ hkv).mp h with h | h
        · exact i2 n' h
        · exact absurd (inr_inj _ _ h) e
  rintro H3 ⟨kn, fm, s, hn, hfm, hl2, i1, i2⟩
  refine ⟨s _ _ h0, ?_⟩
  have sH : Same H2 (upd H3 c (.dK kf)) := unlock hc2 s
  have hn2 : upd H3 c (.dK kf) D = some (.dK kn) := by rw [upd_ne nDc]; exact hn
  have hc3 : upd H3 c (.dK kf) c = some (.dK kf) := upd_same
  generalize upd H3 c (.dK kf) = H4 at sH hn2 hc3
  have s4 := (s1.trans s2).trans sH
  intro p hp
  have npD : p ≠ D := fun z => by subst z; rw [hn2] at hp; cases hp
  have sp : Same H4 (upd (upd H4 p (.dK [])) p (.dK (mergeK [] kn))) := (same_new hp).at hp
  have hpp : upd (upd H4 p (.dK [])) p (.dK (mergeK [] kn)) p = some (.dK (mergeK [] kn)) := upd_same
  refine ⟨_, rfl, D, kn, rfl, npD, upd_same, .inl ((same_new hp) _ _ hn2), by omega, ?_⟩
  generalize upd (upd H4 p (.dK [])) p (.dK (mergeK [] kn)) = H5 at sp hpp
  have s5 := s4.trans sp
  refine ⟨_, rfl, _, rfl, _, rfl, _, rfl, l, a, d, c, ts, gs, kl, kw, kf, lm, wm, f, rfl, s5 _ _ hl, hlm, s5 _ _ ha, hg.same s5, hok, s5 _ _ hd, hwm, hw, sp _ _ hc3, hf, hfl, fun n i h => (hCP.sub n i h).2, fun H6 tb m s6 htb hT hm2 => ?_⟩
  have s06 := s5.trans s6
  refine ⟨_, rfl, rfl, rfl, tb, ho, m, kh, hm, rfl, hT, s06 _ _ hho, hhm, fun n z v e => ?_, fun H7 q7 kb pb s7 hq7 hkb hpb hbl b1 b2 => ?_⟩
  · obtain ⟨⟨i, h1⟩, ⟨j, rfl, hj, _⟩, h3, h4, _⟩ := hm2 n z v e
    exact ⟨hl5 i n h1, ⟨j, rfl, by have := hok.len; omega⟩, h3, h4⟩
  have hp6 := s6 _ _ hpp
  have npq : p ≠ q7 := fun z => by subst z; rw [hp6] at hq7; cases hq7
  have hpH : H p = none := s4.free hp
  refine ⟨q7, kb, rfl, npq, s7 _ _ hp6, .inl hkb, by omega, ?_⟩
  have d1 : DSI (mergeK [] kn) fm := (DM.nil.merge hfm).congr fun a => by cases fm a <;> rfl
  have d2 : DSI (mergeK (mergeK [] kn) kb) (fun a => (pb a).or (fm a)) := d1.merge hpb
  have fpb : ∀ n z, pb n = some z → f n = none ∧ (∃ i, lm i = some n) ∧ ∃ j : Nat, z = j ∧ j < gs.length ∧ ∀ n' i, f n' = some i → ¬ InG gs i j := fun n z h => by
    obtain ⟨w, hw⟩ := b1 n z h
    obtain ⟨h1, h2, _, _, h5⟩ := hm2 n z w hw
    exact ⟨h5, h1, h2⟩
  refine q _ p _ _ f ((s06.trans s7).at hpH) hpH upd_same d2 hCP (fun n i h => ?_) (fun n n' z h h' => ?_) (fun n z h => ?_) fun n z h => ?_
  · have e1 : pb n = none := by
      cases e : pb n with
      | none => rfl
      | some z => rw [(fpb n z e).1] at h; cases h
    obtain ⟨z, hz⟩ := i2 n (hf.seen h)
    obtain ⟨i', j, rfl, h2, h3⟩ := i1 n z hz
    rw [h] at h2; cases h2
    exact ⟨j, by simp only [e1, hz]; rfl, h3⟩
  · cases e : pb n with
    | some z1 =>
      simp only [e, Option.some_or, Option.some.injEq] at h
      subst h
      cases e' : pb n' with
      | some z2 =>
        simp only [e', Option.some_or, Option.some.injEq] at h'
        subst h'
        exact b2 n n' _ e e'
      | none =>
        simp only [e', Option.none_or] at h'
        obtain ⟨i', j', rfl, h2, h3⟩ := i1 n' _ h'
        obtain ⟨_, _, j, h4, _, h6⟩ := fpb n _ e
        have : j' = j := by omega
        subst this
        exact absurd h3 (h6 n' i' h2)
    | none =>
      simp only [e, Option.none_or] at h
      obtain ⟨i, j, rfl, h2, h3⟩ := i1 n z h
      cases e' : pb n' with
      | some z2 =>
        simp only [e', Option.some_or, Option.some.injEq] at h'
        subst h'
        obtain ⟨_, _, j', h4, _, h6⟩ := fpb n' _ e'
        have : j = j' := by omega
        subst this
        exact absurd h3 (h6 n i h2)
      | none =>
        simp only [e', Option.none_or] at h'
        obtain ⟨i', j', h4, h5, h6⟩ := i1 n' _ h'
        have : j = j' := by omega
        subst this
        exact hCP.inj n n' i i' j h2 h5 h3 h6
  · cases e : pb n with
    | some z1 =>
      simp only [e, Option.some_or, Option.some.injEq] at h
      subst h
      obtain ⟨_, _, j, h4, h5, _⟩ := fpb n _ e
      exact ⟨j, h4, h5⟩
    | none =>
      simp only [e, Option.none_or] at h
      obtain ⟨i, j, rfl, h2, g, h3, _⟩ := i1 n z h
      exact ⟨j, rfl, (List.getElem?_eq_some_iff.mp h3).1⟩
  · cases e : pb n with
    | some z1 => exact .inr (fpb n _ e).2.1
    | none =>
      simp only [e, Option.none_or] at h
      obtain ⟨i, j, rfl, h2, _⟩ := i1 n z h
      exact .inl ⟨i, h2⟩
end KN

set_option Elab.async false
set_option linter.all false
set_option maxRecDepth 100000
set_option maxHeartbeats 4000000
/-! states -/
namespace KN
open PySem PySem.Spec PyProof.Rows L2 ClX StX
open C8 (Cal Met Mak CalAt pe_c pe_mk pe_mt pe_mt0 pss_cut tCut pe_gc)
def sF (di ru gl dn dp : Addr) : List (Str × V) := [("store", .ref di), ("columns", .ref ru), ("parts", .ref gl), ("named", .ref dn), ("pinned", .ref dp)]
/-- what a state holds -/
structure StD where
  dx : Addr
  di : Addr
  ru : Addr
  gl : Addr
  dn : Addr
  dp : Addr
  kvs : List (Key × V)
  ps : List (Int × Int)
  ts : List Addr
  kn : List (Key × V)
  kp : List (Key × V)
structure StAt (K : PySem.W.Frag) (w : Int) (H : Hp) (s : Addr) (D : StD) (gs : List (List Int)) (nm pn : Str → Option Int) : Prop where
  ins : H s = some (.ins (CS K) D.dx (sF D.di D.ru D.gl D.dn D.dp))
  store : H D.di = some (.dK D.kvs)
  items : Items w H D.kvs
  rule : RuleAt H D.ru D.ps
  rok : RuleOk w D.ps
  parts : H D.gl = some (.lst (D.ts.map V.ref))
  grp : GrpsT H D.ts gs
  pm : gs.flatten.Perm (idsK D.kvs)
  ne : ∀ g ∈ gs, g ≠ []
  rel : GsRel D.ps (idsK D.kvs) (fldOf H D.kvs) gs
  named : H D.dn = some (.dK D.kn)
  nm : DSI D.kn nm
  pinned : H D.dp = some (.dK D.kp)
  pn : DSI D.kp pn
theorem GsRel.same {w : Int} {H H' : Hp} {kvs : List (Key × V)} {ps : List (Int × Int)} {gs : List (List Int)} (h : GsRel ps (idsK kvs) (fldOf H kvs) gs) (hi : Items w H kvs) (s : Same H H') : GsRel ps (idsK kvs) (fldOf H' kvs) gs := by
  obtain ⟨ys, p, q, rfl⟩ := h
  refine ⟨ys, p, q, ?_⟩
  unfold gsY
  have ek : ∀ i ∈ ys, keyK ps (fldOf H kvs) i = keyK ps (fldOf H' kvs) i := fun i h => by unfold keyK; rw [fldOf_same hi s (p.mem_iff.mp h)]
  rw [List.map_congr_left ek]
  refine List.map_congr_left fun k _ => List.filter_congr fun i hi => ?_
  rw [ek i hi]
theorem StAt.same {K : PySem.W.Frag} {w : Int} {H H' : Hp} {s : Addr} {D : StD} {gs : List (List Int)} {nm pn : Str → Option Int} (h : StAt K w H s D gs nm pn) (e : Same H H') : StAt K w H' s D gs nm pn :=
  ⟨e _ _ h.ins, e _ _ h.store, h.items.same e, h.rule.same e, h.rok, e _ _ h.parts, h.grp.same e, h.pm, h.ne, h.rel.same h.items e, e _ _ h.named, h.nm, e _ _ h.pinned, h.pn⟩
theorem len_flat : ∀ {gs : List (List Int)}, (∀ g ∈ gs, g ≠ []) → gs.length ≤ gs.flatten.length
  | [], _ => Nat.le_refl _
  | g :: r, h => by
    have := len_flat (gs := r) fun x hx => h x (List.mem_cons_of_mem _ hx)
    have h1 : g.length ≠ 0 := fun z => h g List.mem_cons_self (List.length_eq_zero_iff.mp z)
    rw [List.flatten_cons, List.length_append, List.length_cons]; omega
theorem mem_flat_len : ∀ {gs : List (List Int)} {g : List Int}, g ∈ gs → g.length ≤ gs.flatten.length
  | a :: r, g, h => by
    rw [List.flatten_cons, List.length_append]
    rcases List.mem_cons.mp h with rfl | h
    · omega
    · have := mem_flat_len h; omega
theorem StAt.gok {K : PySem.W.Frag} {w : Int} {H : Hp} {s : Addr} {D : StD} {gs : List (List Int)} {nm pn : Str → Option Int} (h : StAt K w H s D gs nm pn) : GOk gs := by
  have hl : gs.flatten.length ≤ 20 := by rw [h.pm.length_eq]; unfold idsK; rw [List.length_map]; exact h.items.len
  exact ⟨h.pm.nodup_iff.mpr h.items.idnd, Nat.le_trans (len_flat h.ne) hl, fun g hg => Nat.le_trans (mem_flat_len hg) hl⟩
theorem StAt.ing {K : PySem.W.Frag} {w : Int} {H : Hp} {s : Addr} {D : StD} {gs : List (List Int)} {nm pn : Str → Option Int} (h : StAt K w H s D gs nm pn) {i : Int} : i ∈ idsK D.kvs ↔ ∃ j, InG gs i j := by
  rw [← h.pm.mem_iff, List.mem_flatten]
  constructor
  · rintro ⟨g, hg, hi⟩
    obtain ⟨j, hj, e⟩ := List.getElem_of_mem hg
    exact ⟨j, g, by rw [List.getElem?_eq_getElem hj, e], hi⟩
  · rintro ⟨j, g, hg, hi⟩
    exact ⟨g, List.mem_of_getElem? hg, hi⟩
/-- names and pins as they should be -/
structure NOk (gs : List (List Int)) (nm pn : Str → Option Int) : Prop where
  five : ∀ n z, nm n = some z → n ∈ five
  inj : ∀ n n' z, nm n = some z → nm n' = some z → n = n'
  rng : ∀ n z, nm n = some z → ∃ j : Nat, z = j ∧ j < gs.length
  pin : ∀ n i, pn n = some i → ∃ j : Nat, nm n = some (j : Int) ∧ InG gs i j
theorem NOk.pin5 {gs : List (List Int)} {nm pn : Str → Option Int} (h : NOk gs nm pn) : ∀ n z, pn n = some z → n ∈ KN.five := fun n z e => let ⟨_, h1, _⟩ := h.pin n z e; h.five n _ h1
theorem five_len : five.length = 5 := rfl
/-! ### __init__ -/
def spSInit (K : PySem.W.Frag) : Sp := fun vs H Q _ => ∃ (Hb : Hp) (s dx di ru dn dp : Addr) (kvs : List (Key × V)) (ps : List (Int × Int)) (w : Int) (kn kp : List (Key × V)) (nm pn : Str → Option Int), vs = [.ref s, .ref di, .ref ru, .ref dn, .ref dp] ∧ H s = some (.ins (CS K) dx []) ∧ Hb s = none ∧ Same Hb H ∧ Hb di = some (.dK kvs) ∧ Items w Hb kvs ∧ RuleAt Hb ru ps ∧ RuleOk w ps ∧
  Hb dn = some (.dK kn) ∧ DSI kn nm ∧ Hb dp = some (.dK kp) ∧ DSI kp pn ∧
  ∀ (H' : Hp) (gl : Addr) (ts : List Addr) (gs : List (List Int)), Same Hb H' → StAt K w H' s ⟨dx, di, ru, gl, dn, dp, kvs, ps, ts, kn, kp⟩ gs nm pn → Q .non H'
theorem ok_State_init {P : Program} {w : World} {K : PySem.W.Frag} {mg : Str → Option Value} {base : Heap} (T : Tx K mg) : Mak P w K mg base 4 "State" (CS K) (spSInit K) [] := by
  obtain ⟨fd, F⟩ := T.d_State_init
  have G_group_items := ok_group_items (P := P) (w := w) (base := base) T
  have bd : Binds K fd ["self", "items", "rule", "names", "pins"] [] := F.binds fun _ _ _ _ _ _ us hl => match us, hl with | [_, _, _, _, _], _ => rfl
  refine mak_of (F.ok sc_State_init (fun vs H Q E h => ?len) (fun cdv A outer s H vs Q E hr h => ?body)) bd T.mkS T.g_State
  case len => exact (by first | (obtain ⟨rfl, _⟩ := h; rfl) | (obtain ⟨_, rfl, _⟩ := h; rfl) | (obtain ⟨_, _, rfl, _⟩ := h; rfl) | (obtain ⟨_, _, _, rfl, _⟩ := h; rfl) | (obtain ⟨_, _, _, _, rfl, _⟩ := h; rfl) | (obtain ⟨_, _, _, _, _, rfl, _⟩ := h; rfl) | (obtain ⟨_, _, _, _, _, _, rfl, _⟩ := h; rfl) | (obtain ⟨_, _, _, _, _, _, _, rfl, _⟩ := h; rfl) | (obtain ⟨_, _, _, _, _, _, _, _, rfl, _⟩ := h; rfl) | (obtain ⟨_, _, _, _, _, _, _, _, _, rfl, _⟩ := h; rfl) | (obtain ⟨_, _, _, _, _, _, _, _, _, _, rfl, _⟩ := h; rfl) | (obtain ⟨_, _, _, _, _, _, _, _, _, _, _, rfl, _⟩ := h; rfl) | (obtain ⟨_, _, _, _, _, _, _, _, _, _, _, _, rfl, _⟩ := h; rfl) | (obtain ⟨_, _, _, _, _, _, _, _, _, _, _, _, _, rfl, _⟩ := h; rfl) | (obtain ⟨_, _, _, _, _, _, _, _, _, _, _, _, _, _, rfl, _⟩ := h; rfl) | (obtain ⟨_, _, _, _, _, _, _, _, _, _, _, _, _, _, _, rfl, _⟩ := h; rfl))
  case body =>
  have hu := hu_of hr
  refine ⟨_, (pss_cons (ps_fld (pv 0) (pv 1) rfl)
      (pss_cons (ps_fld (pv 0) (pv 2) rfl)
      (pss_cons (ps_fld (pv 0) (pe_c G_group_items hr (by decide) (by rfl) (pa_cons (pv 2) (pa_cons (pv 1) pa_nil))) rfl)
      (pss_cons (ps_fld (pv 0) (pv 3) rfl)
      (pss_one (ps_fld (pv 0) (pv 4) rfl)))))), ?_⟩
  obtain ⟨Hb, s, dx, di, ru, dn, dp, kvs, ps, w', kn, kp, nm, pn, rfl, hs, hbs, sb, hdi, hI, hR, hok, hdn, hnm, hdp, hpn, q⟩ := h
  refine ⟨_, rfl, _, rfl, s, CS K, dx, [], rfl, hs, T.cS, T.n_store, (show (0 : Nat) < 1000 by decide), ?_⟩
  refine ⟨_, rfl, _, rfl, s, CS K, dx, _, rfl, upd_same, T.cS, T.n_columns, (show (1 : Nat) < 1000 by decide), ?_⟩
  have s1 := (sb.at (o := .ins (CS K) dx (putF "store" (.ref di) [])) hbs).at (o := .ins (CS K) dx (putF "columns" (.ref ru) (putF "store" (.ref di) []))) hbs
  have e1 : upd (upd H s (.ins (CS K) dx (putF "store" (.ref di) []))) s (.ins (CS K) dx (putF "columns" (.ref ru) (putF "store" (.ref di) []))) s = some (.ins (CS K) dx (putF "columns" (.ref ru) (putF "store" (.ref di) []))) := upd_same
  generalize upd (upd H s (.ins (CS K) dx (putF "store" (.ref di) []))) s (.ins (CS K) dx (putF "columns" (.ref ru) (putF "store" (.ref di) []))) = H1 at s1 e1
  refine ⟨_, rfl, _, rfl, ru, di, ps, w', kvs, rfl, hR.same s1, hok, s1 _ _ hdi, hI.same s1, fun H2 gl ts gs s2 hgl hgl2 hg hpm hne hrel => ?_⟩
  have sH := s1.trans s2
  have e2 := s2 _ _ e1
  have nls : gl ≠ s := fun z => by subst z; rw [e1] at hgl; cases hgl
  refine ⟨_, rfl, s, CS K, dx, _, rfl, e2, T.cS, T.n_parts, (show (2 : Nat) < 1000 by decide), ?_⟩
  refine ⟨_, rfl, _, rfl, s, CS K, dx, _, rfl, upd_same, T.cS, T.n_named, (show (3 : Nat) < 1000 by decide), ?_⟩
  refine ⟨_, rfl, _, rfl, s, CS K, dx, _, rfl, upd_same, T.cS, T.n_pinned, (show (4 : Nat) < 1000 by decide), ?_⟩
  have sF := ((sH.at (o := .ins (CS K) dx (putF "parts" (.ref gl) (putF "columns" (.ref ru) (putF "store" (.ref di) [])))) hbs).at (o := .ins (CS K) dx (putF "named" (.ref dn) (putF "parts" (.ref gl) (putF "columns" (.ref ru) (putF "store" (.ref di) []))))) hbs).at (o := .ins (CS K) dx (putF "pinned" (.ref dp) (putF "named" (.ref dn) (putF "parts" (.ref gl) (putF "columns" (.ref ru) (putF "store" (.ref di) [])))))) hbs
  refine q _ gl ts gs sF ⟨upd_same, sF _ _ hdi, hI.same sF, hR.same sF, hok, by rw [upd_ne nls, upd_ne nls, upd_ne nls]; exact hgl2, ⟨hg.len, fun i t e => ?_⟩, hpm, hne, ?_, sF _ _ hdn, hnm, sF _ _ hdp, hpn⟩
  · obtain ⟨g, h1, h2⟩ := hg.at_ i t e
    have : t ≠ s := ne_of h2 e2 (fun z => nomatch z)
    exact ⟨g, h1, by rw [upd_ne this, upd_ne this, upd_ne this]; exact h2⟩
  · obtain ⟨ys, h1, h2, rfl⟩ := hrel
    have r1 : GsRel ps (idsK kvs) (fldOf Hb kvs) (gsY ps ys (fldOf H1 kvs)) := by
      refine ⟨ys, h1, h2, ?_⟩
      unfold gsY
      have ek : ∀ i ∈ ys, keyK ps (fldOf H1 kvs) i = keyK ps (fldOf Hb kvs) i := fun i h => by unfold keyK; rw [fldOf_same hI s1 (h1.mem_iff.mp h)]
      rw [List.map_congr_left ek]
      refine List.map_congr_left fun k _ => List.filter_congr fun i hi => ?_
      rw [ek i hi]
    exact r1.same hI sF
/-- a state is made -/
theorem st_make {K : PySem.W.Frag} {H : Hp} {Q : VK} {di ru dn dp : Addr} {kvs : List (Key × V)} {ps : List (Int × Int)} {w : Int} {kn kp : List (Key × V)} {nm pn : Str → Option Int} (hdi : H di = some (.dK kvs)) (hI : Items w H kvs) (hR : RuleAt H ru ps) (hok : RuleOk w ps)
    (hdn : H dn = some (.dK kn)) (hnm : DSI kn nm) (hdp : H dp = some (.dK kp)) (hpn : DSI kp pn)
    (q : ∀ (H' : Hp) (s : Addr) (D : StD) (gs : List (List Int)), Same H H' → H s = none → StAt K w H' s D gs nm pn → D.di = di → D.ru = ru → D.dn = dn → D.dp = dp → D.kvs = kvs → D.ps = ps → D.kn = kn → D.kp = kp → Q (.ref s) H') :
    ∀ x dx, H x = none → H dx = none → dx ≠ x → spSInit K (.ref x :: ([.ref di, .ref ru, .ref dn, .ref dp] ++ [])) (upd (upd H dx (.own x)) x (.ins (CS K) dx [])) (fun v H2 => v = .non ∧ Q (.ref x) H2) C8.E0 := by
  intro x dx hx hdx ne
  refine ⟨H, x, dx, di, ru, dn, dp, kvs, ps, w, kn, kp, nm, pn, rfl, upd_same, hx, ((Same.refl H).at hdx).at hx, hdi, hI, hR, hok, hdn, hnm, hdp, hpn, fun H' gl ts gs s hst => ⟨rfl, ?_⟩⟩
  exact q H' x _ gs s hx hst rfl rfl rfl rfl rfl rfl rfl rfl
/-! ### what a state tells -/
def spTold (K : PySem.W.Frag) : Sp := fun vs H Q _ => ∃ (s : Addr) (w : Int) (D : StD) (gs : List (List Int)) (nm pn : Str → Option Int), vs = [.ref s] ∧ StAt K w H s D gs nm pn ∧ NOk gs nm pn ∧
  ∀ (H' : Hp) (p : Addr) (kl : List (Key × V)) (lm : Int → Option Str), Same H H' → H p = none → H' p = some (.dK kl) → DIS kl lm → (∀ i n, lm i = some n → ∃ z, nm n = some z) → Q (.ref p) H'
theorem ok_State_told_labels {P : Program} {w : World} {K : PySem.W.Frag} {mg : Str → Option Value} {base : Heap} (T : Tx K mg) : Met P w K mg base 2 (CS K) "told_labels" (spTold K) [] := by
  obtain ⟨fd, F⟩ := T.d_State_told_labels
  have G_labels_of := ok_labels_of (P := P) (w := w) (base := base) T
  have bd : Binds K fd ["self"] [] := F.binds fun _ _ _ _ _ _ us hl => match us, hl with | [_], _ => rfl
  refine met_of (F.ok sc_State_told_labels (fun vs H Q E h => ?len) (fun cdv A outer s H vs Q E hr h => ?body)) bd T.cS T.m_State_told_labels
  case len => exact (by first | (obtain ⟨rfl, _⟩ := h; rfl) | (obtain ⟨_, rfl, _⟩ := h; rfl) | (obtain ⟨_, _, rfl, _⟩ := h; rfl) | (obtain ⟨_, _, _, rfl, _⟩ := h; rfl) | (obtain ⟨_, _, _, _, rfl, _⟩ := h; rfl) | (obtain ⟨_, _, _, _, _, rfl, _⟩ := h; rfl) | (obtain ⟨_, _, _, _, _, _, rfl, _⟩ := h; rfl) | (obtain ⟨_, _, _, _, _, _, _, rfl, _⟩ := h; rfl) | (obtain ⟨_, _, _, _, _, _, _, _, rfl, _⟩ := h; rfl) | (obtain ⟨_, _, _, _, _, _, _, _, _, rfl, _⟩ := h; rfl) | (obtain ⟨_, _, _, _, _, _, _, _, _, _, rfl, _⟩ := h; rfl) | (obtain ⟨_, _, _, _, _, _, _, _, _, _, _, rfl, _⟩ := h; rfl) | (obtain ⟨_, _, _, _, _, _, _, _, _, _, _, _, rfl, _⟩ := h; rfl) | (obtain ⟨_, _, _, _, _, _, _, _, _, _, _, _, _, rfl, _⟩ := h; rfl) | (obtain ⟨_, _, _, _, _, _, _, _, _, _, _, _, _, _, rfl, _⟩ := h; rfl) | (obtain ⟨_, _, _, _, _, _, _, _, _, _, _, _, _, _, _, rfl, _⟩ := h; rfl))
  case body =>
  have hu := hu_of hr
  refine ⟨_, (pss_one (ps_ret (pe_c G_labels_of hr (by decide) (by rfl) (pa_cons (pe_fldK K rfl (pv 0) rfl) (pa_cons (pe_fldK K rfl (pv 0) rfl) pa_nil))))), ?_⟩
  obtain ⟨s, w', D, gs, nm, pn, rfl, hS, hN, q⟩ := h
  have hl : D.kn.length ≤ 20 := Nat.le_trans (few' hS.nm five hN.five) (by decide)
  exact ⟨_, rfl, s, CS K, D.dx, _, _, rfl, hS.ins, T.cS, T.n_parts, rfl, _, rfl, s, CS K, D.dx, _, _, rfl, hS.ins, T.cS, T.n_named, rfl, D.gl, D.dn, D.ts, gs, D.kn, nm, rfl, hS.parts, hS.grp, hS.gok, hS.named, hS.nm, hl, hN.rng, fun H' p kl lm s1 hp h1 h2 _ h3 => q H' p kl lm s1 hp h1 h2 h3⟩
def spSWeights (K : PySem.W.Frag) : Sp := fun vs H Q _ => ∃ (s : Addr) (w : Int) (D : StD) (gs : List (List Int)) (nm pn : Str → Option Int), vs = [.ref s] ∧ StAt K w H s D gs nm pn ∧
  ∀ (H' : Hp) (p : Addr) (kw : List (Key × V)) (wm : Int → Option Int), Same H H' → H p = none → H' p = some (.dK kw) → DII kw wm → WOk gs wm → Q (.ref p) H'
theorem ok_State_weights {P : Program} {w : World} {K : PySem.W.Frag} {mg : Str → Option Value} {base : Heap} (T : Tx K mg) : Met P w K mg base 1 (CS K) "weights" (spSWeights K) [] := by
  obtain ⟨fd, F⟩ := T.d_State_weights
  have bd : Binds K fd ["self"] [] := F.binds fun _ _ _ _ _ _ us hl => match us, hl with | [_], _ => rfl
  refine met_of (F.ok sc_State_weights (fun vs H Q E h => ?len) (fun cdv A outer s H vs Q E hr h => ?body)) bd T.cS T.m_State_weights
  case len => exact (by first | (obtain ⟨rfl, _⟩ := h; rfl) | (obtain ⟨_, rfl, _⟩ := h; rfl) | (obtain ⟨_, _, rfl, _⟩ := h; rfl) | (obtain ⟨_, _, _, rfl, _⟩ := h; rfl) | (obtain ⟨_, _, _, _, rfl, _⟩ := h; rfl) | (obtain ⟨_, _, _, _, _, rfl, _⟩ := h; rfl) | (obtain ⟨_, _, _, _, _, _, rfl, _⟩ := h; rfl) | (obtain ⟨_, _, _, _, _, _, _, rfl, _⟩ := h; rfl) | (obtain ⟨_, _, _, _, _, _, _, _, rfl, _⟩ := h; rfl) | (obtain ⟨_, _, _, _, _, _, _, _, _, rfl, _⟩ := h; rfl) | (obtain ⟨_, _, _, _, _, _, _, _, _, _, rfl, _⟩ := h; rfl) | (obtain ⟨_, _, _, _, _, _, _, _, _, _, _, rfl, _⟩ := h; rfl) | (obtain ⟨_, _, _, _, _, _, _, _, _, _, _, _, rfl, _⟩ := h; rfl) | (obtain ⟨_, _, _, _, _, _, _, _, _, _, _, _, _, rfl, _⟩ := h; rfl) | (obtain ⟨_, _, _, _, _, _, _, _, _, _, _, _, _, _, rfl, _⟩ := h; rfl) | (obtain ⟨_, _, _, _, _, _, _, _, _, _, _, _, _, _, _, rfl, _⟩ := h; rfl))
  case body =>
  have hu := hu_of hr
  refine ⟨_, (pss_one (ps_ret (pe_lock (pe_dc1 (own := [("row_id", 1), ("weight", 2), ("fields", 3)]) (.inl rfl) hu rfl sc_State_weights.nd (pi_items (pe_fldK K rfl (pv 0) rfl)) (blkOk_by (own := [("row_id", 1), ("weight", 2), ("fields", 3)]) (N := N_State_weights) (sc := defScope s_State_weights) (by decide +kernel)) (fun _ _ _ _ _ => by exact (pg_tupK K rfl 2 rfl (pgs_cons (pg_name (i := 1) sc_State_weights.nd rfl (Or.inl rfl)) (pgs_cons (pg_tupK K rfl 2 rfl (pgs_cons (pg_name (i := 2) sc_State_weights.nd rfl (Or.inl rfl)) (pgs_cons (pg_name (i := 3) sc_State_weights.nd rfl (Or.inl rfl)) pgs_nil))) pgs_nil)))) (fun _ _ _ _ _ => pts_nil) (fun _ _ _ _ _ => (pv 1)) (fun _ _ _ _ _ => (pv 2)))))), ?_⟩
  obtain ⟨s, w', D, gs, nm, pn, rfl, hS, q⟩ := h
  refine ⟨D.di, _, hS.store, trivial, fun od => ?_⟩
  have h0 : upd H D.di (.frz od (.dK D.kvs)) D.di = some (.frz od (.dK D.kvs)) := upd_same
  have hs0 := lk (od := od) hS.store hS.ins (fun z => nomatch z)
  have hIt : ∀ p ∈ D.kvs, ∃ (i : Int) (t f : Addr) (wt : Int) (ns : List Int), p = (.inl i, .ref t) ∧ 1 ≤ wt ∧ wt ≤ 1000000 ∧ upd H D.di (.frz od (.dK D.kvs)) t = some (.tup [.int wt, .ref f]) := fun p hp => by
    obtain ⟨i, t, wt, ns, e, _, _, hit⟩ := hS.items.el p hp
    obtain ⟨f, h1, _⟩ := hit.f
    exact ⟨i, t, f, wt, ns, e, hit.wt1, hit.wt2, lk hS.store h1 (fun z => nomatch z)⟩
  refine ⟨_, rfl, s, CS K, D.dx, _, _, rfl, hs0, T.cS, T.n_store, rfl, _, _, _, rfl, h0, fun E hE => ?_⟩
  have nEd : E ≠ D.di := fun z => by subst z; rw [h0] at hE; cases hE
  have hEH : H E = none := by rw [upd_ne nEd] at hE; exact hE
  refine dc_it (walk_items (kvs := D.kvs)) (fun k H' => ∃ (kw : List (Key × V)) (wm : Int → Option Int), Same (upd H D.di (.frz od (.dK D.kvs))) H' ∧ H' E = some (.dK kw) ∧ DII kw wm ∧ kw.length ≤ k ∧ (∀ i z, wm i = some z → 1 ≤ z ∧ z ≤ 1000000) ∧ ∀ i, Seen D.kvs k (.inl i) → ∃ z, wm i = some z) ?_ ?_ ?_ ?_
  · exact ⟨[], fun _ => none, same_new hE, upd_same, .nil, Nat.le_refl _, fun i z h => (nomatch h), fun i h => absurd h seen0⟩
  · rintro k H' _ ⟨_, _, s, _⟩
    exact s _ _ h0
  · rintro k x H1 H2 hk ⟨kw, wm, s1, hkw, hwm, hl, i1, i2⟩ ⟨T2, y1, y2, rfl, hT, rfl, e1, e2⟩
    obtain ⟨⟨ky, vl⟩, hkv, e3⟩ := Option.map_eq_some_iff.mp e1
    replace e2 : D.kvs[k]?.map Prod.snd = some y2 := e2
    rw [hkv] at e2
    cases e2
    obtain ⟨i, t, f, wt, ns, e4, hw1, hw2, ht⟩ := hIt _ (List.mem_of_getElem? hkv)
    cases e4
    subst e3
    have hk20 : k < 20 := by have := hS.items.len; omega
    have sT : Same (upd H D.di (.frz od (.dK D.kvs))) (upd H1 T2 (.tup [kV (.inl i), .ref t])) := s1.new hT
    have hkT := (same_new (o := .tup [kV (.inl i), .ref t]) hT) _ _ hkw
    have hTT : upd H1 T2 (.tup [kV (.inl i), .ref t]) T2 = some (.tup [kV (.inl i), .ref t]) := upd_same
    generalize upd H1 T2 (.tup [kV (.inl i), .ref t]) = H5 at sT hkT hTT
    refine ⟨T2, _, rfl, SqT.of hTT, rfl, _, _, rfl, _, _, rfl, t, _, rfl, SqT.of (sT _ _ ht), rfl, _, _, rfl, _, _, rfl, rfl, rfl, rfl, yes (iteT ⟨_, rfl, _, rfl, _, dput_k (.inl i) (.int wt) hkT (by omega), _, _, sT.at hE, upd_same, hwm.put inl_inj i wt, by have := length_putK kw (.inl i) (V.int wt); omega, fun i' z h => ?_, fun i' h => ?_⟩)⟩
    · by_cases e : i' = i
      · subst e; rw [KM.fup_same] at h; cases h; exact ⟨hw1, hw2⟩
      · rw [KM.fup_ne e] at h; exact i1 i' z h
    · by_cases e : i' = i
      · subst e; exact ⟨_, KM.fup_same⟩
      · rw [KM.fup_ne e]
        rcases (seen_succ hkv).mp h with h | h
        · exact i2 i' h
        · exact absurd (inl_inj _ _ h) e
  · rintro H1 ⟨kw, wm, s1, hkw, hwm, hl, i1, i2⟩
    refine ⟨s1 _ _ h0, q _ E kw wm (unlock hS.store s1) hEH (by rw [upd_ne nEd]; exact hkw) hwm fun g hg i hi => ?_⟩
    have him : i ∈ idsK D.kvs := hS.pm.mem_iff.mp (List.mem_flatten.mpr ⟨g, hg, hi⟩)
    obtain ⟨t, wt, ns, hv, _⟩ := hS.items.get him
    obtain ⟨z, hz⟩ := i2 i (seen_all hv)
    exact ⟨z, hz, i1 i z hz⟩
end KN

set_option Elab.async false
set_option linter.all false
set_option maxRecDepth 100000
set_option maxHeartbeats 4000000
/-! states, further -/
namespace KN
open PySem PySem.Spec PyProof.Rows L2 ClX StX
open C8 (Cal Met Mak CalAt pe_c pe_mk pe_mt pe_mt0 pss_cut tCut pe_gc)
def spPKeys (K : PySem.W.Frag) : Sp := fun vs H Q _ => ∃ (s : Addr) (w : Int) (D : StD) (gs : List (List Int)) (nm pn : Str → Option Int), vs = [.ref s] ∧ StAt K w H s D gs nm pn ∧
  ∀ (H' : Hp) (p : Addr) (as : List Addr), Same H H' → H p = none → H' p = some (.lst (as.map V.ref)) → as.length = gs.length → (∀ a ∈ as, ∃ ks : List Int, H' a = some (.tup (ks.map V.int))) → Q (.ref p) H'
theorem ok_State_place_keys {P : Program} {w : World} {K : PySem.W.Frag} {mg : Str → Option Value} {base : Heap} (T : Tx K mg) : Met P w K mg base 2 (CS K) "place_keys" (spPKeys K) [] := by
  obtain ⟨fd, F⟩ := T.d_State_place_keys
  have G_key_of := ok_key_of (P := P) (w := w) (base := base) T
  have bd : Binds K fd ["self"] [] := F.binds fun _ _ _ _ _ _ us hl => match us, hl with | [_], _ => rfl
  refine met_of (F.ok sc_State_place_keys (fun vs H Q E h => ?len) (fun cdv A outer s H vs Q E hr h => ?body)) bd T.cS T.m_State_place_keys
  case len => exact (by first | (obtain ⟨rfl, _⟩ := h; rfl) | (obtain ⟨_, rfl, _⟩ := h; rfl) | (obtain ⟨_, _, rfl, _⟩ := h; rfl) | (obtain ⟨_, _, _, rfl, _⟩ := h; rfl) | (obtain ⟨_, _, _, _, rfl, _⟩ := h; rfl) | (obtain ⟨_, _, _, _, _, rfl, _⟩ := h; rfl) | (obtain ⟨_, _, _, _, _, _, rfl, _⟩ := h; rfl) | (obtain ⟨_, _, _, _, _, _, _, rfl, _⟩ := h; rfl) | (obtain ⟨_, _, _, _, _, _, _, _, rfl, _⟩ := h; rfl) | (obtain ⟨_, _, _, _, _, _, _, _, _, rfl, _⟩ := h; rfl) | (obtain ⟨_, _, _, _, _, _, _, _, _, _, rfl, _⟩ := h; rfl) | (obtain ⟨_, _, _, _, _, _, _, _, _, _, _, rfl, _⟩ := h; rfl) | (obtain ⟨_, _, _, _, _, _, _, _, _, _, _, _, rfl, _⟩ := h; rfl) | (obtain ⟨_, _, _, _, _, _, _, _, _, _, _, _, _, rfl, _⟩ := h; rfl) | (obtain ⟨_, _, _, _, _, _, _, _, _, _, _, _, _, _, rfl, _⟩ := h; rfl) | (obtain ⟨_, _, _, _, _, _, _, _, _, _, _, _, _, _, _, rfl, _⟩ := h; rfl))
  case body =>
  have hu := hu_of hr
  refine ⟨_, (pss_one (ps_ret (pe_lc (own := [("group", 1)]) rfl sc_State_place_keys.nd (pi_listK K rfl (pe_fldK K rfl (pv 0) rfl)) (blkOk_by (own := [("group", 1)]) (N := N_State_place_keys) (sc := defScope s_State_place_keys) (by decide +kernel)) (fun _ _ _ _ _ => (pg_name (i := 1) sc_State_place_keys.nd rfl (Or.inl rfl))) (fun _ _ _ _ _ => pts_nil) (fun _ _ _ _ _ => (pe_c G_key_of hr (by decide) (by rfl) (pa_cons (pe_fldK K rfl (pv 0) rfl) (pa_cons (pe_ix (ixT K rfl) (pe_dget hu (pe_fldK K rfl (pv 0) rfl) (pe_ix (ixT K rfl) (pv 1) pe_int (fun _ _ => rfl)) (fun _ _ => rfl)) pe_int (fun _ _ => rfl)) pa_nil))))))), ?_⟩
  obtain ⟨s, w', D, gs, nm, pn, rfl, hS, q⟩ := h
  refine ⟨_, rfl, s, CS K, D.dx, _, _, rfl, hS.ins, T.cS, T.n_parts, rfl, D.gl, rfl, ⟨_, SqL.of hS.parts⟩, fun E hE => ?_⟩
  refine lc_it (walk_list (K := K) (a := D.gl) (xs := D.ts.map V.ref)) (fun k H' => ∃ as : List Addr, Same H H' ∧ H' E = some (.lst (as.map V.ref)) ∧ as.length = k ∧ ∀ a ∈ as, ∃ ks : List Int, H' a = some (.tup (ks.map V.int))) ?_ ?_ ?_ ?_
  · exact ⟨[], same_new hE, upd_same, rfl, fun a h => (nomatch h)⟩
  · rintro k H' _ ⟨_, s1, _⟩
    exact SqL.of (s1 _ _ hS.parts)
  · rintro k x H1 H2 hk ⟨as, s1, has, hal, hat⟩ ⟨rfl, hx⟩
    rw [List.getElem?_map] at hx
    obtain ⟨t, ht, rfl⟩ := Option.map_eq_some_iff.mp hx
    have hS1 := hS.same s1
    obtain ⟨g, hgk, hgt⟩ := hS1.grp.at_ k t ht
    have hk20 : k < 20 := by have := (List.getElem?_eq_some_iff.mp hgk).1; have := hS.gok.len; omega
    cases g with
    | nil => exact absurd rfl (hS.ne _ (List.mem_of_getElem? hgk))
    | cons i0 r =>
      have him : i0 ∈ idsK D.kvs := hS.ing.mpr ⟨k, _, hgk, List.mem_cons_self⟩
      obtain ⟨ti, wt, ns, hv, _, _, hit⟩ := hS1.items.get him
      obtain ⟨fa, h1, h2⟩ := hit.f
      have dg := dget_rd (.inl i0) (Rd.of hS1.store)
      rw [hv] at dg
      refine ⟨rfl, yes (iteT ⟨_, rfl, s, CS K, D.dx, _, _, rfl, hS1.ins, T.cS, T.n_columns, rfl, _, rfl, s, CS K, D.dx, _, _, rfl, hS1.ins, T.cS, T.n_store, rfl, _, rfl, _, _, _, _, rfl, rfl, SqT.of hgt, atI_nat (j := 0) rfl, _, _, rfl, dg, _, _, _, _, rfl, rfl, SqT.of h1, atI_nat (j := 1) rfl, D.ru, fa, D.ps, w', ns, rfl, hS1.rule, hS1.rok, h2, hit.len, fun H3 kp ks s3 hkp hkp2 _ => ?_⟩)⟩
      refine ⟨_, s3 _ _ has, small1000 (by rw [List.length_map]; omega), as ++ [kp], (s1.trans s3).at hE, by rw [upd_same, List.map_append]; rfl, by simp [hal], fun a ha => ?_⟩
      have nE : ∀ {a ks}, H3 a = some (.tup ks) → a ≠ E := fun {a ks} h => ne_of h (s3 _ _ has) (fun z => nomatch z)
      rcases List.mem_append.mp ha with ha | ha
      · obtain ⟨ks', e⟩ := hat a ha
        exact ⟨ks', by rw [upd_ne (nE (s3 _ _ e))]; exact s3 _ _ e⟩
      · rw [List.mem_singleton.mp ha]
        exact ⟨ks, by rw [upd_ne (nE hkp2)]; exact hkp2⟩
  · rintro H1 ⟨as, s1, has, hal, hat⟩
    exact q H1 E as s1 hE has (by rw [hal, List.length_map]; exact hS.grp.len) hat
def spPlaceOf (K : PySem.W.Frag) : Sp := fun vs H Q _ => ∃ (s : Addr) (w : Int) (D : StD) (gs : List (List Int)) (nm pn : Str → Option Int) (i : Int), vs = [.ref s, .int i] ∧ StAt K w H s D gs nm pn ∧ i ∈ idsK D.kvs ∧
  ∀ (H' : Hp) (j : Nat), Same H H' → InG gs i j → Q (.int j) H'
theorem ok_State_place_of {P : Program} {w : World} {K : PySem.W.Frag} {mg : Str → Option Value} {base : Heap} (T : Tx K mg) : Met P w K mg base 2 (CS K) "place_of" (spPlaceOf K) [] := by
  obtain ⟨fd, F⟩ := T.d_State_place_of
  have G_places_of := ok_places_of (P := P) (w := w) (base := base) T
  have bd : Binds K fd ["self", "row_id"] [] := F.binds fun _ _ _ _ _ _ us hl => match us, hl with | [_, _], _ => rfl
  refine met_of (F.ok sc_State_place_of (fun vs H Q E h => ?len) (fun cdv A outer s H vs Q E hr h => ?body)) bd T.cS T.m_State_place_of
  case len => exact (by first | (obtain ⟨rfl, _⟩ := h; rfl) | (obtain ⟨_, rfl, _⟩ := h; rfl) | (obtain ⟨_, _, rfl, _⟩ := h; rfl) | (obtain ⟨_, _, _, rfl, _⟩ := h; rfl) | (obtain ⟨_, _, _, _, rfl, _⟩ := h; rfl) | (obtain ⟨_, _, _, _, _, rfl, _⟩ := h; rfl) | (obtain ⟨_, _, _, _, _, _, rfl, _⟩ := h; rfl) | (obtain ⟨_, _, _, _, _, _, _, rfl, _⟩ := h; rfl) | (obtain ⟨_, _, _, _, _, _, _, _, rfl, _⟩ := h; rfl) | (obtain ⟨_, _, _, _, _, _, _, _, _, rfl, _⟩ := h; rfl) | (obtain ⟨_, _, _, _, _, _, _, _, _, _, rfl, _⟩ := h; rfl) | (obtain ⟨_, _, _, _, _, _, _, _, _, _, _, rfl, _⟩ := h; rfl) | (obtain ⟨_, _, _, _, _, _, _, _, _, _, _, _, rfl, _⟩ := h; rfl) | (obtain ⟨_, _, _, _, _, _, _, _, _, _, _, _, _, rfl, _⟩ := h; rfl) | (obtain ⟨_, _, _, _, _, _, _, _, _, _, _, _, _, _, rfl, _⟩ := h; rfl) | (obtain ⟨_, _, _, _, _, _, _, _, _, _, _, _, _, _, _, rfl, _⟩ := h; rfl))
  case body =>
  have hu := hu_of hr
  refine ⟨_, (pss_one (ps_ret (pe_dget hu (pe_c G_places_of hr (by decide) (by rfl) (pa_cons (pe_fldK K rfl (pv 0) rfl) pa_nil)) (pv 1) (fun _ _ => rfl)))), ?_⟩
  obtain ⟨s, w', D, gs, nm, pn, i, rfl, hS, hi, q⟩ := h
  obtain ⟨j, hj⟩ := hS.ing.mp hi
  refine ⟨_, rfl, s, CS K, D.dx, _, _, rfl, hS.ins, T.cS, T.n_parts, rfl, D.gl, D.ts, gs, rfl, hS.parts, hS.grp, hS.gok, fun H1 p kvs m s1 hp h1 hm _ hmi => ?_⟩
  have dg := dget_rd (.inl i) (Rd.of h1)
  rw [hm.get ((hmi i j).mpr ⟨j, rfl, hj⟩)] at dg
  exact ⟨_, rfl, _, _, rfl, dg, q H1 j s1 hj⟩
def spRen (K : PySem.W.Frag) : Sp := fun vs H Q _ => ∃ (s dn dp : Addr) (w : Int) (D : StD) (gs : List (List Int)) (nm pn nm' pn' : Str → Option Int) (kn kp : List (Key × V)), vs = [.ref s, .ref dn, .ref dp] ∧ StAt K w H s D gs nm pn ∧ H dn = some (.dK kn) ∧ DSI kn nm' ∧ H dp = some (.dK kp) ∧ DSI kp pn' ∧
  ∀ (H' : Hp) (s' : Addr) (D' : StD), Same H H' → H s' = none → StAt K w H' s' D' gs nm' pn' → D'.kvs = D.kvs → D'.dn = dn → D'.dp = dp → Q (.ref s') H'
theorem ok_State_renamed {P : Program} {w : World} {K : PySem.W.Frag} {mg : Str → Option Value} {base : Heap} (T : Tx K mg) : Met P w K mg base 6 (CS K) "renamed" (spRen K) [] := by
  obtain ⟨fd, F⟩ := T.d_State_renamed
  have G_State_init := ok_State_init (P := P) (w := w) (base := base) T
  have bd : Binds K fd ["self", "names", "pins"] [] := F.binds fun _ _ _ _ _ _ us hl => match us, hl with | [_, _, _], _ => rfl
  refine met_of (F.ok sc_State_renamed (fun vs H Q E h => ?len) (fun cdv A outer s H vs Q E hr h => ?body)) bd T.cS T.m_State_renamed
  case len => exact (by first | (obtain ⟨rfl, _⟩ := h; rfl) | (obtain ⟨_, rfl, _⟩ := h; rfl) | (obtain ⟨_, _, rfl, _⟩ := h; rfl) | (obtain ⟨_, _, _, rfl, _⟩ := h; rfl) | (obtain ⟨_, _, _, _, rfl, _⟩ := h; rfl) | (obtain ⟨_, _, _, _, _, rfl, _⟩ := h; rfl) | (obtain ⟨_, _, _, _, _, _, rfl, _⟩ := h; rfl) | (obtain ⟨_, _, _, _, _, _, _, rfl, _⟩ := h; rfl) | (obtain ⟨_, _, _, _, _, _, _, _, rfl, _⟩ := h; rfl) | (obtain ⟨_, _, _, _, _, _, _, _, _, rfl, _⟩ := h; rfl) | (obtain ⟨_, _, _, _, _, _, _, _, _, _, rfl, _⟩ := h; rfl) | (obtain ⟨_, _, _, _, _, _, _, _, _, _, _, rfl, _⟩ := h; rfl) | (obtain ⟨_, _, _, _, _, _, _, _, _, _, _, _, rfl, _⟩ := h; rfl) | (obtain ⟨_, _, _, _, _, _, _, _, _, _, _, _, _, rfl, _⟩ := h; rfl) | (obtain ⟨_, _, _, _, _, _, _, _, _, _, _, _, _, _, rfl, _⟩ := h; rfl) | (obtain ⟨_, _, _, _, _, _, _, _, _, _, _, _, _, _, _, rfl, _⟩ := h; rfl))
  case body =>
  have hu := hu_of hr
  refine ⟨_, (pss_one (ps_ret (pe_mk G_State_init hr (by decide) (by rfl) (pa_cons (pe_fldK K rfl (pv 0) rfl) (pa_cons (pe_fldK K rfl (pv 0) rfl) (pa_cons (pv 1) (pa_cons (pv 2) pa_nil))))))), ?_⟩
  obtain ⟨s, dn, dp, w', D, gs, nm, pn, nm', pn', kn, kp, rfl, hS, hdn, hnm, hdp, hpn, q⟩ := h
  refine ⟨_, rfl, s, CS K, D.dx, _, _, rfl, hS.ins, T.cS, T.n_store, rfl, _, rfl, s, CS K, D.dx, _, _, rfl, hS.ins, T.cS, T.n_columns, rfl, _, rfl, _, rfl, ?_⟩
  refine st_make hS.store hS.items hS.rule hS.rok hdn hnm hdp hpn fun H' s' D' gs' s1 hs' hst e1 e2 e3 e4 e5 e6 e7 e8 => ?_
  have : gs' = gs := by
    have h1 := hst.rel
    have h2 := (hS.same s1).rel
    rw [e5, e6] at h1
    exact GsRel.uniq h1 h2 fun i _ => rfl
  subst this
  exact q H' s' D' s1 hs' hst e5 e3 e4
end KN

set_option Elab.async false
set_option linter.all false
set_option maxRecDepth 100000
set_option maxHeartbeats 4000000
/-! a name given -/
namespace KN
open PySem PySem.Spec PyProof.Rows L2 ClX StX
open C8 (Cal Met Mak CalAt pe_c pe_mk pe_mt pe_mt0 pss_cut tCut pe_gc)
def spGiven (K : PySem.W.Frag) : Sp := fun vs H Q _ => ∃ (s : Addr) (w : Int) (D : StD) (gs : List (List Int)) (nm pn : Str → Option Int) (n : Str) (i : Int), vs = [.ref s, .str n, .int i] ∧ StAt K w H s D gs nm pn ∧ NOk gs nm pn ∧ n ∈ five ∧ i ∈ idsK D.kvs ∧
  ∀ (H' : Hp) (s' : Addr) (D' : StD) (nm' pn' : Str → Option Int), Same H H' → H s' = none → StAt K w H' s' D' gs nm' pn' → NOk gs nm' pn' → D'.kvs = D.kvs → (∃ j : Nat, nm' n = some (j : Int) ∧ InG gs i j) → Q (.ref s') H'
theorem ok_State_given {P : Program} {w : World} {K : PySem.W.Frag} {mg : Str → Option Value} {base : Heap} (T : Tx K mg) : Met P w K mg base 7 (CS K) "given" (spGiven K) [] := by
  obtain ⟨fd, F⟩ := T.d_State_given
  have G_State_place_of := ok_State_place_of (P := P) (w := w) (base := base) T
  have G_State_renamed := ok_State_renamed (P := P) (w := w) (base := base) T
  have bd : Binds K fd ["self", "name", "row_id"] [] := F.binds fun _ _ _ _ _ _ us hl => match us, hl with | [_, _, _], _ => rfl
  refine met_of (F.ok sc_State_given (fun vs H Q E h => ?len) (fun cdv A outer s H vs Q E hr h => ?body)) bd T.cS T.m_State_given
  case len => exact (by first | (obtain ⟨rfl, _⟩ := h; rfl) | (obtain ⟨_, rfl, _⟩ := h; rfl) | (obtain ⟨_, _, rfl, _⟩ := h; rfl) | (obtain ⟨_, _, _, rfl, _⟩ := h; rfl) | (obtain ⟨_, _, _, _, rfl, _⟩ := h; rfl) | (obtain ⟨_, _, _, _, _, rfl, _⟩ := h; rfl) | (obtain ⟨_, _, _, _, _, _, rfl, _⟩ := h; rfl) | (obtain ⟨_, _, _, _, _, _, _, rfl, _⟩ := h; rfl) | (obtain ⟨_, _, _, _, _, _, _, _, rfl, _⟩ := h; rfl) | (obtain ⟨_, _, _, _, _, _, _, _, _, rfl, _⟩ := h; rfl) | (obtain ⟨_, _, _, _, _, _, _, _, _, _, rfl, _⟩ := h; rfl) | (obtain ⟨_, _, _, _, _, _, _, _, _, _, _, rfl, _⟩ := h; rfl) | (obtain ⟨_, _, _, _, _, _, _, _, _, _, _, _, rfl, _⟩ := h; rfl) | (obtain ⟨_, _, _, _, _, _, _, _, _, _, _, _, _, rfl, _⟩ := h; rfl) | (obtain ⟨_, _, _, _, _, _, _, _, _, _, _, _, _, _, rfl, _⟩ := h; rfl) | (obtain ⟨_, _, _, _, _, _, _, _, _, _, _, _, _, _, _, rfl, _⟩ := h; rfl))
  case body =>
  have hu := hu_of hr
  refine ⟨_, (pss_cons (ps_set (i := 3) sc_State_given.nd rfl (Or.inr rfl) (pe_mt G_State_place_of hr (by decide) (pv 0) (pa_cons (pv 2) pa_nil)))
      (pss_cons (ps_set (i := 4) sc_State_given.nd rfl (Or.inr rfl) (pe_lock (pe_dc1 (own := [("other", 6), ("spot", 7)]) (.inl rfl) hu rfl sc_State_given.nd (pi_items (pe_fldK K rfl (pv 0) rfl)) (blkOk_by (own := [("other", 6), ("spot", 7)]) (N := N_State_given) (sc := defScope s_State_given) (by decide +kernel)) (fun _ _ _ _ _ => by exact (pg_tupK K rfl 2 rfl (pgs_cons (pg_name (i := 6) sc_State_given.nd rfl (Or.inl rfl)) (pgs_cons (pg_name (i := 7) sc_State_given.nd rfl (Or.inl rfl)) pgs_nil)))) (fun _ _ _ _ _ => (pts_one (PW.pt (pw_and (pt_cmpR op_ne (pv 7) (pv 3) (nomark _)) (pw_and1 (pt_cmpR op_ne (pv 6) (pv 1) (nomark _))))))) (fun _ _ _ _ _ => (pv 6)) (fun _ _ _ _ _ => (pv 7)))))
      (pss_cons (ps_lock (ps_setDc1 (i := 5) (own := [("other", 6), ("pin", 8)]) (.inl rfl) hu rfl sc_State_given.nd rfl rfl (swD_true rfl rfl rfl (by decide +kernel)) (pi_items (pe_fldK K rfl (pv 0) rfl)) (blkOk_by (own := [("other", 6), ("pin", 8)]) (N := N_State_given) (sc := defScope s_State_given) (by decide +kernel)) (fun _ _ _ _ _ => by exact (pg_tupK K rfl 2 rfl (pgs_cons (pg_name (i := 6) sc_State_given.nd rfl (Or.inl rfl)) (pgs_cons (pg_name (i := 8) sc_State_given.nd rfl (Or.inl rfl)) pgs_nil)))) (fun _ _ _ _ _ => (pts_one (pt_cmp (pc_din hu (pv 6) (pv 4)) rfl))) (fun _ _ _ _ _ => (pv 6)) (fun _ _ _ _ _ => (pv 8))))
      (pss_cut (ps_if (PW.pt (pw_and (pt_cmp (pc_din hu (pv 1) (pe_fldK K rfl (pv 0) rfl)) rfl) (pw_and1 (pt_cmpR op_eq (pe_mt G_State_place_of hr (by decide) (pv 0) (pa_cons (pe_dget hu (pe_fldK K rfl (pv 0) rfl) (pv 1) (fun _ _ => rfl)) pa_nil)) (pv 3) (nomark _))))) (pss_one (ps_dput hu (pv 5) (pv 1) (pe_dget hu (pe_fldK K rfl (pv 0) rfl) (pv 1) (fun _ _ => rfl)) rfl))
      pss_nil)
      (pss_one (ps_ret (pe_mt G_State_renamed hr (by decide) (pv 0) (pa_cons (pe_dispSK (pv 4) (pv 1) (pv 3)) (pa_cons (pv 5) pa_nil))))))))), ?_⟩
  obtain ⟨s, w', D, gs, nm, pn, n, i, rfl, hS, hN, hn5, hi, q⟩ := h
  refine ⟨_, rfl, s, _, _, rfl, hS.ins, rfl, _, rfl, s, w', D, gs, nm, pn, i, rfl, hS, hi, fun H1 j s1 hj => ?_⟩
  have hS1 := hS.same s1
  have lkn : D.kn.length ≤ 5 := Nat.le_trans (few' hS.nm five hN.five) (by decide)
  have lkp : D.kp.length ≤ 5 := Nat.le_trans (few' hS.pn five hN.pin5) (by decide)
  -- names
  refine ⟨D.dn, _, hS1.named, trivial, fun od => ?_⟩
  have h0 : upd H1 D.dn (.frz od (.dK D.kn)) D.dn = some (.frz od (.dK D.kn)) := upd_same
  have hs0 := lk (od := od) hS1.named hS1.ins (fun z => nomatch z)
  refine ⟨_, rfl, s, CS K, D.dx, _, _, rfl, hs0, T.cS, T.n_named, rfl, _, _, _, rfl, h0, fun E hE => ?_⟩
  have nEd : E ≠ D.dn := fun z => by subst z; rw [h0] at hE; cases hE
  have hEH : H1 E = none := by rw [upd_ne nEd] at hE; exact hE
  refine dc_it (walk_items (kvs := D.kn)) (fun k H' => ∃ (k2 : List (Key × V)) (m2 : Str → Option Int), Same (upd H1 D.dn (.frz od (.dK D.kn))) H' ∧ H' E = some (.dK k2) ∧ DSI k2 m2 ∧ k2.length ≤ k ∧ ∀ o z, m2 o = some z → nm o = some z ∧ z ≠ (j : Int) ∧ o ≠ n) ?_ ?_ ?_ ?_
  · exact ⟨[], fun _ => none, same_new hE, upd_same, .nil, Nat.le_refl _, fun i z h => (nomatch h)⟩
  · rintro k H' _ ⟨_, _, s, _⟩
    exact s _ _ h0
  · rintro k x H2 H3 hk ⟨k2, m2, s2, hk2, hm2, hl, i1⟩ ⟨T2, y1, y2, rfl, hT, rfl, e1, e2⟩
    obtain ⟨⟨ky, vl⟩, hkv, e3⟩ := Option.map_eq_some_iff.mp e1
    replace e2 : D.kn[k]?.map Prod.snd = some y2 := e2
    rw [hkv] at e2
    cases e2
    obtain ⟨o, z, rfl, rfl, hoz⟩ := hS.nm.ix inr_inj hkv
    subst e3
    have sT : Same (upd H1 D.dn (.frz od (.dK D.kn))) (upd H2 T2 (.tup [kV (.inr o), .int z])) := s2.new hT
    have hkT := (same_new (o := .tup [kV (.inr o), .int z]) hT) _ _ hk2
    have hTT : upd H2 T2 (.tup [kV (.inr o), .int z]) T2 = some (.tup [kV (.inr o), .int z]) := upd_same
    generalize upd H2 T2 (.tup [kV (.inr o), .int z]) = H5 at sT hkT hTT
    refine ⟨T2, _, rfl, SqT.of hTT, rfl, _, _, rfl, _, _, rfl, rfl, rfl, _, rfl, _, rfl, rfl, _, rfl, ?_⟩
    by_cases hz : z = (j : Int)
    · subst hz; exact iteNS rfl (iteF ⟨k2, m2, sT, hkT, hm2, by omega, i1⟩)
    refine iteND (fun h => hz (by cases h; rfl)) ⟨_, rfl, _, rfl, rfl, _, rfl, ?_⟩
    by_cases ho : o = n
    · subst ho; exact iteNS rfl ⟨k2, m2, sT, hkT, hm2, by omega, i1⟩
    refine iteND (fun h => ho (by cases h; rfl)) ⟨_, rfl, _, rfl, _, dput_k (.inr o) (.int z) hkT (by omega), _, _, sT.at hE, upd_same, hm2.put inr_inj o z, by have := length_putK k2 (.inr o) (V.int z); omega, fun o' z' h => ?_⟩
    by_cases e : o' = o
    · subst e; rw [KM.fup_same] at h; cases h; exact ⟨hoz, hz, ho⟩
    · rw [KM.fup_ne e] at h; exact i1 o' z' h
  rintro H2 ⟨k2, m2, s2, hk2, hm2, hl2, i1⟩
  refine ⟨s2 _ _ h0, ?_⟩
  have s3 : Same H1 (upd H2 D.dn (.dK D.kn)) := unlock hS1.named s2
  have hk3 : upd H2 D.dn (.dK D.kn) E = some (.dK k2) := by rw [upd_ne nEd]; exact hk2
  generalize upd H2 D.dn (.dK D.kn) = H3 at s3 hk3
  have hS3 := hS1.same s3
  -- pins
  refine ⟨D.dp, _, hS3.pinned, trivial, fun od2 => ?_⟩
  have g0 : upd H3 D.dp (.frz od2 (.dK D.kp)) D.dp = some (.frz od2 (.dK D.kp)) := upd_same
  have gs0 := lk (od := od2) hS3.pinned hS3.ins (fun z => nomatch z)
  have gk : Rd (upd H3 D.dp (.frz od2 (.dK D.kp))) E (.dK k2) := rd_lock hS3.pinned (.inl hk3) (fun _ _ z => nomatch z)
  refine ⟨_, rfl, s, CS K, D.dx, _, _, rfl, gs0, T.cS, T.n_pinned, rfl, _, _, _, rfl, g0, fun P' hP => ?_⟩
  have nPd : P' ≠ D.dp := fun z => by subst z; rw [g0] at hP; cases hP
  have hPH : H3 P' = none := by rw [upd_ne nPd] at hP; exact hP
  refine dc_it (walk_items (kvs := D.kp)) (fun k H' => ∃ (k4 : List (Key × V)) (m4 : Str → Option Int), Same (upd H3 D.dp (.frz od2 (.dK D.kp))) H' ∧ H' P' = some (.dK k4) ∧ DSI k4 m4 ∧ k4.length ≤ k ∧ ∀ o z, m4 o = some z → pn o = some z ∧ ∃ y, m2 o = some y) ?_ ?_ ?_ ?_
  · exact ⟨[], fun _ => none, same_new hP, upd_same, .nil, Nat.le_refl _, fun i z h => (nomatch h)⟩
  · rintro k H' _ ⟨_, _, s, _⟩
    exact s _ _ g0
  · rintro k x H4 H5 hk ⟨k4, m4, s4, hk4, hm4, hl, i2⟩ ⟨T2, y1, y2, rfl, hT, rfl, e1, e2⟩
    obtain ⟨⟨ky, vl⟩, hkv, e3⟩ := Option.map_eq_some_iff.mp e1
    replace e2 : D.kp[k]?.map Prod.snd = some y2 := e2
    rw [hkv] at e2
    cases e2
    obtain ⟨o, z, rfl, rfl, hoz⟩ := hS.pn.ix inr_inj hkv
    subst e3
    have sT : Same (upd H3 D.dp (.frz od2 (.dK D.kp))) (upd H4 T2 (.tup [kV (.inr o), .int z])) := s4.new hT
    have hkT := (same_new (o := .tup [kV (.inr o), .int z]) hT) _ _ hk4
    have hTT : upd H4 T2 (.tup [kV (.inr o), .int z]) T2 = some (.tup [kV (.inr o), .int z]) := upd_same
    generalize upd H4 T2 (.tup [kV (.inr o), .int z]) = H6 at sT hkT hTT
    have dg := dget_rd (.inr o) (sT.rd gk)
    rw [hm2.at_] at dg
    refine ⟨T2, _, rfl, SqT.of hTT, rfl, _, _, rfl, _, _, rfl, rfl, rfl, _, rfl, _, rfl, _, _, rfl, dg, _, rfl, ?_⟩
    cases ho : m2 o with
    | none => exact iteF ⟨k4, m4, sT, hkT, hm4, by omega, i2⟩
    | some y =>
      refine iteT ⟨_, rfl, _, rfl, _, dput_k (.inr o) (.int z) hkT (by omega), _, _, sT.at hP, upd_same, hm4.put inr_inj o z, by have := length_putK k4 (.inr o) (V.int z); omega, fun o' z' h => ?_⟩
      by_cases e : o' = o
      · subst e; rw [KM.fup_same] at h; cases h; exact ⟨hoz, y, ho⟩
      · rw [KM.fup_ne e] at h; exact i2 o' z' h
  rintro H4 ⟨k4, m4, s4, hk4, hm4, hl4, i2⟩
  refine ⟨s4 _ _ g0, ?_⟩
  have s5 : Same H3 (upd H4 D.dp (.dK D.kp)) := unlock hS3.pinned s4
  have hk5 : upd H4 D.dp (.dK D.kp) P' = some (.dK k4) := by rw [upd_ne nPd]; exact hk4
  generalize upd H4 D.dp (.dK D.kp) = H5 at s5 hk5
  have hS5 := hS3.same s5
  have s15 := s3.trans s5
  -- the pin of this name
  have hPH1 : H1 P' = none := s3.free hPH
  refine ⟨fun σ' H' => ∃ (k6 : List (Key × V)) (m6 : Str → Option Int), σ' = [some (.ref s), some (.str n), some (.int i), some (.int j), some (.ref E), some (.ref P'), none, none, none] ∧ Same H1 H' ∧ H' E = some (.dK k2) ∧ H' P' = some (.dK k6) ∧ DSI k6 m6 ∧
    ∀ o z, m6 o = some z → (pn o = some z ∧ ∃ y, m2 o = some y) ∨ (o = n ∧ InG gs z j), ?_, ?_⟩
  · have dg := dget_rd (.inr n) (Rd.of hS5.pinned)
    rw [hS.pn.at_] at dg
    refine ⟨_, rfl, _, rfl, s, CS K, D.dx, _, _, rfl, hS5.ins, T.cS, T.n_pinned, rfl, _, _, rfl, dg, _, rfl, ?_⟩
    cases hpn : pn n with
    | none => exact iteF (iteF ⟨k4, m4, rfl, s15, s5 _ _ hk3, hk5, hm4, fun o z h => .inl (i2 o z h)⟩)
    | some z =>
      rw [hpn] at dg
      obtain ⟨jz, h1, h2⟩ := hN.pin n z hpn
      refine iteT ⟨_, rfl, s, _, _, rfl, hS5.ins, rfl, _, rfl, s, CS K, D.dx, _, _, rfl, hS5.ins, T.cS, T.n_pinned, rfl, _, rfl, _, _, rfl, dg, s, w', D, gs, nm, pn, z, rfl, hS5, hS.ing.mpr ⟨jz, h2⟩, fun H6 j2 s6 hj2 => ⟨_, rfl, rfl, _, rfl, ?_⟩⟩
      have hk6 := s6 _ _ hk5
      by_cases hjj : j2 = j
      · subst hjj
        have dg6 := dget_rd (.inr n) (Rd.of (s6 _ _ hS5.pinned))
        rw [hS.pn.get hpn] at dg6
        refine iteD rfl ⟨_, rfl, s, CS K, D.dx, _, _, rfl, s6 _ _ hS5.ins, T.cS, T.n_pinned, rfl, _, rfl, _, _, rfl, dg6, _, rfl, _, rfl, P', _, rfl, dput_k (.inr n) (.int z) hk6 (by omega), _, _, rfl, (s15.trans s6).at hPH1, ?_, upd_same, hm4.put inr_inj n z, fun o z' h => ?_⟩
        · have : E ≠ P' := fun q => by rw [q, hPH] at hk3; cases hk3
          rw [upd_ne this]; exact s6 _ _ (s5 _ _ hk3)
        · by_cases e : o = n
          · subst e; rw [KM.fup_same] at h; cases h; exact .inr ⟨rfl, hj2⟩
          · rw [KM.fup_ne e] at h; exact .inl (i2 o z' h)
      · exact iteDF (fun h => hjj (by cases h; rfl)) ⟨k4, m4, rfl, s15.trans s6, s6 _ _ (s5 _ _ hk3), hk6, hm4, fun o z h => .inl (i2 o z h)⟩
  · rintro σ' H6 ⟨k6, m6, rfl, s6, hE6, hP6, hm6, i3⟩
    have hS6 := hS1.same s6
    refine ⟨_, rfl, s, _, _, rfl, hS6.ins, rfl, fun p hp => ?_⟩
    have npE : p ≠ E := fun z => by subst z; rw [hE6] at hp; cases hp
    have npP : p ≠ P' := fun z => by subst z; rw [hP6] at hp; cases hp
    refine ⟨_, rfl, E, k2, rfl, npE, upd_same, .inl (by rw [upd_ne npE.symm]; exact hE6), by omega, fun q2 hq2 => ⟨_, rfl, _, rfl, .inr n, rfl, upd_same, ?_, ?_⟩⟩
    · have : p ≠ q2 := fun z => by subst z; rw [upd_same] at hq2; cases hq2
      rw [upd_ne this, upd_same]
    have nq : p ≠ q2 := fun z => by subst z; rw [upd_same] at hq2; cases hq2
    have hq6 : H6 q2 = none := by rw [upd_ne nq.symm, upd_ne nq.symm] at hq2; exact hq2
    have sp : Same H6 (upd (upd (upd (upd (upd H6 p (.dK [])) p (.dK (mergeK [] k2))) q2 (.dK [])) q2 (.dK [(.inr n, .int j)])) p (.dK (putK (mergeK [] k2) (.inr n) (.int j)))) := ((((same_new hp).at hp).at hq6).at hq6).at hp
    have hp7 : upd (upd (upd (upd (upd H6 p (.dK [])) p (.dK (mergeK [] k2))) q2 (.dK [])) q2 (.dK [(.inr n, .int j)])) p (.dK (putK (mergeK [] k2) (.inr n) (.int j))) p = some (.dK (putK (mergeK [] k2) (.inr n) (.int j))) := upd_same
    generalize upd (upd (upd (upd (upd H6 p (.dK [])) p (.dK (mergeK [] k2))) q2 (.dK [])) q2 (.dK [(.inr n, .int j)])) p (.dK (putK (mergeK [] k2) (.inr n) (.int j))) = H7 at sp hp7
    have d1 : DSI (mergeK [] k2) m2 := (DM.nil.merge hm2).congr fun a => by cases m2 a <;> rfl
    have d2 := d1.put inr_inj n (j : Int)
    refine ⟨_, rfl, s, p, P', w', D, gs, nm, pn, KM.fup m2 n (some (j : Int)), m6, _, k6, rfl, hS6.same sp, hp7, d2, sp _ _ hP6, hm6, fun H8 s' D' s8 hs' hst e1 e2 e3 => ?_⟩
    have sH : Same H H8 := ((s1.trans s6).trans sp).trans s8
    refine q H8 s' D' _ m6 sH (((s1.trans s6).trans sp).free hs') hst ⟨fun o z h => ?_, fun o o' z h h' => ?_, fun o z h => ?_, fun o z h => ?_⟩ e1 ⟨j, KM.fup_same, hj⟩
    · by_cases e : o = n
      · rw [e]; exact hn5
      · rw [KM.fup_ne e] at h; exact hN.five o z (i1 o z h).1
    · by_cases e : o = n
      · subst e; rw [KM.fup_same] at h; cases h
        by_cases e' : o' = o
        · exact e'.symm
        · rw [KM.fup_ne e'] at h'; exact absurd rfl (i1 o' _ h').2.1
      · rw [KM.fup_ne e] at h
        by_cases e' : o' = n
        · subst e'; rw [KM.fup_same] at h'; cases h'; exact absurd rfl (i1 o _ h).2.1
        · rw [KM.fup_ne e'] at h'; exact hN.inj o o' z (i1 o z h).1 (i1 o' z h').1
    · by_cases e : o = n
      · subst e; rw [KM.fup_same] at h; cases h
        obtain ⟨g, hg, _⟩ := hj
        exact ⟨j, rfl, (List.getElem?_eq_some_iff.mp hg).1⟩
      · rw [KM.fup_ne e] at h; exact hN.rng o z (i1 o z h).1
    · rcases i3 o z h with ⟨h1, y, h2⟩ | ⟨rfl, h2⟩
      · obtain ⟨h3, _, h4⟩ := i1 o y h2
        obtain ⟨j3, h5, h6⟩ := hN.pin o z h1
        rw [h3] at h5; cases h5
        exact ⟨j3, by rw [KM.fup_ne h4]; exact h2, h6⟩
      · exact ⟨j, KM.fup_same, h2⟩
end KN

set_option Elab.async false
set_option linter.all false
set_option maxRecDepth 100000
set_option maxHeartbeats 4000000
/-! a change of items or rule -/
namespace KN
open PySem PySem.Spec PyProof.Rows L2 ClX StX
open C8 (Cal Met Mak CalAt pe_c pe_mk pe_mt pe_mt0 pss_cut tCut pe_gc)
theorem StAt.put {K : PySem.W.Frag} {w : Int} {H : Hp} {s : Addr} {D : StD} {gs : List (List Int)} {nm pn nm' pn' : Str → Option Int} {dn dp : Addr} {kn kp : List (Key × V)} (h : StAt K w H s D gs nm pn) (hdn : H dn = some (.dK kn)) (hnm : DSI kn nm') (hdp : H dp = some (.dK kp)) (hpn : DSI kp pn') :
    StAt K w (upd H s (.ins (CS K) D.dx (sF D.di D.ru D.gl dn dp))) s { D with dn := dn, dp := dp, kn := kn, kp := kp } gs nm' pn' := by
  have ne : ∀ {a o}, H a = some o → (∀ C dx fs, o ≠ .ins C dx fs) → a ≠ s := fun {a o} e q z => by subst z; rw [h.ins] at e; exact q _ _ _ (Option.some.inj e).symm
  have kp_ : ∀ {a o}, H a = some o → (∀ C dx fs, o ≠ .ins C dx fs) → upd H s (.ins (CS K) D.dx (sF D.di D.ru D.gl dn dp)) a = some o := fun {a o} e q => by rw [upd_ne (ne e q)]; exact e
  have hI : Items w (upd H s (.ins (CS K) D.dx (sF D.di D.ru D.gl dn dp))) D.kvs := ⟨h.items.nd, fun p hp => by
    obtain ⟨i, t, wt, ns, e, h1, h2, hit⟩ := h.items.el p hp
    obtain ⟨f, h3, h4⟩ := hit.f
    exact ⟨i, t, wt, ns, e, h1, h2, ⟨⟨f, kp_ h3 (fun _ _ _ z => nomatch z), kp_ h4 (fun _ _ _ z => nomatch z)⟩, hit.len, hit.wt1, hit.wt2, hit.bd⟩⟩, h.items.len⟩
  refine ⟨upd_same, kp_ h.store (fun _ _ _ z => nomatch z), hI, ?_, h.rok, kp_ h.parts (fun _ _ _ z => nomatch z), ⟨h.grp.len, fun i t e => ?_⟩, h.pm, h.ne, ?_, kp_ hdn (fun _ _ _ z => nomatch z), hnm, kp_ hdp (fun _ _ _ z => nomatch z), hpn⟩
  · obtain ⟨ts, r1, r2, r3⟩ := h.rule
    exact ⟨ts, kp_ r1 (fun _ _ _ z => nomatch z), r2, fun i t e => let ⟨p, e1, e2⟩ := r3 i t e; ⟨p, e1, kp_ e2 (fun _ _ _ z => nomatch z)⟩⟩
  · obtain ⟨g, e1, e2⟩ := h.grp.at_ i t e
    exact ⟨g, e1, kp_ e2 (fun _ _ _ z => nomatch z)⟩
  · obtain ⟨ys, h1, h2, h3⟩ := h.rel
    refine ⟨ys, h1, h2, h3.trans ?_⟩
    unfold gsY
    have ek : ∀ i ∈ ys, keyK D.ps (fldOf H D.kvs) i = keyK D.ps (fldOf (upd H s (.ins (CS K) D.dx (sF D.di D.ru D.gl dn dp))) D.kvs) i := fun i hi => by
      obtain ⟨t, wt, ns, hv, _, _, hit⟩ := h.items.get (h1.mem_iff.mp hi)
      obtain ⟨f, h3, h4⟩ := hit.f
      unfold keyK
      rw [fldOf_eq hv hit, fldOf_eq (w := w) (wt := wt) (ns := ns) hv ⟨⟨f, kp_ h3 (fun _ _ _ z => nomatch z), kp_ h4 (fun _ _ _ z => nomatch z)⟩, hit.len, hit.wt1, hit.wt2, hit.bd⟩]
    rw [List.map_congr_left ek]
    refine List.map_congr_left fun k _ => List.filter_congr fun i hi => ?_
    rw [ek i hi]
/-! ### a rule as data -/
def ruleD (ps : List (Int × Int)) : PyData := .tuple (ps.map fun p => .tuple [.int p.1, .int p.2])
theorem ruleD_shaped : ∀ ps : List (Int × Int), SeqAt.shaped (ruleD ps) = true := by
  intro ps
  have h1 : PyData.canLayAll0 (ps.map fun p => PyData.tuple [.int p.1, .int p.2]) = true := by
    induction ps with
    | nil => rfl
    | cons p r ih =>
      rw [List.map_cons]
      simp only [PyData.canLayAll0, PyData.canLay0, Bool.and_true, Bool.true_and]
      exact ih
  have h2 : PyData.depthAll (ps.map fun p => PyData.tuple [.int p.1, .int p.2]) ≤ 1 := by
    clear h1
    induction ps with
    | nil => exact Nat.zero_le _
    | cons p r ih =>
      rw [List.map_cons]
      simp only [PyData.depthAll, PyData.depth]
      simp only [Nat.max_zero, Nat.max_self, Nat.zero_add]
      omega
  unfold SeqAt.shaped ruleD
  rw [Bool.and_eq_true]
  refine ⟨by simpa only [PyData.canLay0] using h1, decide_eq_true ?_⟩
  simp only [PyData.depth]
  omega
theorem ruleD_dp {K : PySem.W.Frag} {H : Hp} {r : Addr} {ps : List (Int × Int)} (h : RuleAt H r ps) : Dp K H (.ref r) (ruleD ps) := by
  obtain ⟨ts, h1, h2, h3⟩ := h
  refine .tup (SqT.of h1) ?_
  have : ∀ (ts : List Addr) (ps : List (Int × Int)), ts.length = ps.length → (∀ (i : Nat) (t : Addr), ts[i]? = some t → ∃ p, ps[i]? = some p ∧ H t = some (.tup [.int p.1, .int p.2])) → DpAll K H (ts.map V.ref) (ps.map fun p => .tuple [.int p.1, .int p.2]) := by
    intro ts
    induction ts with
    | nil => intro ps hl _; cases ps with
      | nil => exact .nil
      | cons _ _ => cases hl
    | cons t r ih =>
      intro ps hl h
      cases ps with
      | nil => cases hl
      | cons p r' =>
        obtain ⟨p', e1, e2⟩ := h 0 t rfl
        cases e1
        exact .cons (.tup (SqT.of e2) (.cons (.int _) (.cons (.int _) .nil))) (ih r' (Nat.succ.inj hl) fun i t e => h (i + 1) t e)
  exact this ts ps h2 h3
/-- a state is made, said at its address -/
theorem st_makeX {K : PySem.W.Frag} {H : Hp} {Qx : Hp → Prop} {x dx di ru dn dp : Addr} {kvs : List (Key × V)} {ps : List (Int × Int)} {w : Int} {kn kp : List (Key × V)} {nm pn : Str → Option Int} (hx : H x = none) (hdx : H dx = none) (hdi : H di = some (.dK kvs)) (hI : Items w H kvs) (hR : RuleAt H ru ps) (hok : RuleOk w ps)
    (hdn : H dn = some (.dK kn)) (hnm : DSI kn nm) (hdp : H dp = some (.dK kp)) (hpn : DSI kp pn)
    (q : ∀ (H' : Hp) (D : StD) (gs : List (List Int)), Same H H' → StAt K w H' x D gs nm pn → D.di = di → D.ru = ru → D.dn = dn → D.dp = dp → D.kvs = kvs → D.ps = ps → D.kn = kn → D.kp = kp → Qx H') :
    spSInit K (.ref x :: ([.ref di, .ref ru, .ref dn, .ref dp] ++ [])) (upd (upd H dx (.own x)) x (.ins (CS K) dx [])) (fun v H2 => v = .non ∧ Qx H2) C8.E0 := by
  refine ⟨H, x, dx, di, ru, dn, dp, kvs, ps, w, kn, kp, nm, pn, rfl, upd_same, hx, ((Same.refl H).at hdx).at hx, hdi, hI, hR, hok, hdn, hnm, hdp, hpn, fun H' gl ts gs s hst => ⟨rfl, ?_⟩⟩
  exact q H' _ gs s hst rfl rfl rfl rfl rfl rfl rfl rfl
/-- what a change keeps -/
structure Chg (nm pn : Str → Option Int) (ids' : List Int) (gs' : List (List Int)) (nm' pn' : Str → Option Int) : Prop where
  names : ∀ n z, nm' n = some z → ∃ z', nm n = some z'
  pins : ∀ n i, pn' n = some i → pn n = some i
  lost : ∀ n i, pn n = some i → pn' n = none → i ∈ ids' → ∃ n' i' j, pn' n' = some i' ∧ InG gs' i' j ∧ InG gs' i j ∧ SLt n' n
def spChanged (K : PySem.W.Frag) : Sp := fun vs H Q _ => ∃ (s di ru : Addr) (w : Int) (D : StD) (gs : List (List Int)) (nm pn : Str → Option Int) (kvs : List (Key × V)) (ps : List (Int × Int)), vs = [.ref s, .ref di, .ref ru] ∧ StAt K w H s D gs nm pn ∧ NOk gs nm pn ∧ H di = some (.dK kvs) ∧ Items w H kvs ∧ RuleAt H ru ps ∧ RuleOk w ps ∧
  ∀ (H' : Hp) (s' : Addr) (D' : StD) (gs' : List (List Int)) (nm' pn' : Str → Option Int), Same H H' → H s' = none → StAt K w H' s' D' gs' nm' pn' → NOk gs' nm' pn' → D'.kvs = kvs → Chg nm pn (idsK kvs) gs' nm' pn' → Q (.ref s') H'
theorem ok_State_changed {P : Program} {w : World} {K : PySem.W.Frag} {mg : Str → Option Value} {base : Heap} (T : Tx K mg) : Met P w K mg base 6 (CS K) "changed" (spChanged K) [] := by
  obtain ⟨fd, F⟩ := T.d_State_changed
  have G_State_init := ok_State_init (P := P) (w := w) (base := base) T
  have G_State_place_keys := ok_State_place_keys (P := P) (w := w) (base := base) T
  have G_State_told_labels := ok_State_told_labels (P := P) (w := w) (base := base) T
  have G_State_weights := ok_State_weights (P := P) (w := w) (base := base) T
  have G_carry_over := ok_carry_over (P := P) (w := w) (base := base) T
  have G_counting_pins := ok_counting_pins (P := P) (w := w) (base := base) T
  have bd : Binds K fd ["self", "items", "rule"] [] := F.binds fun _ _ _ _ _ _ us hl => match us, hl with | [_, _, _], _ => rfl
  refine met_of (F.ok sc_State_changed (fun vs H Q E h => ?len) (fun cdv A outer s H vs Q E hr h => ?body)) bd T.cS T.m_State_changed
  case len => exact (by first | (obtain ⟨rfl, _⟩ := h; rfl) | (obtain ⟨_, rfl, _⟩ := h; rfl) | (obtain ⟨_, _, rfl, _⟩ := h; rfl) | (obtain ⟨_, _, _, rfl, _⟩ := h; rfl) | (obtain ⟨_, _, _, _, rfl, _⟩ := h; rfl) | (obtain ⟨_, _, _, _, _, rfl, _⟩ := h; rfl) | (obtain ⟨_, _, _, _, _, _, rfl, _⟩ := h; rfl) | (obtain ⟨_, _, _, _, _, _, _, rfl, _⟩ := h; rfl) | (obtain ⟨_, _, _, _, _, _, _, _, rfl, _⟩ := h; rfl) | (obtain ⟨_, _, _, _, _, _, _, _, _, rfl, _⟩ := h; rfl) | (obtain ⟨_, _, _, _, _, _, _, _, _, _, rfl, _⟩ := h; rfl) | (obtain ⟨_, _, _, _, _, _, _, _, _, _, _, rfl, _⟩ := h; rfl) | (obtain ⟨_, _, _, _, _, _, _, _, _, _, _, _, rfl, _⟩ := h; rfl) | (obtain ⟨_, _, _, _, _, _, _, _, _, _, _, _, _, rfl, _⟩ := h; rfl) | (obtain ⟨_, _, _, _, _, _, _, _, _, _, _, _, _, _, rfl, _⟩ := h; rfl) | (obtain ⟨_, _, _, _, _, _, _, _, _, _, _, _, _, _, _, rfl, _⟩ := h; rfl))
  case body =>
  have hu := hu_of hr
  refine ⟨_, (pss_cons (ps_set (i := 3) sc_State_changed.nd rfl (Or.inl rfl) (pe_mk G_State_init hr (by decide) (by rfl) (pa_cons (pv 1) (pa_cons (pv 2) (pa_cons pe_dnewK (pa_cons pe_dnewK pa_nil))))))
      (pss_cons (ps_lock (ps_setDc1 (i := 4) (own := [("name", 9), ("row_id", 10)]) (.inl rfl) hu rfl sc_State_changed.nd rfl rfl (swD_true rfl rfl rfl (by decide +kernel)) (pi_items (pe_fldK K rfl (pv 0) rfl)) (blkOk_by (own := [("name", 9), ("row_id", 10)]) (N := N_State_changed) (sc := defScope s_State_changed) (by decide +kernel)) (fun _ _ _ _ _ => by exact (pg_tupK K rfl 2 rfl (pgs_cons (pg_name (i := 9) sc_State_changed.nd rfl (Or.inl rfl)) (pgs_cons (pg_name (i := 10) sc_State_changed.nd rfl (Or.inl rfl)) pgs_nil)))) (fun _ _ _ _ _ => (pts_one (pt_cmp (pc_din hu (pv 10) (pv 1)) rfl))) (fun _ _ _ _ _ => (pv 9)) (fun _ _ _ _ _ => (pv 10))))
      (pss_cons (ps_set (i := 5) sc_State_changed.nd rfl (Or.inl rfl) pe_dnewK)
      (pss_cut (ps_if (pt_cmpR (op_eqD hr.units) (pv 2) (pe_fldK K rfl (pv 0) rfl) (nomark _)) (pss_cons (ps_set (i := 6) sc_State_changed.nd rfl (Or.inr rfl) (pe_dc1 (own := [("place", 11), ("key", 12)]) (.inr rfl) hu rfl sc_State_changed.nd (pi_enum (by rfl) T.z_enumerate (pa_cons (pe_mt0 G_State_place_keys hr (by decide) (pv 3)) pa_nil)) (blkOk_by (own := [("place", 11), ("key", 12)]) (N := N_State_changed) (sc := defScope s_State_changed) (by decide +kernel)) (fun _ _ _ _ _ => by exact (pg_tupK K rfl 2 rfl (pgs_cons (pg_name (i := 11) sc_State_changed.nd rfl (Or.inl rfl)) (pgs_cons (pg_name (i := 12) sc_State_changed.nd rfl (Or.inl rfl)) pgs_nil)))) (fun _ _ _ _ _ => pts_nil) (fun _ _ _ _ _ => (pv 12)) (fun _ _ _ _ _ => (pv 11))))
      (pss_cons (ps_set (i := 7) sc_State_changed.nd rfl (Or.inr rfl) (pe_mt0 G_State_place_keys hr (by decide) (pv 0)))
      (pss_one (ps_lock (ps_setDc1 (i := 5) (own := [("name", 9), ("place", 11)]) (.inl rfl) hu rfl sc_State_changed.nd rfl rfl (swD_true rfl rfl rfl (by decide +kernel)) (pi_items (pe_fldK K rfl (pv 0) rfl)) (blkOk_by (own := [("name", 9), ("place", 11)]) (N := N_State_changed) (sc := defScope s_State_changed) (by decide +kernel)) (fun _ _ _ _ _ => by exact (pg_tupK K rfl 2 rfl (pgs_cons (pg_name (i := 9) sc_State_changed.nd rfl (Or.inl rfl)) (pgs_cons (pg_name (i := 11) sc_State_changed.nd rfl (Or.inl rfl)) pgs_nil)))) (fun _ _ _ _ _ => (pts_one (pt_cmp (pc_din hu (pe_ix (ixL K rfl) (pv 7) (pv 11) (fun _ _ => rfl)) (pv 6)) rfl))) (fun _ _ _ _ _ => (pv 9)) (fun _ _ _ _ _ => (pe_dget hu (pv 6) (pe_ix (ixL K rfl) (pv 7) (pv 11) (fun _ _ => rfl)) (fun _ _ => rfl))))))))
      pss_nil)
      (pss_cons (ps_set (i := 8) sc_State_changed.nd rfl (Or.inl rfl) (pe_mt0 G_State_told_labels hr (by decide) (pv 0)))
      (pss_cons (ps_fld (pv 3) (pe_ck G_carry_over hr (by decide) (by rfl) (pa_cons (pv 8) (pa_cons (pe_fldK K rfl (pv 3) rfl) (pa_cons (pe_mt0 G_State_weights hr (by decide) (pv 3)) pa_nil))) (pk_cons (pv 4) (pk_cons (pv 5) pk_nil))) rfl)
      (pss_cons (ps_fld (pv 3) (pe_c G_counting_pins hr (by decide) (by rfl) (pa_cons (pe_fldK K rfl (pv 3) rfl) (pa_cons (pv 4) pa_nil))) rfl)
      (pss_one (ps_ret (pv 3)))))))))), ?_⟩
  obtain ⟨s, di, ru, w', D, gs, nm, pn, kvs, ps, rfl, hS, hN, hdi, hI, hR, hok, q⟩ := h
  have lkn : D.kn.length ≤ 5 := Nat.le_trans (few' hS.nm five hN.five) (by decide)
  have lkp : D.kp.length ≤ 5 := Nat.le_trans (few' hS.pn five hN.pin5) (by decide)
  -- found = State(items, rule, {}, {})
  refine ⟨_, rfl, _, rfl, fun a1 ha1 => fun a2 ha2 => ?_⟩
  have s0 : Same H (upd (upd H a1 (.dK [])) a2 (.dK [])) := (same_new ha1).new ha2
  have na : a2 ≠ a1 := fun z => by subst z; rw [upd_same] at ha2; cases ha2
  have b1 : upd (upd H a1 (.dK [])) a2 (.dK []) a1 = some (.dK []) := by rw [upd_ne na.symm, upd_same]
  have b2 : upd (upd H a1 (.dK [])) a2 (.dK []) a2 = some (.dK []) := upd_same
  generalize upd (upd H a1 (.dK [])) a2 (.dK []) = H0 at s0 b1 b2
  intro nx ndx hnx hndx hnn
  refine st_makeX hnx hndx (nm := fun _ => none) (pn := fun _ => none) (s0 _ _ hdi) (hI.same s0) (hR.same s0) hok b1 .nil b2 .nil fun H1 Df gs1 s01 hF e1 e2 e3 e4 e5 e6 e7 e8 => ?_
  have hf0 := hnx
  clear hnx hndx hnn
  generalize nx = f at *
  have s1 := s0.trans s01
  have hf : H f = none := s0.free hf0
  have hS1 := hS.same s1
  -- pins
  refine ⟨D.dp, _, hS1.pinned, trivial, fun od2 => ?_⟩
  have g0 : upd H1 D.dp (.frz od2 (.dK D.kp)) D.dp = some (.frz od2 (.dK D.kp)) := upd_same
  have gs0 := lk (od := od2) hS1.pinned hS1.ins (fun z => nomatch z)
  have gk : Rd (upd H1 D.dp (.frz od2 (.dK D.kp))) di (.dK kvs) := rd_lock hS1.pinned (.inl (s1 _ _ hdi)) (fun _ _ z => nomatch z)
  refine ⟨_, rfl, s, CS K, D.dx, _, _, rfl, gs0, T.cS, T.n_pinned, rfl, _, _, _, rfl, g0, fun P' hP => ?_⟩
  have nPd : P' ≠ D.dp := fun z => by subst z; rw [g0] at hP; cases hP
  have hPH : H1 P' = none := by rw [upd_ne nPd] at hP; exact hP
  refine dc_it (walk_items (kvs := D.kp)) (fun k H' => ∃ (k4 : List (Key × V)) (m4 : Str → Option Int), Same (upd H1 D.dp (.frz od2 (.dK D.kp))) H' ∧ H' P' = some (.dK k4) ∧ DSI k4 m4 ∧ k4.length ≤ k ∧ (∀ o z, m4 o = some z → pn o = some z ∧ z ∈ idsK kvs) ∧ ∀ o z, Seen D.kp k (.inr o) → pn o = some z → z ∈ idsK kvs → m4 o = some z) ?_ ?_ ?_ ?_
  · exact ⟨[], fun _ => none, same_new hP, upd_same, .nil, Nat.le_refl _, fun i z h => (nomatch h), fun o z h => absurd h seen0⟩
  · rintro k H' _ ⟨_, _, s, _⟩
    exact s _ _ g0
  · rintro k x H4 H5 hk ⟨k4, m4, s4, hk4, hm4, hl, i2, i3⟩ ⟨T2, y1, y2, rfl, hT, rfl, e1, e2⟩
    obtain ⟨⟨ky, vl⟩, hkv, e3⟩ := Option.map_eq_some_iff.mp e1
    replace e2 : D.kp[k]?.map Prod.snd = some y2 := e2
    rw [hkv] at e2
    cases e2
    obtain ⟨o, z, rfl, rfl, hoz⟩ := hS.pn.ix inr_inj hkv
    subst e3
    have sT : Same (upd H1 D.dp (.frz od2 (.dK D.kp))) (upd H4 T2 (.tup [kV (.inr o), .int z])) := s4.new hT
    have hkT := (same_new (o := .tup [kV (.inr o), .int z]) hT) _ _ hk4
    have hTT : upd H4 T2 (.tup [kV (.inr o), .int z]) T2 = some (.tup [kV (.inr o), .int z]) := upd_same
    generalize upd H4 T2 (.tup [kV (.inr o), .int z]) = H6 at sT hkT hTT
    have dg := dget_rd (.inl z) (sT.rd gk)
    refine ⟨T2, _, rfl, SqT.of hTT, rfl, _, _, rfl, _, _, rfl, rfl, rfl, _, rfl, _, rfl, _, _, rfl, dg, _, rfl, ?_⟩
    by_cases hz : z ∈ idsK kvs
    · obtain ⟨t, wt, ns, hv, _⟩ := hI.get hz
      rw [hv]
      refine iteT ⟨_, rfl, _, rfl, _, dput_k (.inr o) (.int z) hkT (by omega), _, _, sT.at hP, upd_same, hm4.put inr_inj o z, by have := length_putK k4 (.inr o) (V.int z); omega, fun o' z' h => ?_, fun o' z' h h1 h2 => ?_⟩
      · by_cases e : o' = o
        · subst e; rw [KM.fup_same] at h; cases h; exact ⟨hoz, hz⟩
        · rw [KM.fup_ne e] at h; exact i2 o' z' h
      · by_cases e : o' = o
        · subst e; rw [hoz] at h1; cases h1; exact KM.fup_same
        · rw [KM.fup_ne e]
          rcases (seen_succ hkv).mp h with h | h
          · exact i3 o' z' h h1 h2
          · exact absurd (inr_inj _ _ h) e
    · rw [hI.no hz]
      refine iteF ⟨k4, m4, sT, hkT, hm4, by omega, i2, fun o' z' h h1 h2 => ?_⟩
      rcases (seen_succ hkv).mp h with h | h
      · exact i3 o' z' h h1 h2
      · have := inr_inj _ _ h
        subst this
        rw [hoz] at h1; cases h1; exact absurd h2 hz
  rintro H4 ⟨k4, m4, s4, hk4, hm4, hl4, i2, i3⟩
  refine ⟨s4 _ _ g0, ?_⟩
  have s5 : Same H1 (upd H4 D.dp (.dK D.kp)) := unlock hS1.pinned s4
  have hk5 : upd H4 D.dp (.dK D.kp) P' = some (.dK k4) := by rw [upd_ne nPd]; exact hk4
  generalize upd H4 D.dp (.dK D.kp) = H5 at s5 hk5
  have i4 : ∀ o z, pn o = some z → z ∈ idsK kvs → m4 o = some z := fun o z h h2 => i3 o z (hS.pn.seen h) h h2
  clear i3 s4 hk4
  -- homes
  intro h0 hh0
  have s6 : Same H5 (upd H5 h0 (.dK [])) := same_new hh0
  have hh6 : upd H5 h0 (.dK []) h0 = some (.dK []) := upd_same
  generalize upd H5 h0 (.dK []) = H6 at s6 hh6
  have s56 := s5.trans s6
  have hS6 := hS1.same s56
  have hF6 := hF.same s56
  refine ⟨fun σ' H' => ∃ (hh : Addr) (kh : List (Key × V)) (hm : Str → Option Int) (v6 v7 : Option V), σ' = [some (.ref s), some (.ref di), some (.ref ru), some (.ref f), some (.ref P'), some (.ref hh), v6, v7, none, none, none, none, none] ∧ Same H6 H' ∧ H' hh = some (.dK kh) ∧ DSI kh hm, ?_, ?_⟩
  · refine ⟨_, rfl, _, rfl, s, CS K, D.dx, _, _, rfl, hS6.ins, T.cS, T.n_columns, rfl, ruleD ps, ruleD D.ps, ruleD_dp ((hR.same s1).same s56), ruleD_dp hS6.rule, ruleD_shaped _, ruleD_shaped _, _, rfl, ?_⟩
    cases PyData.eqv (ruleD ps) (ruleD D.ps) with
    | false => exact iteF ⟨h0, [], fun _ => none, none, none, rfl, Same.refl _, hh6, .nil⟩
    | true =>
      refine iteT ⟨_, rfl, f, _, _, rfl, hF6.ins, rfl, f, w', Df, gs1, _, _, rfl, hF6, fun H7 pk as s7 hpk1 hpk2 hal hat => ⟨pk, _, rfl, SqL.of hpk2, fun E' hE => ?_⟩⟩
      refine dc_it (walk_enum (K := K) (a := pk) (xs := as.map V.ref)) (fun k H' => ∃ kpl : List (List Key × V), Same H7 H' ∧ H' E' = some (.dT kpl) ∧ kpl.length ≤ k ∧ ∀ ky v, valV kpl ky = some v → ∃ z, v = V.int z) ?_ ?_ ?_ ?_
      · exact ⟨[], same_new hE, upd_same, Nat.le_refl _, fun ky v h => (nomatch h)⟩
      · rintro k H' _ ⟨_, s8, _⟩
        exact SqL.of (s8 _ _ hpk2)
      · rintro k x H8 H9 hk ⟨kpl, s8, hE8, hl, i5⟩ ⟨T2, y1, y2, rfl, hT, rfl, e1, e2⟩
        cases e1
        replace e2 : (as.map V.ref)[k]? = some y2 := e2
        rw [List.getElem?_map] at e2
        obtain ⟨ka, hka, rfl⟩ := Option.map_eq_some_iff.mp e2
        obtain ⟨ks, hks⟩ := hat ka (List.mem_of_getElem? hka)
        have hk20 : k < 20 := by have := (List.getElem?_eq_some_iff.mp hka).1; have := hF6.gok.len; omega
        have sT : Same H7 (upd H8 T2 (.tup [.int k, .ref ka])) := s8.new hT
        have hET := (same_new (o := .tup [.int k, .ref ka]) hT) _ _ hE8
        have hTT : upd H8 T2 (.tup [.int k, .ref ka]) T2 = some (.tup [.int k, .ref ka]) := upd_same
        generalize upd H8 T2 (.tup [.int k, .ref ka]) = Hc at sT hET hTT
        refine ⟨T2, _, rfl, SqT.of hTT, rfl, _, _, rfl, _, _, rfl, rfl, rfl, yes (iteT ⟨_, rfl, _, rfl, _, dput_t (ks.map Sum.inl) (.int k) hET (by rw [List.map_map]; exact sT _ _ hks) (by omega), _, sT.at hE, upd_same, by have := length_putK kpl (ks.map Sum.inl) (V.int k); omega, fun ky v h => ?_⟩)⟩
        rw [valV_put] at h
        by_cases e : ky = ks.map Sum.inl
        · rw [if_pos e] at h; cases h; exact ⟨_, rfl⟩
        · rw [if_neg e] at h; exact i5 ky v h
      rintro H8 ⟨kpl, s8, hE8, hl, i5⟩
      have s68 := s7.trans s8
      have hS8 := hS6.same s68
      refine ⟨_, rfl, s, _, _, rfl, hS8.ins, rfl, s, w', D, gs, nm, pn, rfl, hS8, fun H9 pk2 as2 s9 hq1 hq2 hal2 hat2 => ?_⟩
      have hS9 := hS8.same s9
      refine ⟨D.dn, _, hS9.named, trivial, fun od3 => ?_⟩
      have c0 : upd H9 D.dn (.frz od3 (.dK D.kn)) D.dn = some (.frz od3 (.dK D.kn)) := upd_same
      have cs := lk (od := od3) hS9.named hS9.ins (fun z => nomatch z)
      have ck := lk (od := od3) hS9.named hq2 (fun z => nomatch z)
      have cE : Rd (upd H9 D.dn (.frz od3 (.dK D.kn))) E' (.dT kpl) := rd_lock hS9.named (.inl (s9 _ _ hE8)) (fun _ _ z => nomatch z)
      have ct : ∀ a ∈ as2, ∃ ks : List Int, upd H9 D.dn (.frz od3 (.dK D.kn)) a = some (.tup (ks.map V.int)) := fun a ha => let ⟨ks, h⟩ := hat2 a ha; ⟨ks, lk hS9.named h (fun z => nomatch z)⟩
      refine ⟨_, rfl, s, CS K, D.dx, _, _, rfl, cs, T.cS, T.n_named, rfl, _, _, _, rfl, c0, fun M hM => ?_⟩
      have nMd : M ≠ D.dn := fun z => by subst z; rw [c0] at hM; cases hM
      have hMH : H9 M = none := by rw [upd_ne nMd] at hM; exact hM
      refine dc_it (walk_items (kvs := D.kn)) (fun k H' => ∃ (k7 : List (Key × V)) (m7 : Str → Option Int), Same (upd H9 D.dn (.frz od3 (.dK D.kn))) H' ∧ H' M = some (.dK k7) ∧ DSI k7 m7 ∧ k7.length ≤ k) ?_ ?_ ?_ ?_
      · exact ⟨[], fun _ => none, same_new hM, upd_same, .nil, Nat.le_refl _⟩
      · rintro k H' _ ⟨_, _, s, _⟩
        exact s _ _ c0
      · rintro k x Ha Hb hk ⟨k7, m7, sa, hk7, hm7, hl7⟩ ⟨T2, y1, y2, rfl, hT, rfl, e1, e2⟩
        obtain ⟨⟨ky, vl⟩, hkv, e3⟩ := Option.map_eq_some_iff.mp e1
        replace e2 : D.kn[k]?.map Prod.snd = some y2 := e2
        rw [hkv] at e2
        cases e2
        obtain ⟨o, z, rfl, rfl, hoz⟩ := hS.nm.ix inr_inj hkv
        subst e3
        obtain ⟨j, rfl, hj⟩ := hN.rng o z hoz
        have hj2 : j < as2.length := by omega
        obtain ⟨ks, hks⟩ := ct as2[j] (List.getElem_mem hj2)
        have sT : Same (upd H9 D.dn (.frz od3 (.dK D.kn))) (upd Ha T2 (.tup [kV (.inr o), .int j])) := sa.new hT
        have hkT := (same_new (o := .tup [kV (.inr o), .int j]) hT) _ _ hk7
        have hTT : upd Ha T2 (.tup [kV (.inr o), .int j]) T2 = some (.tup [kV (.inr o), .int j]) := upd_same
        generalize upd Ha T2 (.tup [kV (.inr o), .int j]) = Hc at sT hkT hTT
        have at2 : atI (as2.map V.ref) (j : Int) = some (V.ref as2[j]) := atI_nat (by rw [List.getElem?_map, List.getElem?_eq_getElem hj2]; rfl)
        have dg := dget_rdT (ks.map Sum.inl) (sT.rd cE) (b := as2[j]) (by rw [List.map_map]; exact sT _ _ hks)
        refine ⟨T2, _, rfl, SqT.of hTT, rfl, _, _, rfl, _, _, rfl, rfl, rfl, _, rfl, _, rfl, _, _, _, _, rfl, rfl, SqL.of (sT _ _ ck), at2, _, rfl, _, _, rfl, dg, _, rfl, ?_⟩
        cases hvv : valV kpl (ks.map Sum.inl) with
        | none => exact iteF ⟨k7, m7, sT, hkT, hm7, by omega⟩
        | some v =>
          obtain ⟨z2, rfl⟩ := i5 _ _ hvv
          rw [hvv] at dg
          exact iteT ⟨_, rfl, _, rfl, _, rfl, _, rfl, _, _, _, _, rfl, rfl, SqL.of (sT _ _ ck), at2, _, _, rfl, dg, _, dput_k (.inr o) (.int z2) hkT (by omega), _, _, sT.at hM, upd_same, hm7.put inr_inj o z2, by have := length_putK k7 (.inr o) (V.int z2); omega⟩
      · rintro Ha ⟨k7, m7, sa, hk7, hm7, hl7⟩
        refine ⟨sa _ _ c0, M, k7, m7, _, _, rfl, (s68.trans s9).trans (unlock hS9.named sa), by rw [upd_ne nMd]; exact hk7, hm7⟩
  · rintro σ' H7 ⟨hh, kh, hm, v6, v7, rfl, s7, hhh, hhm⟩
    have hS7 := hS6.same s7
    have hF7 := hF6.same s7
    have s07 : Same H H7 := (s1.trans s56).trans s7
    -- labels = self.told_labels()
    refine ⟨_, rfl, s, _, _, rfl, hS7.ins, rfl, s, w', D, gs, nm, pn, rfl, hS7, hN, fun H8 lb kl lm s8 hlb hkl hlm hll => ?_⟩
    have hF8 := hF7.same s8
    -- found.named = carry_over(..)
    refine ⟨_, rfl, _, rfl, f, CS K, Df.dx, _, _, rfl, hF8.ins, T.cS, T.n_parts, rfl, _, rfl, f, _, _, rfl, hF8.ins, rfl, f, w', Df, gs1, _, _, rfl, hF8, fun H9 wd kw wm s9 hwd hkw hwm hww => ?_⟩
    have hF9 := hF8.same s9
    have s79 := s8.trans s9
    have hP9 : H9 P' = some (.dK k4) := s79 _ _ (s7 _ _ (s6 _ _ hk5))
    refine ⟨_, rfl, _, rfl, rfl, rfl, lb, Df.gl, wd, P', hh, Df.ts, gs1, kl, kw, k4, kh, lm, wm, m4, hm, rfl, s9 _ _ hkl, hlm, fun i n h => let ⟨z, hz⟩ := hll i n h; hN.five n z hz, hF9.parts, hF9.grp, hF9.gok, hkw, hwm, hww, hP9, hm4, by omega, s79 _ _ hhh, hhm, ?_⟩
    intro Ha nd kn nm' fc sa hnd hkn hnm' hCP c1 c2 c3 c4
    have hFa := hF9.same sa
    have sHa : Same H Ha := (s07.trans s79).trans sa
    refine ⟨_, rfl, f, CS K, Df.dx, _, rfl, hFa.ins, T.cS, T.n_named, (show (5 : Nat) < 1000 by decide), ?_⟩
    have hFb := hFa.put (nm' := nm') (pn' := fun _ => none) hkn hnm' hFa.pinned (by exact hFa.pn)
    have sHb : Same H (upd Ha f (.ins (CS K) Df.dx (sF Df.di Df.ru Df.gl nd Df.dp))) := sHa.at hf
    have hPb : upd Ha f (.ins (CS K) Df.dx (sF Df.di Df.ru Df.gl nd Df.dp)) P' = some (.dK k4) := by
      rw [upd_ne (ne_of (sa _ _ hP9) hFa.ins (fun z => nomatch z))]; exact sa _ _ hP9
    show _
    refine ⟨_, rfl, f, CS K, Df.dx, _, _, rfl, hFb.ins, T.cS, T.n_parts, rfl, _, rfl, Df.gl, P', Df.ts, gs1, k4, m4, rfl, hFb.parts, hFb.grp, hFb.gok, hPb, hm4, by omega, fun Hc pd kf fp sc hpd hkf hfp hfl hCP2 => ?_⟩
    have hFc := hFb.same sc
    refine ⟨_, rfl, f, CS K, Df.dx, _, rfl, hFc.ins, T.cS, T.n_pinned, (show (5 : Nat) < 1000 by decide), ?_⟩
    have hFd := hFc.put (nm' := nm') (pn' := fp) hFc.named hFc.nm hkf hfp
    have hu2 := hCP.uniq hCP2
    refine ⟨_, rfl, ?_⟩
    have named' : ∀ n z, nm' n = some z → ∃ z', nm n = some z' := fun n z h => by
      rcases c4 n z h with ⟨i, hi⟩ | ⟨i, hi⟩
      · obtain ⟨j, h1, _⟩ := hN.pin n i (i2 n i (hCP.sub n i hi).1).1
        exact ⟨_, h1⟩
      · exact hll i n hi
    refine q _ f _ gs1 nm' fp ((sHb.trans sc).at hf) hf hFd ⟨fun n z h => let ⟨z', h'⟩ := named' n z h; hN.five n z' h', c2, c3, fun n i h => c1 n i (by rw [hu2]; exact h)⟩ e5 ⟨named', fun n i h => (i2 n i (hCP2.sub n i h).1).1, fun n i h h2 h3 => ?_⟩
    have hm := i4 n i h h3
    rw [← e5] at h3
    obtain ⟨j, hj⟩ := hF.ing.mp h3
    obtain ⟨n', i', h4, h5, h6⟩ := hCP2.lost n i j hm hj h2
    exact ⟨n', i', j, h4, h5, hj, h6⟩
end KN

set_option Elab.async false
set_option linter.all false
set_option maxRecDepth 100000
set_option maxHeartbeats 4000000
/-! the book -/
namespace KN
open PySem PySem.Spec PyProof.Rows L2 ClX StX
open C8 (Cal Met Mak CalAt pe_c pe_mk pe_mt pe_mt0 pss_cut tCut pe_gc)
/-- what a state is made of -/
def StO : HO → Prop
  | .ins _ _ fs => fs.length = 5
  | .lst xs => ∃ as : List Addr, xs = as.map V.ref
  | .tup _ => True
  | .dK _ => True
  | _ => False
theorem StAt.move {K : PySem.W.Frag} {w : Int} {H H' : Hp} {s : Addr} {D : StD} {gs : List (List Int)} {nm pn : Str → Option Int} (h : StAt K w H s D gs nm pn) (t : ∀ a o, H a = some o → StO o → H' a = some o) : StAt K w H' s D gs nm pn := by
  refine ⟨t _ _ h.ins rfl, t _ _ h.store trivial, ⟨h.items.nd, fun p hp => ?_, h.items.len⟩, ?_, h.rok, t _ _ h.parts ⟨_, rfl⟩, ⟨h.grp.len, fun i x e => ?_⟩, h.pm, h.ne, ?_, t _ _ h.named trivial, h.nm, t _ _ h.pinned trivial, h.pn⟩
  · obtain ⟨i, t1, wt, ns, e, h1, h2, hit⟩ := h.items.el p hp
    obtain ⟨f, h3, h4⟩ := hit.f
    exact ⟨i, t1, wt, ns, e, h1, h2, ⟨⟨f, t _ _ h3 trivial, t _ _ h4 trivial⟩, hit.len, hit.wt1, hit.wt2, hit.bd⟩⟩
  · obtain ⟨ts, r1, r2, r3⟩ := h.rule
    exact ⟨ts, t _ _ r1 trivial, r2, fun i x e => let ⟨p, e1, e2⟩ := r3 i x e; ⟨p, e1, t _ _ e2 trivial⟩⟩
  · obtain ⟨g, e1, e2⟩ := h.grp.at_ i x e
    exact ⟨g, e1, t _ _ e2 trivial⟩
  · obtain ⟨ys, h1, h2, h3⟩ := h.rel
    refine ⟨ys, h1, h2, h3.trans ?_⟩
    unfold gsY
    have ek : ∀ i ∈ ys, keyK D.ps (fldOf H D.kvs) i = keyK D.ps (fldOf H' D.kvs) i := fun i hi => by
      obtain ⟨t1, wt, ns, hv, _, _, hit⟩ := h.items.get (h1.mem_iff.mp hi)
      obtain ⟨f, h3, h4⟩ := hit.f
      unfold keyK
      rw [fldOf_eq hv hit, fldOf_eq (w := w) (wt := wt) (ns := ns) hv ⟨⟨f, t _ _ h3 trivial, t _ _ h4 trivial⟩, hit.len, hit.wt1, hit.wt2, hit.bd⟩]
    rw [List.map_congr_left ek]
    refine List.map_congr_left fun k _ => List.filter_congr fun i hi => ?_
    rw [ek i hi]
def bF (w : Int) (sl : Addr) (k : Int) : List (Str × V) := [("size", .int w), ("states", .ref sl), ("spot", .int k), ("depth", .int 0)]
def But (b : Addr) (H H' : Hp) : Prop := ∀ a o, a ≠ b → H a = some o → H' a = some o
theorem _root_.L2.Same.but {b : Addr} {H H' : Hp} (s : Same H H') : But b H H' := fun a o _ e => s a o e
theorem But.trans {b : Addr} {H H1 H2 : Hp} (s : But b H H1) (s2 : But b H1 H2) : But b H H2 := fun a o n e => s2 a o n (s a o n e)
/-- a book whose k-th state is at s -/
structure BkAt (K : PySem.W.Frag) (w : Int) (H : Hp) (b : Addr) (k : Nat) (s : Addr) (D : StD) (gs : List (List Int)) (nm pn : Str → Option Int) : Prop where
  ex : ∃ (dx sl : Addr) (ss : List Addr), H b = some (.ins (CB K) dx (bF w sl k)) ∧ H sl = some (.lst (ss.map V.ref)) ∧ ss[k]? = some s ∧ ss.length ≤ k + 1
  st : StAt K w H s D gs nm pn
  ok : NOk gs nm pn
  w1 : 1 ≤ w
  w4 : w ≤ 4
section
variable {K : PySem.W.Frag} {w : Int} {H H' : Hp} {b : Addr} {k : Nat} {s : Addr} {D : StD} {gs : List (List Int)} {nm pn : Str → Option Int}
theorem BkAt.same (h : BkAt K w H b k s D gs nm pn) (e : Same H H') : BkAt K w H' b k s D gs nm pn :=
  ⟨let ⟨dx, sl, ss, h1, h2, h3, h4⟩ := h.ex; ⟨dx, sl, ss, e _ _ h1, e _ _ h2, h3, h4⟩, h.st.same e, h.ok, h.w1, h.w4⟩
theorem st_but {dx sl : Addr} (hb : H b = some (.ins (CB K) dx (bF w sl k))) {w2 : Int} {s2 : Addr} {D2 : StD} {gs2 : List (List Int)} {nm2 pn2 : Str → Option Int} (h : StAt K w2 H s2 D2 gs2 nm2 pn2) (e : But b H H') : StAt K w2 H' s2 D2 gs2 nm2 pn2 :=
  h.move fun a o ho hso => e a o (fun z => by subst z; rw [hb] at ho; cases ho; exact absurd (show (4 : Nat) = 5 from hso) (by decide)) ho
/-- another book stands as it was -/
theorem BkAt.but {b2 : Addr} {w2 : Int} {k2 : Nat} {s2 : Addr} {D2 : StD} {gs2 : List (List Int)} {nm2 pn2 : Str → Option Int} (h : BkAt K w H b k s D gs nm pn) (h2 : BkAt K w2 H b2 k2 s2 D2 gs2 nm2 pn2) (ne : b2 ≠ b) (e : But b H H') : BkAt K w2 H' b2 k2 s2 D2 gs2 nm2 pn2 := by
  obtain ⟨dx, sl, ss, h1, _⟩ := h.ex
  obtain ⟨dx2, sl2, ss2, g1, g2, g3, g4⟩ := h2.ex
  exact ⟨⟨dx2, sl2, ss2, e _ _ ne g1, e _ _ (ne_of g2 h1 (fun z => nomatch z)) g2, g3, g4⟩, st_but h1 h2.st e, h2.ok, h2.w1, h2.w4⟩
end
/-! ### looks -/
def spWidth (K : PySem.W.Frag) : Sp := fun vs H Q _ => ∃ (b : Addr) (w : Int) (k : Nat) (s : Addr) (D : StD) (gs : List (List Int)) (nm pn : Str → Option Int), vs = [.ref b] ∧ BkAt K w H b k s D gs nm pn ∧ Q (.int w) H
theorem ok_NameBook_width {P : Program} {w : World} {K : PySem.W.Frag} {mg : Str → Option Value} {base : Heap} (T : Tx K mg) : PR P w K mg base 1 (CB K) "width" (spWidth K) := by
  obtain ⟨fd, F⟩ := T.d_NameBook_width
  have bd : Binds K fd ["self"] [] := F.binds fun _ _ _ _ _ _ us hl => match us, hl with | [_], _ => rfl
  refine ⟨_, _, fd, _, T.cB, T.p_width, (F.ok sc_NameBook_width (fun vs H Q E h => ?len) (fun cdv A outer s H vs Q E hr h => ?body)), bd⟩
  case len => exact (by first | (obtain ⟨rfl, _⟩ := h; rfl) | (obtain ⟨_, rfl, _⟩ := h; rfl) | (obtain ⟨_, _, rfl, _⟩ := h; rfl) | (obtain ⟨_, _, _, rfl, _⟩ := h; rfl) | (obtain ⟨_, _, _, _, rfl, _⟩ := h; rfl) | (obtain ⟨_, _, _, _, _, rfl, _⟩ := h; rfl) | (obtain ⟨_, _, _, _, _, _, rfl, _⟩ := h; rfl) | (obtain ⟨_, _, _, _, _, _, _, rfl, _⟩ := h; rfl) | (obtain ⟨_, _, _, _, _, _, _, _, rfl, _⟩ := h; rfl) | (obtain ⟨_, _, _, _, _, _, _, _, _, rfl, _⟩ := h; rfl) | (obtain ⟨_, _, _, _, _, _, _, _, _, _, rfl, _⟩ := h; rfl) | (obtain ⟨_, _, _, _, _, _, _, _, _, _, _, rfl, _⟩ := h; rfl) | (obtain ⟨_, _, _, _, _, _, _, _, _, _, _, _, rfl, _⟩ := h; rfl) | (obtain ⟨_, _, _, _, _, _, _, _, _, _, _, _, _, rfl, _⟩ := h; rfl) | (obtain ⟨_, _, _, _, _, _, _, _, _, _, _, _, _, _, rfl, _⟩ := h; rfl) | (obtain ⟨_, _, _, _, _, _, _, _, _, _, _, _, _, _, _, rfl, _⟩ := h; rfl))
  case body =>
  have hu := hu_of hr
  refine ⟨_, (pss_one (ps_ret (pe_fldK K rfl (pv 0) rfl))), ?_⟩
  obtain ⟨b, w', k, s, D, gs, nm, pn, rfl, hB, q⟩ := h
  obtain ⟨dx, sl, ss, h1, h2, h3, h4⟩ := hB.ex
  exact ⟨_, rfl, b, CB K, dx, _, _, rfl, h1, T.cB, T.n_size, rfl, q⟩
def spRuleP (K : PySem.W.Frag) : Sp := fun vs H Q _ => ∃ (b : Addr) (w : Int) (k : Nat) (s : Addr) (D : StD) (gs : List (List Int)) (nm pn : Str → Option Int), vs = [.ref b] ∧ BkAt K w H b k s D gs nm pn ∧ Q (.ref D.ru) H
theorem ok_NameBook_rule {P : Program} {w : World} {K : PySem.W.Frag} {mg : Str → Option Value} {base : Heap} (T : Tx K mg) : PR P w K mg base 1 (CB K) "rule" (spRuleP K) := by
  obtain ⟨fd, F⟩ := T.d_NameBook_rule
  have bd : Binds K fd ["self"] [] := F.binds fun _ _ _ _ _ _ us hl => match us, hl with | [_], _ => rfl
  refine ⟨_, _, fd, _, T.cB, T.p_rule, (F.ok sc_NameBook_rule (fun vs H Q E h => ?len) (fun cdv A outer s H vs Q E hr h => ?body)), bd⟩
  case len => exact (by first | (obtain ⟨rfl, _⟩ := h; rfl) | (obtain ⟨_, rfl, _⟩ := h; rfl) | (obtain ⟨_, _, rfl, _⟩ := h; rfl) | (obtain ⟨_, _, _, rfl, _⟩ := h; rfl) | (obtain ⟨_, _, _, _, rfl, _⟩ := h; rfl) | (obtain ⟨_, _, _, _, _, rfl, _⟩ := h; rfl) | (obtain ⟨_, _, _, _, _, _, rfl, _⟩ := h; rfl) | (obtain ⟨_, _, _, _, _, _, _, rfl, _⟩ := h; rfl) | (obtain ⟨_, _, _, _, _, _, _, _, rfl, _⟩ := h; rfl) | (obtain ⟨_, _, _, _, _, _, _, _, _, rfl, _⟩ := h; rfl) | (obtain ⟨_, _, _, _, _, _, _, _, _, _, rfl, _⟩ := h; rfl) | (obtain ⟨_, _, _, _, _, _, _, _, _, _, _, rfl, _⟩ := h; rfl) | (obtain ⟨_, _, _, _, _, _, _, _, _, _, _, _, rfl, _⟩ := h; rfl) | (obtain ⟨_, _, _, _, _, _, _, _, _, _, _, _, _, rfl, _⟩ := h; rfl) | (obtain ⟨_, _, _, _, _, _, _, _, _, _, _, _, _, _, rfl, _⟩ := h; rfl) | (obtain ⟨_, _, _, _, _, _, _, _, _, _, _, _, _, _, _, rfl, _⟩ := h; rfl))
  case body =>
  have hu := hu_of hr
  refine ⟨_, (pss_one (ps_ret (pe_fldK K rfl (pe_ix (ixL K rfl) (pe_fldK K rfl (pv 0) rfl) (pe_fldK K rfl (pv 0) rfl) (fun _ _ => rfl)) rfl))), ?_⟩
  obtain ⟨b, w', k, s, D, gs, nm, pn, rfl, hB, q⟩ := h
  obtain ⟨dx, sl, ss, h1, h2, h3, h4⟩ := hB.ex
  exact ⟨_, rfl, b, CB K, dx, _, _, rfl, h1, T.cB, T.n_states, rfl, _, rfl, b, CB K, dx, _, _, rfl, h1, T.cB, T.n_spot, rfl, _, _, _, _, rfl, rfl, SqL.of h2, atI_nat (j := k) (v := .ref s) (by rw [List.getElem?_map, h3]; rfl), s, CS K, D.dx, _, _, rfl, hB.st.ins, T.cS, T.n_columns, rfl, q⟩
def spNow (K : PySem.W.Frag) : Sp := fun vs H Q _ => ∃ (b : Addr) (w : Int) (k : Nat) (s : Addr) (D : StD) (gs : List (List Int)) (nm pn : Str → Option Int), vs = [.ref b] ∧ BkAt K w H b k s D gs nm pn ∧ Q (.ref s) H
theorem ok_NameBook_now {P : Program} {w : World} {K : PySem.W.Frag} {mg : Str → Option Value} {base : Heap} (T : Tx K mg) : Met P w K mg base 1 (CB K) "now" (spNow K) [] := by
  obtain ⟨fd, F⟩ := T.d_NameBook_now
  have bd : Binds K fd ["self"] [] := F.binds fun _ _ _ _ _ _ us hl => match us, hl with | [_], _ => rfl
  refine met_of (F.ok sc_NameBook_now (fun vs H Q E h => ?len) (fun cdv A outer s H vs Q E hr h => ?body)) bd T.cB T.m_NameBook_now
  case len => exact (by first | (obtain ⟨rfl, _⟩ := h; rfl) | (obtain ⟨_, rfl, _⟩ := h; rfl) | (obtain ⟨_, _, rfl, _⟩ := h; rfl) | (obtain ⟨_, _, _, rfl, _⟩ := h; rfl) | (obtain ⟨_, _, _, _, rfl, _⟩ := h; rfl) | (obtain ⟨_, _, _, _, _, rfl, _⟩ := h; rfl) | (obtain ⟨_, _, _, _, _, _, rfl, _⟩ := h; rfl) | (obtain ⟨_, _, _, _, _, _, _, rfl, _⟩ := h; rfl) | (obtain ⟨_, _, _, _, _, _, _, _, rfl, _⟩ := h; rfl) | (obtain ⟨_, _, _, _, _, _, _, _, _, rfl, _⟩ := h; rfl) | (obtain ⟨_, _, _, _, _, _, _, _, _, _, rfl, _⟩ := h; rfl) | (obtain ⟨_, _, _, _, _, _, _, _, _, _, _, rfl, _⟩ := h; rfl) | (obtain ⟨_, _, _, _, _, _, _, _, _, _, _, _, rfl, _⟩ := h; rfl) | (obtain ⟨_, _, _, _, _, _, _, _, _, _, _, _, _, rfl, _⟩ := h; rfl) | (obtain ⟨_, _, _, _, _, _, _, _, _, _, _, _, _, _, rfl, _⟩ := h; rfl) | (obtain ⟨_, _, _, _, _, _, _, _, _, _, _, _, _, _, _, rfl, _⟩ := h; rfl))
  case body =>
  have hu := hu_of hr
  refine ⟨_, (pss_one (ps_ret (pe_ix (ixL K rfl) (pe_fldK K rfl (pv 0) rfl) (pe_fldK K rfl (pv 0) rfl) (fun _ _ => rfl)))), ?_⟩
  obtain ⟨b, w', k, s, D, gs, nm, pn, rfl, hB, q⟩ := h
  obtain ⟨dx, sl, ss, h1, h2, h3, h4⟩ := hB.ex
  exact ⟨_, rfl, b, CB K, dx, _, _, rfl, h1, T.cB, T.n_states, rfl, _, rfl, b, CB K, dx, _, _, rfl, h1, T.cB, T.n_spot, rfl, _, _, _, _, rfl, rfl, SqL.of h2, atI_nat (j := k) (v := .ref s) (by rw [List.getElem?_map, h3]; rfl), q⟩
/-- a copy of a dict of the current state -/
def spCopy (K : PySem.W.Frag) (f : StD → List (Key × V)) : Sp := fun vs H Q _ => ∃ (b : Addr) (w : Int) (k : Nat) (s : Addr) (D : StD) (gs : List (List Int)) (nm pn : Str → Option Int), vs = [.ref b] ∧ BkAt K w H b k s D gs nm pn ∧ ∀ (H' : Hp) (p : Addr), Same H H' → H p = none → H' p = some (.dK (f D)) → Q (.ref p) H'
theorem ok_NameBook_all_items {P : Program} {w : World} {K : PySem.W.Frag} {mg : Str → Option Value} {base : Heap} (T : Tx K mg) : Met P w K mg base 2 (CB K) "all_items" (spCopy K StD.kvs) [] := by
  obtain ⟨fd, F⟩ := T.d_NameBook_all_items
  have G_NameBook_now := ok_NameBook_now (P := P) (w := w) (base := base) T
  have bd : Binds K fd ["self"] [] := F.binds fun _ _ _ _ _ _ us hl => match us, hl with | [_], _ => rfl
  refine met_of (F.ok sc_NameBook_all_items (fun vs H Q E h => ?len) (fun cdv A outer s H vs Q E hr h => ?body)) bd T.cB T.m_NameBook_all_items
  case len => exact (by first | (obtain ⟨rfl, _⟩ := h; rfl) | (obtain ⟨_, rfl, _⟩ := h; rfl) | (obtain ⟨_, _, rfl, _⟩ := h; rfl) | (obtain ⟨_, _, _, rfl, _⟩ := h; rfl) | (obtain ⟨_, _, _, _, rfl, _⟩ := h; rfl) | (obtain ⟨_, _, _, _, _, rfl, _⟩ := h; rfl) | (obtain ⟨_, _, _, _, _, _, rfl, _⟩ := h; rfl) | (obtain ⟨_, _, _, _, _, _, _, rfl, _⟩ := h; rfl) | (obtain ⟨_, _, _, _, _, _, _, _, rfl, _⟩ := h; rfl) | (obtain ⟨_, _, _, _, _, _, _, _, _, rfl, _⟩ := h; rfl) | (obtain ⟨_, _, _, _, _, _, _, _, _, _, rfl, _⟩ := h; rfl) | (obtain ⟨_, _, _, _, _, _, _, _, _, _, _, rfl, _⟩ := h; rfl) | (obtain ⟨_, _, _, _, _, _, _, _, _, _, _, _, rfl, _⟩ := h; rfl) | (obtain ⟨_, _, _, _, _, _, _, _, _, _, _, _, _, rfl, _⟩ := h; rfl) | (obtain ⟨_, _, _, _, _, _, _, _, _, _, _, _, _, _, rfl, _⟩ := h; rfl) | (obtain ⟨_, _, _, _, _, _, _, _, _, _, _, _, _, _, _, rfl, _⟩ := h; rfl))
  case body =>
  have hu := hu_of hr
  refine ⟨_, (pss_one (ps_ret (pe_callTy call_dictD (by rfl) T.z_dict (by decide +kernel) (pa_cons (pe_fldK K rfl (pe_mt0 G_NameBook_now hr (by decide) (pv 0)) rfl) pa_nil)))), ?_⟩
  obtain ⟨b, w', k, s, D, gs, nm, pn, rfl, hB, q⟩ := h
  obtain ⟨dx, sl, ss, h1, h2, h3, h4⟩ := hB.ex
  exact ⟨_, rfl, b, _, _, rfl, h1, rfl, b, w', k, s, D, gs, nm, pn, rfl, hB, s, CS K, D.dx, _, _, rfl, hB.st.ins, T.cS, T.n_store, rfl, _, _, rfl, .inl hB.st.store, fun p hp => q _ p (same_new hp) hp upd_same⟩
theorem ok_NameBook_names {P : Program} {w : World} {K : PySem.W.Frag} {mg : Str → Option Value} {base : Heap} (T : Tx K mg) : Met P w K mg base 2 (CB K) "names" (spCopy K StD.kn) [] := by
  obtain ⟨fd, F⟩ := T.d_NameBook_names
  have G_NameBook_now := ok_NameBook_now (P := P) (w := w) (base := base) T
  have bd : Binds K fd ["self"] [] := F.binds fun _ _ _ _ _ _ us hl => match us, hl with | [_], _ => rfl
  refine met_of (F.ok sc_NameBook_names (fun vs H Q E h => ?len) (fun cdv A outer s H vs Q E hr h => ?body)) bd T.cB T.m_NameBook_names
  case len => exact (by first | (obtain ⟨rfl, _⟩ := h; rfl) | (obtain ⟨_, rfl, _⟩ := h; rfl) | (obtain ⟨_, _, rfl, _⟩ := h; rfl) | (obtain ⟨_, _, _, rfl, _⟩ := h; rfl) | (obtain ⟨_, _, _, _, rfl, _⟩ := h; rfl) | (obtain ⟨_, _, _, _, _, rfl, _⟩ := h; rfl) | (obtain ⟨_, _, _, _, _, _, rfl, _⟩ := h; rfl) | (obtain ⟨_, _, _, _, _, _, _, rfl, _⟩ := h; rfl) | (obtain ⟨_, _, _, _, _, _, _, _, rfl, _⟩ := h; rfl) | (obtain ⟨_, _, _, _, _, _, _, _, _, rfl, _⟩ := h; rfl) | (obtain ⟨_, _, _, _, _, _, _, _, _, _, rfl, _⟩ := h; rfl) | (obtain ⟨_, _, _, _, _, _, _, _, _, _, _, rfl, _⟩ := h; rfl) | (obtain ⟨_, _, _, _, _, _, _, _, _, _, _, _, rfl, _⟩ := h; rfl) | (obtain ⟨_, _, _, _, _, _, _, _, _, _, _, _, _, rfl, _⟩ := h; rfl) | (obtain ⟨_, _, _, _, _, _, _, _, _, _, _, _, _, _, rfl, _⟩ := h; rfl) | (obtain ⟨_, _, _, _, _, _, _, _, _, _, _, _, _, _, _, rfl, _⟩ := h; rfl))
  case body =>
  have hu := hu_of hr
  refine ⟨_, (pss_one (ps_ret (pe_callTy call_dictD (by rfl) T.z_dict (by decide +kernel) (pa_cons (pe_fldK K rfl (pe_mt0 G_NameBook_now hr (by decide) (pv 0)) rfl) pa_nil)))), ?_⟩
  obtain ⟨b, w', k, s, D, gs, nm, pn, rfl, hB, q⟩ := h
  obtain ⟨dx, sl, ss, h1, h2, h3, h4⟩ := hB.ex
  exact ⟨_, rfl, b, _, _, rfl, h1, rfl, b, w', k, s, D, gs, nm, pn, rfl, hB, s, CS K, D.dx, _, _, rfl, hB.st.ins, T.cS, T.n_named, rfl, _, _, rfl, .inl hB.st.named, fun p hp => q _ p (same_new hp) hp upd_same⟩
theorem ok_NameBook_pins {P : Program} {w : World} {K : PySem.W.Frag} {mg : Str → Option Value} {base : Heap} (T : Tx K mg) : Met P w K mg base 2 (CB K) "pins" (spCopy K StD.kp) [] := by
  obtain ⟨fd, F⟩ := T.d_NameBook_pins
  have G_NameBook_now := ok_NameBook_now (P := P) (w := w) (base := base) T
  have bd : Binds K fd ["self"] [] := F.binds fun _ _ _ _ _ _ us hl => match us, hl with | [_], _ => rfl
  refine met_of (F.ok sc_NameBook_pins (fun vs H Q E h => ?len) (fun cdv A outer s H vs Q E hr h => ?body)) bd T.cB T.m_NameBook_pins
  case len => exact (by first | (obtain ⟨rfl, _⟩ := h; rfl) | (obtain ⟨_, rfl, _⟩ := h; rfl) | (obtain ⟨_, _, rfl, _⟩ := h; rfl) | (obtain ⟨_, _, _, rfl, _⟩ := h; rfl) | (obtain ⟨_, _, _, _, rfl, _⟩ := h; rfl) | (obtain ⟨_, _, _, _, _, rfl, _⟩ := h; rfl) | (obtain ⟨_, _, _, _, _, _, rfl, _⟩ := h; rfl) | (obtain ⟨_, _, _, _, _, _, _, rfl, _⟩ := h; rfl) | (obtain ⟨_, _, _, _, _, _, _, _, rfl, _⟩ := h; rfl) | (obtain ⟨_, _, _, _, _, _, _, _, _, rfl, _⟩ := h; rfl) | (obtain ⟨_, _, _, _, _, _, _, _, _, _, rfl, _⟩ := h; rfl) | (obtain ⟨_, _, _, _, _, _, _, _, _, _, _, rfl, _⟩ := h; rfl) | (obtain ⟨_, _, _, _, _, _, _, _, _, _, _, _, rfl, _⟩ := h; rfl) | (obtain ⟨_, _, _, _, _, _, _, _, _, _, _, _, _, rfl, _⟩ := h; rfl) | (obtain ⟨_, _, _, _, _, _, _, _, _, _, _, _, _, _, rfl, _⟩ := h; rfl) | (obtain ⟨_, _, _, _, _, _, _, _, _, _, _, _, _, _, _, rfl, _⟩ := h; rfl))
  case body =>
  have hu := hu_of hr
  refine ⟨_, (pss_one (ps_ret (pe_callTy call_dictD (by rfl) T.z_dict (by decide +kernel) (pa_cons (pe_fldK K rfl (pe_mt0 G_NameBook_now hr (by decide) (pv 0)) rfl) pa_nil)))), ?_⟩
  obtain ⟨b, w', k, s, D, gs, nm, pn, rfl, hB, q⟩ := h
  obtain ⟨dx, sl, ss, h1, h2, h3, h4⟩ := hB.ex
  exact ⟨_, rfl, b, _, _, rfl, h1, rfl, b, w', k, s, D, gs, nm, pn, rfl, hB, s, CS K, D.dx, _, _, rfl, hB.st.ins, T.cS, T.n_pinned, rfl, _, _, rfl, .inl hB.st.pinned, fun p hp => q _ p (same_new hp) hp upd_same⟩
def spGrpL (K : PySem.W.Frag) : Sp := fun vs H Q _ => ∃ (b : Addr) (w : Int) (k : Nat) (s : Addr) (D : StD) (gs : List (List Int)) (nm pn : Str → Option Int), vs = [.ref b] ∧ BkAt K w H b k s D gs nm pn ∧ ∀ (H' : Hp) (p : Addr), Same H H' → H p = none → H' p = some (.lst (D.ts.map V.ref)) → Q (.ref p) H'
theorem ok_NameBook_groups {P : Program} {w : World} {K : PySem.W.Frag} {mg : Str → Option Value} {base : Heap} (T : Tx K mg) : Met P w K mg base 2 (CB K) "groups" (spGrpL K) [] := by
  obtain ⟨fd, F⟩ := T.d_NameBook_groups
  have G_NameBook_now := ok_NameBook_now (P := P) (w := w) (base := base) T
  have bd : Binds K fd ["self"] [] := F.binds fun _ _ _ _ _ _ us hl => match us, hl with | [_], _ => rfl
  refine met_of (F.ok sc_NameBook_groups (fun vs H Q E h => ?len) (fun cdv A outer s H vs Q E hr h => ?body)) bd T.cB T.m_NameBook_groups
  case len => exact (by first | (obtain ⟨rfl, _⟩ := h; rfl) | (obtain ⟨_, rfl, _⟩ := h; rfl) | (obtain ⟨_, _, rfl, _⟩ := h; rfl) | (obtain ⟨_, _, _, rfl, _⟩ := h; rfl) | (obtain ⟨_, _, _, _, rfl, _⟩ := h; rfl) | (obtain ⟨_, _, _, _, _, rfl, _⟩ := h; rfl) | (obtain ⟨_, _, _, _, _, _, rfl, _⟩ := h; rfl) | (obtain ⟨_, _, _, _, _, _, _, rfl, _⟩ := h; rfl) | (obtain ⟨_, _, _, _, _, _, _, _, rfl, _⟩ := h; rfl) | (obtain ⟨_, _, _, _, _, _, _, _, _, rfl, _⟩ := h; rfl) | (obtain ⟨_, _, _, _, _, _, _, _, _, _, rfl, _⟩ := h; rfl) | (obtain ⟨_, _, _, _, _, _, _, _, _, _, _, rfl, _⟩ := h; rfl) | (obtain ⟨_, _, _, _, _, _, _, _, _, _, _, _, rfl, _⟩ := h; rfl) | (obtain ⟨_, _, _, _, _, _, _, _, _, _, _, _, _, rfl, _⟩ := h; rfl) | (obtain ⟨_, _, _, _, _, _, _, _, _, _, _, _, _, _, rfl, _⟩ := h; rfl) | (obtain ⟨_, _, _, _, _, _, _, _, _, _, _, _, _, _, _, rfl, _⟩ := h; rfl))
  case body =>
  have hu := hu_of hr
  refine ⟨_, (pss_one (ps_ret (pe_callTy call_list_of (by rfl) T.z_list (by decide +kernel) (pa_cons (pe_fldK K rfl (pe_mt0 G_NameBook_now hr (by decide) (pv 0)) rfl) pa_nil)))), ?_⟩
  obtain ⟨b, w', k, s, D, gs, nm, pn, rfl, hB, q⟩ := h
  obtain ⟨dx, sl, ss, h1, h2, h3, h4⟩ := hB.ex
  exact ⟨_, rfl, b, _, _, rfl, h1, rfl, b, w', k, s, D, gs, nm, pn, rfl, hB, s, CS K, D.dx, _, _, rfl, hB.st.ins, T.cS, T.n_parts, rfl, _, _, rfl, .inl (SqL.of hB.st.parts), fun p hp => q _ p (same_new hp) hp upd_same⟩
def spLen (K : PySem.W.Frag) : Sp := fun vs H Q _ => ∃ (b : Addr) (w : Int) (k : Nat) (s : Addr) (D : StD) (gs : List (List Int)) (nm pn : Str → Option Int), vs = [.ref b] ∧ BkAt K w H b k s D gs nm pn ∧ ∀ n : Nat, n ≤ 1000 → Q (.int n) H
theorem ok_NameBook_len {P : Program} {w : World} {K : PySem.W.Frag} {mg : Str → Option Value} {base : Heap} (T : Tx K mg) : LN P w K mg base 2 (CB K) (spLen K) := by
  obtain ⟨fd, F⟩ := T.d_NameBook_len
  have G_NameBook_now := ok_NameBook_now (P := P) (w := w) (base := base) T
  have bd : Binds K fd ["self"] [] := F.binds fun _ _ _ _ _ _ us hl => match us, hl with | [_], _ => rfl
  refine ⟨_, T.len_f, T.len_t, raw0 (F.ok sc_NameBook_len (fun vs H Q E h => ?len) (fun cdv A outer s H vs Q E hr h => ?body)) bd⟩
  case len => exact (by first | (obtain ⟨rfl, _⟩ := h; rfl) | (obtain ⟨_, rfl, _⟩ := h; rfl) | (obtain ⟨_, _, rfl, _⟩ := h; rfl) | (obtain ⟨_, _, _, rfl, _⟩ := h; rfl) | (obtain ⟨_, _, _, _, rfl, _⟩ := h; rfl) | (obtain ⟨_, _, _, _, _, rfl, _⟩ := h; rfl) | (obtain ⟨_, _, _, _, _, _, rfl, _⟩ := h; rfl) | (obtain ⟨_, _, _, _, _, _, _, rfl, _⟩ := h; rfl) | (obtain ⟨_, _, _, _, _, _, _, _, rfl, _⟩ := h; rfl) | (obtain ⟨_, _, _, _, _, _, _, _, _, rfl, _⟩ := h; rfl) | (obtain ⟨_, _, _, _, _, _, _, _, _, _, rfl, _⟩ := h; rfl) | (obtain ⟨_, _, _, _, _, _, _, _, _, _, _, rfl, _⟩ := h; rfl) | (obtain ⟨_, _, _, _, _, _, _, _, _, _, _, _, rfl, _⟩ := h; rfl) | (obtain ⟨_, _, _, _, _, _, _, _, _, _, _, _, _, rfl, _⟩ := h; rfl) | (obtain ⟨_, _, _, _, _, _, _, _, _, _, _, _, _, _, rfl, _⟩ := h; rfl) | (obtain ⟨_, _, _, _, _, _, _, _, _, _, _, _, _, _, _, rfl, _⟩ := h; rfl))
  case body =>
  have hu := hu_of hr
  refine ⟨_, (pss_one (ps_ret (pe_callB call_lenD (by rfl) T.z_len PySem.boot_len (pa_cons (pe_fldK K rfl (pe_mt0 G_NameBook_now hr (by decide) (pv 0)) rfl) pa_nil)))), ?_⟩
  obtain ⟨b, w', k, s, D, gs, nm, pn, rfl, hB, q⟩ := h
  obtain ⟨dx, sl, ss, h1, h2, h3, h4⟩ := hB.ex
  exact ⟨_, rfl, b, _, _, rfl, h1, rfl, b, w', k, s, D, gs, nm, pn, rfl, hB, s, CS K, D.dx, _, _, rfl, hB.st.ins, T.cS, T.n_store, rfl, _, _, rfl, hB.st.store, q _ (by have := hB.st.items.len; omega)⟩
theorem cut_all (xs : List V) : cutV xs none (some ((xs.length : Nat) : Int)) = xs := by
  unfold cutV HT.sIx
  simp
  rw [if_neg (by omega), List.take_length]
theorem five_ok : ∀ n ∈ five, 1 ≤ n.length ∧ n.length ≤ 12 ∧ ∀ c ∈ n.cps.toList, c ∈ ("abcdefghijklmnopqrstuvwxyz" : Str).cps.toList := by decide +kernel
/-! ### a new state kept -/
def spKeep (K : PySem.W.Frag) : Sp := fun vs H Q _ => ∃ (b : Addr) (w : Int) (k : Nat) (s : Addr) (D : StD) (gs : List (List Int)) (nm pn : Str → Option Int) (s' : Addr) (D' : StD) (gs' : List (List Int)) (nm' pn' : Str → Option Int), vs = [.ref b, .ref s'] ∧ BkAt K w H b k s D gs nm pn ∧ k < 900 ∧ StAt K w H s' D' gs' nm' pn' ∧ NOk gs' nm' pn' ∧
  ∀ H' : Hp, But b H H' → BkAt K w H' b (k + 1) s' D' gs' nm' pn' → Q .non H'
theorem ok_NameBook_keep {P : Program} {w : World} {K : PySem.W.Frag} {mg : Str → Option Value} {base : Heap} (T : Tx K mg) : Met P w K mg base 1 (CB K) "keep" (spKeep K) [] := by
  obtain ⟨fd, F⟩ := T.d_NameBook_keep
  have bd : Binds K fd ["self", "state"] [] := F.binds fun _ _ _ _ _ _ us hl => match us, hl with | [_, _], _ => rfl
  refine met_of (F.ok sc_NameBook_keep (fun vs H Q E h => ?len) (fun cdv A outer s H vs Q E hr h => ?body)) bd T.cB T.m_NameBook_keep
  case len => exact (by first | (obtain ⟨rfl, _⟩ := h; rfl) | (obtain ⟨_, rfl, _⟩ := h; rfl) | (obtain ⟨_, _, rfl, _⟩ := h; rfl) | (obtain ⟨_, _, _, rfl, _⟩ := h; rfl) | (obtain ⟨_, _, _, _, rfl, _⟩ := h; rfl) | (obtain ⟨_, _, _, _, _, rfl, _⟩ := h; rfl) | (obtain ⟨_, _, _, _, _, _, rfl, _⟩ := h; rfl) | (obtain ⟨_, _, _, _, _, _, _, rfl, _⟩ := h; rfl) | (obtain ⟨_, _, _, _, _, _, _, _, rfl, _⟩ := h; rfl) | (obtain ⟨_, _, _, _, _, _, _, _, _, rfl, _⟩ := h; rfl) | (obtain ⟨_, _, _, _, _, _, _, _, _, _, rfl, _⟩ := h; rfl) | (obtain ⟨_, _, _, _, _, _, _, _, _, _, _, rfl, _⟩ := h; rfl) | (obtain ⟨_, _, _, _, _, _, _, _, _, _, _, _, rfl, _⟩ := h; rfl) | (obtain ⟨_, _, _, _, _, _, _, _, _, _, _, _, _, rfl, _⟩ := h; rfl) | (obtain ⟨_, _, _, _, _, _, _, _, _, _, _, _, _, _, rfl, _⟩ := h; rfl) | (obtain ⟨_, _, _, _, _, _, _, _, _, _, _, _, _, _, _, rfl, _⟩ := h; rfl))
  case body =>
  have hu := hu_of hr
  refine ⟨_, (pss_cons (ps_if (pt_cmpR op_eq (pe_fldK K rfl (pv 0) rfl) pe_int (nomark _)) (pss_one (ps_fldaug (pv 0) pe_int in_add))
      pss_nil)
      (pss_one (ps_fld (pv 0) (pe_lst (pa_star (pe_slice sl_list (pe_fldK K rfl (pv 0) rfl) po_none (po_some (pe_fldK K rfl (pv 0) rfl))) (pa_cons (pv 1) pa_nil))) rfl))), ?_⟩
  obtain ⟨b, w', k, s, D, gs, nm, pn, s', D', gs', nm', pn', rfl, hB, hk, hS, hN, q⟩ := h
  obtain ⟨dx, sl, ss, h1, h2, h3, h4⟩ := hB.ex
  have hkl : k < ss.length := (List.getElem?_eq_some_iff.mp h3).1
  have nlb : sl ≠ b := ne_of h2 h1 (fun z => nomatch z)
  refine ⟨_, rfl, b, CB K, dx, _, _, rfl, h1, T.cB, T.n_depth, rfl, rfl, _, rfl, iteD rfl ?_⟩
  refine ⟨_, rfl, b, CB K, dx, _, _, rfl, h1, T.cB, T.n_spot, rfl, _, _, rfl, rfl, dx, _, h1, (show (4 : Nat) < 1000 by decide), ?_⟩
  have e1 : upd H b (.ins (CB K) dx (putF "spot" (.int (↑k + 1)) (bF w' sl ↑k))) b = some (.ins (CB K) dx (bF w' sl (k + 1))) := upd_same
  have b1 : But b H (upd H b (.ins (CB K) dx (putF "spot" (.int (↑k + 1)) (bF w' sl ↑k)))) := fun a o n e => by rw [upd_ne n]; exact e
  generalize upd H b (.ins (CB K) dx (putF "spot" (.int (↑k + 1)) (bF w' sl ↑k))) = H1 at e1 b1
  have h2' := b1 _ _ nlb h2
  refine ⟨_, rfl, b, CB K, dx, _, _, rfl, e1, T.cB, T.n_states, rfl, _, rfl, b, CB K, dx, _, _, rfl, e1, T.cB, T.n_spot, rfl, _, rfl, sl, _, rfl, SqL.of h2', fun p hp => ?_⟩
  have hsl : ss.length = k + 1 := by omega
  rw [show ((k : Int) + 1) = (((ss.map V.ref).length : Nat) : Int) by rw [List.length_map, hsl]; omega, cut_all]
  refine ⟨p, _, rfl, .inr (SqL.of upd_same), _, rfl, Nat.le_of_lt (small1000 (by simp; omega)), fun m hm => ?_⟩
  have n1 : b ≠ p := fun z => by subst z; rw [e1] at hp; cases hp
  have hm1 : upd H1 p (.lst (ss.map V.ref)) b = some (.ins (CB K) dx (bF w' sl (k + 1))) := by rw [upd_ne n1]; exact e1
  have n2 : b ≠ m := fun z => by subst z; rw [hm1] at hm; cases hm
  have b2 : But b H (upd (upd H1 p (.lst (ss.map V.ref))) m (.lst (ss.map V.ref ++ [.ref s']))) := b1.trans (Same.but ((same_new hp).new hm))
  have e2 : upd (upd H1 p (.lst (ss.map V.ref))) m (.lst (ss.map V.ref ++ [.ref s'])) b = some (.ins (CB K) dx (bF w' sl (k + 1))) := by rw [upd_ne n2]; exact hm1
  have e3 : upd (upd H1 p (.lst (ss.map V.ref))) m (.lst (ss.map V.ref ++ [.ref s'])) m = some (.lst ((ss ++ [s']).map V.ref)) := by rw [upd_same, List.map_append]; rfl
  generalize upd (upd H1 p (.lst (ss.map V.ref))) m (.lst (ss.map V.ref ++ [.ref s'])) = H2 at b2 e2 e3
  refine ⟨_, rfl, b, CB K, dx, _, rfl, e2, T.cB, T.n_states, (show (4 : Nat) < 1000 by decide), ?_⟩
  have b3 : But b H (upd H2 b (.ins (CB K) dx (putF "states" (.ref m) (bF w' sl (k + 1))))) := fun a o n e => by rw [upd_ne n]; exact b2 a o n e
  refine q _ b3 ⟨⟨dx, m, ss ++ [s'], upd_same, by rw [upd_ne n2.symm]; exact e3, ?_, by simp; omega⟩, st_but h1 hS b3, hN, hB.w1, hB.w4⟩
  rw [List.getElem?_append_right (by omega), hsl, Nat.sub_self]; rfl
/-! ### checks -/
def spKnown (K : PySem.W.Frag) : Sp := fun vs H Q _ => ∃ (b : Addr) (w : Int) (k : Nat) (s : Addr) (D : StD) (gs : List (List Int)) (nm pn : Str → Option Int) (i : Int), vs = [.ref b, .int i] ∧ BkAt K w H b k s D gs nm pn ∧ i ∈ idsK D.kvs ∧ ∀ H' : Hp, Same H H' → Q .non H'
def spIdB : Sp := fun vs H Q _ => ∃ v : Int, vs = [.int v] ∧ 1 ≤ v ∧ v ≤ 1000000 ∧ ∀ H', Same H H' → Q (.bl true) H'
theorem ok_is_id_book {P : Program} {w : World} {K : PySem.W.Frag} {mg : Str → Option Value} {base : Heap} (T : Tx K mg) : Cal P w K mg base 4 "is_id_book" spIdB [] := by
  obtain ⟨fd, F⟩ := T.d_is_id_book
  have G_is_item := ok_is_item (P := P) (w := w) (base := base) T
  have bd : Binds K fd ["value"] [] := F.binds fun _ _ _ _ _ _ us hl => match us, hl with | [_], _ => rfl
  refine cal_of (F.ok sc_is_id_book (fun vs H Q E h => ?len) (fun cdv A outer s H vs Q E hr h => ?body)) bd T.g_is_id_book T.k_is_id_book
  case len => exact (by first | (obtain ⟨rfl, _⟩ := h; rfl) | (obtain ⟨_, rfl, _⟩ := h; rfl) | (obtain ⟨_, _, rfl, _⟩ := h; rfl) | (obtain ⟨_, _, _, rfl, _⟩ := h; rfl) | (obtain ⟨_, _, _, _, rfl, _⟩ := h; rfl) | (obtain ⟨_, _, _, _, _, rfl, _⟩ := h; rfl) | (obtain ⟨_, _, _, _, _, _, rfl, _⟩ := h; rfl) | (obtain ⟨_, _, _, _, _, _, _, rfl, _⟩ := h; rfl) | (obtain ⟨_, _, _, _, _, _, _, _, rfl, _⟩ := h; rfl) | (obtain ⟨_, _, _, _, _, _, _, _, _, rfl, _⟩ := h; rfl) | (obtain ⟨_, _, _, _, _, _, _, _, _, _, rfl, _⟩ := h; rfl) | (obtain ⟨_, _, _, _, _, _, _, _, _, _, _, rfl, _⟩ := h; rfl) | (obtain ⟨_, _, _, _, _, _, _, _, _, _, _, _, rfl, _⟩ := h; rfl) | (obtain ⟨_, _, _, _, _, _, _, _, _, _, _, _, _, rfl, _⟩ := h; rfl) | (obtain ⟨_, _, _, _, _, _, _, _, _, _, _, _, _, _, rfl, _⟩ := h; rfl) | (obtain ⟨_, _, _, _, _, _, _, _, _, _, _, _, _, _, _, rfl, _⟩ := h; rfl))
  case body =>
  have hu := hu_of hr
  refine ⟨_, (pss_one (ps_ret (pe_c G_is_item hr (by decide) (by rfl) (pa_cons (pe_tup (pa_cons (pv 0) (pa_cons pe_int (pa_cons (pe_tup (pa_cons pe_int pa_nil)) pa_nil)))) (pa_cons pe_int pa_nil))))), ?_⟩
  obtain ⟨v, rfl, h1, h2, q⟩ := h
  refine ⟨_, rfl, by show 1 ≤ sizeLine; decide, fun f hf => ⟨by show 3 ≤ sizeLine; decide, fun t ht => ?_⟩⟩
  exact ⟨t, f, v, 1, [0], rfl, upd_same, (same_new ht) _ _ upd_same, h1, h2, by decide, by decide, by decide, fun n hn => by rw [List.mem_singleton.mp hn]; decide, fun H' s => q H' (((same_new hf).trans (same_new ht)).trans s)⟩
theorem ok_NameBook_need_known {P : Program} {w : World} {K : PySem.W.Frag} {mg : Str → Option Value} {base : Heap} (T : Tx K mg) : Met P w K mg base 5 (CB K) "need_known" (spKnown K) [] := by
  obtain ⟨fd, F⟩ := T.d_NameBook_need_known
  have G_NameBook_now := ok_NameBook_now (P := P) (w := w) (base := base) T
  have G_is_id_book := ok_is_id_book (P := P) (w := w) (base := base) T
  have bd : Binds K fd ["self", "row_id"] [] := F.binds fun _ _ _ _ _ _ us hl => match us, hl with | [_, _], _ => rfl
  refine met_of (F.ok sc_NameBook_need_known (fun vs H Q E h => ?len) (fun cdv A outer s H vs Q E hr h => ?body)) bd T.cB T.m_NameBook_need_known
  case len => exact (by first | (obtain ⟨rfl, _⟩ := h; rfl) | (obtain ⟨_, rfl, _⟩ := h; rfl) | (obtain ⟨_, _, rfl, _⟩ := h; rfl) | (obtain ⟨_, _, _, rfl, _⟩ := h; rfl) | (obtain ⟨_, _, _, _, rfl, _⟩ := h; rfl) | (obtain ⟨_, _, _, _, _, rfl, _⟩ := h; rfl) | (obtain ⟨_, _, _, _, _, _, rfl, _⟩ := h; rfl) | (obtain ⟨_, _, _, _, _, _, _, rfl, _⟩ := h; rfl) | (obtain ⟨_, _, _, _, _, _, _, _, rfl, _⟩ := h; rfl) | (obtain ⟨_, _, _, _, _, _, _, _, _, rfl, _⟩ := h; rfl) | (obtain ⟨_, _, _, _, _, _, _, _, _, _, rfl, _⟩ := h; rfl) | (obtain ⟨_, _, _, _, _, _, _, _, _, _, _, rfl, _⟩ := h; rfl) | (obtain ⟨_, _, _, _, _, _, _, _, _, _, _, _, rfl, _⟩ := h; rfl) | (obtain ⟨_, _, _, _, _, _, _, _, _, _, _, _, _, rfl, _⟩ := h; rfl) | (obtain ⟨_, _, _, _, _, _, _, _, _, _, _, _, _, _, rfl, _⟩ := h; rfl) | (obtain ⟨_, _, _, _, _, _, _, _, _, _, _, _, _, _, _, rfl, _⟩ := h; rfl))
  case body =>
  have hu := hu_of hr
  refine ⟨_, (pss_one (ps_if (PW.pt (pw_or (pt_not (pt_val (pe_c G_is_id_book hr (by decide) (by rfl) (pa_cons (pv 1) pa_nil)))) (pw_or1 (pt_cmp (pc_dnotin hu (pv 1) (pe_fldK K rfl (pe_mt0 G_NameBook_now hr (by decide) (pv 0)) rfl)) rfl)))) (pss_one ps_never)
      pss_nil)), ?_⟩
  obtain ⟨b, w', k, s, D, gs, nm, pn, i, rfl, hB, hi, q⟩ := h
  obtain ⟨t, wt, ns, hv, i1, i2, _⟩ := hB.st.items.get hi
  obtain ⟨dx, sl, ss, h1, h2, h3, h4⟩ := hB.ex
  refine ⟨_, rfl, i, rfl, i1, by omega, fun H1 s1 => ⟨_, rfl, iteF ?_⟩⟩
  have hB1 := hB.same s1
  have dg := dget_rd (.inl i) (Rd.of hB1.st.store)
  rw [hv] at dg
  exact ⟨_, rfl, _, rfl, b, _, _, rfl, s1 _ _ h1, rfl, b, w', k, s, D, gs, nm, pn, rfl, hB1, s, CS K, D.dx, _, _, rfl, hB1.st.ins, T.cS, T.n_store, rfl, _, _, rfl, dg, _, rfl, iteF (q H1 s1)⟩
def spNName : Sp := fun vs H Q _ => ∃ (b : Addr) (n : Str), vs = [.ref b, .str n] ∧ n ∈ five ∧ ∀ H' : Hp, Same H H' → Q .non H'
theorem ok_NameBook_need_name {P : Program} {w : World} {K : PySem.W.Frag} {mg : Str → Option Value} {base : Heap} (T : Tx K mg) : Met P w K mg base 2 (CB K) "need_name" spNName [] := by
  obtain ⟨fd, F⟩ := T.d_NameBook_need_name
  have G_is_name := ok_is_name (P := P) (w := w) (base := base) T
  have bd : Binds K fd ["self", "name"] [] := F.binds fun _ _ _ _ _ _ us hl => match us, hl with | [_, _], _ => rfl
  refine met_of (F.ok sc_NameBook_need_name (fun vs H Q E h => ?len) (fun cdv A outer s H vs Q E hr h => ?body)) bd T.cB T.m_NameBook_need_name
  case len => exact (by first | (obtain ⟨rfl, _⟩ := h; rfl) | (obtain ⟨_, rfl, _⟩ := h; rfl) | (obtain ⟨_, _, rfl, _⟩ := h; rfl) | (obtain ⟨_, _, _, rfl, _⟩ := h; rfl) | (obtain ⟨_, _, _, _, rfl, _⟩ := h; rfl) | (obtain ⟨_, _, _, _, _, rfl, _⟩ := h; rfl) | (obtain ⟨_, _, _, _, _, _, rfl, _⟩ := h; rfl) | (obtain ⟨_, _, _, _, _, _, _, rfl, _⟩ := h; rfl) | (obtain ⟨_, _, _, _, _, _, _, _, rfl, _⟩ := h; rfl) | (obtain ⟨_, _, _, _, _, _, _, _, _, rfl, _⟩ := h; rfl) | (obtain ⟨_, _, _, _, _, _, _, _, _, _, rfl, _⟩ := h; rfl) | (obtain ⟨_, _, _, _, _, _, _, _, _, _, _, rfl, _⟩ := h; rfl) | (obtain ⟨_, _, _, _, _, _, _, _, _, _, _, _, rfl, _⟩ := h; rfl) | (obtain ⟨_, _, _, _, _, _, _, _, _, _, _, _, _, rfl, _⟩ := h; rfl) | (obtain ⟨_, _, _, _, _, _, _, _, _, _, _, _, _, _, rfl, _⟩ := h; rfl) | (obtain ⟨_, _, _, _, _, _, _, _, _, _, _, _, _, _, _, rfl, _⟩ := h; rfl))
  case body =>
  have hu := hu_of hr
  refine ⟨_, (pss_one (ps_if (pt_not (pt_val (pe_c G_is_name hr (by decide) (by rfl) (pa_cons (pv 1) pa_nil)))) (pss_one ps_never)
      pss_nil)), ?_⟩
  obtain ⟨b, n, rfl, hn, q⟩ := h
  have hok : 1 ≤ n.length ∧ n.length ≤ 12 ∧ ∀ c ∈ n.cps.toList, c ∈ ("abcdefghijklmnopqrstuvwxyz" : Str).cps.toList := five_ok n hn
  refine ⟨_, rfl, n, rfl, hok.1, hok.2.1, hok.2.2, fun H1 s1 => ⟨_, rfl, iteF (q H1 s1)⟩⟩
end KN

set_option Elab.async false
set_option linter.all false
set_option maxRecDepth 100000
set_option maxHeartbeats 4000000
/-! the book changed -/
namespace KN
open PySem PySem.Spec PyProof.Rows L2 ClX StX
open C8 (Cal Met Mak CalAt pe_c pe_mk pe_mt pe_mt0 pss_cut tCut pe_gc)
/-! ### give, pin, unpin -/
def spGive (K : PySem.W.Frag) : Sp := fun vs H Q _ => ∃ (b : Addr) (w : Int) (k : Nat) (s : Addr) (D : StD) (gs : List (List Int)) (nm pn : Str → Option Int) (n : Str) (i : Int), vs = [.ref b, .str n, .int i] ∧ BkAt K w H b k s D gs nm pn ∧ k < 900 ∧ n ∈ five ∧ i ∈ idsK D.kvs ∧
  ∀ (H' : Hp) (s' : Addr) (D' : StD) (nm' pn' : Str → Option Int), But b H H' → BkAt K w H' b (k + 1) s' D' gs nm' pn' → Q .non H'
theorem ok_NameBook_give {P : Program} {w : World} {K : PySem.W.Frag} {mg : Str → Option Value} {base : Heap} (T : Tx K mg) : Met P w K mg base 8 (CB K) "give" (spGive K) [] := by
  obtain ⟨fd, F⟩ := T.d_NameBook_give
  have G_NameBook_keep := ok_NameBook_keep (P := P) (w := w) (base := base) T
  have G_NameBook_need_known := ok_NameBook_need_known (P := P) (w := w) (base := base) T
  have G_NameBook_need_name := ok_NameBook_need_name (P := P) (w := w) (base := base) T
  have G_NameBook_now := ok_NameBook_now (P := P) (w := w) (base := base) T
  have G_State_given := ok_State_given (P := P) (w := w) (base := base) T
  have bd : Binds K fd ["self", "name", "row_id"] [] := F.binds fun _ _ _ _ _ _ us hl => match us, hl with | [_, _, _], _ => rfl
  refine met_of (F.ok sc_NameBook_give (fun vs H Q E h => ?len) (fun cdv A outer s H vs Q E hr h => ?body)) bd T.cB T.m_NameBook_give
  case len => exact (by first | (obtain ⟨rfl, _⟩ := h; rfl) | (obtain ⟨_, rfl, _⟩ := h; rfl) | (obtain ⟨_, _, rfl, _⟩ := h; rfl) | (obtain ⟨_, _, _, rfl, _⟩ := h; rfl) | (obtain ⟨_, _, _, _, rfl, _⟩ := h; rfl) | (obtain ⟨_, _, _, _, _, rfl, _⟩ := h; rfl) | (obtain ⟨_, _, _, _, _, _, rfl, _⟩ := h; rfl) | (obtain ⟨_, _, _, _, _, _, _, rfl, _⟩ := h; rfl) | (obtain ⟨_, _, _, _, _, _, _, _, rfl, _⟩ := h; rfl) | (obtain ⟨_, _, _, _, _, _, _, _, _, rfl, _⟩ := h; rfl) | (obtain ⟨_, _, _, _, _, _, _, _, _, _, rfl, _⟩ := h; rfl) | (obtain ⟨_, _, _, _, _, _, _, _, _, _, _, rfl, _⟩ := h; rfl) | (obtain ⟨_, _, _, _, _, _, _, _, _, _, _, _, rfl, _⟩ := h; rfl) | (obtain ⟨_, _, _, _, _, _, _, _, _, _, _, _, _, rfl, _⟩ := h; rfl) | (obtain ⟨_, _, _, _, _, _, _, _, _, _, _, _, _, _, rfl, _⟩ := h; rfl) | (obtain ⟨_, _, _, _, _, _, _, _, _, _, _, _, _, _, _, rfl, _⟩ := h; rfl))
  case body =>
  have hu := hu_of hr
  refine ⟨_, (pss_cons (ps_expr (pe_mt G_NameBook_need_name hr (by decide) (pv 0) (pa_cons (pv 1) pa_nil)))
      (pss_cons (ps_expr (pe_mt G_NameBook_need_known hr (by decide) (pv 0) (pa_cons (pv 2) pa_nil)))
      (pss_one (ps_expr (pe_mt G_NameBook_keep hr (by decide) (pv 0) (pa_cons (pe_mt G_State_given hr (by decide) (pe_mt0 G_NameBook_now hr (by decide) (pv 0)) (pa_cons (pv 1) (pa_cons (pv 2) pa_nil))) pa_nil)))))), ?_⟩
  obtain ⟨b, w', k, s, D, gs, nm, pn, n, i, rfl, hB, hk, hn, hi, q⟩ := h
  obtain ⟨dx, sl, ss, h1, _⟩ := id hB.ex
  refine ⟨_, rfl, b, _, _, rfl, h1, rfl, _, rfl, b, n, rfl, hn, fun H1 s1 => ?_⟩
  have hB1 := hB.same s1
  refine ⟨_, rfl, b, _, _, rfl, s1 _ _ h1, rfl, _, rfl, b, w', k, s, D, gs, nm, pn, i, rfl, hB1, hi, fun H2 s2 => ?_⟩
  have hB2 := hB1.same s2
  have h12 := (s1.trans s2) _ _ h1
  refine ⟨_, rfl, b, _, _, rfl, h12, rfl, _, rfl, b, _, _, rfl, h12, rfl, b, w', k, s, D, gs, nm, pn, rfl, hB2, s, D.dx, _, rfl, hB2.st.ins, rfl, _, rfl, _, rfl, s, w', D, gs, nm, pn, n, i, rfl, hB2.st, hB2.ok, hn, hi, fun H3 s' D' nm' pn' s3 hs' hst hN' _ _ => ?_⟩
  exact ⟨b, w', k, s, D, gs, nm, pn, s', D', gs, nm', pn', rfl, hB2.same s3, hk, hst, hN', fun H4 bt hB4 => q H4 s' D' nm' pn' (((s1.trans s2).trans s3).but.trans bt) hB4⟩
theorem ok_NameBook_pin {P : Program} {w : World} {K : PySem.W.Frag} {mg : Str → Option Value} {base : Heap} (T : Tx K mg) : Met P w K mg base 8 (CB K) "pin" (spGive K) [] := by
  obtain ⟨fd, F⟩ := T.d_NameBook_pin
  have G_NameBook_keep := ok_NameBook_keep (P := P) (w := w) (base := base) T
  have G_NameBook_need_known := ok_NameBook_need_known (P := P) (w := w) (base := base) T
  have G_NameBook_need_name := ok_NameBook_need_name (P := P) (w := w) (base := base) T
  have G_NameBook_now := ok_NameBook_now (P := P) (w := w) (base := base) T
  have G_State_given := ok_State_given (P := P) (w := w) (base := base) T
  have G_State_renamed := ok_State_renamed (P := P) (w := w) (base := base) T
  have bd : Binds K fd ["self", "name", "row_id"] [] := F.binds fun _ _ _ _ _ _ us hl => match us, hl with | [_, _, _], _ => rfl
  refine met_of (F.ok sc_NameBook_pin (fun vs H Q E h => ?len) (fun cdv A outer s H vs Q E hr h => ?body)) bd T.cB T.m_NameBook_pin
  case len => exact (by first | (obtain ⟨rfl, _⟩ := h; rfl) | (obtain ⟨_, rfl, _⟩ := h; rfl) | (obtain ⟨_, _, rfl, _⟩ := h; rfl) | (obtain ⟨_, _, _, rfl, _⟩ := h; rfl) | (obtain ⟨_, _, _, _, rfl, _⟩ := h; rfl) | (obtain ⟨_, _, _, _, _, rfl, _⟩ := h; rfl) | (obtain ⟨_, _, _, _, _, _, rfl, _⟩ := h; rfl) | (obtain ⟨_, _, _, _, _, _, _, rfl, _⟩ := h; rfl) | (obtain ⟨_, _, _, _, _, _, _, _, rfl, _⟩ := h; rfl) | (obtain ⟨_, _, _, _, _, _, _, _, _, rfl, _⟩ := h; rfl) | (obtain ⟨_, _, _, _, _, _, _, _, _, _, rfl, _⟩ := h; rfl) | (obtain ⟨_, _, _, _, _, _, _, _, _, _, _, rfl, _⟩ := h; rfl) | (obtain ⟨_, _, _, _, _, _, _, _, _, _, _, _, rfl, _⟩ := h; rfl) | (obtain ⟨_, _, _, _, _, _, _, _, _, _, _, _, _, rfl, _⟩ := h; rfl) | (obtain ⟨_, _, _, _, _, _, _, _, _, _, _, _, _, _, rfl, _⟩ := h; rfl) | (obtain ⟨_, _, _, _, _, _, _, _, _, _, _, _, _, _, _, rfl, _⟩ := h; rfl))
  case body =>
  have hu := hu_of hr
  refine ⟨_, (pss_cons (ps_expr (pe_mt G_NameBook_need_name hr (by decide) (pv 0) (pa_cons (pv 1) pa_nil)))
      (pss_cons (ps_expr (pe_mt G_NameBook_need_known hr (by decide) (pv 0) (pa_cons (pv 2) pa_nil)))
      (pss_cons (ps_set (i := 3) sc_NameBook_pin.nd rfl (Or.inl rfl) (pe_mt G_State_given hr (by decide) (pe_mt0 G_NameBook_now hr (by decide) (pv 0)) (pa_cons (pv 1) (pa_cons (pv 2) pa_nil))))
      (pss_one (ps_expr (pe_mt G_NameBook_keep hr (by decide) (pv 0) (pa_cons (pe_mt G_State_renamed hr (by decide) (pv 3) (pa_cons (pe_fldK K rfl (pv 3) rfl) (pa_cons (pe_dispSK (pe_fldK K rfl (pv 3) rfl) (pv 1) (pv 2)) pa_nil))) pa_nil))))))), ?_⟩
  obtain ⟨b, w', k, s, D, gs, nm, pn, n, i, rfl, hB, hk, hn, hi, q⟩ := h
  obtain ⟨dx, sl, ss, h1, _⟩ := id hB.ex
  refine ⟨_, rfl, b, _, _, rfl, h1, rfl, _, rfl, b, n, rfl, hn, fun H1 s1 => ?_⟩
  have hB1 := hB.same s1
  refine ⟨_, rfl, b, _, _, rfl, s1 _ _ h1, rfl, _, rfl, b, w', k, s, D, gs, nm, pn, i, rfl, hB1, hi, fun H2 s2 => ?_⟩
  have hB2 := hB1.same s2
  have h12 := (s1.trans s2) _ _ h1
  refine ⟨_, rfl, b, _, _, rfl, h12, rfl, b, w', k, s, D, gs, nm, pn, rfl, hB2, s, D.dx, _, rfl, hB2.st.ins, rfl, _, rfl, _, rfl, s, w', D, gs, nm, pn, n, i, rfl, hB2.st, hB2.ok, hn, hi, fun H3 s' D' nm' pn' s3 hs' hst hN' ek ⟨j, hj1, hj2⟩ => ?_⟩
  have hB3 := hB2.same s3
  have h13 := s3 _ _ h12
  -- state.renamed(state.named, {**state.pinned, name: row_id})
  refine ⟨_, rfl, b, _, _, rfl, h13, rfl, _, rfl, s', D'.dx, _, rfl, hst.ins, rfl, _, rfl, s', CS K, D'.dx, _, _, rfl, hst.ins, T.cS, T.n_named, rfl, fun p hp => ?_⟩
  have sp0 : Same H3 (upd H3 p (.dK [])) := same_new hp
  have npd : p ≠ D'.dp := fun z => by subst z; rw [hst.pinned] at hp; cases hp
  have lkp : D'.kp.length ≤ 5 := Nat.le_trans (few' hst.pn five hN'.pin5) (by decide)
  refine ⟨_, rfl, s', CS K, D'.dx, _, _, rfl, sp0 _ _ hst.ins, T.cS, T.n_pinned, rfl, D'.dp, D'.kp, rfl, npd, upd_same, .inl (sp0 _ _ hst.pinned), by omega, fun q2 hq2 => ⟨_, rfl, _, rfl, .inr n, rfl, upd_same, ?_, ?_⟩⟩
  · have : p ≠ q2 := fun z => by subst z; rw [upd_same] at hq2; cases hq2
    rw [upd_ne this, upd_same]
  have nq : p ≠ q2 := fun z => by subst z; rw [upd_same] at hq2; cases hq2
  have hq6 : H3 q2 = none := by rw [upd_ne nq.symm, upd_ne nq.symm] at hq2; exact hq2
  have sp : Same H3 (upd (upd (upd (upd (upd H3 p (.dK [])) p (.dK (mergeK [] D'.kp))) q2 (.dK [])) q2 (.dK [(.inr n, .int i)])) p (.dK (putK (mergeK [] D'.kp) (.inr n) (.int i)))) := ((((same_new hp).at hp).at hq6).at hq6).at hp
  have hp7 : upd (upd (upd (upd (upd H3 p (.dK [])) p (.dK (mergeK [] D'.kp))) q2 (.dK [])) q2 (.dK [(.inr n, .int i)])) p (.dK (putK (mergeK [] D'.kp) (.inr n) (.int i))) p = some (.dK (putK (mergeK [] D'.kp) (.inr n) (.int i))) := upd_same
  generalize upd (upd (upd (upd (upd H3 p (.dK [])) p (.dK (mergeK [] D'.kp))) q2 (.dK [])) q2 (.dK [(.inr n, .int i)])) p (.dK (putK (mergeK [] D'.kp) (.inr n) (.int i))) = H7 at sp hp7
  have d1 : DSI (mergeK [] D'.kp) pn' := (DM.nil.merge hst.pn).congr fun a => by cases pn' a <;> rfl
  have hst7 := hst.same sp
  refine ⟨s', D'.dn, p, w', D', gs, nm', pn', nm', KM.fup pn' n (some i), D'.kn, _, rfl, hst7, hst7.named, hst7.nm, hp7, d1.put inr_inj n i, fun H8 s9 D9 s8 hs9 hst9 _ _ _ => ?_⟩
  refine ⟨b, w', k, s, D, gs, nm, pn, s9, D9, gs, nm', KM.fup pn' n (some i), rfl, (hB3.same sp).same s8, hk, hst9, ⟨hN'.five, hN'.inj, hN'.rng, fun o z h => ?_⟩, fun H10 bt hB10 => q H10 s9 D9 nm' _ (((((s1.trans s2).trans s3).trans sp).trans s8).but.trans bt) hB10⟩
  by_cases e : o = n
  · subst e; rw [KM.fup_same] at h; cases h; exact ⟨j, hj1, hj2⟩
  · rw [KM.fup_ne e] at h; exact hN'.pin o z h
def spUnpin (K : PySem.W.Frag) : Sp := fun vs H Q _ => ∃ (b : Addr) (w : Int) (k : Nat) (s : Addr) (D : StD) (gs : List (List Int)) (nm pn : Str → Option Int) (n : Str) (i : Int), vs = [.ref b, .str n] ∧ BkAt K w H b k s D gs nm pn ∧ k < 900 ∧ pn n = some i ∧
  ∀ (H' : Hp) (s' : Addr) (D' : StD) (nm' pn' : Str → Option Int), But b H H' → BkAt K w H' b (k + 1) s' D' gs nm' pn' → Q .non H'
theorem ok_NameBook_unpin {P : Program} {w : World} {K : PySem.W.Frag} {mg : Str → Option Value} {base : Heap} (T : Tx K mg) : Met P w K mg base 7 (CB K) "unpin" (spUnpin K) [] := by
  obtain ⟨fd, F⟩ := T.d_NameBook_unpin
  have G_NameBook_keep := ok_NameBook_keep (P := P) (w := w) (base := base) T
  have G_NameBook_need_name := ok_NameBook_need_name (P := P) (w := w) (base := base) T
  have G_NameBook_now := ok_NameBook_now (P := P) (w := w) (base := base) T
  have G_NameBook_pins := ok_NameBook_pins (P := P) (w := w) (base := base) T
  have G_State_renamed := ok_State_renamed (P := P) (w := w) (base := base) T
  have bd : Binds K fd ["self", "name"] [] := F.binds fun _ _ _ _ _ _ us hl => match us, hl with | [_, _], _ => rfl
  refine met_of (F.ok sc_NameBook_unpin (fun vs H Q E h => ?len) (fun cdv A outer s H vs Q E hr h => ?body)) bd T.cB T.m_NameBook_unpin
  case len => exact (by first | (obtain ⟨rfl, _⟩ := h; rfl) | (obtain ⟨_, rfl, _⟩ := h; rfl) | (obtain ⟨_, _, rfl, _⟩ := h; rfl) | (obtain ⟨_, _, _, rfl, _⟩ := h; rfl) | (obtain ⟨_, _, _, _, rfl, _⟩ := h; rfl) | (obtain ⟨_, _, _, _, _, rfl, _⟩ := h; rfl) | (obtain ⟨_, _, _, _, _, _, rfl, _⟩ := h; rfl) | (obtain ⟨_, _, _, _, _, _, _, rfl, _⟩ := h; rfl) | (obtain ⟨_, _, _, _, _, _, _, _, rfl, _⟩ := h; rfl) | (obtain ⟨_, _, _, _, _, _, _, _, _, rfl, _⟩ := h; rfl) | (obtain ⟨_, _, _, _, _, _, _, _, _, _, rfl, _⟩ := h; rfl) | (obtain ⟨_, _, _, _, _, _, _, _, _, _, _, rfl, _⟩ := h; rfl) | (obtain ⟨_, _, _, _, _, _, _, _, _, _, _, _, rfl, _⟩ := h; rfl) | (obtain ⟨_, _, _, _, _, _, _, _, _, _, _, _, _, rfl, _⟩ := h; rfl) | (obtain ⟨_, _, _, _, _, _, _, _, _, _, _, _, _, _, rfl, _⟩ := h; rfl) | (obtain ⟨_, _, _, _, _, _, _, _, _, _, _, _, _, _, _, rfl, _⟩ := h; rfl))
  case body =>
  have hu := hu_of hr
  refine ⟨_, (pss_cons (ps_expr (pe_mt G_NameBook_need_name hr (by decide) (pv 0) (pa_cons (pv 1) pa_nil)))
      (pss_cons (ps_set (i := 2) sc_NameBook_unpin.nd rfl (Or.inl rfl) (pe_mt0 G_NameBook_pins hr (by decide) (pv 0)))
      (pss_cons (ps_if (pt_cmp (pc_dnotin hu (pv 1) (pv 2)) rfl) (pss_one ps_never)
      pss_nil)
      (pss_cons (ps_expr (pe_dpop1 (pv 2) (pv 1) ⟨rfl, rfl, rfl, rfl⟩))
      (pss_one (ps_expr (pe_mt G_NameBook_keep hr (by decide) (pv 0) (pa_cons (pe_mt G_State_renamed hr (by decide) (pe_mt0 G_NameBook_now hr (by decide) (pv 0)) (pa_cons (pe_fldK K rfl (pe_mt0 G_NameBook_now hr (by decide) (pv 0)) rfl) (pa_cons (pv 2) pa_nil))) pa_nil)))))))), ?_⟩
  obtain ⟨b, w', k, s, D, gs, nm, pn, n, i, rfl, hB, hk, hn, q⟩ := h
  obtain ⟨dx, sl, ss, h1, _⟩ := id hB.ex
  refine ⟨_, rfl, b, _, _, rfl, h1, rfl, _, rfl, b, n, rfl, hB.ok.pin5 n i hn, fun H1 s1 => ?_⟩
  have hB1 := hB.same s1
  refine ⟨_, rfl, b, _, _, rfl, s1 _ _ h1, rfl, b, w', k, s, D, gs, nm, pn, rfl, hB1, fun H2 p s2 hp hp2 => ?_⟩
  have hB2 := hB1.same s2
  have h12 := (s1.trans s2) _ _ h1
  have dg := dget_rd (.inr n) (Rd.of hp2)
  rw [hB.st.pn.get hn] at dg
  refine ⟨_, rfl, _, rfl, _, _, rfl, dg, _, rfl, iteF ⟨_, rfl, p, rfl, .inl ⟨_, .inl hp2⟩, _, rfl, _, .inr n, _, hp2, rfl, hB.st.pn.get hn, ?_⟩⟩
  have hpH1 : H1 p = none := hp
  have s3 : Same H1 (upd H2 p (.dK (dropK D.kp (.inr n)))) := s2.at hpH1
  have hp3 : upd H2 p (.dK (dropK D.kp (.inr n))) p = some (.dK (dropK D.kp (.inr n))) := upd_same
  generalize upd H2 p (.dK (dropK D.kp (.inr n))) = H3 at s3 hp3
  have hB3 := hB1.same s3
  have h13 := s3 _ _ (s1 _ _ h1)
  refine ⟨_, rfl, b, _, _, rfl, h13, rfl, _, rfl, b, _, _, rfl, h13, rfl, b, w', k, s, D, gs, nm, pn, rfl, hB3, s, D.dx, _, rfl, hB3.st.ins, rfl, _, rfl, b, _, _, rfl, h13, rfl, b, w', k, s, D, gs, nm, pn, rfl, hB3, s, CS K, D.dx, _, _, rfl, hB3.st.ins, T.cS, T.n_named, rfl, _, rfl, ?_⟩
  refine ⟨s, D.dn, p, w', D, gs, nm, pn, nm, KM.fup pn n none, D.kn, _, rfl, hB3.st, hB3.st.named, hB3.st.nm, hp3, hB.st.pn.drop inr_inj n, fun H8 s9 D9 s8 hs9 hst9 _ _ _ => ?_⟩
  refine ⟨b, w', k, s, D, gs, nm, pn, s9, D9, gs, nm, KM.fup pn n none, rfl, hB3.same s8, hk, hst9, ⟨hB.ok.five, hB.ok.inj, hB.ok.rng, fun o z h => ?_⟩, fun H10 bt hB10 => q H10 s9 D9 nm _ (((s1.trans s3).trans s8).but.trans bt) hB10⟩
  by_cases e : o = n
  · subst e; rw [KM.fup_same] at h; cases h
  · rw [KM.fup_ne e] at h; exact hB.ok.pin o z h
end KN

set_option Elab.async false
set_option linter.all false
set_option maxRecDepth 100000
set_option maxHeartbeats 4000000
/-! the book changed by items and rules -/
namespace KN
open PySem PySem.Spec PyProof.Rows L2 ClX StX
open C8 (Cal Met Mak CalAt pe_c pe_mk pe_mt pe_mt0 pss_cut tCut pe_gc)
/-- what a change of items or rule promises -/
def Done (K : PySem.W.Frag) (Q : VK) (H : Hp) (b : Addr) (w : Int) (k : Nat) (nm pn : Str → Option Int) : Prop :=
  ∀ (H' : Hp) (s' : Addr) (D' : StD) (gs' : List (List Int)) (nm' pn' : Str → Option Int), But b H H' → BkAt K w H' b (k + 1) s' D' gs' nm' pn' → Chg nm pn (idsK D'.kvs) gs' nm' pn' → Q .non H'
def spSetRule (K : PySem.W.Frag) : Sp := fun vs H Q _ => ∃ (b ru : Addr) (w : Int) (k : Nat) (s : Addr) (D : StD) (gs : List (List Int)) (nm pn : Str → Option Int) (ps : List (Int × Int)), vs = [.ref b, .ref ru] ∧ BkAt K w H b k s D gs nm pn ∧ k < 900 ∧ RuleAt H ru ps ∧ RuleOk w ps ∧ Done K Q H b w k nm pn
theorem ok_NameBook_set_rule {P : Program} {w : World} {K : PySem.W.Frag} {mg : Str → Option Value} {base : Heap} (T : Tx K mg) : Met P w K mg base 7 (CB K) "set_rule" (spSetRule K) [] := by
  obtain ⟨fd, F⟩ := T.d_NameBook_set_rule
  have G_NameBook_keep := ok_NameBook_keep (P := P) (w := w) (base := base) T
  have G_NameBook_now := ok_NameBook_now (P := P) (w := w) (base := base) T
  have G_State_changed := ok_State_changed (P := P) (w := w) (base := base) T
  have G_is_rule := ok_is_rule (P := P) (w := w) (base := base) T
  have bd : Binds K fd ["self", "rule"] [] := F.binds fun _ _ _ _ _ _ us hl => match us, hl with | [_, _], _ => rfl
  refine met_of (F.ok sc_NameBook_set_rule (fun vs H Q E h => ?len) (fun cdv A outer s H vs Q E hr h => ?body)) bd T.cB T.m_NameBook_set_rule
  case len => exact (by first | (obtain ⟨rfl, _⟩ := h; rfl) | (obtain ⟨_, rfl, _⟩ := h; rfl) | (obtain ⟨_, _, rfl, _⟩ := h; rfl) | (obtain ⟨_, _, _, rfl, _⟩ := h; rfl) | (obtain ⟨_, _, _, _, rfl, _⟩ := h; rfl) | (obtain ⟨_, _, _, _, _, rfl, _⟩ := h; rfl) | (obtain ⟨_, _, _, _, _, _, rfl, _⟩ := h; rfl) | (obtain ⟨_, _, _, _, _, _, _, rfl, _⟩ := h; rfl) | (obtain ⟨_, _, _, _, _, _, _, _, rfl, _⟩ := h; rfl) | (obtain ⟨_, _, _, _, _, _, _, _, _, rfl, _⟩ := h; rfl) | (obtain ⟨_, _, _, _, _, _, _, _, _, _, rfl, _⟩ := h; rfl) | (obtain ⟨_, _, _, _, _, _, _, _, _, _, _, rfl, _⟩ := h; rfl) | (obtain ⟨_, _, _, _, _, _, _, _, _, _, _, _, rfl, _⟩ := h; rfl) | (obtain ⟨_, _, _, _, _, _, _, _, _, _, _, _, _, rfl, _⟩ := h; rfl) | (obtain ⟨_, _, _, _, _, _, _, _, _, _, _, _, _, _, rfl, _⟩ := h; rfl) | (obtain ⟨_, _, _, _, _, _, _, _, _, _, _, _, _, _, _, rfl, _⟩ := h; rfl))
  case body =>
  have hu := hu_of hr
  refine ⟨_, (pss_cons (ps_if (pt_not (pt_val (pe_c G_is_rule hr (by decide) (by rfl) (pa_cons (pv 1) (pa_cons (pe_fldK K rfl (pv 0) rfl) pa_nil))))) (pss_one ps_never)
      pss_nil)
      (pss_one (ps_expr (pe_mt G_NameBook_keep hr (by decide) (pv 0) (pa_cons (pe_mt G_State_changed hr (by decide) (pe_mt0 G_NameBook_now hr (by decide) (pv 0)) (pa_cons (pe_fldK K rfl (pe_mt0 G_NameBook_now hr (by decide) (pv 0)) rfl) (pa_cons (pv 1) pa_nil))) pa_nil))))), ?_⟩
  obtain ⟨b, ru, w', k, s, D, gs, nm, pn, ps, rfl, hB, hk, hR, hok, q⟩ := h
  obtain ⟨dx, sl, ss, h1, _⟩ := id hB.ex
  refine ⟨_, rfl, _, rfl, b, CB K, dx, _, _, rfl, h1, T.cB, T.n_size, rfl, ru, ps, w', rfl, hR, hok, hB.w1, hB.w4, fun H1 s1 => ⟨_, rfl, iteF ?_⟩⟩
  have hB1 := hB.same s1
  have h11 := s1 _ _ h1
  refine ⟨_, rfl, b, _, _, rfl, h11, rfl, _, rfl, b, _, _, rfl, h11, rfl, b, w', k, s, D, gs, nm, pn, rfl, hB1, s, D.dx, _, rfl, hB1.st.ins, rfl, _, rfl, b, _, _, rfl, h11, rfl, b, w', k, s, D, gs, nm, pn, rfl, hB1, s, CS K, D.dx, _, _, rfl, hB1.st.ins, T.cS, T.n_store, rfl, _, rfl, s, D.di, ru, w', D, gs, nm, pn, D.kvs, ps, rfl, hB1.st, hB1.ok, hB1.st.store, hB1.st.items, hR.same s1, hok, ?_⟩
  intro H2 s' D' gs' nm' pn' s2 hs' hst hN' ek hc
  exact ⟨b, w', k, s, D, gs, nm, pn, s', D', gs', nm', pn', rfl, hB1.same s2, hk, hst, hN', fun H3 bt hB3 => q H3 s' D' gs' nm' pn' ((s1.trans s2).but.trans bt) hB3 (by rw [ek]; exact hc)⟩
theorem put_old {κ : Type} [DecidableEq κ] {kvs : List (κ × V)} {k : κ} {v y : V} (h : valV kvs k = some y) : (putK kvs k v).length = kvs.length := by
  have q : (kvs.any fun kv => decide (kv.1 = k)) = true := by rw [valV_any, h]; rfl
  unfold putK
  rw [if_pos q, List.length_map]
theorem Items.put {w : Int} {H : Hp} {kvs : List (Key × V)} {i : Int} {t : Addr} {wt : Int} {ns : List Int} (h : Items w H kvs) (hi1 : 1 ≤ i) (hi2 : i ≤ 39) (hit : ItemAt w H t wt ns) (hl : (putK kvs (.inl i) (.ref t)).length ≤ 20) : Items w H (putK kvs (.inl i) (.ref t)) :=
  ⟨keys_put _ _ _ h.nd, fun p hp => (mem_put hp).elim (h.el p) fun e => ⟨i, t, wt, ns, e, hi1, hi2, hit⟩, hl⟩
def spSetF (K : PySem.W.Frag) : Sp := fun vs H Q _ => ∃ (b p : Addr) (w : Int) (k : Nat) (s : Addr) (D : StD) (gs : List (List Int)) (nm pn : Str → Option Int) (i : Int) (ns : List Int), vs = [.ref b, .int i, .ref p] ∧ BkAt K w H b k s D gs nm pn ∧ k < 900 ∧ i ∈ idsK D.kvs ∧ H p = some (.tup (ns.map V.int)) ∧ (ns.length : Int) = w ∧ (∀ n ∈ ns, -1000000000 ≤ n ∧ n ≤ 1000000000) ∧ Done K Q H b w k nm pn
theorem ok_NameBook_set_fields {P : Program} {w : World} {K : PySem.W.Frag} {mg : Str → Option Value} {base : Heap} (T : Tx K mg) : MS P w K mg base 7 (CB K) "set_fields" (starSp 2 (spSetF K)) := by
  obtain ⟨fd, F⟩ := T.d_NameBook_set_fields
  have G_NameBook_all_items := ok_NameBook_all_items (P := P) (w := w) (base := base) T
  have G_NameBook_keep := ok_NameBook_keep (P := P) (w := w) (base := base) T
  have G_NameBook_need_known := ok_NameBook_need_known (P := P) (w := w) (base := base) T
  have G_NameBook_now := ok_NameBook_now (P := P) (w := w) (base := base) T
  have G_NameBook_rule := ok_NameBook_rule (P := P) (w := w) (base := base) T
  have G_State_changed := ok_State_changed (P := P) (w := w) (base := base) T
  have G_is_item := ok_is_item (P := P) (w := w) (base := base) T
  refine ⟨_, T.cB, T.m_NameBook_set_fields, Fun.star (ps := ["self", "row_id"]) (pv := "fields") F sc_NameBook_set_fields (fun kV doc pm an cdv ct => bind_star2 (B := fun l => bindArgs (PySem.W.fnOf "set_fields" "NameBook.set_fields" (defArgs s_NameBook_set_fields) (defBody s_NameBook_set_fields) (defScope s_NameBook_set_fields) .none kV doc pm an cdv ct) ⟨l, []⟩) (fun _ _ => rfl) (fun _ _ _ _ => rfl)) (fun cdv A outer s H vs Q E hr h => ?body)⟩
  case body =>
  have hu := hu_of hr
  refine ⟨_, (pss_cons (ps_if (pt_not (pt_val (pe_c G_is_item hr (by decide) (by rfl) (pa_cons (pe_tup (pa_cons (pv 1) (pa_cons pe_int (pa_cons (pv 2) pa_nil)))) (pa_cons (pe_fldK K rfl (pv 0) rfl) pa_nil))))) (pss_one ps_never)
      pss_nil)
      (pss_cons (ps_expr (pe_mt G_NameBook_need_known hr (by decide) (pv 0) (pa_cons (pv 1) pa_nil)))
      (pss_cons (ps_set (i := 3) sc_NameBook_set_fields.nd rfl (Or.inl rfl) (pe_mt0 G_NameBook_all_items hr (by decide) (pv 0)))
      (pss_cons (ps_dput hu (pv 3) (pv 1) (pe_tup (pa_cons (pe_ix (ixT K rfl) (pe_dget hu (pv 3) (pv 1) (fun _ _ => rfl)) pe_int (fun _ _ => rfl)) (pa_cons (pv 2) pa_nil))) rfl)
      (pss_one (ps_expr (pe_mt G_NameBook_keep hr (by decide) (pv 0) (pa_cons (pe_mt G_State_changed hr (by decide) (pe_mt0 G_NameBook_now hr (by decide) (pv 0)) (pa_cons (pv 3) (pa_cons (pe_pr G_NameBook_rule hr (by decide) (pv 0)) pa_nil))) pa_nil)))))))), ?_⟩
  obtain ⟨b, p, w', k, s, D, gs, nm, pn, i, ns, rfl, hB, hk, hi, hp, hw, hbd, q⟩ := h
  obtain ⟨dx, sl, ss, h1, _⟩ := id hB.ex
  obtain ⟨t0, wt, ns0, hv, hi1, hi2, hit⟩ := hB.st.items.get hi
  refine ⟨_, rfl, _, rfl, by show 3 ≤ sizeLine; decide, fun t ht => ?_⟩
  have s1 : Same H (upd H t (.tup [.int i, .int 1, .ref p])) := same_new ht
  have ht1 : upd H t (.tup [.int i, .int 1, .ref p]) t = some (.tup [.int i, .int 1, .ref p]) := upd_same
  generalize upd H t (.tup [.int i, .int 1, .ref p]) = H1 at s1 ht1
  refine ⟨_, rfl, b, CB K, dx, _, _, rfl, s1 _ _ h1, T.cB, T.n_size, rfl, t, p, i, 1, ns, (by rw [hw]; rfl), ht1, s1 _ _ hp, hi1, by omega, by decide, by decide, by have := hB.w4; omega, hbd, fun H2 s2 => ⟨_, rfl, iteF ?_⟩⟩
  have s02 := s1.trans s2
  refine ⟨_, rfl, b, _, _, rfl, s02 _ _ h1, rfl, _, rfl, b, w', k, s, D, gs, nm, pn, i, rfl, hB.same s02, hi, fun H3 s3 => ?_⟩
  have s03 := s02.trans s3
  refine ⟨_, rfl, b, _, _, rfl, s03 _ _ h1, rfl, b, w', k, s, D, gs, nm, pn, rfl, hB.same s03, fun H4 it s4 hit4 hit5 => ?_⟩
  have s04 := s03.trans s4
  have hB4 := hB.same s04
  have dg := dget_rd (.inl i) (Rd.of hit5)
  rw [hv] at dg
  obtain ⟨f0, g1, g2⟩ := (hit.same s04).f
  refine ⟨_, rfl, _, rfl, _, _, rfl, dg, _, _, _, _, rfl, rfl, SqT.of g1, atI_nat (j := 0) rfl, _, rfl, by show 2 ≤ sizeLine; decide, fun nt hnt => ⟨_, rfl, _, rfl, it, _, rfl, dput_k (.inl i) (.ref nt) ((same_new hnt) _ _ hit5) (by have := hB.st.items.len; omega), ?_⟩⟩
  have s5 : Same H3 (upd (upd H4 nt (.tup [.int wt, .ref p])) it (.dK (putK D.kvs (.inl i) (.ref nt)))) := (s4.new hnt).at hit4
  have h5i : upd (upd H4 nt (.tup [.int wt, .ref p])) it (.dK (putK D.kvs (.inl i) (.ref nt))) it = some (.dK (putK D.kvs (.inl i) (.ref nt))) := upd_same
  have nit : nt ≠ it := fun z => by subst z; rw [hit5] at hnt; cases hnt
  have h5n : upd (upd H4 nt (.tup [.int wt, .ref p])) it (.dK (putK D.kvs (.inl i) (.ref nt))) nt = some (.tup [.int wt, .ref p]) := by rw [upd_ne nit, upd_same]
  generalize upd (upd H4 nt (.tup [.int wt, .ref p])) it (.dK (putK D.kvs (.inl i) (.ref nt))) = H5 at s5 h5i h5n
  have s05 := s03.trans s5
  have hB5 := hB.same s05
  have h15 := s05 _ _ h1
  have hItems : Items w' H5 (putK D.kvs (.inl i) (.ref nt)) := hB5.st.items.put hi1 hi2 ⟨⟨p, h5n, s05 _ _ hp⟩, hw, hit.wt1, hit.wt2, hbd⟩ (by rw [put_old hv]; exact hB.st.items.len)
  refine ⟨_, rfl, b, _, _, rfl, h15, rfl, _, rfl, b, _, _, rfl, h15, rfl, b, w', k, s, D, gs, nm, pn, rfl, hB5, s, D.dx, _, rfl, hB5.st.ins, rfl, _, rfl, _, rfl, b, dx, _, rfl, h15, b, w', k, s, D, gs, nm, pn, rfl, hB5, s, it, D.ru, w', D, gs, nm, pn, _, D.ps, rfl, hB5.st, hB5.ok, h5i, hItems, hB5.st.rule, hB5.st.rok, ?_⟩
  intro H6 s' D' gs' nm' pn' s6 hs' hst hN' ek hc
  exact ⟨b, w', k, s, D, gs, nm, pn, s', D', gs', nm', pn', rfl, hB5.same s6, hk, hst, hN', fun H7 bt hB7 => q H7 s' D' gs' nm' pn' ((s05.trans s6).but.trans bt) hB7 (by rw [ek]; exact hc)⟩
def spAdd (K : PySem.W.Frag) : Sp := fun vs H Q _ => ∃ (b p : Addr) (w : Int) (k : Nat) (s : Addr) (D : StD) (gs : List (List Int)) (nm pn : Str → Option Int) (i wt : Int) (ns : List Int), vs = [.ref b, .int i, .int wt, .ref p] ∧ BkAt K w H b k s D gs nm pn ∧ k < 900 ∧ i ∉ idsK D.kvs ∧ 1 ≤ i ∧ i ≤ 39 ∧ 1 ≤ wt ∧ wt ≤ 1000000 ∧ D.kvs.length < 20 ∧
  H p = some (.tup (ns.map V.int)) ∧ (ns.length : Int) = w ∧ (∀ n ∈ ns, -1000000000 ≤ n ∧ n ≤ 1000000000) ∧ Done K Q H b w k nm pn
theorem ok_NameBook_add_item {P : Program} {w : World} {K : PySem.W.Frag} {mg : Str → Option Value} {base : Heap} (T : Tx K mg) : MS P w K mg base 7 (CB K) "add_item" (starSp 3 (spAdd K)) := by
  obtain ⟨fd, F⟩ := T.d_NameBook_add_item
  have G_NameBook_all_items := ok_NameBook_all_items (P := P) (w := w) (base := base) T
  have G_NameBook_keep := ok_NameBook_keep (P := P) (w := w) (base := base) T
  have G_NameBook_now := ok_NameBook_now (P := P) (w := w) (base := base) T
  have G_NameBook_rule := ok_NameBook_rule (P := P) (w := w) (base := base) T
  have G_State_changed := ok_State_changed (P := P) (w := w) (base := base) T
  have G_is_item := ok_is_item (P := P) (w := w) (base := base) T
  refine ⟨_, T.cB, T.m_NameBook_add_item, Fun.star (ps := ["self", "row_id", "weight"]) (pv := "fields") F sc_NameBook_add_item (fun kV doc pm an cdv ct => bind_star3 (B := fun l => bindArgs (PySem.W.fnOf "add_item" "NameBook.add_item" (defArgs s_NameBook_add_item) (defBody s_NameBook_add_item) (defScope s_NameBook_add_item) .none kV doc pm an cdv ct) ⟨l, []⟩) (fun _ _ _ => rfl) (fun _ _ _ _ _ => rfl)) (fun cdv A outer s H vs Q E hr h => ?body)⟩
  case body =>
  have hu := hu_of hr
  refine ⟨_, (pss_cons (ps_if (pt_not (pt_val (pe_c G_is_item hr (by decide) (by rfl) (pa_cons (pe_tup (pa_cons (pv 1) (pa_cons (pv 2) (pa_cons (pv 3) pa_nil)))) (pa_cons (pe_fldK K rfl (pv 0) rfl) pa_nil))))) (pss_one ps_never)
      pss_nil)
      (pss_cons (ps_set (i := 4) sc_NameBook_add_item.nd rfl (Or.inl rfl) (pe_mt0 G_NameBook_all_items hr (by decide) (pv 0)))
      (pss_cons (ps_if (pt_cmp (pc_din hu (pv 1) (pv 4)) rfl) (pss_one ps_never)
      pss_nil)
      (pss_cons (ps_if (pt_cmpR op_eq (pe_callB call_lenD (by rfl) T.z_len PySem.boot_len (pa_cons (pv 4) pa_nil)) (pe_con (pv 0) rfl) (nomark _)) (pss_one ps_never)
      pss_nil)
      (pss_cons (ps_dput hu (pv 4) (pv 1) (pe_tup (pa_cons (pv 2) (pa_cons (pv 3) pa_nil))) rfl)
      (pss_one (ps_expr (pe_mt G_NameBook_keep hr (by decide) (pv 0) (pa_cons (pe_mt G_State_changed hr (by decide) (pe_mt0 G_NameBook_now hr (by decide) (pv 0)) (pa_cons (pv 4) (pa_cons (pe_pr G_NameBook_rule hr (by decide) (pv 0)) pa_nil))) pa_nil))))))))), ?_⟩
  obtain ⟨b, p, w', k, s, D, gs, nm, pn, i, wt, ns, rfl, hB, hk, hi, hi1, hi2, hw1, hw2, hlen, hp, hw, hbd, q⟩ := h
  obtain ⟨dx, sl, ss, h1, _⟩ := id hB.ex
  obtain ⟨tc, hcon⟩ := T.con
  refine ⟨_, rfl, _, rfl, _, rfl, by show 3 ≤ sizeLine; decide, fun t ht => ?_⟩
  have s1 : Same H (upd H t (.tup [.int i, .int wt, .ref p])) := same_new ht
  have ht1 : upd H t (.tup [.int i, .int wt, .ref p]) t = some (.tup [.int i, .int wt, .ref p]) := upd_same
  generalize upd H t (.tup [.int i, .int wt, .ref p]) = H1 at s1 ht1
  refine ⟨_, rfl, b, CB K, dx, _, _, rfl, s1 _ _ h1, T.cB, T.n_size, rfl, t, p, i, wt, ns, (by rw [hw]; rfl), ht1, s1 _ _ hp, hi1, by omega, hw1, hw2, by have := hB.w4; omega, hbd, fun H2 s2 => ⟨_, rfl, iteF ?_⟩⟩
  have s03 := s1.trans s2
  refine ⟨_, rfl, b, _, _, rfl, s03 _ _ h1, rfl, b, w', k, s, D, gs, nm, pn, rfl, hB.same s03, fun H4 it s4 hit4 hit5 => ?_⟩
  have s04 := s03.trans s4
  have dg := dget_rd (.inl i) (Rd.of hit5)
  rw [hB.st.items.no hi] at dg
  refine ⟨_, rfl, _, rfl, _, _, rfl, dg, _, rfl, iteF ⟨_, rfl, _, _, rfl, hit5, _, rfl, b, CB K, dx, _, _, _, rfl, s04 _ _ h1, T.cB, hcon, rfl, rfl, _, rfl, iteDF (fun z => by have := V.int.inj z; omega) ?_⟩⟩
  refine ⟨_, rfl, _, rfl, by show 2 ≤ sizeLine; decide, fun nt hnt => ⟨_, rfl, _, rfl, it, _, rfl, dput_k (.inl i) (.ref nt) ((same_new hnt) _ _ hit5) (by omega), ?_⟩⟩
  have s5 : Same H2 (upd (upd H4 nt (.tup [.int wt, .ref p])) it (.dK (putK D.kvs (.inl i) (.ref nt)))) := (s4.new hnt).at hit4
  have h5i : upd (upd H4 nt (.tup [.int wt, .ref p])) it (.dK (putK D.kvs (.inl i) (.ref nt))) it = some (.dK (putK D.kvs (.inl i) (.ref nt))) := upd_same
  have nit : nt ≠ it := fun z => by subst z; rw [hit5] at hnt; cases hnt
  have h5n : upd (upd H4 nt (.tup [.int wt, .ref p])) it (.dK (putK D.kvs (.inl i) (.ref nt))) nt = some (.tup [.int wt, .ref p]) := by rw [upd_ne nit, upd_same]
  generalize upd (upd H4 nt (.tup [.int wt, .ref p])) it (.dK (putK D.kvs (.inl i) (.ref nt))) = H5 at s5 h5i h5n
  have s05 := s03.trans s5
  have hB5 := hB.same s05
  have h15 := s05 _ _ h1
  have hItems : Items w' H5 (putK D.kvs (.inl i) (.ref nt)) := hB5.st.items.put hi1 hi2 ⟨⟨p, h5n, s05 _ _ hp⟩, hw, hw1, hw2, hbd⟩ (by have := length_putK D.kvs (.inl i) (V.ref nt); omega)
  refine ⟨_, rfl, b, _, _, rfl, h15, rfl, _, rfl, b, _, _, rfl, h15, rfl, b, w', k, s, D, gs, nm, pn, rfl, hB5, s, D.dx, _, rfl, hB5.st.ins, rfl, _, rfl, _, rfl, b, dx, _, rfl, h15, b, w', k, s, D, gs, nm, pn, rfl, hB5, s, it, D.ru, w', D, gs, nm, pn, _, D.ps, rfl, hB5.st, hB5.ok, h5i, hItems, hB5.st.rule, hB5.st.rok, ?_⟩
  intro H6 s' D' gs' nm' pn' s6 hs' hst hN' ek hc
  exact ⟨b, w', k, s, D, gs, nm, pn, s', D', gs', nm', pn', rfl, hB5.same s6, hk, hst, hN', fun H7 bt hB7 => q H7 s' D' gs' nm' pn' ((s05.trans s6).but.trans bt) hB7 (by rw [ek]; exact hc)⟩
end KN

set_option Elab.async false
set_option linter.all false
set_option maxRecDepth 100000
set_option maxHeartbeats 4000000
/-! an item dropped; books made -/
namespace KN
open PySem PySem.Spec PyProof.Rows L2 ClX StX
open C8 (Cal Met Mak CalAt pe_c pe_mk pe_mt pe_mt0 pss_cut tCut pe_gc)
def spNowX (K : PySem.W.Frag) : Sp := fun vs H Q _ => ∃ (b dx sl : Addr) (w : Int) (k : Nat) (ss : List Addr) (s : Addr), vs = [.ref b] ∧ H b = some (.ins (CB K) dx (bF w sl k)) ∧ H sl = some (.lst (ss.map V.ref)) ∧ ss[k]? = some s ∧ Q (.ref s) H
theorem ok_NameBook_nowX {P : Program} {w : World} {K : PySem.W.Frag} {mg : Str → Option Value} {base : Heap} (T : Tx K mg) : Met P w K mg base 1 (CB K) "now" (spNowX K) [] := by
  obtain ⟨fd, F⟩ := T.d_NameBook_now
  have bd : Binds K fd ["self"] [] := F.binds fun _ _ _ _ _ _ us hl => match us, hl with | [_], _ => rfl
  refine met_of (F.ok sc_NameBook_now (fun vs H Q E h => ?len) (fun cdv A outer s H vs Q E hr h => ?body)) bd T.cB T.m_NameBook_now
  case len => exact (by first | (obtain ⟨rfl, _⟩ := h; rfl) | (obtain ⟨_, rfl, _⟩ := h; rfl) | (obtain ⟨_, _, rfl, _⟩ := h; rfl) | (obtain ⟨_, _, _, rfl, _⟩ := h; rfl) | (obtain ⟨_, _, _, _, rfl, _⟩ := h; rfl) | (obtain ⟨_, _, _, _, _, rfl, _⟩ := h; rfl) | (obtain ⟨_, _, _, _, _, _, rfl, _⟩ := h; rfl) | (obtain ⟨_, _, _, _, _, _, _, rfl, _⟩ := h; rfl) | (obtain ⟨_, _, _, _, _, _, _, _, rfl, _⟩ := h; rfl) | (obtain ⟨_, _, _, _, _, _, _, _, _, rfl, _⟩ := h; rfl) | (obtain ⟨_, _, _, _, _, _, _, _, _, _, rfl, _⟩ := h; rfl) | (obtain ⟨_, _, _, _, _, _, _, _, _, _, _, rfl, _⟩ := h; rfl) | (obtain ⟨_, _, _, _, _, _, _, _, _, _, _, _, rfl, _⟩ := h; rfl) | (obtain ⟨_, _, _, _, _, _, _, _, _, _, _, _, _, rfl, _⟩ := h; rfl) | (obtain ⟨_, _, _, _, _, _, _, _, _, _, _, _, _, _, rfl, _⟩ := h; rfl) | (obtain ⟨_, _, _, _, _, _, _, _, _, _, _, _, _, _, _, rfl, _⟩ := h; rfl))
  case body =>
  have hu := hu_of hr
  refine ⟨_, (pss_one (ps_ret (pe_ix (ixL K rfl) (pe_fldK K rfl (pv 0) rfl) (pe_fldK K rfl (pv 0) rfl) (fun _ _ => rfl)))), ?_⟩
  obtain ⟨b, dx, sl, w', k, ss, s, rfl, h1, h2, h3, q⟩ := h
  exact ⟨_, rfl, b, CB K, dx, _, _, rfl, h1, T.cB, T.n_states, rfl, _, rfl, b, CB K, dx, _, _, rfl, h1, T.cB, T.n_spot, rfl, _, _, _, _, rfl, rfl, SqL.of h2, atI_nat (j := k) (v := .ref s) (by rw [List.getElem?_map, h3]; rfl), q⟩
def spDrop (K : PySem.W.Frag) : Sp := fun vs H Q _ => ∃ (b p : Addr) (w : Int) (k : Nat) (s : Addr) (D : StD) (gs : List (List Int)) (nm pn : Str → Option Int) (i : Int), vs = [.ref b, .ref p] ∧ BkAt K w H b k s D gs nm pn ∧ k < 900 ∧ i ∈ idsK D.kvs ∧ H p = some (.tup [.int i]) ∧ Done K Q H b w k nm pn
theorem ok_NameBook_drop {P : Program} {w : World} {K : PySem.W.Frag} {mg : Str → Option Value} {base : Heap} (T : Tx K mg) : MS P w K mg base 7 (CB K) "drop" (starSp 1 (spDrop K)) := by
  obtain ⟨fd, F⟩ := T.d_NameBook_drop
  have G_NameBook_keep := ok_NameBook_keep (P := P) (w := w) (base := base) T
  have G_NameBook_need_known := ok_NameBook_need_known (P := P) (w := w) (base := base) T
  have G_NameBook_now := ok_NameBook_nowX (P := P) (w := w) (base := base) T
  have G_NameBook_rule := ok_NameBook_rule (P := P) (w := w) (base := base) T
  have G_State_changed := ok_State_changed (P := P) (w := w) (base := base) T
  have G_is_id_book := ok_is_id_book (P := P) (w := w) (base := base) T
  refine ⟨_, T.cB, T.m_NameBook_drop, Fun.star (ps := ["self"]) (pv := "ids") F sc_NameBook_drop (fun kV doc pm an cdv ct => bind_star1 (B := fun l => bindArgs (PySem.W.fnOf "drop" "NameBook.drop" (defArgs s_NameBook_drop) (defBody s_NameBook_drop) (defScope s_NameBook_drop) .none kV doc pm an cdv ct) ⟨l, []⟩) (fun _ => rfl) (fun _ _ _ => rfl)) (fun cdv A outer s H vs Q E hr h => ?body)⟩
  case body =>
  have hu := hu_of hr
  refine ⟨_, (pss_cons (ps_if (PW.pt (pw_or (pt_not (pt_val (pe_callB (cr_all rfl) (by rfl) T.z_all (by decide +kernel) (pa_cons (pe_lc (own := [("row_id", 2)]) rfl sc_NameBook_drop.nd (pi_tupK K rfl (pv 1)) (blkOk_by (own := [("row_id", 2)]) (N := N_NameBook_drop) (sc := defScope s_NameBook_drop) (by decide +kernel)) (fun _ _ _ _ _ => (pg_name (i := 2) sc_NameBook_drop.nd rfl (Or.inl rfl))) (fun _ _ _ _ _ => pts_nil) (fun _ _ _ _ _ => (pe_c G_is_id_book hr (by decide) (by rfl) (pa_cons (pv 2) pa_nil)))) pa_nil)))) (pw_or1 (pt_cmpR op_lt (pe_lenSetT rfl T.z_len rfl T.z_set (pv 1)) (pe_callB (lenS K rfl) (by rfl) T.z_len PySem.boot_len (pa_cons (pv 1) pa_nil)) (nomark _))))) (pss_one ps_never)
      pss_nil)
      (pss_cons (ps_for PassesOwn.never rfl (pi_tupK K rfl (pv 1)) (pg_name (i := 2) sc_NameBook_drop.nd rfl (Or.inl rfl))
      (pss_one (ps_expr (pe_mt G_NameBook_need_known hr (by decide) (pv 0) (pa_cons (pv 2) pa_nil)))))
      (pss_cons (ps_lock (ps_setDc1 (i := 3) (own := [("row_id", 2), ("item", 4)]) (.inl rfl) hu rfl sc_NameBook_drop.nd rfl rfl (swD_true rfl rfl rfl (by decide +kernel)) (pi_items (pe_fldK K rfl (pe_mt0 G_NameBook_now hr (by decide) (pv 0)) rfl)) (blkOk_by (own := [("row_id", 2), ("item", 4)]) (N := N_NameBook_drop) (sc := defScope s_NameBook_drop) (by decide +kernel)) (fun _ _ _ _ _ => by exact (pg_tupK K rfl 2 rfl (pgs_cons (pg_name (i := 2) sc_NameBook_drop.nd rfl (Or.inl rfl)) (pgs_cons (pg_name (i := 4) sc_NameBook_drop.nd rfl (Or.inl rfl)) pgs_nil)))) (fun _ _ _ _ _ => (pts_one (pt_cmpR (niS K rfl) (pv 2) (pv 1) rfl))) (fun _ _ _ _ _ => (pv 2)) (fun _ _ _ _ _ => (pv 4))))
      (pss_one (ps_expr (pe_mt G_NameBook_keep hr (by decide) (pv 0) (pa_cons (pe_mt G_State_changed hr (by decide) (pe_mt0 G_NameBook_now hr (by decide) (pv 0)) (pa_cons (pv 3) (pa_cons (pe_pr G_NameBook_rule hr (by decide) (pv 0)) pa_nil))) pa_nil))))))), ?_⟩
  obtain ⟨b, p, w', k, s, D, gs, nm, pn, i, rfl, hB, hk, hi, hp, q⟩ := h
  obtain ⟨dx, sl, ss, h1, h2, h3, h4⟩ := id hB.ex
  obtain ⟨t0, wt, ns0, hv, hi1, hi2, hit⟩ := hB.st.items.get hi
  have hp' : H p = some (.tup (([i] : List Int).map V.int)) := hp
  refine ⟨_, rfl, p, rfl, ⟨_, SqT.of hp⟩, fun E' hE => ?_⟩
  refine lc_tup (K := K) (a := p) (xs := [V.int i]) (fun j H' => Same H H' ∧ H' E' = some (.lst ((List.replicate j true).map V.bl))) ⟨same_new hE, upd_same⟩ (fun j H' _ ⟨s1, _⟩ => SqT.of (s1 _ _ hp)) ?_ ?_
  · rintro j x H' hx ⟨s1, hE1⟩
    have hj : j = 0 := by cases j with | zero => rfl | succ n => simp at hx
    subst hj
    cases hx
    refine ⟨rfl, yes (iteT ⟨_, rfl, i, rfl, hi1, by omega, fun H2 s2 => ⟨_, s2 _ _ hE1, by decide, (s1.trans s2).at hE, by rw [upd_same]; rfl⟩⟩)⟩
  rintro H1 ⟨s1, hE1⟩
  refine ⟨E', _, rfl, SqL.of hE1, _, rfl, iteF ⟨_, rfl, p, [i], rfl, SqT.of (s1 _ _ hp'), by simp, by simp, _, rfl, _, _, rfl, .inr (SqT.of (s1 _ _ hp)), _, _, rfl, rfl, _, rfl, iteDF (by simp) ?_⟩⟩
  refine ⟨_, rfl, p, rfl, ⟨_, SqT.of (s1 _ _ hp)⟩, ?_⟩
  refine for_it (walk_tup (K := K) (a := p) (xs := [V.int i])) (fun j σ H' => ∃ v, σ = [some (.ref b), some (.ref p), v, none, none] ∧ Same H H') ?_ ?_ ?_ ?_
  · exact ⟨none, rfl, s1⟩
  · rintro j σ H' _ ⟨v, rfl, s2⟩
    exact SqT.of (s2 _ _ hp)
  · rintro j x σ H2 H3 hj ⟨v, rfl, s2⟩ ⟨rfl, hx⟩
    have hj0 : j = 0 := by simp at hj; exact hj
    subst hj0
    cases hx
    exact ⟨_, rfl, b, _, _, rfl, s2 _ _ h1, rfl, _, rfl, b, w', k, s, D, gs, nm, pn, i, rfl, hB.same s2, hi, fun H4 s4 => ⟨_, rfl, s2.trans s4⟩⟩
  rintro σ H2 ⟨v, rfl, s2⟩
  have hB2 := hB.same s2
  -- items
  refine ⟨D.di, _, hB2.st.store, trivial, fun od => ?_⟩
  have c0 : upd H2 D.di (.frz od (.dK D.kvs)) D.di = some (.frz od (.dK D.kvs)) := upd_same
  have cb := lk (od := od) hB2.st.store (s2 _ _ h1) (fun z => nomatch z)
  have cl := lk (od := od) hB2.st.store (s2 _ _ h2) (fun z => nomatch z)
  have cs := lk (od := od) hB2.st.store hB2.st.ins (fun z => nomatch z)
  have cp := lk (od := od) hB2.st.store (s2 _ _ hp') (fun z => nomatch z)
  refine ⟨_, rfl, b, dx, _, rfl, cb, rfl, b, dx, sl, w', k, ss, s, rfl, cb, cl, h3, s, CS K, D.dx, _, _, rfl, cs, T.cS, T.n_store, rfl, _, _, _, rfl, c0, fun M hM => ?_⟩
  have nMd : M ≠ D.di := fun z => by subst z; rw [c0] at hM; cases hM
  have hMH : H2 M = none := by rw [upd_ne nMd] at hM; exact hM
  refine dc_it (walk_items (kvs := D.kvs)) (fun j H' => ∃ K2 : List (Key × V), Same (upd H2 D.di (.frz od (.dK D.kvs))) H' ∧ H' M = some (.dK K2) ∧ (K2.map (·.1)).Nodup ∧ (∀ p ∈ K2, p ∈ D.kvs) ∧ K2.length ≤ j) ?_ ?_ ?_ ?_
  · exact ⟨[], same_new hM, upd_same, .nil, fun p h => (nomatch h), Nat.le_refl _⟩
  · rintro j H' _ ⟨_, s, _⟩
    exact s _ _ c0
  · rintro j x Ha Hb hj ⟨K2, sa, hK2, hnd, hsub, hl⟩ ⟨T2, y1, y2, rfl, hT, rfl, e1, e2⟩
    obtain ⟨⟨ky, vl⟩, hkv, e3⟩ := Option.map_eq_some_iff.mp e1
    replace e2 : D.kvs[j]?.map Prod.snd = some y2 := e2
    rw [hkv] at e2
    cases e2
    obtain ⟨i', t, wt', ns', e4, _, _, _⟩ := hB.st.items.el _ (List.mem_of_getElem? hkv)
    cases e4
    subst e3
    have hj20 : j < 20 := by have := hB.st.items.len; omega
    have sT : Same (upd H2 D.di (.frz od (.dK D.kvs))) (upd Ha T2 (.tup [kV (.inl i'), .ref t])) := sa.new hT
    have hkT := (same_new (o := .tup [kV (.inl i'), .ref t]) hT) _ _ hK2
    have hTT : upd Ha T2 (.tup [kV (.inl i'), .ref t]) T2 = some (.tup [kV (.inl i'), .ref t]) := upd_same
    generalize upd Ha T2 (.tup [kV (.inl i'), .ref t]) = Hc at sT hkT hTT
    refine ⟨T2, _, rfl, SqT.of hTT, rfl, _, _, rfl, _, _, rfl, rfl, rfl, _, rfl, _, rfl, _, _, rfl, .inr (SqT.of (sT _ _ cp)), rfl, flat_int [i], _, rfl, ?_⟩
    show if (!inV (.int i') (([i] : List Int).map V.int)) = true then _ else _
    rw [inV_int]
    by_cases hii : i' ∈ ([i] : List Int)
    · rw [decide_eq_true hii]; exact iteF ⟨K2, sT, hkT, hnd, hsub, by omega⟩
    · rw [decide_eq_false hii]
      refine iteT ⟨_, rfl, _, rfl, _, dput_k (.inl i') (.ref t) hkT (by omega), _, sT.at hM, upd_same, keys_put _ _ _ hnd, fun p hp => (mem_put hp).elim (hsub p) fun e => ?_, by have := length_putK K2 (.inl i') (V.ref t); omega⟩
      rw [e]; exact List.mem_of_getElem? hkv
  rintro Ha ⟨K2, sa, hK2, hnd, hsub, hl⟩
  refine ⟨sa _ _ c0, ?_⟩
  have sU : Same H2 (upd Ha D.di (.dK D.kvs)) := unlock hB2.st.store sa
  have hK3 : upd Ha D.di (.dK D.kvs) M = some (.dK K2) := by rw [upd_ne nMd]; exact hK2
  generalize upd Ha D.di (.dK D.kvs) = H5 at sU hK3
  have s05 := s2.trans sU
  have hB5 := hB.same s05
  have h15 := s05 _ _ h1
  have h25 := s05 _ _ h2
  have hItems : Items w' H5 K2 := ⟨hnd, fun p hp => hB5.st.items.el p (hsub p hp), by have := hB.st.items.len; omega⟩
  refine ⟨_, rfl, b, _, _, rfl, h15, rfl, _, rfl, b, _, _, rfl, h15, rfl, b, dx, sl, w', k, ss, s, rfl, h15, h25, h3, s, D.dx, _, rfl, hB5.st.ins, rfl, _, rfl, _, rfl, b, dx, _, rfl, h15, b, w', k, s, D, gs, nm, pn, rfl, hB5, s, M, D.ru, w', D, gs, nm, pn, _, D.ps, rfl, hB5.st, hB5.ok, hK3, hItems, hB5.st.rule, hB5.st.rok, ?_⟩
  intro H6 s' D' gs' nm' pn' s6 hs' hst hN' ek hc
  exact ⟨b, w', k, s, D, gs, nm, pn, s', D', gs', nm', pn', rfl, hB5.same s6, hk, hst, hN', fun H7 bt hB7 => q H7 s' D' gs' nm' pn' ((s05.trans s6).but.trans bt) hB7 (by rw [ek]; exact hc)⟩
/-! ### books made -/
def spBInit (K : PySem.W.Frag) : Sp := fun vs H Q _ => ∃ (Hb : Hp) (b dx ru : Addr) (w : Int) (ps : List (Int × Int)), vs = [.ref b, .int w, .ref ru] ∧ H b = some (.ins (CB K) dx []) ∧ Hb b = none ∧ Same Hb H ∧ RuleAt Hb ru ps ∧ RuleOk w ps ∧ 1 ≤ w ∧ w ≤ 4 ∧
  ∀ (H' : Hp) (s : Addr) (D : StD) (gs : List (List Int)), Same Hb H' → BkAt K w H' b 0 s D gs (fun _ => none) (fun _ => none) → D.kvs = [] → D.dx = D.dx → (∃ sl, H' b = some (.ins (CB K) dx (bF w sl 0))) → Q .non H'
theorem ok_NameBook_init {P : Program} {w : World} {K : PySem.W.Frag} {mg : Str → Option Value} {base : Heap} (T : Tx K mg) : MKN P w K mg base 6 (CB K) 1 ["rule"] (fun vs zs => vs ++ zs) (spBInit K) := by
  obtain ⟨fd, F⟩ := T.d_NameBook_init
  have G_State_init := ok_State_init (P := P) (w := w) (base := base) T
  have G_is_rule := ok_is_rule (P := P) (w := w) (base := base) T
  refine ⟨_, fd, ["self", "width", "rule"], _, T.mkB, (F.ok sc_NameBook_init (fun vs H Q E h => ?len) (fun cdv A outer s H vs Q E hr h => ?body)), kbn_of F 2 ["rule"] (fun us ws => us ++ ws) (fun r1 r2 => r1.append r2) (fun _ _ _ _ _ _ us ws l1 l2 => match us, ws, l1, l2 with | [_, _], [_], _, _ => rfl)⟩
  case len => exact (by first | (obtain ⟨rfl, _⟩ := h; rfl) | (obtain ⟨_, rfl, _⟩ := h; rfl) | (obtain ⟨_, _, rfl, _⟩ := h; rfl) | (obtain ⟨_, _, _, rfl, _⟩ := h; rfl) | (obtain ⟨_, _, _, _, rfl, _⟩ := h; rfl) | (obtain ⟨_, _, _, _, _, rfl, _⟩ := h; rfl) | (obtain ⟨_, _, _, _, _, _, rfl, _⟩ := h; rfl) | (obtain ⟨_, _, _, _, _, _, _, rfl, _⟩ := h; rfl) | (obtain ⟨_, _, _, _, _, _, _, _, rfl, _⟩ := h; rfl) | (obtain ⟨_, _, _, _, _, _, _, _, _, rfl, _⟩ := h; rfl) | (obtain ⟨_, _, _, _, _, _, _, _, _, _, rfl, _⟩ := h; rfl) | (obtain ⟨_, _, _, _, _, _, _, _, _, _, _, rfl, _⟩ := h; rfl) | (obtain ⟨_, _, _, _, _, _, _, _, _, _, _, _, rfl, _⟩ := h; rfl) | (obtain ⟨_, _, _, _, _, _, _, _, _, _, _, _, _, rfl, _⟩ := h; rfl) | (obtain ⟨_, _, _, _, _, _, _, _, _, _, _, _, _, _, rfl, _⟩ := h; rfl) | (obtain ⟨_, _, _, _, _, _, _, _, _, _, _, _, _, _, _, rfl, _⟩ := h; rfl))
  case body =>
  have hu := hu_of hr
  refine ⟨_, (pss_cons (ps_if (pt_not (pt_val (pe_c G_is_rule hr (by decide) (by rfl) (pa_cons (pv 2) (pa_cons (pv 1) pa_nil))))) (pss_one ps_never)
      pss_nil)
      (pss_cons (ps_fld (pv 0) (pv 1) rfl)
      (pss_cons (ps_fld (pv 0) (pe_lst (pa_cons (pe_mk G_State_init hr (by decide) (by rfl) (pa_cons pe_dnewK (pa_cons (pv 2) (pa_cons pe_dnewK (pa_cons pe_dnewK pa_nil))))) pa_nil)) rfl)
      (pss_cons (ps_fld (pv 0) pe_int rfl)
      (pss_one (ps_fld (pv 0) pe_int rfl)))))), ?_⟩
  obtain ⟨Hb, b, dx, ru, w', ps, rfl, hb, hbn, sb, hR, hok, hw1, hw4, q⟩ := h
  refine ⟨_, rfl, _, rfl, ru, ps, w', rfl, hR.same sb, hok, hw1, hw4, fun H1 s1 => ⟨_, rfl, iteF ?_⟩⟩
  have sb1 := sb.trans s1
  have hb1 := s1 _ _ hb
  refine ⟨_, rfl, _, rfl, b, CB K, dx, _, rfl, hb1, T.cB, T.n_size, (show (0 : Nat) < 1000 by decide), ?_⟩
  have sb2 := sb1.at (o := .ins (CB K) dx (putF "size" (.int w') [])) hbn
  have hb2 : upd H1 b (.ins (CB K) dx (putF "size" (.int w') [])) b = some (.ins (CB K) dx (putF "size" (.int w') [])) := upd_same
  generalize upd H1 b (.ins (CB K) dx (putF "size" (.int w') [])) = H2 at sb2 hb2
  -- State({}, rule, {}, {})
  refine fun a1 ha1 => ⟨_, rfl, fun a2 ha2 => fun a3 ha3 => ?_⟩
  have n12 : a2 ≠ a1 := fun z => by subst z; rw [upd_same] at ha2; cases ha2
  have n13 : a3 ≠ a1 := fun z => by subst z; rw [upd_ne n12.symm, upd_same] at ha3; cases ha3
  have n23 : a3 ≠ a2 := fun z => by subst z; rw [upd_same] at ha3; cases ha3
  have s3 : Same H2 (upd (upd (upd H2 a1 (.dK [])) a2 (.dK [])) a3 (.dK [])) := ((same_new ha1).new ha2).new ha3
  have b1 : upd (upd (upd H2 a1 (.dK [])) a2 (.dK [])) a3 (.dK []) a1 = some (.dK []) := by rw [upd_ne n13.symm, upd_ne n12.symm, upd_same]
  have b2 : upd (upd (upd H2 a1 (.dK [])) a2 (.dK [])) a3 (.dK []) a2 = some (.dK []) := by rw [upd_ne n23.symm, upd_same]
  have b3 : upd (upd (upd H2 a1 (.dK [])) a2 (.dK [])) a3 (.dK []) a3 = some (.dK []) := upd_same
  generalize upd (upd (upd H2 a1 (.dK [])) a2 (.dK [])) a3 (.dK []) = H3 at s3 b1 b2 b3
  have sb3 := sb2.trans s3
  have hb3 := s3 _ _ hb2
  intro nx ndx hnx hndx hnn
  refine st_makeX (w := w') hnx hndx (nm := fun _ => none) (pn := fun _ => none) b1 ⟨.nil, fun p h => (nomatch h), Nat.zero_le _⟩ (hR.same sb3) hok b2 .nil b3 .nil fun H4 D gs s4 hst e1 e2 e3 e4 e5 e6 e7 e8 => ?_
  have sb4 := sb3.trans s4
  have hb4 := s4 _ _ hb3
  refine ⟨by show 1 ≤ sizeLine; decide, fun sl hsl => ?_⟩
  have nsb : b ≠ sl := fun z => by subst z; rw [hb4] at hsl; cases hsl
  have sb5 : Same Hb (upd H4 sl (.lst [.ref nx])) := sb4.new hsl
  have hst5 := hst.same (same_new (o := .lst [.ref nx]) hsl)
  have hb5 := (same_new (o := .lst [.ref nx]) hsl) _ _ hb4
  have hl5 : upd H4 sl (.lst [.ref nx]) sl = some (.lst (([nx] : List Addr).map V.ref)) := upd_same
  generalize upd H4 sl (.lst [.ref nx]) = H5 at sb5 hst5 hb5 hl5
  refine ⟨_, rfl, b, CB K, dx, _, rfl, hb5, T.cB, T.n_states, (show (1 : Nat) < 1000 by decide), ?_⟩
  refine ⟨_, rfl, b, CB K, dx, _, rfl, upd_same, T.cB, T.n_spot, (show (2 : Nat) < 1000 by decide), ?_⟩
  refine ⟨_, rfl, b, CB K, dx, _, rfl, upd_same, T.cB, T.n_depth, (show (3 : Nat) < 1000 by decide), ?_⟩
  refine q _ nx D gs (((sb5.at hbn).at hbn).at hbn) ⟨⟨dx, sl, [nx], upd_same, by rw [upd_ne nsb.symm, upd_ne nsb.symm, upd_ne nsb.symm]; exact hl5, rfl, Nat.le_refl _⟩, ?_, ⟨fun n z h => (nomatch h), fun n n' z h => (nomatch h), fun n z h => (nomatch h), fun n i h => (nomatch h)⟩, hw1, hw4⟩ e5 rfl ⟨sl, upd_same⟩
  refine hst5.move fun a o ho hso => ?_
  have : a ≠ b := fun z => by
    subst z; rw [hb5] at ho; cases ho
    exact absurd (show (1 : Nat) = 5 from hso) (by decide)
  rw [upd_ne this, upd_ne this, upd_ne this]; exact ho
/-- a book with the state of another -/
def spMade (K : PySem.W.Frag) : Sp := fun vs H Q _ => ∃ (w : Int) (s0 : Addr) (D0 : StD) (gs : List (List Int)) (nm pn : Str → Option Int), vs = [.ref (CB K), .int w, .ref D0.ru, .ref D0.di, .ref D0.dn, .ref D0.dp] ∧ StAt K w H s0 D0 gs nm pn ∧ NOk gs nm pn ∧ 1 ≤ w ∧ w ≤ 4 ∧
  ∀ (H' : Hp) (b s : Addr) (D : StD), Same H H' → H b = none → BkAt K w H' b 0 s D gs nm pn → D.kvs = D0.kvs → Q (.ref b) H'
theorem ok_NameBook_made {P : Program} {w : World} {K : PySem.W.Frag} {mg : Str → Option Value} {base : Heap} (T : Tx K mg) : CM P w K mg base 8 "NameBook" (CB K) "made" (spMade K) := by
  obtain ⟨fd, F⟩ := T.d_NameBook_made
  have G_NameBook_init := ok_NameBook_init (P := P) (w := w) (base := base) T
  have G_State_init := ok_State_init (P := P) (w := w) (base := base) T
  have bd : Binds K fd ["cls", "width", "rule", "items", "names", "pins"] [] := F.binds fun _ _ _ _ _ _ us hl => match us, hl with | [_, _, _, _, _, _], _ => rfl
  refine ⟨_, _, _, T.g_NameBook, T.cr, T.cm, raw0 (F.ok sc_NameBook_made (fun vs H Q E h => ?len) (fun cdv A outer s H vs Q E hr h => ?body)) bd⟩
  case len => exact (by first | (obtain ⟨rfl, _⟩ := h; rfl) | (obtain ⟨_, rfl, _⟩ := h; rfl) | (obtain ⟨_, _, rfl, _⟩ := h; rfl) | (obtain ⟨_, _, _, rfl, _⟩ := h; rfl) | (obtain ⟨_, _, _, _, rfl, _⟩ := h; rfl) | (obtain ⟨_, _, _, _, _, rfl, _⟩ := h; rfl) | (obtain ⟨_, _, _, _, _, _, rfl, _⟩ := h; rfl) | (obtain ⟨_, _, _, _, _, _, _, rfl, _⟩ := h; rfl) | (obtain ⟨_, _, _, _, _, _, _, _, rfl, _⟩ := h; rfl) | (obtain ⟨_, _, _, _, _, _, _, _, _, rfl, _⟩ := h; rfl) | (obtain ⟨_, _, _, _, _, _, _, _, _, _, rfl, _⟩ := h; rfl) | (obtain ⟨_, _, _, _, _, _, _, _, _, _, _, rfl, _⟩ := h; rfl) | (obtain ⟨_, _, _, _, _, _, _, _, _, _, _, _, rfl, _⟩ := h; rfl) | (obtain ⟨_, _, _, _, _, _, _, _, _, _, _, _, _, rfl, _⟩ := h; rfl) | (obtain ⟨_, _, _, _, _, _, _, _, _, _, _, _, _, _, rfl, _⟩ := h; rfl) | (obtain ⟨_, _, _, _, _, _, _, _, _, _, _, _, _, _, _, rfl, _⟩ := h; rfl))
  case body =>
  have hu := hu_of hr
  refine ⟨_, (pss_cons (ps_set (i := 6) sc_NameBook_made.nd rfl (Or.inl rfl) (pe_mkV G_NameBook_init hr (by decide) (i := 0) rfl (Or.inl rfl) (pa_cons (pv 1) pa_nil) (pk_cons (pv 2) pk_nil)))
      (pss_cons (ps_fld (pv 6) (pe_lst (pa_cons (pe_mk G_State_init hr (by decide) (by rfl) (pa_cons (pe_callTy call_dictD (by rfl) T.z_dict (by decide +kernel) (pa_cons (pv 3) pa_nil)) (pa_cons (pv 2) (pa_cons (pe_callTy call_dictD (by rfl) T.z_dict (by decide +kernel) (pa_cons (pv 4) pa_nil)) (pa_cons (pe_callTy call_dictD (by rfl) T.z_dict (by decide +kernel) (pa_cons (pv 5) pa_nil)) pa_nil))))) pa_nil)) rfl)
      (pss_one (ps_ret (pv 6))))), ?_⟩
  obtain ⟨w', s0, D0, gs, nm, pn, rfl, hS, hN, hw1, hw4, q⟩ := h
  refine ⟨rfl, _, rfl, _, rfl, rfl, rfl, fun b dx hb hdx hne => ?_⟩
  refine ⟨H, b, dx, D0.ru, w', D0.ps, rfl, upd_same, hb, ((Same.refl H).at hdx).at hb, hS.rule, hS.rok, hw1, hw4, fun H1 s1 D1 gs1 sa hB1 _ _ ⟨sl1, hb1⟩ => ⟨rfl, ?_⟩⟩
  have hS1 := hS.same sa
  -- State(dict(items), rule, dict(names), dict(pins))
  refine ⟨_, rfl, _, _, rfl, .inl hS1.store, fun p1 hp1 => ⟨_, rfl, _, rfl, D0.dn, D0.kn, rfl, .inl ((same_new hp1) _ _ hS1.named), fun p2 hp2 => ⟨_, rfl, D0.dp, D0.kp, rfl, .inl (((same_new hp1).new hp2) _ _ hS1.pinned), fun p3 hp3 => ?_⟩⟩⟩
  have n12 : p2 ≠ p1 := fun z => by subst z; rw [upd_same] at hp2; cases hp2
  have n13 : p3 ≠ p1 := fun z => by subst z; rw [upd_ne n12.symm, upd_same] at hp3; cases hp3
  have n23 : p3 ≠ p2 := fun z => by subst z; rw [upd_same] at hp3; cases hp3
  have s3 : Same H1 (upd (upd (upd H1 p1 (.dK D0.kvs)) p2 (.dK D0.kn)) p3 (.dK D0.kp)) := ((same_new hp1).new hp2).new hp3
  have b1 : upd (upd (upd H1 p1 (.dK D0.kvs)) p2 (.dK D0.kn)) p3 (.dK D0.kp) p1 = some (.dK D0.kvs) := by rw [upd_ne n13.symm, upd_ne n12.symm, upd_same]
  have b2 : upd (upd (upd H1 p1 (.dK D0.kvs)) p2 (.dK D0.kn)) p3 (.dK D0.kp) p2 = some (.dK D0.kn) := by rw [upd_ne n23.symm, upd_same]
  have b3 : upd (upd (upd H1 p1 (.dK D0.kvs)) p2 (.dK D0.kn)) p3 (.dK D0.kp) p3 = some (.dK D0.kp) := upd_same
  generalize upd (upd (upd H1 p1 (.dK D0.kvs)) p2 (.dK D0.kn)) p3 (.dK D0.kp) = H3 at s3 b1 b2 b3
  have hS3 := hS1.same s3
  have hb3 := s3 _ _ hb1
  intro nx ndx hnx hndx hnn
  refine st_makeX hnx hndx b1 hS3.items hS3.rule hS3.rok b2 hS3.nm b3 hS3.pn fun H4 D gs4 s4 hst e1 e2 e3 e4 e5 e6 e7 e8 => ?_
  have hb4 := s4 _ _ hb3
  have hgs : gs4 = gs := by
    have h1 := hst.rel
    have h2 := (hS3.same s4).rel
    rw [e5, e6] at h1
    exact GsRel.uniq h1 h2 fun i _ => rfl
  subst hgs
  refine ⟨by show 1 ≤ sizeLine; decide, fun sl hsl => ?_⟩
  have nsb : b ≠ sl := fun z => by subst z; rw [hb4] at hsl; cases hsl
  have sb5 : Same H (upd H4 sl (.lst [.ref nx])) := ((sa.trans s3).trans s4).new hsl
  have hst5 := hst.same (same_new (o := .lst [.ref nx]) hsl)
  have hb5 := (same_new (o := .lst [.ref nx]) hsl) _ _ hb4
  have hl5 : upd H4 sl (.lst [.ref nx]) sl = some (.lst (([nx] : List Addr).map V.ref)) := upd_same
  generalize upd H4 sl (.lst [.ref nx]) = H5 at sb5 hst5 hb5 hl5
  refine ⟨_, rfl, b, CB K, dx, _, rfl, hb5, T.cB, T.n_states, (show (4 : Nat) < 1000 by decide), _, rfl, ?_⟩
  refine q _ b nx D (sb5.at hb) hb ⟨⟨dx, sl, [nx], upd_same, by rw [upd_ne nsb.symm]; exact hl5, rfl, Nat.le_refl _⟩, ?_, hN, hw1, hw4⟩ e5
  refine hst5.move fun a o ho hso => ?_
  have : a ≠ b := fun z => by
    subst z; rw [hb5] at ho; cases ho
    exact absurd (show (4 : Nat) = 5 from hso) (by decide)
  rw [upd_ne this]; exact ho
def spCopied (K : PySem.W.Frag) : Sp := fun vs H Q _ => ∃ (b : Addr) (w : Int) (k : Nat) (s : Addr) (D : StD) (gs : List (List Int)) (nm pn : Str → Option Int), vs = [.ref b] ∧ BkAt K w H b k s D gs nm pn ∧
  ∀ (H' : Hp) (b' s' : Addr) (D' : StD), Same H H' → H b' = none → BkAt K w H' b' 0 s' D' gs nm pn → D'.kvs = D.kvs → Q (.ref b') H'
theorem ok_NameBook_copied {P : Program} {w : World} {K : PySem.W.Frag} {mg : Str → Option Value} {base : Heap} (T : Tx K mg) : Met P w K mg base 9 (CB K) "copied" (spCopied K) [] := by
  obtain ⟨fd, F⟩ := T.d_NameBook_copied
  have G_NameBook_made := ok_NameBook_made (P := P) (w := w) (base := base) T
  have G_NameBook_now := ok_NameBook_now (P := P) (w := w) (base := base) T
  have bd : Binds K fd ["self"] [] := F.binds fun _ _ _ _ _ _ us hl => match us, hl with | [_], _ => rfl
  refine met_of (F.ok sc_NameBook_copied (fun vs H Q E h => ?len) (fun cdv A outer s H vs Q E hr h => ?body)) bd T.cB T.m_NameBook_copied
  case len => exact (by first | (obtain ⟨rfl, _⟩ := h; rfl) | (obtain ⟨_, rfl, _⟩ := h; rfl) | (obtain ⟨_, _, rfl, _⟩ := h; rfl) | (obtain ⟨_, _, _, rfl, _⟩ := h; rfl) | (obtain ⟨_, _, _, _, rfl, _⟩ := h; rfl) | (obtain ⟨_, _, _, _, _, rfl, _⟩ := h; rfl) | (obtain ⟨_, _, _, _, _, _, rfl, _⟩ := h; rfl) | (obtain ⟨_, _, _, _, _, _, _, rfl, _⟩ := h; rfl) | (obtain ⟨_, _, _, _, _, _, _, _, rfl, _⟩ := h; rfl) | (obtain ⟨_, _, _, _, _, _, _, _, _, rfl, _⟩ := h; rfl) | (obtain ⟨_, _, _, _, _, _, _, _, _, _, rfl, _⟩ := h; rfl) | (obtain ⟨_, _, _, _, _, _, _, _, _, _, _, rfl, _⟩ := h; rfl) | (obtain ⟨_, _, _, _, _, _, _, _, _, _, _, _, rfl, _⟩ := h; rfl) | (obtain ⟨_, _, _, _, _, _, _, _, _, _, _, _, _, rfl, _⟩ := h; rfl) | (obtain ⟨_, _, _, _, _, _, _, _, _, _, _, _, _, _, rfl, _⟩ := h; rfl) | (obtain ⟨_, _, _, _, _, _, _, _, _, _, _, _, _, _, _, rfl, _⟩ := h; rfl))
  case body =>
  have hu := hu_of hr
  refine ⟨_, (pss_cons (ps_set (i := 1) sc_NameBook_copied.nd rfl (Or.inl rfl) (pe_mt0 G_NameBook_now hr (by decide) (pv 0)))
      (pss_one (ps_ret (pe_cm G_NameBook_made hr (by decide) (by rfl) (pa_cons (pe_fldK K rfl (pv 0) rfl) (pa_cons (pe_fldK K rfl (pv 1) rfl) (pa_cons (pe_fldK K rfl (pv 1) rfl) (pa_cons (pe_fldK K rfl (pv 1) rfl) (pa_cons (pe_fldK K rfl (pv 1) rfl) pa_nil))))))))), ?_⟩
  obtain ⟨b, w', k, s, D, gs, nm, pn, rfl, hB, q⟩ := h
  obtain ⟨dx, sl, ss, h1, _⟩ := id hB.ex
  have hS := hB.st
  exact ⟨_, rfl, b, _, _, rfl, h1, rfl, b, w', k, s, D, gs, nm, pn, rfl, hB, rfl, _, rfl, b, CB K, dx, _, _, rfl, h1, T.cB, T.n_size, rfl, _, rfl, s, CS K, D.dx, _, _, rfl, hS.ins, T.cS, T.n_columns, rfl, _, rfl, s, CS K, D.dx, _, _, rfl, hS.ins, T.cS, T.n_store, rfl, _, rfl, s, CS K, D.dx, _, _, rfl, hS.ins, T.cS, T.n_named, rfl, _, rfl, s, CS K, D.dx, _, _, rfl, hS.ins, T.cS, T.n_pinned, rfl, w', s, D, gs, nm, pn, rfl, hS, hB.ok, hB.w1, hB.w4, q⟩
end KN

set_option Elab.async false
set_option linter.all false
set_option maxRecDepth 100000
set_option maxHeartbeats 4000000
/-! the stream of numbers -/
namespace KN
open PySem PySem.Spec PyProof.Rows L2 ClX StX
open C8 (Cal Met Mak CalAt pe_c pe_mk pe_mt pe_mt0 pss_cut tCut pe_gc)
theorem bits_le {i : Int} {n : Nat} (h : i.natAbs < 2 ^ n) : Builtin.Int.intBits i ≤ n := by
  unfold Builtin.Int.intBits
  split
  · exact Nat.zero_le _
  · rename_i h0
    have hp : i.natAbs ≠ 0 := fun z => h0 (by rw [Int.natAbs_eq_zero.mp z]; rfl)
    have := (Nat.log2_lt hp).mpr h
    omega
theorem bits_lt {i : Int} {n : Nat} (h : Builtin.Int.intBits i ≤ n) : i.natAbs < 2 ^ n := by
  unfold Builtin.Int.intBits at h
  split at h
  · rename_i h0
    have : i = 0 := by simpa using h0
    subst this
    exact Nat.pow_pos (by decide)
  · rename_i h0
    have hp : i.natAbs ≠ 0 := fun z => h0 (by rw [Int.natAbs_eq_zero.mp z]; rfl)
    exact (Nat.log2_lt hp).mp (by omega)
theorem bits_sum {i j : Int} {N : Nat} (hi : i.natAbs < 2 ^ 60) (hN : 60 ≤ N) (hj : Builtin.Int.intBits j ≤ N) : Builtin.Int.intBits (i + j) ≤ N + 1 := by
  have h1 := bits_lt hj
  have h2 : 2 ^ 60 ≤ 2 ^ N := Nat.pow_le_pow_right (by decide) hN
  refine bits_le ?_
  rw [Nat.pow_succ]
  have h3 : (i + j).natAbs ≤ i.natAbs + j.natAbs := Int.natAbs_add_le i j
  generalize 2 ^ N = M at h1 h2 ⊢
  generalize 2 ^ 60 = M0 at hi h2
  omega
/-- the stream: two numbers -/
def StrAt (H : Hp) (l : Addr) : Prop := ∃ x y : Int, H l = some (.lst [.int x, .int y])
def spStream (K : PySem.W.Frag) : Sp := fun vs H Q _ => ∃ (a : Addr) (st : Nat) (ns : List Int), vs = [.ref a, .int st] ∧ st ≤ 10 ∧ SqL K H a (ns.map V.int) ∧ ns.length ≤ 63 ∧ (∀ z ∈ ns, Builtin.Int.intBits z ≤ 1048576) ∧ ∀ (H' : Hp) (l : Addr), Same H H' → H l = none → StrAt H' l → Q (.ref l) H'
theorem ok__law_stream {P : Program} {w : World} {K : PySem.W.Frag} {mg : Str → Option Value} {base : Heap} (T : Tx K mg) : Cal P w K mg base 1 "_law_stream" (spStream K) [] := by
  obtain ⟨fd, F⟩ := T.d__law_stream
  have bd : Binds K fd ["_law_script", "_law_start"] [] := F.binds fun _ _ _ _ _ _ us hl => match us, hl with | [_, _], _ => rfl
  refine cal_of (F.ok sc__law_stream (fun vs H Q E h => ?len) (fun cdv A outer s H vs Q E hr h => ?body)) bd T.g__law_stream T.k__law_stream
  case len => exact (by first | (obtain ⟨rfl, _⟩ := h; rfl) | (obtain ⟨_, rfl, _⟩ := h; rfl) | (obtain ⟨_, _, rfl, _⟩ := h; rfl) | (obtain ⟨_, _, _, rfl, _⟩ := h; rfl) | (obtain ⟨_, _, _, _, rfl, _⟩ := h; rfl) | (obtain ⟨_, _, _, _, _, rfl, _⟩ := h; rfl) | (obtain ⟨_, _, _, _, _, _, rfl, _⟩ := h; rfl) | (obtain ⟨_, _, _, _, _, _, _, rfl, _⟩ := h; rfl) | (obtain ⟨_, _, _, _, _, _, _, _, rfl, _⟩ := h; rfl) | (obtain ⟨_, _, _, _, _, _, _, _, _, rfl, _⟩ := h; rfl) | (obtain ⟨_, _, _, _, _, _, _, _, _, _, rfl, _⟩ := h; rfl) | (obtain ⟨_, _, _, _, _, _, _, _, _, _, _, rfl, _⟩ := h; rfl) | (obtain ⟨_, _, _, _, _, _, _, _, _, _, _, _, rfl, _⟩ := h; rfl) | (obtain ⟨_, _, _, _, _, _, _, _, _, _, _, _, _, rfl, _⟩ := h; rfl) | (obtain ⟨_, _, _, _, _, _, _, _, _, _, _, _, _, _, rfl, _⟩ := h; rfl) | (obtain ⟨_, _, _, _, _, _, _, _, _, _, _, _, _, _, _, rfl, _⟩ := h; rfl))
  case body =>
  have hu := hu_of hr
  refine ⟨_, (pss_cons (ps_set (i := 2) sc__law_stream.nd rfl (Or.inl rfl) (pe_op op_add pe_int (pv 1)))
      (pss_cons (ps_for PassesOwn.never rfl (pi_listK K rfl (pv 0)) (pg_name (i := 3) sc__law_stream.nd rfl (Or.inl rfl))
      (pss_one (ps_set (i := 2) sc__law_stream.nd rfl (Or.inl rfl) (pe_op op_add (pe_op op_mod (pe_op op_powB (pe_op op_add (pe_op op_mul (pv 2) pe_int) (pv 3)) pe_int) pe_int) pe_int))))
      (pss_cons (ps_set (i := 4) sc__law_stream.nd rfl (Or.inl rfl) pe_int)
      (pss_cut (ps_if (PW.pt (pw_and (pt_cmpR op_lt (pv 1) (pe_callB (lenS K rfl) (by rfl) T.z_len PySem.boot_len (pa_cons (pv 0) pa_nil)) (nomark _)) (pw_and1 (pt_cmpR op_ge (pe_ix (ixL K rfl) (pv 0) (pv 1) (fun _ _ => rfl)) (pe_op op_pow pe_int pe_int) (nomark _))))) (pss_one (ps_set (i := 4) sc__law_stream.nd rfl (Or.inl rfl) (pe_op op_sub (pe_ix (ixL K rfl) (pv 0) (pv 1) (fun _ _ => rfl)) (pe_op op_pow pe_int pe_int))))
      pss_nil)
      (pss_one (ps_ret (pe_lst (pa_cons (pv 4) (pa_cons (pv 2) pa_nil))))))))), ?_⟩
  obtain ⟨a, st, ns, rfl, hst, hS, hl, hb, q⟩ := h
  refine ⟨_, rfl, _, _, rfl, rfl, _, rfl, a, rfl, ⟨_, hS⟩, ?_⟩
  refine for_it (walk_list (K := K) (a := a) (xs := ns.map V.int)) (fun k σ H' => ∃ (z : Int) (v : Option V), σ = [some (.ref a), some (.int st), some (.int z), v, none] ∧ H' = H ∧ 0 ≤ z ∧ z ≤ 2147483630) ?_ ?_ ?_ ?_
  · exact ⟨_, none, rfl, rfl, by omega, by omega⟩
  · rintro k σ H' _ ⟨z, v, rfl, rfl, _⟩
    exact hS
  · rintro k x σ H1 H2 hk ⟨z, v, rfl, rfl, hz0, hz1⟩ ⟨rfl, hx⟩
    rw [List.getElem?_map] at hx
    obtain ⟨n, hn, rfl⟩ := Option.map_eq_some_iff.mp hx
    have hnb := hb n (List.mem_of_getElem? hn)
    have hsum := bits_sum (i := z * 40127) (j := n) (N := 1048576) (by omega) (by decide) hnb
    refine ⟨_, rfl, _, _, rfl, rfl, .inl ⟨by omega, by omega⟩, _, rfl, _, _, rfl, rfl, _, _, rfl, rfl, ⟨by decide, ?_⟩, _, _, rfl, rfl, (show (0 : Int) < 2147483629 by decide), _, _, rfl, rfl, _, _, rfl, rfl, ?_, ?_⟩
    · omega
    · have := Int.emod_nonneg ((z * 40127 + n) ^ (3 : Int).toNat) (b := 2147483629) (by decide); omega
    · have := Int.emod_lt_of_pos ((z * 40127 + n) ^ (3 : Int).toNat) (b := 2147483629) (by decide); omega
  · rintro σ H1 ⟨z, v, rfl, rfl, hz0, hz1⟩
    have hpow : CPow (10 : Int) 18 := ⟨by decide, by decide, by decide⟩
    refine ⟨fun σ' H' => H' = H1 ∧ ∃ d : Int, σ' = [some (.ref a), some (.int st), some (.int z), v, some (.int d)], ?_, ?_⟩
    · refine ⟨_, rfl, _, rfl, _, _, rfl, .inl hS, _, _, rfl, rfl, _, rfl, ?_⟩
      by_cases hlt : (st : Int) < ((ns.map V.int).length : Int)
      · refine iteD hlt ?_
        have hst2 : st < ns.length := by rw [List.length_map] at hlt; omega
        have at2 : atI (ns.map V.int) (st : Int) = some (V.int ns[st]) := atI_nat (by rw [List.getElem?_map, List.getElem?_eq_getElem hst2]; rfl)
        refine ⟨_, rfl, _, rfl, _, _, _, _, rfl, rfl, hS, at2, _, _, rfl, rfl, hpow, _, _, rfl, rfl, _, rfl, ?_⟩
        refine ite2 (fun _ => ?_) fun _ => ⟨rfl, _, rfl⟩
        exact ⟨_, rfl, _, rfl, _, _, _, _, rfl, rfl, hS, at2, _, _, rfl, rfl, hpow, _, _, rfl, rfl, rfl, _, rfl⟩
      · exact iteDF hlt (iteF ⟨rfl, _, rfl⟩)
    · rintro σ' H' ⟨rfl, d, rfl⟩
      exact ⟨_, rfl, _, rfl, by show 2 ≤ sizeLine; decide, fun l hl => q _ l (same_new hl) hl ⟨_, _, upd_same⟩⟩
def spDraw : Sp := fun vs H Q _ => ∃ (l : Addr) (n : Nat), vs = [.ref l, .int n] ∧ StrAt H l ∧ 1 ≤ n ∧ n ≤ 100000 ∧ ∀ (H' : Hp) (r : Nat), But l H H' → StrAt H' l → r < n → Q (.int r) H'
theorem ok__law_draw {P : Program} {w : World} {K : PySem.W.Frag} {mg : Str → Option Value} {base : Heap} (T : Tx K mg) : Cal P w K mg base 1 "_law_draw" spDraw [] := by
  obtain ⟨fd, F⟩ := T.d__law_draw
  have bd : Binds K fd ["_law_stream_here", "_law_size"] [] := F.binds fun _ _ _ _ _ _ us hl => match us, hl with | [_, _], _ => rfl
  refine cal_of (F.ok sc__law_draw (fun vs H Q E h => ?len) (fun cdv A outer s H vs Q E hr h => ?body)) bd T.g__law_draw T.k__law_draw
  case len => exact (by first | (obtain ⟨rfl, _⟩ := h; rfl) | (obtain ⟨_, rfl, _⟩ := h; rfl) | (obtain ⟨_, _, rfl, _⟩ := h; rfl) | (obtain ⟨_, _, _, rfl, _⟩ := h; rfl) | (obtain ⟨_, _, _, _, rfl, _⟩ := h; rfl) | (obtain ⟨_, _, _, _, _, rfl, _⟩ := h; rfl) | (obtain ⟨_, _, _, _, _, _, rfl, _⟩ := h; rfl) | (obtain ⟨_, _, _, _, _, _, _, rfl, _⟩ := h; rfl) | (obtain ⟨_, _, _, _, _, _, _, _, rfl, _⟩ := h; rfl) | (obtain ⟨_, _, _, _, _, _, _, _, _, rfl, _⟩ := h; rfl) | (obtain ⟨_, _, _, _, _, _, _, _, _, _, rfl, _⟩ := h; rfl) | (obtain ⟨_, _, _, _, _, _, _, _, _, _, _, rfl, _⟩ := h; rfl) | (obtain ⟨_, _, _, _, _, _, _, _, _, _, _, _, rfl, _⟩ := h; rfl) | (obtain ⟨_, _, _, _, _, _, _, _, _, _, _, _, _, rfl, _⟩ := h; rfl) | (obtain ⟨_, _, _, _, _, _, _, _, _, _, _, _, _, _, rfl, _⟩ := h; rfl) | (obtain ⟨_, _, _, _, _, _, _, _, _, _, _, _, _, _, _, rfl, _⟩ := h; rfl))
  case body =>
  have hu := hu_of hr
  refine ⟨_, (pss_cons (ps_if (pt_cmpR op_ge (pe_ix (ixL K rfl) (pv 0) pe_int (fun _ _ => rfl)) (pv 1) (nomark _)) (pss_cons (ps_set (i := 2) sc__law_draw.nd rfl (Or.inl rfl) (pe_op op_mod (pe_ix (ixL K rfl) (pv 0) pe_int (fun _ _ => rfl)) (pv 1)))
      (pss_cons (ps_asg (pe_op op_fdiv (pe_ix (ixL K rfl) (pv 0) pe_int (fun _ _ => rfl)) (pv 1)) (pg_sub (pv 0) pe_int set_list))
      (pss_one (ps_ret (pv 2)))))
      pss_nil)
      (pss_cons (ps_asg (pe_op op_mod (pe_op op_add (pe_op op_mul (pe_ix (ixL K rfl) (pv 0) pe_int (fun _ _ => rfl)) pe_int) pe_int) pe_int) (pg_sub (pv 0) pe_int set_list))
      (pss_one (ps_ret (pe_op op_mod (pe_op op_fdiv (pe_op op_mod (pe_op op_pow (pe_op op_mod (pe_op op_pow (pe_ix (ixL K rfl) (pv 0) pe_int (fun _ _ => rfl)) pe_int) pe_int) pe_int) pe_int) pe_int) (pv 1)))))), ?_⟩
  obtain ⟨l, n, rfl, ⟨x, y, hl⟩, hn1, hn2, q⟩ := h
  have hn0 : (0 : Int) < n := by omega
  have upl : ∀ z w : V, But l H (upd H l (.lst [z, w])) := fun z w a o ne e => by rw [upd_ne ne]; exact e
  refine ⟨_, rfl, _, _, _, _, rfl, rfl, SqL.of hl, atI_nat (j := 0) rfl, _, rfl, _, _, rfl, rfl, _, rfl, ?_⟩
  refine ite2 (fun _ => ?_) fun _ => ?_
  · refine ⟨_, rfl, _, _, _, _, rfl, rfl, SqL.of hl, atI_nat (j := 0) rfl, _, rfl, _, _, rfl, rfl, hn0, _, rfl, _, _, _, _, rfl, rfl, SqL.of hl, atI_nat (j := 0) rfl, _, rfl, _, _, rfl, rfl, ⟨hn0, by omega⟩, _, rfl, l, _, _, 0, rfl, rfl, hl, rfl, _, rfl, ?_⟩
    have h1 := Int.emod_nonneg x (b := (n : Int)) (by omega)
    have h2 := Int.emod_lt_of_pos x hn0
    obtain ⟨r, hr⟩ : ∃ r : Nat, x % (n : Int) = r := ⟨(x % n).toNat, by omega⟩
    show Q (.int (x % (n : Int))) (upd H l (.lst [.int (x / n), .int y]))
    rw [hr]
    exact q _ r (upl _ _) ⟨_, _, upd_same⟩ (by omega)
  · refine ⟨_, rfl, _, _, _, _, rfl, rfl, SqL.of hl, atI_nat (j := 1) rfl, _, _, rfl, rfl, .inr ⟨by decide, by decide⟩, _, _, rfl, rfl, _, _, rfl, rfl, (show (0 : Int) < 2147483647 by decide), _, rfl, l, _, _, 1, rfl, rfl, hl, rfl, ?_⟩
    have h1 := Int.emod_nonneg (y * 48271 + 12345) (b := 2147483647) (by decide)
    have h2 := Int.emod_lt_of_pos (y * 48271 + 12345) (b := 2147483647) (by decide)
    obtain ⟨z, hz⟩ : ∃ z : Int, z = (y * 48271 + 12345) % 2147483647 := ⟨_, rfl⟩
    rw [← hz] at h1 h2
    have b1 : But l H (upd H l (.lst ([V.int x, V.int y].set 1 (V.int ((y * 48271 + 12345) % 2147483647))))) := upl _ _
    have e1 : upd H l (.lst ([V.int x, V.int y].set 1 (V.int ((y * 48271 + 12345) % 2147483647)))) l = some (.lst [.int x, .int z]) := by rw [upd_same, hz]; rfl
    show _
    have h3 := Int.emod_nonneg (z ^ (3 : Int).toNat) (b := 2147483629) (by decide)
    have h4 := Int.emod_lt_of_pos (z ^ (3 : Int).toNat) (b := 2147483629) (by decide)
    refine ⟨_, rfl, _, _, _, _, rfl, rfl, SqL.of e1, atI_nat (j := 1) rfl, _, _, rfl, rfl, ⟨by decide, by decide, by omega⟩, _, _, rfl, rfl, (show (0 : Int) < 2147483629 by decide), _, _, rfl, rfl, ⟨by decide, by decide, by omega⟩, _, _, rfl, rfl, (show (0 : Int) < 1000000007 by decide), _, _, rfl, rfl, ⟨by decide, by decide⟩, _, rfl, _, _, rfl, rfl, hn0, ?_⟩
    show Q (.int (((z ^ (3 : Int).toNat % 2147483629) ^ (5 : Int).toNat % 1000000007 / 7) % (n : Int))) (upd H l (.lst ([V.int x, V.int y].set 1 (V.int ((y * 48271 + 12345) % 2147483647)))))
    generalize (z ^ (3 : Int).toNat % 2147483629) ^ (5 : Int).toNat % 1000000007 / 7 = t
    have h5 := Int.emod_nonneg t (b := (n : Int)) (by omega)
    have h6 := Int.emod_lt_of_pos t hn0
    obtain ⟨r, hr⟩ : ∃ r : Nat, t % (n : Int) = r := ⟨(t % n).toNat, by omega⟩
    rw [hr]
    exact q _ r b1 ⟨_, _, e1⟩ (by omega)
def spChoose (K : PySem.W.Frag) : Sp := fun vs H Q _ => ∃ (l t : Addr) (xs : List V), vs = [.ref l, .ref t] ∧ StrAt H l ∧ H t = some (.lst xs) ∧ t ≠ l ∧ 1 ≤ xs.length ∧ xs.length ≤ 1000 ∧ ∀ (H' : Hp) (v : V), But l H H' → StrAt H' l → v ∈ xs → Q v H'
theorem ok__law_choose {P : Program} {w : World} {K : PySem.W.Frag} {mg : Str → Option Value} {base : Heap} (T : Tx K mg) : Cal P w K mg base 2 "_law_choose" (spChoose K) [] := by
  obtain ⟨fd, F⟩ := T.d__law_choose
  have G__law_draw := ok__law_draw (P := P) (w := w) (base := base) T
  have bd : Binds K fd ["_law_stream_here", "_law_items"] [] := F.binds fun _ _ _ _ _ _ us hl => match us, hl with | [_, _], _ => rfl
  refine cal_of (F.ok sc__law_choose (fun vs H Q E h => ?len) (fun cdv A outer s H vs Q E hr h => ?body)) bd T.g__law_choose T.k__law_choose
  case len => exact (by first | (obtain ⟨rfl, _⟩ := h; rfl) | (obtain ⟨_, rfl, _⟩ := h; rfl) | (obtain ⟨_, _, rfl, _⟩ := h; rfl) | (obtain ⟨_, _, _, rfl, _⟩ := h; rfl) | (obtain ⟨_, _, _, _, rfl, _⟩ := h; rfl) | (obtain ⟨_, _, _, _, _, rfl, _⟩ := h; rfl) | (obtain ⟨_, _, _, _, _, _, rfl, _⟩ := h; rfl) | (obtain ⟨_, _, _, _, _, _, _, rfl, _⟩ := h; rfl) | (obtain ⟨_, _, _, _, _, _, _, _, rfl, _⟩ := h; rfl) | (obtain ⟨_, _, _, _, _, _, _, _, _, rfl, _⟩ := h; rfl) | (obtain ⟨_, _, _, _, _, _, _, _, _, _, rfl, _⟩ := h; rfl) | (obtain ⟨_, _, _, _, _, _, _, _, _, _, _, rfl, _⟩ := h; rfl) | (obtain ⟨_, _, _, _, _, _, _, _, _, _, _, _, rfl, _⟩ := h; rfl) | (obtain ⟨_, _, _, _, _, _, _, _, _, _, _, _, _, rfl, _⟩ := h; rfl) | (obtain ⟨_, _, _, _, _, _, _, _, _, _, _, _, _, _, rfl, _⟩ := h; rfl) | (obtain ⟨_, _, _, _, _, _, _, _, _, _, _, _, _, _, _, rfl, _⟩ := h; rfl))
  case body =>
  have hu := hu_of hr
  refine ⟨_, (pss_one (ps_ret (pe_ix (ixL K rfl) (pv 1) (pe_c G__law_draw hr (by decide) (by rfl) (pa_cons (pv 0) (pa_cons (pe_callB (lenS K rfl) (by rfl) T.z_len PySem.boot_len (pa_cons (pv 1) pa_nil)) pa_nil))) (fun _ _ => rfl)))), ?_⟩
  obtain ⟨l, t, xs, rfl, hl, ht, ne, h1, h2, q⟩ := h
  refine ⟨_, rfl, _, rfl, _, rfl, _, _, rfl, .inl (SqL.of ht), l, xs.length, rfl, hl, h1, by omega, fun H1 r b1 hl1 hr => ?_⟩
  exact ⟨_, _, _, _, rfl, rfl, SqL.of (b1 _ _ ne ht), atI_nat (j := r) (v := xs[r]) (List.getElem?_eq_getElem hr), q H1 _ b1 hl1 (List.getElem_mem hr)⟩
/-- an item: weight and fields -/
def spItemL (K : PySem.W.Frag) : Sp := fun vs H Q _ => ∃ (l : Addr) (n : Nat), vs = [.ref l, .int n] ∧ StrAt H l ∧ 1 ≤ n ∧ n ≤ 4 ∧
  ∀ (H' : Hp) (t f : Addr) (wt : Int) (ns : List Int), But l H H' → StrAt H' l → H t = none → t ≠ l → H' t = some (.tup [.int wt, .ref f]) → H' f = some (.tup (ns.map V.int)) → ns.length = n → 1 ≤ wt → wt ≤ 1000000 → (∀ z ∈ ns, -1000000000 ≤ z ∧ z ≤ 1000000000) → Q (.ref t) H'
theorem ok__law_item {P : Program} {w : World} {K : PySem.W.Frag} {mg : Str → Option Value} {base : Heap} (T : Tx K mg) : Cal P w K mg base 3 "_law_item" (spItemL K) [] := by
  obtain ⟨fd, F⟩ := T.d__law_item
  have G__law_choose := ok__law_choose (P := P) (w := w) (base := base) T
  have G__law_draw := ok__law_draw (P := P) (w := w) (base := base) T
  have bd : Binds K fd ["_law_stream_here", "_law_size"] [] := F.binds fun _ _ _ _ _ _ us hl => match us, hl with | [_, _], _ => rfl
  refine cal_of (F.ok sc__law_item (fun vs H Q E h => ?len) (fun cdv A outer s H vs Q E hr h => ?body)) bd T.g__law_item T.k__law_item
  case len => exact (by first | (obtain ⟨rfl, _⟩ := h; rfl) | (obtain ⟨_, rfl, _⟩ := h; rfl) | (obtain ⟨_, _, rfl, _⟩ := h; rfl) | (obtain ⟨_, _, _, rfl, _⟩ := h; rfl) | (obtain ⟨_, _, _, _, rfl, _⟩ := h; rfl) | (obtain ⟨_, _, _, _, _, rfl, _⟩ := h; rfl) | (obtain ⟨_, _, _, _, _, _, rfl, _⟩ := h; rfl) | (obtain ⟨_, _, _, _, _, _, _, rfl, _⟩ := h; rfl) | (obtain ⟨_, _, _, _, _, _, _, _, rfl, _⟩ := h; rfl) | (obtain ⟨_, _, _, _, _, _, _, _, _, rfl, _⟩ := h; rfl) | (obtain ⟨_, _, _, _, _, _, _, _, _, _, rfl, _⟩ := h; rfl) | (obtain ⟨_, _, _, _, _, _, _, _, _, _, _, rfl, _⟩ := h; rfl) | (obtain ⟨_, _, _, _, _, _, _, _, _, _, _, _, rfl, _⟩ := h; rfl) | (obtain ⟨_, _, _, _, _, _, _, _, _, _, _, _, _, rfl, _⟩ := h; rfl) | (obtain ⟨_, _, _, _, _, _, _, _, _, _, _, _, _, _, rfl, _⟩ := h; rfl) | (obtain ⟨_, _, _, _, _, _, _, _, _, _, _, _, _, _, _, rfl, _⟩ := h; rfl))
  case body =>
  have hu := hu_of hr
  refine ⟨_, (pss_cons (ps_set (i := 2) sc__law_item.nd rfl (Or.inl rfl) (pe_callTy (tupS K rfl) (by rfl) T.z_tuple (by decide +kernel) (pa_cons (pe_lc (own := [("_law_turn", 3)]) rfl sc__law_item.nd (pi_range1 (by rfl) T.z_range (pa_cons (pv 1) pa_nil)) (blkOk_by (own := [("_law_turn", 3)]) (N := N__law_item) (sc := defScope s__law_item) (by decide +kernel)) (fun _ _ _ _ _ => (pg_name (i := 3) sc__law_item.nd rfl (Or.inl rfl))) (fun _ _ _ _ _ => pts_nil) (fun _ _ _ _ _ => (pe_op op_sub (pe_c G__law_draw hr (by decide) (by rfl) (pa_cons (pv 0) (pa_cons pe_int pa_nil))) pe_int))) pa_nil)))
      (pss_one (ps_ret (pe_tup (pa_cons (pe_c G__law_choose hr (by decide) (by rfl) (pa_cons (pv 0) (pa_cons (pe_lst (pa_cons pe_int (pa_cons pe_int (pa_cons pe_int (pa_cons pe_int (pa_cons (pe_op op_add pe_int (pe_c G__law_draw hr (by decide) (by rfl) (pa_cons (pv 0) (pa_cons pe_int pa_nil)))) pa_nil)))))) pa_nil))) (pa_cons (pv 2) pa_nil)))))), ?_⟩
  obtain ⟨l, n, rfl, hl, hn1, hn2, q⟩ := h
  have hlk := hl
  obtain ⟨x0, y0, hl0⟩ := hl
  refine ⟨_, rfl, _, rfl, by omega, by omega, fun D hD => ?_⟩
  have nDl : D ≠ l := fun z => by subst z; rw [hl0] at hD; cases hD
  refine lc_it (walk_range (lo := 0) (n := n)) (fun j H' => ∃ zs : List Int, But l H H' ∧ StrAt H' l ∧ H' D = some (.lst (zs.map V.int)) ∧ zs.length = j ∧ ∀ z ∈ zs, -1000000000 ≤ z ∧ z ≤ 1000000000) ?_ ?_ ?_ ?_
  · exact ⟨[], (same_new hD).but, ⟨x0, y0, (same_new hD) _ _ hl0⟩, upd_same, rfl, fun z h => (nomatch h)⟩
  · exact fun _ _ _ _ => trivial
  · rintro j x H1 H2 hj ⟨zs, b1, hl1, hz, hzl, hzb⟩ ⟨rfl, rfl⟩
    refine ⟨rfl, yes (iteT ⟨_, rfl, l, 12, rfl, hl1, by decide, by decide, fun H3 r b3 hl3 hr => ⟨_, _, rfl, rfl, _, b3 _ _ nDl hz, small1000 (by rw [List.length_map]; omega), zs ++ [(r : Int) - 4], ?_, ?_, by rw [upd_same, List.map_append]; rfl, by simp [hzl], fun z h => ?_⟩⟩)⟩
    · exact fun a o ne e => by
        rw [upd_ne (ne_of_none e hD)]
        exact (b1.trans b3) a o ne e
    · obtain ⟨x3, y3, e3⟩ := hl3
      exact ⟨x3, y3, by rw [upd_ne nDl.symm]; exact e3⟩
    · rcases List.mem_append.mp h with h | h
      · exact hzb z h
      · rw [List.mem_singleton.mp h]; omega
  · rintro H1 ⟨zs, b1, hl1, hz, hzl, hzb⟩
    refine ⟨D, _, rfl, .inl ⟨SqL.of hz, fun f hf => ?_⟩⟩
    obtain ⟨x1, y1, hl1⟩ := hl1
    have hl2 := (same_new (o := .tup (zs.map V.int)) hf) _ _ hl1
    have b2 : But l H (upd H1 f (.tup (zs.map V.int))) := b1.trans (same_new hf).but
    have hff : upd H1 f (.tup (zs.map V.int)) f = some (.tup (zs.map V.int)) := upd_same
    have nfl : f ≠ l := fun z => by subst z; rw [hl1] at hf; cases hf
    generalize upd H1 f (.tup (zs.map V.int)) = H2 at hl2 b2 hff
    -- (choose([1, 1, 2, 3, 1 + draw(9)]), fields)
    refine ⟨_, rfl, _, rfl, l, 9, rfl, ⟨x1, y1, hl2⟩, by decide, by decide, fun H3 r b3 hl3 hr => ⟨_, _, rfl, rfl, by show 5 ≤ sizeLine; decide, fun c hc => ?_⟩⟩
    obtain ⟨x3, y3, hl3⟩ := hl3
    have ncl : c ≠ l := fun z => by subst z; rw [hl3] at hc; cases hc
    have s4 : Same H3 (upd H3 c (.lst [.int 1, .int 1, .int 2, .int 3, .int (1 + r)])) := same_new hc
    have e4 : upd H3 c (.lst [.int 1, .int 1, .int 2, .int 3, .int (1 + r)]) c = some (.lst [.int 1, .int 1, .int 2, .int 3, .int (1 + r)]) := upd_same
    refine ⟨l, c, _, rfl, ⟨x3, y3, s4 _ _ hl3⟩, e4, ncl, by show 1 ≤ 5; decide, by show 5 ≤ 1000; decide, fun H5 v b5 hl5 hv => ?_⟩
    obtain ⟨wt, rfl, hw1, hw2⟩ : ∃ wt : Int, v = .int wt ∧ 1 ≤ wt ∧ wt ≤ 1000000 := by
      simp only [List.mem_cons, List.not_mem_nil, or_false] at hv
      rcases hv with rfl | rfl | rfl | rfl | rfl
      · exact ⟨_, rfl, by decide, by decide⟩
      · exact ⟨_, rfl, by decide, by decide⟩
      · exact ⟨_, rfl, by decide, by decide⟩
      · exact ⟨_, rfl, by decide, by decide⟩
      · exact ⟨_, rfl, by omega, by omega⟩
    have bH5 : But l H H5 := ((b2.trans b3).trans s4.but).trans b5
    have hf5 : H5 f = some (.tup (zs.map V.int)) := b5 _ _ nfl (s4 _ _ (b3 _ _ nfl hff))
    obtain ⟨x5, y5, hl5⟩ := hl5
    refine ⟨_, rfl, by show 2 ≤ sizeLine; decide, fun t ht => ?_⟩
    have ntl : t ≠ l := fun z => by subst z; rw [hl5] at ht; cases ht
    have htH : H t = none := by
      cases e : H t with
      | none => rfl
      | some o => have := bH5 t o ntl e; rw [ht] at this; cases this
    exact q _ t f wt zs (bH5.trans (same_new ht).but) ⟨x5, y5, (same_new ht) _ _ hl5⟩ htH ntl upd_same ((same_new ht) _ _ hf5) hzl hw1 hw2 hzb
end KN

set_option Elab.async false
set_option linter.all false
set_option maxRecDepth 100000
set_option maxHeartbeats 4000000
/-! a rule drawn -/
namespace KN
open PySem PySem.Spec PyProof.Rows L2 ClX StX
open C8 (Cal Met Mak CalAt pe_c pe_mk pe_mt pe_mt0 pss_cut tCut pe_gc)
theorem But.at_ {l a : Addr} {H H' : Hp} {o : HO} (b : But l H H') (h : H a = none) : But l H (upd H' a o) := fun x u n e => by
  rw [upd_ne (ne_of_none e h)]; exact b x u n e
theorem But.new {l a : Addr} {H H' : Hp} {o : HO} (b : But l H H') (h : H' a = none) : But l H (upd H' a o) := b.trans (same_new h).but
theorem But.free {l a : Addr} {H H' : Hp} (b : But l H H') (h : H' a = none) (n : a ≠ l) : H a = none := by
  cases e : H a with
  | none => rfl
  | some o => rw [b a o n e] at h; cases h
theorem StrAt.new {l a : Addr} {H : Hp} {o : HO} (h : StrAt H l) (ha : H a = none) : StrAt (upd H a o) l := let ⟨x, y, e⟩ := h; ⟨x, y, (same_new ha) _ _ e⟩
theorem StrAt.same {l : Addr} {H H' : Hp} (h : StrAt H l) (s : Same H H') : StrAt H' l := let ⟨x, y, e⟩ := h; ⟨x, y, s _ _ e⟩
theorem StrAt.off {l a : Addr} {H : Hp} {o : HO} (h : StrAt H l) (n : a ≠ l) : StrAt (upd H a o) l := let ⟨x, y, e⟩ := h; ⟨x, y, by rw [upd_ne n.symm]; exact e⟩
theorem StrAt.ne {l a : Addr} {H : Hp} (h : StrAt H l) (ha : H a = none) : a ≠ l := fun z => by obtain ⟨x, y, e⟩ := h; subst z; rw [ha] at e; cases e
theorem dp_ints {K : PySem.W.Frag} {H : Hp} {a : Addr} {ns : List Int} (h : SqL K H a (ns.map V.int)) : Dp K H (.ref a) (.list (ns.map PyData.int)) := by
  refine .lst h ?_
  clear h
  induction ns with
  | nil => exact .nil
  | cons n r ih => exact .cons (.int n) ih
theorem dp_strs {K : PySem.W.Frag} {H : Hp} {a : Addr} {ns : List Str} (h : SqL K H a (ns.map V.str)) : Dp K H (.ref a) (.list (ns.map PyData.str)) := by
  refine .lst h ?_
  clear h
  induction ns with
  | nil => exact .nil
  | cons n r ih => exact .cons (.str n) ih
theorem five_str : ∀ n ∈ five, PyData.strOk n = true := by decide +kernel
theorem shaped_strs (ns : List Str) (hns : ∀ n ∈ ns, n ∈ five) : SeqAt.shaped (.list (ns.map PyData.str)) = true := by
  have h1 : PyData.canLayAll0 (ns.map PyData.str) = true := by
    induction ns with
    | nil => rfl
    | cons p r ih =>
      rw [List.map_cons]
      simp only [PyData.canLayAll0, PyData.canLay0, five_str p (hns p List.mem_cons_self), Bool.true_and]
      exact ih fun n hn => hns n (List.mem_cons_of_mem _ hn)
  have h2 : PyData.depthAll (ns.map PyData.str) = 0 := by
    clear h1 hns
    induction ns with
    | nil => rfl
    | cons p r ih => rw [List.map_cons]; simp only [PyData.depthAll, PyData.depth, ih, Nat.max_self]
  unfold SeqAt.shaped
  rw [Bool.and_eq_true]
  refine ⟨by simpa only [PyData.canLay0] using h1, decide_eq_true ?_⟩
  simp only [PyData.depth, h2]
  omega
theorem eqv_nil : PyData.eqv (.list []) (.list []) = true := by simp [PyData.eqv, PyData.eqvAll]
theorem eqv_cons (x : PyData) (r : List PyData) : PyData.eqv (.list (x :: r)) (.list []) = false := by simp [PyData.eqv, PyData.eqvAll]
theorem dp_nil {K : PySem.W.Frag} {H : Hp} {a : Addr} (h : H a = some (.lst [])) : Dp K H (.ref a) (.list []) := .lst (SqL.of h) .nil
theorem map_erase {α β : Type} (f : α → β) : ∀ (l : List α) (r : Nat), (l.map f).eraseIdx r = (l.eraseIdx r).map f
  | [], _ => rfl
  | _ :: _, 0 => rfl
  | a :: t, r + 1 => by
    show f a :: (t.map f).eraseIdx r = f a :: (t.eraseIdx r).map f
    rw [map_erase f t r]
theorem nodup_erase : ∀ {l : List Int} {r : Nat}, l.Nodup → (h : r < l.length) → l[r] ∉ l.eraseIdx r
  | a :: t, 0, nd, _ => (List.nodup_cons.mp nd).1
  | a :: t, r + 1, nd, h => fun hm => by
    obtain ⟨n1, n2⟩ := List.nodup_cons.mp nd
    have hm : t[r]'(by simpa using h) ∈ a :: t.eraseIdx r := hm
    rcases List.mem_cons.mp hm with e | e
    · exact n1 (e ▸ List.getElem_mem _)
    · exact nodup_erase n2 (by simpa using h) e
def spSRule (K : PySem.W.Frag) : Sp := fun vs H Q _ => ∃ (l : Addr) (n : Nat), vs = [.ref l, .int n] ∧ StrAt H l ∧ 1 ≤ n ∧ n ≤ 4 ∧
  ∀ (H' : Hp) (r : Addr) (ps : List (Int × Int)), But l H H' → StrAt H' l → H r = none → r ≠ l → RuleAt H' r ps → RuleOk n ps → Q (.ref r) H'
theorem ok__law_some_rule {P : Program} {w : World} {K : PySem.W.Frag} {mg : Str → Option Value} {base : Heap} (T : Tx K mg) : Cal P w K mg base 3 "_law_some_rule" (spSRule K) [] := by
  obtain ⟨fd, F⟩ := T.d__law_some_rule
  have G__law_choose := ok__law_choose (P := P) (w := w) (base := base) T
  have G__law_draw := ok__law_draw (P := P) (w := w) (base := base) T
  have bd : Binds K fd ["_law_stream_here", "_law_size"] [] := F.binds fun _ _ _ _ _ _ us hl => match us, hl with | [_, _], _ => rfl
  refine cal_of (F.ok sc__law_some_rule (fun vs H Q E h => ?len) (fun cdv A outer s H vs Q E hr h => ?body)) bd T.g__law_some_rule T.k__law_some_rule
  case len => exact (by first | (obtain ⟨rfl, _⟩ := h; rfl) | (obtain ⟨_, rfl, _⟩ := h; rfl) | (obtain ⟨_, _, rfl, _⟩ := h; rfl) | (obtain ⟨_, _, _, rfl, _⟩ := h; rfl) | (obtain ⟨_, _, _, _, rfl, _⟩ := h; rfl) | (obtain ⟨_, _, _, _, _, rfl, _⟩ := h; rfl) | (obtain ⟨_, _, _, _, _, _, rfl, _⟩ := h; rfl) | (obtain ⟨_, _, _, _, _, _, _, rfl, _⟩ := h; rfl) | (obtain ⟨_, _, _, _, _, _, _, _, rfl, _⟩ := h; rfl) | (obtain ⟨_, _, _, _, _, _, _, _, _, rfl, _⟩ := h; rfl) | (obtain ⟨_, _, _, _, _, _, _, _, _, _, rfl, _⟩ := h; rfl) | (obtain ⟨_, _, _, _, _, _, _, _, _, _, _, rfl, _⟩ := h; rfl) | (obtain ⟨_, _, _, _, _, _, _, _, _, _, _, _, rfl, _⟩ := h; rfl) | (obtain ⟨_, _, _, _, _, _, _, _, _, _, _, _, _, rfl, _⟩ := h; rfl) | (obtain ⟨_, _, _, _, _, _, _, _, _, _, _, _, _, _, rfl, _⟩ := h; rfl) | (obtain ⟨_, _, _, _, _, _, _, _, _, _, _, _, _, _, _, rfl, _⟩ := h; rfl))
  case body =>
  have hu := hu_of hr
  refine ⟨_, (pss_cons (ps_par rfl sc__law_some_rule.nd (i := 2) (j := 3) rfl rfl (by decide) rfl rfl (pa_cons (pe_listRg rfl (by rfl) T.z_list (prg_2 (by rfl) T.z_range pe_int (pe_op op_add (pv 1) pe_int))) (pa_cons (pe_lst pa_nil) pa_nil)) rfl)
      (pss_cons (ps_for PassesOwn.never rfl (pi_range1 (by rfl) T.z_range (pa_cons (pe_c G__law_choose hr (by decide) (by rfl) (pa_cons (pv 0) (pa_cons (pe_lst (pa_cons pe_int (pa_cons pe_int (pa_cons pe_int (pa_cons (pv 1) pa_nil))))) pa_nil))) pa_nil)) (pg_name (i := 4) sc__law_some_rule.nd rfl (Or.inl rfl))
      (pss_one (ps_if (pt_cmpR (op_neD hr.units) (pv 2) (pe_lst pa_nil) (nomark _)) (pss_cons (ps_set (i := 5) sc__law_some_rule.nd rfl (Or.inl rfl) (pe_bm PySem.F.plainAttrs_list PySem.F.slot_list_pop PySem.F.type_list_pop mt_popAt (pv 2) (pa_cons (pe_c G__law_draw hr (by decide) (by rfl) (pa_cons (pv 0) (pa_cons (pe_callB (lenS K rfl) (by rfl) T.z_len PySem.boot_len (pa_cons (pv 2) pa_nil)) pa_nil))) pa_nil)))
      (pss_one (ps_expr (pe_bm PySem.F.plainAttrs_list PySem.F.slot_list_append PySem.F.type_list_append mt_append (pv 3) (pa_cons (pe_tup (pa_cons (pv 5) (pa_cons (pe_c G__law_choose hr (by decide) (by rfl) (pa_cons (pv 0) (pa_cons (pe_lst (pa_cons pe_int (pa_cons pe_int (pa_cons pe_int (pa_cons pe_int (pa_cons pe_int pa_nil)))))) pa_nil))) pa_nil))) pa_nil)))))
      pss_nil)))
      (pss_one (ps_ret (pe_callTy (tupS K rfl) (by rfl) T.z_tuple (by decide +kernel) (pa_cons (pv 3) pa_nil)))))), ?_⟩
  obtain ⟨l, n, rfl, hl, hn1, hn2, q⟩ := h
  refine ⟨_, rfl, _, _, rfl, rfl, _, _, rfl, rfl, RgOk.of_le (by omega) (by omega) (by omega) (by omega), fun c hc => ⟨Nat.zero_le _, fun fo hfo => ⟨_, _, rfl, ?_⟩⟩⟩
  have erg : rgV 1 ((n : Int) + 1) = ((List.range n).map fun i => (1 : Int) + (i : Nat)).map V.int := by
    unfold rgV
    rw [List.map_map, show ((n : Int) + 1 - 1).toNat = n by omega]; rfl
  rw [erg] at hfo ⊢
  have hcl := hl.ne hc
  have b0 : But l H (upd (upd H c (.lst (((List.range n).map fun i => (1 : Int) + (i : Nat)).map V.int))) fo (.lst [])) := ((same_new hc).new hfo).but
  have l0 := (hl.new (o := .lst (((List.range n).map fun i => (1 : Int) + (i : Nat)).map V.int)) hc).new (o := .lst []) hfo
  have nfc : fo ≠ c := fun z => by subst z; rw [upd_same] at hfo; cases hfo
  have e1 : upd (upd H c (.lst (((List.range n).map fun i => (1 : Int) + (i : Nat)).map V.int))) fo (.lst []) c = some (.lst (((List.range n).map fun i => (1 : Int) + (i : Nat)).map V.int)) := by rw [upd_ne nfc.symm, upd_same]
  have e2 : upd (upd H c (.lst (((List.range n).map fun i => (1 : Int) + (i : Nat)).map V.int))) fo (.lst []) fo = some (.lst []) := upd_same
  have hfoH : H fo = none := (same_new hc).free hfo
  have hfl := hl.ne hfoH
  generalize upd (upd H c (.lst (((List.range n).map fun i => (1 : Int) + (i : Nat)).map V.int))) fo (.lst []) = H1 at b0 l0 e1 e2
  -- choose(stream, [0, 1, 1, size])
  refine ⟨_, rfl, _, rfl, by show 4 ≤ sizeLine; decide, fun d hd => ?_⟩
  have s1 : Same H1 (upd H1 d (.lst [.int 0, .int 1, .int 1, .int n])) := same_new hd
  refine ⟨l, d, _, rfl, l0.same s1, upd_same, l0.ne hd, by show 1 ≤ 4; decide, by show 4 ≤ 1000; decide, fun H2 v b2 l2 hv => ?_⟩
  obtain ⟨m, rfl, hm⟩ : ∃ m : Nat, v = .int m ∧ m ≤ 4 := by
    simp only [List.mem_cons, List.not_mem_nil, or_false] at hv
    rcases hv with rfl | rfl | rfl | rfl
    · exact ⟨0, rfl, by decide⟩
    · exact ⟨1, rfl, by decide⟩
    · exact ⟨1, rfl, by decide⟩
    · exact ⟨n, rfl, hn2⟩
  have b02 : But l H H2 := (b0.trans s1.but).trans b2
  refine ⟨m, rfl, by omega, by omega, for_it (walk_range (lo := 0) (n := m)) (fun j σ H' => ∃ (v4 v5 : Option V) (cs : List Int) (ts : List Addr) (ps : List (Int × Int)), σ = [some (.ref l), some (.int n), some (.ref c), some (.ref fo), v4, v5] ∧ But l H H' ∧ StrAt H' l ∧ H' c = some (.lst (cs.map V.int)) ∧ H' fo = some (.lst (ts.map V.ref)) ∧
    ts.length = ps.length ∧ ps.length ≤ j ∧ (∀ (i : Nat) (t : Addr), ts[i]? = some t → ∃ p, ps[i]? = some p ∧ H' t = some (.tup [.int p.1, .int p.2])) ∧ cs.Nodup ∧ cs.length ≤ 4 ∧ (∀ x ∈ cs, 1 ≤ x ∧ x ≤ (n : Int)) ∧ (ps.map (·.1)).Nodup ∧ (∀ p ∈ ps, p.1 ∉ cs) ∧ ∀ p ∈ ps, 1 ≤ p.1 ∧ p.1 ≤ (n : Int) ∧ 1 ≤ p.2 ∧ p.2 ≤ 1000000) ?_ ?_ ?_ ?_⟩
  · refine ⟨none, none, _, [], [], rfl, b02, l2, b2 _ _ hcl (s1 _ _ e1), b2 _ _ hfl (s1 _ _ e2), rfl, Nat.le_refl _, fun i t h => by simp at h, ?_, by simp; omega, fun x hx => ?_, .nil, fun p h => (nomatch h), fun p h => (nomatch h)⟩
    · exact List.pairwise_map.mpr (List.Pairwise.imp (fun {a b} h e => h (by omega)) List.nodup_range)
    · obtain ⟨i, hi, rfl⟩ := List.mem_map.mp hx
      have := List.mem_range.mp hi
      omega
  · exact fun _ _ _ _ _ => trivial
  · rintro j x σ H3 H4 hj ⟨v4, v5, cs, ts, ps, rfl, b3, l3, hc3, hf3, htl, hpl, hat, hcn, hcl4, hcb, hpn, hpc, hpb⟩ ⟨rfl, rfl⟩
    refine ⟨_, rfl, Nat.zero_le _, fun z hz => ?_⟩
    have l4 := l3.new (o := .lst []) hz
    have b4 := b3.new (o := .lst []) hz
    have hc4 := (same_new (o := .lst []) hz) _ _ hc3
    have hf4 := (same_new (o := .lst []) hz) _ _ hf3
    have hz4 : upd H4 z (.lst []) z = some (.lst []) := upd_same
    have hat4 : ∀ (i : Nat) (t : Addr), ts[i]? = some t → ∃ p, ps[i]? = some p ∧ upd H4 z (.lst []) t = some (.tup [.int p.1, .int p.2]) := fun i t e => let ⟨p, h1, h2⟩ := hat i t e; ⟨p, h1, (same_new hz) _ _ h2⟩
    generalize upd H4 z (.lst []) = H5 at l4 b4 hc4 hf4 hz4 hat4
    refine ⟨_, _, dp_ints (SqL.of hc4), dp_nil hz4, W.shaped_ints cs, rfl, _, rfl, ?_⟩
    cases cs with
    | nil =>
      rw [show ([] : List Int).map PyData.int = [] from rfl, eqv_nil]
      exact iteF ⟨_, v5, [], ts, ps, rfl, b4, l4, hc4, hf4, htl, by omega, hat4, hcn, hcl4, hcb, hpn, hpc, hpb⟩
    | cons c0 cr =>
      rw [List.map_cons, eqv_cons]
      refine iteT ⟨_, rfl, .inl ⟨rfl, _, SqL.of hc4⟩, _, rfl, _, rfl, _, _, rfl, .inl (SqL.of hc4), l, (c0 :: cr).length, ?_, l4, by simp, by omega, fun H6 r b6 l6 hr => ?_⟩
      · rw [List.length_map]; rfl
      have hc6 := b6 _ _ hcl hc4
      have hf6 := b6 _ _ hfl hf4
      have b46 := b4.trans b6
      have hrx : ((c0 :: cr).map V.int)[r]? = some (V.int (c0 :: cr)[r]) := by rw [List.getElem?_map, List.getElem?_eq_getElem hr]; rfl
      refine ⟨c, _, r, r, _, rfl, rfl, hc6, by omega, by omega, by rw [seqIndex_of (by omega) (by rw [List.length_map]; omega)]; rfl, hrx, ?_⟩
      generalize hcs : (c0 :: cr) = cs at *
      have hmem : cs[r] ∈ cs := List.getElem_mem hr
      have ecs : (cs.map V.int).eraseIdx r = (cs.eraseIdx r).map V.int := map_erase _ _ _
      rw [ecs]
      have b7 : But l H (upd H6 c (.lst ((cs.eraseIdx r).map V.int))) := b46.at_ hc
      have l7 := l6.off (o := .lst ((cs.eraseIdx r).map V.int)) hcl
      have hf7 : upd H6 c (.lst ((cs.eraseIdx r).map V.int)) fo = some (.lst (ts.map V.ref)) := by rw [upd_ne nfc]; exact hf6
      have hc7 : upd H6 c (.lst ((cs.eraseIdx r).map V.int)) c = some (.lst ((cs.eraseIdx r).map V.int)) := upd_same
      have tl : ∀ {t : Addr} {o : List V} {Hx : Hp}, StrAt Hx l → Hx t = some (.tup o) → t ≠ l := fun {t o Hx} h e z => by obtain ⟨x, y, h⟩ := h; subst z; rw [h] at e; cases e
      have hat7 : ∀ (i : Nat) (t : Addr), ts[i]? = some t → ∃ p, ps[i]? = some p ∧ upd H6 c (.lst ((cs.eraseIdx r).map V.int)) t = some (.tup [.int p.1, .int p.2]) := fun i t e => by
        obtain ⟨p, h1, h2⟩ := hat4 i t e
        have h3 := b6 _ _ (tl l4 h2) h2
        exact ⟨p, h1, by rw [upd_ne (ne_of h3 hc6 (fun z => nomatch z))]; exact h3⟩
      generalize upd H6 c (.lst ((cs.eraseIdx r).map V.int)) = H7 at b7 l7 hf7 hc7 hat7
      -- found.append((column, choose(stream, [3, 4, 5, 6, 20])))
      refine ⟨_, rfl, .inl ⟨rfl, _, SqL.of hf7⟩, _, rfl, _, rfl, by show 5 ≤ sizeLine; decide, fun d2 hd2 => ?_⟩
      have s8 : Same H7 (upd H7 d2 (.lst [.int 3, .int 4, .int 5, .int 6, .int 20])) := same_new hd2
      refine ⟨l, d2, _, rfl, l7.same s8, upd_same, l7.ne hd2, by show 1 ≤ 5; decide, by show 5 ≤ 1000; decide, fun H9 v b9 l9 hv => ?_⟩
      obtain ⟨w2, rfl, hw1, hw2⟩ : ∃ w2 : Int, v = .int w2 ∧ 1 ≤ w2 ∧ w2 ≤ 1000000 := by
        simp only [List.mem_cons, List.not_mem_nil, or_false] at hv
        rcases hv with rfl | rfl | rfl | rfl | rfl <;> exact ⟨_, rfl, by decide, by decide⟩
      refine ⟨by show 2 ≤ sizeLine; decide, fun t ht => ?_⟩
      have hf9 := b9 _ _ hfl (s8 _ _ hf7)
      have hc9 := b9 _ _ hcl (s8 _ _ hc7)
      have bX : But l H (upd H9 t (.tup [.int cs[r], .int w2])) := ((b7.trans s8.but).trans b9).new ht
      have lX := l9.new (o := .tup [.int cs[r], .int w2]) ht
      have hfX := (same_new (o := .tup [.int cs[r], .int w2]) ht) _ _ hf9
      have hcX := (same_new (o := .tup [.int cs[r], .int w2]) ht) _ _ hc9
      have htX : upd H9 t (.tup [.int cs[r], .int w2]) t = some (.tup [.int cs[r], .int w2]) := upd_same
      have hatX : ∀ (i : Nat) (t' : Addr), ts[i]? = some t' → ∃ p, ps[i]? = some p ∧ upd H9 t (.tup [.int cs[r], .int w2]) t' = some (.tup [.int p.1, .int p.2]) := fun i t' e => by
        obtain ⟨p, h1, h2⟩ := hat7 i t' e
        exact ⟨p, h1, (same_new ht) _ _ (b9 _ _ (tl l7 h2) (s8 _ _ h2))⟩
      generalize upd H9 t (.tup [.int cs[r], .int w2]) = HX at bX lX hfX hcX htX hatX
      have htf : t ≠ fo := ne_of htX hfX (fun z => nomatch z)
      refine ⟨fo, _, _, rfl, rfl, hfX, small1000 (by rw [List.length_map]; omega), ?_⟩
      refine ⟨_, _, cs.eraseIdx r, ts ++ [t], ps ++ [(cs[r], w2)], rfl, bX.at_ hfoH, lX.off hfl, by rw [upd_ne nfc.symm]; exact hcX, by rw [upd_same, List.map_append]; rfl, by simp [htl], by simp; omega, fun i t' e => ?_, hcn.eraseIdx r, ?_, fun x hx => hcb x (List.mem_of_mem_eraseIdx hx), ?_, fun p hp hin => ?_, fun p hp => ?_⟩
      · by_cases hi : i < ts.length
        · rw [List.getElem?_append_left hi] at e
          obtain ⟨p, h1, h2⟩ := hatX i t' e
          exact ⟨p, by rw [List.getElem?_append_left (by omega)]; exact h1, by rw [upd_ne (ne_of h2 hfX (fun z => nomatch z))]; exact h2⟩
        · rw [List.getElem?_append_right (by omega)] at e
          have h0 : i - ts.length = 0 := by
            cases q2 : i - ts.length with
            | zero => rfl
            | succ n => rw [q2] at e; simp at e
          rw [h0] at e; cases e
          refine ⟨(cs[r], w2), ?_, by rw [upd_ne htf]; exact htX⟩
          rw [List.getElem?_append_right (by omega), ← htl, h0]; rfl
      · have := List.length_eraseIdx_le cs r; omega
      · rw [List.map_append]
        exact nd_snoc hpn fun h => by obtain ⟨p, hp, e⟩ := List.mem_map.mp h; exact hpc p hp (by rw [e]; exact hmem)
      · rcases List.mem_append.mp hp with hp | hp
        · exact hpc p hp (List.mem_of_mem_eraseIdx hin)
        · rw [List.mem_singleton.mp hp] at hin
          exact nodup_erase hcn hr hin
      · rcases List.mem_append.mp hp with hp | hp
        · exact hpb p hp
        · rw [List.mem_singleton.mp hp]
          exact ⟨(hcb _ hmem).1, (hcb _ hmem).2, hw1, hw2⟩
  · rintro σ H3 ⟨v4, v5, cs, ts, ps, rfl, b3, l3, hc3, hf3, htl, hpl, hat, hcn, hcl4, hcb, hpn, hpc, hpb⟩
    refine ⟨_, rfl, fo, _, rfl, .inl ⟨SqL.of hf3, fun r hr => ?_⟩⟩
    have hrl := l3.ne hr
    exact q _ r ps (b3.new hr) (l3.new hr) (b3.free hr hrl) hrl ⟨ts, upd_same, htl, fun i t e => let ⟨p, h1, h2⟩ := hat i t e; ⟨p, h1, (same_new hr) _ _ h2⟩⟩ ⟨by omega, hpn, hpb⟩
end KN

set_option Elab.async false
set_option linter.all false
set_option maxRecDepth 100000
set_option maxHeartbeats 4000000
/-! deeds -/
namespace KN
open PySem PySem.Spec PyProof.Rows L2 ClX StX
open C8 (Cal Met Mak CalAt pe_c pe_mk pe_mt pe_mt0 pss_cut tCut pe_gc)
theorem ok__law_dropped {P : Program} {w : World} {K : PySem.W.Frag} {mg : Str → Option Value} {base : Heap} (T : Tx K mg) : Cal P w K mg base 8 "_law_dropped" (spDrop K) [] := by
  obtain ⟨fd, F⟩ := T.d__law_dropped
  have G_NameBook_drop := ok_NameBook_drop (P := P) (w := w) (base := base) T
  have bd : Binds K fd ["_law_book", "_law_ids"] [] := F.binds fun _ _ _ _ _ _ us hl => match us, hl with | [_, _], _ => rfl
  refine cal_of (F.ok sc__law_dropped (fun vs H Q E h => ?len) (fun cdv A outer s H vs Q E hr h => ?body)) bd T.g__law_dropped T.k__law_dropped
  case len => exact (by first | (obtain ⟨rfl, _⟩ := h; rfl) | (obtain ⟨_, rfl, _⟩ := h; rfl) | (obtain ⟨_, _, rfl, _⟩ := h; rfl) | (obtain ⟨_, _, _, rfl, _⟩ := h; rfl) | (obtain ⟨_, _, _, _, rfl, _⟩ := h; rfl) | (obtain ⟨_, _, _, _, _, rfl, _⟩ := h; rfl) | (obtain ⟨_, _, _, _, _, _, rfl, _⟩ := h; rfl) | (obtain ⟨_, _, _, _, _, _, _, rfl, _⟩ := h; rfl) | (obtain ⟨_, _, _, _, _, _, _, _, rfl, _⟩ := h; rfl) | (obtain ⟨_, _, _, _, _, _, _, _, _, rfl, _⟩ := h; rfl) | (obtain ⟨_, _, _, _, _, _, _, _, _, _, rfl, _⟩ := h; rfl) | (obtain ⟨_, _, _, _, _, _, _, _, _, _, _, rfl, _⟩ := h; rfl) | (obtain ⟨_, _, _, _, _, _, _, _, _, _, _, _, rfl, _⟩ := h; rfl) | (obtain ⟨_, _, _, _, _, _, _, _, _, _, _, _, _, rfl, _⟩ := h; rfl) | (obtain ⟨_, _, _, _, _, _, _, _, _, _, _, _, _, _, rfl, _⟩ := h; rfl) | (obtain ⟨_, _, _, _, _, _, _, _, _, _, _, _, _, _, _, rfl, _⟩ := h; rfl))
  case body =>
  have hu := hu_of hr
  refine ⟨_, (pss_one (ps_if (pt_cmpR op_eq (pe_callB (lenS K rfl) (by rfl) T.z_len PySem.boot_len (pa_cons (pv 1) pa_nil)) pe_int (nomark _)) (pss_one ps_never)
      (pss_one (ps_if (pt_cmpR op_eq (pe_callB (lenS K rfl) (by rfl) T.z_len PySem.boot_len (pa_cons (pv 1) pa_nil)) pe_int (nomark _)) (pss_one (ps_expr (pe_ms G_NameBook_drop hr (by decide) (pv 0) (pa_cons (pe_ix (ixT K rfl) (pv 1) pe_int (fun _ _ => rfl)) pa_nil))))
      (pss_one (ps_expr (pe_ms G_NameBook_drop hr (by decide) (pv 0) (pa_cons (pe_ix (ixT K rfl) (pv 1) pe_int (fun _ _ => rfl)) (pa_cons (pe_ix (ixT K rfl) (pv 1) pe_int (fun _ _ => rfl)) pa_nil))))))))), ?_⟩
  obtain ⟨b, p, w', k, s, D, gs, nm, pn, i, rfl, hB, hk, hi, hp, q⟩ := h
  obtain ⟨dx, sl, ss, h1, _⟩ := id hB.ex
  refine ⟨_, rfl, _, _, rfl, .inr (SqT.of hp), rfl, _, rfl, iteDF (fun z => nomatch V.int.inj z) ⟨_, rfl, _, _, rfl, .inr (SqT.of hp), rfl, _, rfl, iteD rfl ?_⟩⟩
  refine ⟨_, rfl, b, dx, _, rfl, h1, rfl, _, rfl, _, _, _, _, rfl, rfl, SqT.of hp, atI_nat (j := 0) rfl, [.ref b], [.int i], rfl, rfl, by show 1 ≤ sizeLine; decide, fun p2 hp2 => ?_⟩
  refine ⟨b, p2, w', k, s, D, gs, nm, pn, i, rfl, hB.same (same_new hp2), hk, hi, upd_same, fun H' s' D' gs' nm' pn' bt hB' hc => q H' s' D' gs' nm' pn' ((same_new hp2).but.trans bt) hB' hc⟩
def spNamed (K : PySem.W.Frag) : Sp := fun vs H Q _ => ∃ (b a : Addr) (w : Int) (k : Nat) (s : Addr) (D : StD) (gs : List (List Int)) (nm pn : Str → Option Int) (wd n : Str) (i : Int), vs = [.ref b, .ref a] ∧ BkAt K w H b k s D gs nm pn ∧ k < 900 ∧ H a = some (.tup [.str wd, .str n, .int i]) ∧ n ∈ five ∧ i ∈ idsK D.kvs ∧
  ∀ (H' : Hp) (s' : Addr) (D' : StD) (gs' : List (List Int)) (nm' pn' : Str → Option Int), But b H H' → BkAt K w H' b (k + 1) s' D' gs' nm' pn' → Q .non H'
theorem ok__law_named {P : Program} {w : World} {K : PySem.W.Frag} {mg : Str → Option Value} {base : Heap} (T : Tx K mg) : Cal P w K mg base 9 "_law_named" (spNamed K) [] := by
  obtain ⟨fd, F⟩ := T.d__law_named
  have G_NameBook_give := ok_NameBook_give (P := P) (w := w) (base := base) T
  have G_NameBook_pin := ok_NameBook_pin (P := P) (w := w) (base := base) T
  have bd : Binds K fd ["_law_book", "_law_deed"] [] := F.binds fun _ _ _ _ _ _ us hl => match us, hl with | [_, _], _ => rfl
  refine cal_of (F.ok sc__law_named (fun vs H Q E h => ?len) (fun cdv A outer s H vs Q E hr h => ?body)) bd T.g__law_named T.k__law_named
  case len => exact (by first | (obtain ⟨rfl, _⟩ := h; rfl) | (obtain ⟨_, rfl, _⟩ := h; rfl) | (obtain ⟨_, _, rfl, _⟩ := h; rfl) | (obtain ⟨_, _, _, rfl, _⟩ := h; rfl) | (obtain ⟨_, _, _, _, rfl, _⟩ := h; rfl) | (obtain ⟨_, _, _, _, _, rfl, _⟩ := h; rfl) | (obtain ⟨_, _, _, _, _, _, rfl, _⟩ := h; rfl) | (obtain ⟨_, _, _, _, _, _, _, rfl, _⟩ := h; rfl) | (obtain ⟨_, _, _, _, _, _, _, _, rfl, _⟩ := h; rfl) | (obtain ⟨_, _, _, _, _, _, _, _, _, rfl, _⟩ := h; rfl) | (obtain ⟨_, _, _, _, _, _, _, _, _, _, rfl, _⟩ := h; rfl) | (obtain ⟨_, _, _, _, _, _, _, _, _, _, _, rfl, _⟩ := h; rfl) | (obtain ⟨_, _, _, _, _, _, _, _, _, _, _, _, rfl, _⟩ := h; rfl) | (obtain ⟨_, _, _, _, _, _, _, _, _, _, _, _, _, rfl, _⟩ := h; rfl) | (obtain ⟨_, _, _, _, _, _, _, _, _, _, _, _, _, _, rfl, _⟩ := h; rfl) | (obtain ⟨_, _, _, _, _, _, _, _, _, _, _, _, _, _, _, rfl, _⟩ := h; rfl))
  case body =>
  have hu := hu_of hr
  refine ⟨_, (pss_one (ps_if (pt_cmpR op_eq (pe_ix (ixT K rfl) (pv 1) pe_int (fun _ _ => rfl)) pe_str (nomark _)) (pss_one (ps_expr (pe_mt G_NameBook_give hr (by decide) (pv 0) (pa_cons (pe_ix (ixT K rfl) (pv 1) pe_int (fun _ _ => rfl)) (pa_cons (pe_ix (ixT K rfl) (pv 1) pe_int (fun _ _ => rfl)) pa_nil)))))
      (pss_one (ps_expr (pe_mt G_NameBook_pin hr (by decide) (pv 0) (pa_cons (pe_ix (ixT K rfl) (pv 1) pe_int (fun _ _ => rfl)) (pa_cons (pe_ix (ixT K rfl) (pv 1) pe_int (fun _ _ => rfl)) pa_nil))))))), ?_⟩
  obtain ⟨b, a, w', k, s, D, gs, nm, pn, wd, n, i, rfl, hB, hk, ha, hn, hi, q⟩ := h
  obtain ⟨dx, sl, ss, h1, _⟩ := id hB.ex
  refine ⟨_, rfl, _, _, _, _, rfl, rfl, SqT.of ha, atI_nat (j := 0) rfl, rfl, _, rfl, ite2 (fun _ => ?_) fun _ => ?_⟩
  · exact ⟨_, rfl, b, dx, _, rfl, h1, rfl, _, rfl, _, _, _, _, rfl, rfl, SqT.of ha, atI_nat (j := 1) rfl, _, rfl, _, _, _, _, rfl, rfl, SqT.of ha, atI_nat (j := 2) rfl, b, w', k, s, D, gs, nm, pn, n, i, rfl, hB, hk, hn, hi, fun H' s' D' nm' pn' bt hB' => q H' s' D' gs nm' pn' bt hB'⟩
  · exact ⟨_, rfl, b, dx, _, rfl, h1, rfl, _, rfl, _, _, _, _, rfl, rfl, SqT.of ha, atI_nat (j := 1) rfl, _, rfl, _, _, _, _, rfl, rfl, SqT.of ha, atI_nat (j := 2) rfl, b, w', k, s, D, gs, nm, pn, n, i, rfl, hB, hk, hn, hi, fun H' s' D' nm' pn' bt hB' => q H' s' D' gs nm' pn' bt hB'⟩
def spUnnamed (K : PySem.W.Frag) : Sp := fun vs H Q _ => ∃ (b a : Addr) (w : Int) (k : Nat) (s : Addr) (D : StD) (gs : List (List Int)) (nm pn : Str → Option Int) (n : Str) (i : Int), vs = [.ref b, .ref a] ∧ BkAt K w H b k s D gs nm pn ∧ k < 900 ∧ H a = some (.tup [.str "unpin", .str n]) ∧ pn n = some i ∧
  ∀ (H' : Hp) (s' : Addr) (D' : StD) (gs' : List (List Int)) (nm' pn' : Str → Option Int), But b H H' → BkAt K w H' b (k + 1) s' D' gs' nm' pn' → Q .non H'
theorem str_ne {a b : Str} (h : a ≠ b) : ¬ V.str a = V.str b := fun z => h (V.str.inj z)
theorem ok__law_unnamed {P : Program} {w : World} {K : PySem.W.Frag} {mg : Str → Option Value} {base : Heap} (T : Tx K mg) : Cal P w K mg base 8 "_law_unnamed" (spUnnamed K) [] := by
  obtain ⟨fd, F⟩ := T.d__law_unnamed
  have G_NameBook_unpin := ok_NameBook_unpin (P := P) (w := w) (base := base) T
  have bd : Binds K fd ["_law_book", "_law_deed"] [] := F.binds fun _ _ _ _ _ _ us hl => match us, hl with | [_, _], _ => rfl
  refine cal_of (F.ok sc__law_unnamed (fun vs H Q E h => ?len) (fun cdv A outer s H vs Q E hr h => ?body)) bd T.g__law_unnamed T.k__law_unnamed
  case len => exact (by first | (obtain ⟨rfl, _⟩ := h; rfl) | (obtain ⟨_, rfl, _⟩ := h; rfl) | (obtain ⟨_, _, rfl, _⟩ := h; rfl) | (obtain ⟨_, _, _, rfl, _⟩ := h; rfl) | (obtain ⟨_, _, _, _, rfl, _⟩ := h; rfl) | (obtain ⟨_, _, _, _, _, rfl, _⟩ := h; rfl) | (obtain ⟨_, _, _, _, _, _, rfl, _⟩ := h; rfl) | (obtain ⟨_, _, _, _, _, _, _, rfl, _⟩ := h; rfl) | (obtain ⟨_, _, _, _, _, _, _, _, rfl, _⟩ := h; rfl) | (obtain ⟨_, _, _, _, _, _, _, _, _, rfl, _⟩ := h; rfl) | (obtain ⟨_, _, _, _, _, _, _, _, _, _, rfl, _⟩ := h; rfl) | (obtain ⟨_, _, _, _, _, _, _, _, _, _, _, rfl, _⟩ := h; rfl) | (obtain ⟨_, _, _, _, _, _, _, _, _, _, _, _, rfl, _⟩ := h; rfl) | (obtain ⟨_, _, _, _, _, _, _, _, _, _, _, _, _, rfl, _⟩ := h; rfl) | (obtain ⟨_, _, _, _, _, _, _, _, _, _, _, _, _, _, rfl, _⟩ := h; rfl) | (obtain ⟨_, _, _, _, _, _, _, _, _, _, _, _, _, _, _, rfl, _⟩ := h; rfl))
  case body =>
  have hu := hu_of hr
  refine ⟨_, (pss_one (ps_if (pt_cmpR op_eq (pe_ix (ixT K rfl) (pv 1) pe_int (fun _ _ => rfl)) pe_str (nomark _)) (pss_one ps_never)
      (pss_one (ps_expr (pe_mt G_NameBook_unpin hr (by decide) (pv 0) (pa_cons (pe_ix (ixT K rfl) (pv 1) pe_int (fun _ _ => rfl)) pa_nil)))))), ?_⟩
  obtain ⟨b, a, w', k, s, D, gs, nm, pn, n, i, rfl, hB, hk, ha, hn, q⟩ := h
  obtain ⟨dx, sl, ss, h1, _⟩ := id hB.ex
  refine ⟨_, rfl, _, _, _, _, rfl, rfl, SqT.of ha, atI_nat (j := 0) rfl, rfl, _, rfl, iteDF (str_ne (by decide +kernel)) ?_⟩
  exact ⟨_, rfl, b, dx, _, rfl, h1, rfl, _, rfl, _, _, _, _, rfl, rfl, SqT.of ha, atI_nat (j := 1) rfl, b, w', k, s, D, gs, nm, pn, n, i, rfl, hB, hk, hn, fun H' s' D' nm' pn' bt hB' => q H' s' D' gs nm' pn' bt hB'⟩
/-- what may be done -/
inductive Deed (w : Int) (D : StD) (pn : Str → Option Int) (H : Hp) : Str → List V → Prop
  | add (i : Int) (t f : Addr) (wt : Int) (ns : List Int) : i ∉ idsK D.kvs → 1 ≤ i → i ≤ 39 → D.kvs.length < 20 → H t = some (.tup [.int wt, .ref f]) → H f = some (.tup (ns.map V.int)) → (ns.length : Int) = w → 1 ≤ wt → wt ≤ 1000000 → (∀ z ∈ ns, -1000000000 ≤ z ∧ z ≤ 1000000000) → Deed w D pn H "add" [.str "add", .int i, .ref t]
  | fields (i : Int) (t f : Addr) (wt : V) (ns : List Int) : i ∈ idsK D.kvs → H t = some (.tup [wt, .ref f]) → H f = some (.tup (ns.map V.int)) → (ns.length : Int) = w → (∀ z ∈ ns, -1000000000 ≤ z ∧ z ≤ 1000000000) → Deed w D pn H "fields" [.str "fields", .int i, .ref t]
  | drop (i : Int) (p : Addr) : i ∈ idsK D.kvs → H p = some (.tup [.int i]) → Deed w D pn H "drop" [.str "drop", .ref p]
  | rule (r : Addr) (ps : List (Int × Int)) : RuleAt H r ps → RuleOk w ps → Deed w D pn H "rule" [.str "rule", .ref r]
  | give (wd n : Str) (i : Int) : (wd = "give" ∨ wd = "pin") → n ∈ five → i ∈ idsK D.kvs → Deed w D pn H wd [.str wd, .str n, .int i]
  | unpin (n : Str) (i : Int) : pn n = some i → Deed w D pn H "unpin" [.str "unpin", .str n]
def chgW : List Str := ["fields", "rule", "drop", "add"]
theorem inW {wd : Str} {l : List V} {b : Bool} {A B : Prop} (e : inV (.str wd) l = b) (h : if b = true then A else B) : if inV (.str wd) l = true then A else B := by rw [e]; exact h
def spDoneW (K : PySem.W.Frag) : Sp := fun vs H Q _ => ∃ (b a : Addr) (w : Int) (k : Nat) (s : Addr) (D : StD) (gs : List (List Int)) (nm pn : Str → Option Int) (wd : Str) (xs : List V), vs = [.ref b, .ref a] ∧ BkAt K w H b k s D gs nm pn ∧ k < 900 ∧ w ≤ 2 ∧ H a = some (.tup xs) ∧ Deed w D pn H wd xs ∧
  ∀ (H' : Hp) (s' : Addr) (D' : StD) (gs' : List (List Int)) (nm' pn' : Str → Option Int), But b H H' → BkAt K w H' b (k + 1) s' D' gs' nm' pn' → (wd ∈ chgW → Chg nm pn (idsK D'.kvs) gs' nm' pn') → Q .non H'
theorem ok__law_done {P : Program} {w : World} {K : PySem.W.Frag} {mg : Str → Option Value} {base : Heap} (T : Tx K mg) : Cal P w K mg base 10 "_law_done" (spDoneW K) [] := by
  obtain ⟨fd, F⟩ := T.d__law_done
  have G_NameBook_add_item := ok_NameBook_add_item (P := P) (w := w) (base := base) T
  have G_NameBook_set_fields := ok_NameBook_set_fields (P := P) (w := w) (base := base) T
  have G_NameBook_set_rule := ok_NameBook_set_rule (P := P) (w := w) (base := base) T
  have G__law_dropped := ok__law_dropped (P := P) (w := w) (base := base) T
  have G__law_named := ok__law_named (P := P) (w := w) (base := base) T
  have G__law_unnamed := ok__law_unnamed (P := P) (w := w) (base := base) T
  have bd : Binds K fd ["_law_book", "_law_deed"] [] := F.binds fun _ _ _ _ _ _ us hl => match us, hl with | [_, _], _ => rfl
  refine cal_of (F.ok sc__law_done (fun vs H Q E h => ?len) (fun cdv A outer s H vs Q E hr h => ?body)) bd T.g__law_done T.k__law_done
  case len => exact (by first | (obtain ⟨rfl, _⟩ := h; rfl) | (obtain ⟨_, rfl, _⟩ := h; rfl) | (obtain ⟨_, _, rfl, _⟩ := h; rfl) | (obtain ⟨_, _, _, rfl, _⟩ := h; rfl) | (obtain ⟨_, _, _, _, rfl, _⟩ := h; rfl) | (obtain ⟨_, _, _, _, _, rfl, _⟩ := h; rfl) | (obtain ⟨_, _, _, _, _, _, rfl, _⟩ := h; rfl) | (obtain ⟨_, _, _, _, _, _, _, rfl, _⟩ := h; rfl) | (obtain ⟨_, _, _, _, _, _, _, _, rfl, _⟩ := h; rfl) | (obtain ⟨_, _, _, _, _, _, _, _, _, rfl, _⟩ := h; rfl) | (obtain ⟨_, _, _, _, _, _, _, _, _, _, rfl, _⟩ := h; rfl) | (obtain ⟨_, _, _, _, _, _, _, _, _, _, _, rfl, _⟩ := h; rfl) | (obtain ⟨_, _, _, _, _, _, _, _, _, _, _, _, rfl, _⟩ := h; rfl) | (obtain ⟨_, _, _, _, _, _, _, _, _, _, _, _, _, rfl, _⟩ := h; rfl) | (obtain ⟨_, _, _, _, _, _, _, _, _, _, _, _, _, _, rfl, _⟩ := h; rfl) | (obtain ⟨_, _, _, _, _, _, _, _, _, _, _, _, _, _, _, rfl, _⟩ := h; rfl))
  case body =>
  have hu := hu_of hr
  refine ⟨_, (pss_cons (ps_set (i := 2) sc__law_done.nd rfl (Or.inl rfl) (pe_ix (ixT K rfl) (pv 1) pe_int (fun _ _ => rfl)))
      (pss_one (ps_if (pt_cmpR (inS K rfl) (pv 2) (pe_tup (pa_cons pe_str (pa_cons pe_str pa_nil))) rfl) (pss_cons (ps_asg (pe_ix (ixT K rfl) (pv 1) pe_int (fun _ _ => rfl)) (pg_tup rfl (pgs_cons (pg_name (i := 3) sc__law_done.nd rfl (Or.inl rfl)) (pgs_cons (pg_name (i := 4) sc__law_done.nd rfl (Or.inl rfl)) pgs_nil))))
      (pss_one (ps_if (PW.pt (pw_and (pt_cmpR op_eq (pv 2) pe_str (nomark _)) (pw_and1 (pt_cmpR op_eq (pe_callB (lenS K rfl) (by rfl) T.z_len PySem.boot_len (pa_cons (pv 4) pa_nil)) pe_int (nomark _))))) (pss_one (ps_expr (pe_ms G_NameBook_add_item hr (by decide) (pv 0) (pa_cons (pe_ix (ixT K rfl) (pv 1) pe_int (fun _ _ => rfl)) (pa_cons (pv 3) (pa_cons (pe_ix (ixT K rfl) (pv 4) pe_int (fun _ _ => rfl)) pa_nil))))))
      (pss_one (ps_if (pt_cmpR op_eq (pv 2) pe_str (nomark _)) (pss_one (ps_expr (pe_ms G_NameBook_add_item hr (by decide) (pv 0) (pa_cons (pe_ix (ixT K rfl) (pv 1) pe_int (fun _ _ => rfl)) (pa_cons (pv 3) (pa_cons (pe_ix (ixT K rfl) (pv 4) pe_int (fun _ _ => rfl)) (pa_cons (pe_ix (ixT K rfl) (pv 4) pe_int (fun _ _ => rfl)) pa_nil)))))))
      (pss_one (ps_if (pt_cmpR op_eq (pe_callB (lenS K rfl) (by rfl) T.z_len PySem.boot_len (pa_cons (pv 4) pa_nil)) pe_int (nomark _)) (pss_one (ps_expr (pe_ms G_NameBook_set_fields hr (by decide) (pv 0) (pa_cons (pe_ix (ixT K rfl) (pv 1) pe_int (fun _ _ => rfl)) (pa_cons (pe_ix (ixT K rfl) (pv 4) pe_int (fun _ _ => rfl)) pa_nil)))))
      (pss_one (ps_expr (pe_ms G_NameBook_set_fields hr (by decide) (pv 0) (pa_cons (pe_ix (ixT K rfl) (pv 1) pe_int (fun _ _ => rfl)) (pa_cons (pe_ix (ixT K rfl) (pv 4) pe_int (fun _ _ => rfl)) (pa_cons (pe_ix (ixT K rfl) (pv 4) pe_int (fun _ _ => rfl)) pa_nil)))))))))))))
      (pss_one (ps_if (pt_cmpR op_eq (pv 2) pe_str (nomark _)) (pss_one ps_never)
      (pss_one (ps_if (pt_cmpR op_eq (pv 2) pe_str (nomark _)) (pss_one (ps_expr (pe_c G__law_dropped hr (by decide) (by rfl) (pa_cons (pv 0) (pa_cons (pe_ix (ixT K rfl) (pv 1) pe_int (fun _ _ => rfl)) pa_nil)))))
      (pss_one (ps_if (pt_cmpR op_eq (pv 2) pe_str (nomark _)) (pss_one (ps_expr (pe_mt G_NameBook_set_rule hr (by decide) (pv 0) (pa_cons (pe_ix (ixT K rfl) (pv 1) pe_int (fun _ _ => rfl)) pa_nil))))
      (pss_one (ps_if (pt_cmpR (inS K rfl) (pv 2) (pe_tup (pa_cons pe_str (pa_cons pe_str pa_nil))) rfl) (pss_one (ps_expr (pe_c G__law_named hr (by decide) (by rfl) (pa_cons (pv 0) (pa_cons (pv 1) pa_nil)))))
      (pss_one (ps_if (pt_cmpR (inS K rfl) (pv 2) (pe_tup (pa_cons pe_str (pa_cons pe_str pa_nil))) rfl) (pss_one (ps_expr (pe_c G__law_unnamed hr (by decide) (by rfl) (pa_cons (pv 0) (pa_cons (pv 1) pa_nil)))))
      (pss_one (ps_if (pt_cmpR op_eq (pv 2) pe_str (nomark _)) (pss_one ps_never)
      (pss_one ps_never)))))))))))))))), ?_⟩
  obtain ⟨b, a, w', k, s, D, gs, nm, pn, wd, xs, rfl, hB, hk, hw2, ha, hd, q⟩ := h
  obtain ⟨dx, sl, ss, h1, _⟩ := id hB.ex
  have hw1 := hB.w1
  cases hd with
  | add i t f wt ns hi hi1 hi2 hlen ht hf hns hwt1 hwt2 hnb =>
    refine ⟨_, rfl, _, _, _, _, rfl, rfl, SqT.of ha, atI_nat (j := 0) rfl, _, rfl, by show 2 ≤ sizeLine; decide, fun p1 hp1 => ?_⟩
    have s1 : Same H (upd H p1 (.tup [.str "add", .str "fields"])) := same_new hp1
    refine ⟨p1, _, rfl, .inr (SqT.of upd_same), rfl, rfl, _, rfl, inW (b := true) (by decide +kernel) (iteT ?_)⟩
    generalize upd H p1 (.tup [.str "add", .str "fields"]) = H1 at s1
    have ha1 := s1 _ _ ha
    have hf1 := s1 _ _ hf
    have hB1 := hB.same s1
    refine ⟨_, rfl, _, _, _, _, rfl, rfl, SqT.of ha1, atI_nat (j := 2) rfl, t, _, rfl, SqT.of (s1 _ _ ht), rfl, _, _, rfl, _, _, rfl, rfl, ?_⟩
    have fin : ∀ (p : Addr), H1 p = none → Done K Q (upd H1 p (.tup (ns.map V.int))) b w' k nm pn := fun p hp H' s' D' gs' nm' pn' bt hB' hc => q H' s' D' gs' nm' pn' ((s1.trans (same_new hp)).but.trans bt) hB' fun _ => hc
    refine ⟨_, rfl, rfl, _, rfl, iteD rfl ⟨_, rfl, _, _, rfl, .inr (SqT.of hf1), rfl, _, rfl, ?_⟩⟩
    match ns, hns, hf1, hnb, fin with
    | [], e, _, _, _ => simp at e; omega
    | [n0], e, hf1, hnb, fin =>
      refine iteD rfl ⟨_, rfl, b, dx, _, rfl, s1 _ _ h1, rfl, _, rfl, _, _, _, _, rfl, rfl, SqT.of ha1, atI_nat (j := 1) rfl, _, rfl, _, rfl, _, _, _, _, rfl, rfl, SqT.of hf1, atI_nat (j := 0) rfl, [.ref b, .int i, .int wt], [.int n0], rfl, rfl, by show 1 ≤ sizeLine; decide, fun p hp => ?_⟩
      exact ⟨b, p, w', k, s, D, gs, nm, pn, i, wt, [n0], rfl, hB1.same (same_new hp), hk, hi, hi1, hi2, hwt1, hwt2, hlen, upd_same, e, hnb, fin p hp⟩
    | [n0, n1], e, hf1, hnb, fin =>
      refine iteDF (fun z => nomatch V.int.inj z) ⟨_, rfl, rfl, _, rfl, iteD rfl ⟨_, rfl, b, dx, _, rfl, s1 _ _ h1, rfl, _, rfl, _, _, _, _, rfl, rfl, SqT.of ha1, atI_nat (j := 1) rfl, _, rfl, _, rfl, _, _, _, _, rfl, rfl, SqT.of hf1, atI_nat (j := 0) rfl, _, rfl, _, _, _, _, rfl, rfl, SqT.of hf1, atI_nat (j := 1) rfl, [.ref b, .int i, .int wt], [.int n0, .int n1], rfl, rfl, by show 2 ≤ sizeLine; decide, fun p hp => ?_⟩⟩
      exact ⟨b, p, w', k, s, D, gs, nm, pn, i, wt, [n0, n1], rfl, hB1.same (same_new hp), hk, hi, hi1, hi2, hwt1, hwt2, hlen, upd_same, e, hnb, fin p hp⟩
    | n0 :: n1 :: n2 :: r, e, _, _, _ => simp at e; omega
  | fields i t f wt ns hi ht hf hns hnb =>
    refine ⟨_, rfl, _, _, _, _, rfl, rfl, SqT.of ha, atI_nat (j := 0) rfl, _, rfl, by show 2 ≤ sizeLine; decide, fun p1 hp1 => ?_⟩
    have s1 : Same H (upd H p1 (.tup [.str "add", .str "fields"])) := same_new hp1
    refine ⟨p1, _, rfl, .inr (SqT.of upd_same), rfl, rfl, _, rfl, inW (b := true) (by decide +kernel) (iteT ?_)⟩
    generalize upd H p1 (.tup [.str "add", .str "fields"]) = H1 at s1
    have ha1 := s1 _ _ ha
    have hf1 := s1 _ _ hf
    have hB1 := hB.same s1
    refine ⟨_, rfl, _, _, _, _, rfl, rfl, SqT.of ha1, atI_nat (j := 2) rfl, t, _, rfl, SqT.of (s1 _ _ ht), rfl, _, _, rfl, _, _, rfl, rfl, ?_⟩
    have fin : ∀ (p : Addr), H1 p = none → Done K Q (upd H1 p (.tup (ns.map V.int))) b w' k nm pn := fun p hp H' s' D' gs' nm' pn' bt hB' hc => q H' s' D' gs' nm' pn' ((s1.trans (same_new hp)).but.trans bt) hB' fun _ => hc
    refine ⟨_, rfl, rfl, _, rfl, iteDF (str_ne (by decide +kernel)) (iteF ⟨_, rfl, rfl, _, rfl, iteDF (str_ne (by decide +kernel)) ⟨_, rfl, _, _, rfl, .inr (SqT.of hf1), rfl, _, rfl, ?_⟩⟩)⟩
    match ns, hns, hf1, hnb, fin with
    | [], e, _, _, _ => simp at e; omega
    | [n0], e, hf1, hnb, fin =>
      refine iteD rfl ⟨_, rfl, b, dx, _, rfl, s1 _ _ h1, rfl, _, rfl, _, _, _, _, rfl, rfl, SqT.of ha1, atI_nat (j := 1) rfl, _, rfl, _, _, _, _, rfl, rfl, SqT.of hf1, atI_nat (j := 0) rfl, [.ref b, .int i], [.int n0], rfl, rfl, by show 1 ≤ sizeLine; decide, fun p hp => ?_⟩
      exact ⟨b, p, w', k, s, D, gs, nm, pn, i, [n0], rfl, hB1.same (same_new hp), hk, hi, upd_same, e, hnb, fin p hp⟩
    | [n0, n1], e, hf1, hnb, fin =>
      refine iteDF (fun z => nomatch V.int.inj z) ⟨_, rfl, b, dx, _, rfl, s1 _ _ h1, rfl, _, rfl, _, _, _, _, rfl, rfl, SqT.of ha1, atI_nat (j := 1) rfl, _, rfl, _, _, _, _, rfl, rfl, SqT.of hf1, atI_nat (j := 0) rfl, _, rfl, _, _, _, _, rfl, rfl, SqT.of hf1, atI_nat (j := 1) rfl, [.ref b, .int i], [.int n0, .int n1], rfl, rfl, by show 2 ≤ sizeLine; decide, fun p hp => ?_⟩
      exact ⟨b, p, w', k, s, D, gs, nm, pn, i, [n0, n1], rfl, hB1.same (same_new hp), hk, hi, upd_same, e, hnb, fin p hp⟩
    | n0 :: n1 :: n2 :: r, e, _, _, _ => simp at e; omega
  | drop i p hi hp =>
    refine ⟨_, rfl, _, _, _, _, rfl, rfl, SqT.of ha, atI_nat (j := 0) rfl, _, rfl, by show 2 ≤ sizeLine; decide, fun p1 hp1 => ?_⟩
    have s1 : Same H (upd H p1 (.tup [.str "add", .str "fields"])) := same_new hp1
    refine ⟨p1, _, rfl, .inr (SqT.of upd_same), rfl, rfl, _, rfl, inW (b := false) (by decide +kernel) (iteF ?_)⟩
    generalize upd H p1 (.tup [.str "add", .str "fields"]) = H1 at s1
    refine ⟨_, rfl, rfl, _, rfl, iteDF (str_ne (by decide +kernel)) ⟨_, rfl, rfl, _, rfl, iteD rfl ⟨_, rfl, _, rfl, _, _, _, _, rfl, rfl, SqT.of (s1 _ _ ha), atI_nat (j := 1) rfl, b, p, w', k, s, D, gs, nm, pn, i, rfl, hB.same s1, hk, hi, s1 _ _ hp, fun H' s' D' gs' nm' pn' bt hB' hc => q H' s' D' gs' nm' pn' (s1.but.trans bt) hB' fun _ => hc⟩⟩⟩
  | rule r ps hr' hok =>
    refine ⟨_, rfl, _, _, _, _, rfl, rfl, SqT.of ha, atI_nat (j := 0) rfl, _, rfl, by show 2 ≤ sizeLine; decide, fun p1 hp1 => ?_⟩
    have s1 : Same H (upd H p1 (.tup [.str "add", .str "fields"])) := same_new hp1
    refine ⟨p1, _, rfl, .inr (SqT.of upd_same), rfl, rfl, _, rfl, inW (b := false) (by decide +kernel) (iteF ?_)⟩
    generalize upd H p1 (.tup [.str "add", .str "fields"]) = H1 at s1
    refine ⟨_, rfl, rfl, _, rfl, iteDF (str_ne (by decide +kernel)) ⟨_, rfl, rfl, _, rfl, iteDF (str_ne (by decide +kernel)) ⟨_, rfl, rfl, _, rfl, iteD rfl ⟨_, rfl, b, dx, _, rfl, s1 _ _ h1, rfl, _, rfl, _, _, _, _, rfl, rfl, SqT.of (s1 _ _ ha), atI_nat (j := 1) rfl, b, r, w', k, s, D, gs, nm, pn, ps, rfl, hB.same s1, hk, hr'.same s1, hok, fun H' s' D' gs' nm' pn' bt hB' hc => q H' s' D' gs' nm' pn' (s1.but.trans bt) hB' fun _ => hc⟩⟩⟩⟩
  | give _ n i hwd hn hi =>
    have hno : wd ∉ chgW := by rcases hwd with rfl | rfl <;> decide +kernel
    have w1 : inV (.str wd) [.str "add", .str "fields"] = false := by rcases hwd with rfl | rfl <;> decide +kernel
    have w2 : wd ≠ "weight" := by rcases hwd with rfl | rfl <;> decide +kernel
    have w3 : wd ≠ "drop" := by rcases hwd with rfl | rfl <;> decide +kernel
    have w4 : wd ≠ "rule" := by rcases hwd with rfl | rfl <;> decide +kernel
    have w5 : inV (.str wd) [.str "give", .str "pin"] = true := by rcases hwd with rfl | rfl <;> decide +kernel
    refine ⟨_, rfl, _, _, _, _, rfl, rfl, SqT.of ha, atI_nat (j := 0) rfl, _, rfl, by show 2 ≤ sizeLine; decide, fun p1 hp1 => ?_⟩
    have s1 : Same H (upd H p1 (.tup [.str "add", .str "fields"])) := same_new hp1
    refine ⟨p1, _, rfl, .inr (SqT.of upd_same), rfl, rfl, _, rfl, inW (b := false) w1 (iteF ?_)⟩
    generalize upd H p1 (.tup [.str "add", .str "fields"]) = H1 at s1
    refine ⟨_, rfl, rfl, _, rfl, iteDF (str_ne w2) ⟨_, rfl, rfl, _, rfl, iteDF (str_ne w3) ⟨_, rfl, rfl, _, rfl, iteDF (str_ne w4) ⟨_, rfl, by show 2 ≤ sizeLine; decide, fun p2 hp2 => ?_⟩⟩⟩⟩
    have s2 := s1.trans (same_new (o := .tup [.str "give", .str "pin"]) hp2)
    refine ⟨p2, _, rfl, .inr (SqT.of upd_same), rfl, rfl, _, rfl, inW (b := true) w5 (iteT ?_)⟩
    exact ⟨_, rfl, _, rfl, b, a, w', k, s, D, gs, nm, pn, wd, n, i, rfl, hB.same s2, hk, s2 _ _ ha, hn, hi, fun H' s' D' gs' nm' pn' bt hB' => q H' s' D' gs' nm' pn' (s2.but.trans bt) hB' fun h => absurd h hno⟩
  | unpin n i hn =>
    refine ⟨_, rfl, _, _, _, _, rfl, rfl, SqT.of ha, atI_nat (j := 0) rfl, _, rfl, by show 2 ≤ sizeLine; decide, fun p1 hp1 => ?_⟩
    have s1 : Same H (upd H p1 (.tup [.str "add", .str "fields"])) := same_new hp1
    refine ⟨p1, _, rfl, .inr (SqT.of upd_same), rfl, rfl, _, rfl, inW (b := false) (by decide +kernel) (iteF ?_)⟩
    generalize upd H p1 (.tup [.str "add", .str "fields"]) = H1 at s1
    refine ⟨_, rfl, rfl, _, rfl, iteDF (str_ne (by decide +kernel)) ⟨_, rfl, rfl, _, rfl, iteDF (str_ne (by decide +kernel)) ⟨_, rfl, rfl, _, rfl, iteDF (str_ne (by decide +kernel)) ⟨_, rfl, by show 2 ≤ sizeLine; decide, fun p2 hp2 => ?_⟩⟩⟩⟩
    have s2 := s1.trans (same_new (o := .tup [.str "give", .str "pin"]) hp2)
    refine ⟨p2, _, rfl, .inr (SqT.of upd_same), rfl, rfl, _, rfl, inW (b := false) (by decide +kernel) (iteF ?_)⟩
    generalize upd H1 p2 (.tup [.str "give", .str "pin"]) = H2 at s2
    refine ⟨_, rfl, by show 2 ≤ sizeLine; decide, fun p3 hp3 => ?_⟩
    have s3 := s2.trans (same_new (o := .tup [.str "take", .str "unpin"]) hp3)
    refine ⟨p3, _, rfl, .inr (SqT.of upd_same), rfl, rfl, _, rfl, inW (b := true) (by decide +kernel) (iteT ?_)⟩
    exact ⟨_, rfl, _, rfl, b, a, w', k, s, D, gs, nm, pn, n, i, rfl, hB.same s3, hk, s3 _ _ ha, hn, fun H' s' D' gs' nm' pn' bt hB' => q H' s' D' gs' nm' pn' (s3.but.trans bt) hB' fun h => absurd h (by decide +kernel)⟩
end KN

set_option Elab.async false
set_option linter.all false
set_option maxRecDepth 100000
set_option maxHeartbeats 4000000
/-! one change -/
namespace KN
open PySem PySem.Spec PyProof.Rows L2 ClX StX
open C8 (Cal Met Mak CalAt pe_c pe_mk pe_mt pe_mt0 pss_cut tCut pe_gc)
section
variable {K : PySem.W.Frag} {w : Int} {H H' : Hp} {b l : Addr} {k : Nat} {s : Addr} {D : StD} {gs : List (List Int)} {nm pn : Str → Option Int}
theorem no_ints {x y : Int} {as : List Addr} : ([V.int x, .int y] : List V) ≠ as.map V.ref := fun e => by
  cases as with
  | nil => cases e
  | cons a r => cases e
theorem StAt.butL (h : StAt K w H s D gs nm pn) (hl : StrAt H l) (e : But l H H') : StAt K w H' s D gs nm pn := by
  obtain ⟨x, y, hl⟩ := hl
  exact h.move fun a o ho hso => e a o (fun z => by subst z; rw [hl] at ho; cases ho; obtain ⟨as, q⟩ := hso; exact no_ints q) ho
/-- the stream moves, the book stands -/
theorem BkAt.butL (h : BkAt K w H b k s D gs nm pn) (hl : StrAt H l) (e : But l H H') : BkAt K w H' b k s D gs nm pn := by
  have h0 := hl
  obtain ⟨x, y, hl⟩ := hl
  obtain ⟨dx, sl, ss, h1, h2, h3, h4⟩ := h.ex
  refine ⟨⟨dx, sl, ss, e _ _ (ne_of h1 hl (fun z => nomatch z)) h1, e _ _ (fun z => by subst z; rw [hl] at h2; exact no_ints (HO.lst.inj (Option.some.inj h2))) h2, h3, h4⟩, h.st.butL h0 e, h.ok, h.w1, h.w4⟩
theorem strB (h : BkAt K w H b k s D gs nm pn) (hl : StrAt H l) (e : But b H H') : StrAt H' l := by
  obtain ⟨x, y, hl⟩ := hl
  obtain ⟨dx, sl, ss, h1, _⟩ := h.ex
  exact ⟨x, y, e _ _ (ne_of hl h1 (fun z => nomatch z)) hl⟩
end
def words7 : List Str := ["pin", "give", "fields", "rule", "drop", "unpin", "add"]
def chg3 : List Str := ["fields", "rule", "drop"]
def spChange (K : PySem.W.Frag) : Sp := fun vs H Q _ => ∃ (l b wl : Addr) (w k : Nat) (s : Addr) (D : StD) (gs : List (List Int)) (nm pn : Str → Option Int) (ws : List Str), vs = [.ref l, .ref b, .ref wl] ∧ StrAt H l ∧ BkAt K w H b k s D gs nm pn ∧ k < 900 ∧ w ≤ 2 ∧ H wl = some (.lst (ws.map V.str)) ∧ wl ≠ l ∧ 1 ≤ ws.length ∧ ws.length ≤ 10 ∧ (∀ z ∈ ws, z ∈ words7) ∧
  ∀ (H' : Hp) (s' : Addr) (D' : StD) (gs' : List (List Int)) (nm' pn' : Str → Option Int) (wd : Str), (∀ a o, a ≠ l → a ≠ b → H a = some o → H' a = some o) → StrAt H' l → BkAt K w H' b (k + 1) s' D' gs' nm' pn' → wd ∈ ws → (wd ∈ chg3 → Chg nm pn (idsK D'.kvs) gs' nm' pn') → Q .non H'
theorem ok__law_change {P : Program} {w : World} {K : PySem.W.Frag} {mg : Str → Option Value} {base : Heap} (T : Tx K mg) : Cal P w K mg base 11 "_law_change" (spChange K) [] := by
  obtain ⟨fd, F⟩ := T.d__law_change
  have G_NameBook_all_items := ok_NameBook_all_items (P := P) (w := w) (base := base) T
  have G_NameBook_names := ok_NameBook_names (P := P) (w := w) (base := base) T
  have G_NameBook_pins := ok_NameBook_pins (P := P) (w := w) (base := base) T
  have G_NameBook_width := ok_NameBook_width (P := P) (w := w) (base := base) T
  have G__law_choose := ok__law_choose (P := P) (w := w) (base := base) T
  have G__law_done := ok__law_done (P := P) (w := w) (base := base) T
  have G__law_item := ok__law_item (P := P) (w := w) (base := base) T
  have G__law_some_rule := ok__law_some_rule (P := P) (w := w) (base := base) T
  have bd : Binds K fd ["_law_stream_here", "_law_book", "_law_words"] [] := F.binds fun _ _ _ _ _ _ us hl => match us, hl with | [_, _, _], _ => rfl
  refine cal_of (F.ok sc__law_change (fun vs H Q E h => ?len) (fun cdv A outer s H vs Q E hr h => ?body)) bd T.g__law_change T.k__law_change
  case len => exact (by first | (obtain ⟨rfl, _⟩ := h; rfl) | (obtain ⟨_, rfl, _⟩ := h; rfl) | (obtain ⟨_, _, rfl, _⟩ := h; rfl) | (obtain ⟨_, _, _, rfl, _⟩ := h; rfl) | (obtain ⟨_, _, _, _, rfl, _⟩ := h; rfl) | (obtain ⟨_, _, _, _, _, rfl, _⟩ := h; rfl) | (obtain ⟨_, _, _, _, _, _, rfl, _⟩ := h; rfl) | (obtain ⟨_, _, _, _, _, _, _, rfl, _⟩ := h; rfl) | (obtain ⟨_, _, _, _, _, _, _, _, rfl, _⟩ := h; rfl) | (obtain ⟨_, _, _, _, _, _, _, _, _, rfl, _⟩ := h; rfl) | (obtain ⟨_, _, _, _, _, _, _, _, _, _, rfl, _⟩ := h; rfl) | (obtain ⟨_, _, _, _, _, _, _, _, _, _, _, rfl, _⟩ := h; rfl) | (obtain ⟨_, _, _, _, _, _, _, _, _, _, _, _, rfl, _⟩ := h; rfl) | (obtain ⟨_, _, _, _, _, _, _, _, _, _, _, _, _, rfl, _⟩ := h; rfl) | (obtain ⟨_, _, _, _, _, _, _, _, _, _, _, _, _, _, rfl, _⟩ := h; rfl) | (obtain ⟨_, _, _, _, _, _, _, _, _, _, _, _, _, _, _, rfl, _⟩ := h; rfl))
  case body =>
  have hu := hu_of hr
  refine ⟨_, (pss_cons (ps_asg (pe_tup (pa_cons (pe_mt0 G_NameBook_all_items hr (by decide) (pv 1)) (pa_cons (pe_pr G_NameBook_width hr (by decide) (pv 1)) pa_nil))) (pg_tup rfl (pgs_cons (pg_name (i := 3) sc__law_change.nd rfl (Or.inr rfl)) (pgs_cons (pg_name (i := 4) sc__law_change.nd rfl (Or.inl rfl)) pgs_nil))))
      (pss_cons (ps_par rfl sc__law_change.nd (i := 5) (j := 6) rfl rfl (by decide) rfl rfl (pa_cons (pe_mt0 G_NameBook_names hr (by decide) (pv 1)) (pa_cons (pe_mt0 G_NameBook_pins hr (by decide) (pv 1)) pa_nil)) rfl)
      (pss_cons (ps_set (i := 7) sc__law_change.nd rfl (Or.inl rfl) (pe_c G__law_choose hr (by decide) (by rfl) (pa_cons (pv 0) (pa_cons (pv 2) pa_nil))))
      (pss_cons (ps_set (i := 8) sc__law_change.nd rfl (Or.inl rfl) (pe_callB (call_sortedDI rfl) (by rfl) T.z_sorted (by decide +kernel) (pa_cons (pv 3) pa_nil)))
      (pss_cons (ps_if (PW.pt (pw_or (pt_cmpR (op_eqD hr.units) (pv 8) (pe_lst pa_nil) (nomark _)) (pw_or1 (PW.pt (pw_and (pt_cmpR op_eq (pv 7) pe_str (nomark _)) (pw_and1 (pt_cmpR op_lt (pe_callB (lenS K rfl) (by rfl) T.z_len PySem.boot_len (pa_cons (pv 8) pa_nil)) pe_int (nomark _)))))))) (pss_cons (ps_setLc (i := 10) (own := [("_law_row_id", 9)]) rfl sc__law_change.nd rfl rfl (sw_true rfl rfl rfl (by decide +kernel)) (pi_range2 (by rfl) T.z_range (pa_cons pe_int (pa_cons pe_int pa_nil))) (blkOk_by (own := [("_law_row_id", 9)]) (N := N__law_change) (sc := defScope s__law_change) (by decide +kernel)) (fun _ _ _ _ _ => (pg_name (i := 9) sc__law_change.nd rfl (Or.inl rfl))) (fun _ _ _ _ _ => (pts_one (pt_cmp (pc_dnotin hu (pv 9) (pv 3)) rfl))) (fun _ _ _ _ _ => (pv 9)))
      (pss_cons (ps_expr (pe_c G__law_done hr (by decide) (by rfl) (pa_cons (pv 1) (pa_cons (pe_tup (pa_cons pe_str (pa_cons (pe_c G__law_choose hr (by decide) (by rfl) (pa_cons (pv 0) (pa_cons (pv 10) pa_nil))) (pa_cons (pe_c G__law_item hr (by decide) (by rfl) (pa_cons (pv 0) (pa_cons (pv 4) pa_nil))) pa_nil)))) pa_nil))))
      (pss_one ps_retN)))
      pss_nil)
      (pss_cons (ps_set (i := 9) sc__law_change.nd rfl (Or.inl rfl) (pe_c G__law_choose hr (by decide) (by rfl) (pa_cons (pv 0) (pa_cons (pv 8) pa_nil))))
      (pss_one (ps_if (pt_cmpR op_eq (pv 7) pe_str (nomark _)) (pss_one (ps_expr (pe_c G__law_done hr (by decide) (by rfl) (pa_cons (pv 1) (pa_cons (pe_tup (pa_cons (pv 7) (pa_cons (pv 9) (pa_cons (pe_tup (pa_cons (pe_ix (ixT K rfl) (pe_dget hu (pv 3) (pv 9) (fun _ _ => rfl)) pe_int (fun _ _ => rfl)) (pa_cons (pe_ix (ixT K rfl) (pe_c G__law_item hr (by decide) (by rfl) (pa_cons (pv 0) (pa_cons (pv 4) pa_nil))) pe_int (fun _ _ => rfl)) pa_nil))) pa_nil)))) pa_nil)))))
      (pss_one (ps_if (pt_cmpR op_eq (pv 7) pe_str (nomark _)) (pss_one (ps_expr (pe_c G__law_done hr (by decide) (by rfl) (pa_cons (pv 1) (pa_cons (pe_tup (pa_cons (pv 7) (pa_cons (pv 9) (pa_cons (pe_c G__law_item hr (by decide) (by rfl) (pa_cons (pv 0) (pa_cons (pv 4) pa_nil))) pa_nil)))) pa_nil)))))
      (pss_one (ps_if (pt_cmpR op_eq (pv 7) pe_str (nomark _)) (pss_one (ps_expr (pe_c G__law_done hr (by decide) (by rfl) (pa_cons (pv 1) (pa_cons (pe_tup (pa_cons (pv 7) (pa_cons (pe_tup (pa_cons (pv 9) pa_nil)) pa_nil))) pa_nil)))))
      (pss_one (ps_if (pt_cmpR op_eq (pv 7) pe_str (nomark _)) (pss_one (ps_expr (pe_c G__law_done hr (by decide) (by rfl) (pa_cons (pv 1) (pa_cons (pe_tup (pa_cons (pv 7) (pa_cons (pe_c G__law_some_rule hr (by decide) (by rfl) (pa_cons (pv 0) (pa_cons (pv 4) pa_nil))) pa_nil))) pa_nil)))))
      (pss_one (ps_if (PW.pt (pw_and (pt_cmpR op_eq (pv 7) pe_str (nomark _)) (pw_and1 (pt_cmpR (op_neE hr.units0) (pv 5) pe_dnewK (nomark _))))) (pss_one (ps_expr (pe_c G__law_done hr (by decide) (by rfl) (pa_cons (pv 1) (pa_cons (pe_tup (pa_cons (pv 7) (pa_cons (pe_c G__law_choose hr (by decide) (by rfl) (pa_cons (pv 0) (pa_cons (pe_callB (call_sortedD rfl) (by rfl) T.z_sorted (by decide +kernel) (pa_cons (pv 5) pa_nil)) pa_nil))) pa_nil))) pa_nil)))))
      (pss_one (ps_if (PW.pt (pw_and (pt_cmpR op_eq (pv 7) pe_str (nomark _)) (pw_and1 (pt_cmpR (op_neE hr.units0) (pv 6) pe_dnewK (nomark _))))) (pss_one (ps_expr (pe_c G__law_done hr (by decide) (by rfl) (pa_cons (pv 1) (pa_cons (pe_tup (pa_cons (pv 7) (pa_cons (pe_c G__law_choose hr (by decide) (by rfl) (pa_cons (pv 0) (pa_cons (pe_callB (call_sortedD rfl) (by rfl) T.z_sorted (by decide +kernel) (pa_cons (pv 6) pa_nil)) pa_nil))) pa_nil))) pa_nil)))))
      (pss_cut (ps_set (i := 7) sc__law_change.nd rfl (Or.inl rfl) (pe_ifExp (pt_cmpR (inS K rfl) (pv 7) (pe_tup (pa_cons pe_str (pa_cons pe_str pa_nil))) rfl) pe_str pe_str))
      (pss_one (ps_expr (pe_c G__law_done hr (by decide) (by rfl) (pa_cons (pv 1) (pa_cons (pe_tup (pa_cons (pv 7) (pa_cons (pe_c G__law_choose hr (by decide) (by rfl) (pa_cons (pv 0) (pa_cons (pe_lst (pa_cons pe_str (pa_cons pe_str (pa_cons pe_str (pa_cons pe_str (pa_cons pe_str pa_nil)))))) pa_nil))) (pa_cons (pv 9) pa_nil)))) pa_nil)))))))))))))))))))))))), ?_⟩
  obtain ⟨l, b, wl, w', k, s, D, gs, nm, pn, ws, rfl, hl, hB, hk, hw2, hwl, hwll, hws1, hws2, hws7, q⟩ := h
  have hw1 : 1 ≤ w' := by have := hB.w1; omega
  obtain ⟨dx, sl, ss, h1, _⟩ := id hB.ex
  -- items, size
  refine ⟨_, rfl, b, dx, _, rfl, h1, rfl, b, w', k, s, D, gs, nm, pn, rfl, hB, fun H1 it s1 hit hit2 => ⟨_, rfl, b, dx, _, rfl, s1 _ _ h1, b, w', k, s, D, gs, nm, pn, rfl, hB.same s1, by show 2 ≤ sizeLine; decide, fun t ht => ⟨t, _, rfl, SqT.of upd_same, rfl, _, _, rfl, _, _, rfl, rfl, ?_⟩⟩⟩
  have s2 : Same H (upd H1 t (.tup [.ref it, .int w'])) := s1.new ht
  have it2 := (same_new (o := .tup [.ref it, .int w']) ht) _ _ hit2
  generalize upd H1 t (.tup [.ref it, .int w']) = H2 at s2 it2
  -- names, stuck
  refine ⟨_, rfl, b, dx, _, rfl, s2 _ _ h1, rfl, b, w', k, s, D, gs, nm, pn, rfl, hB.same s2, fun H3 nmd s3 _ hnmd => ⟨_, rfl, b, dx, _, rfl, (s2.trans s3) _ _ h1, rfl, b, w', k, s, D, gs, nm, pn, rfl, hB.same (s2.trans s3), fun H4 std s4 _ hstd => ⟨_, _, rfl, ?_⟩⟩⟩
  have s04 := (s2.trans s3).trans s4
  have it4 := (s3.trans s4) _ _ it2
  -- word
  refine ⟨_, rfl, _, rfl, l, wl, _, rfl, hl.same s04, s04 _ _ hwl, hwll, by rw [List.length_map]; exact hws1, by rw [List.length_map]; omega, fun H5 v b5 l5 hv => ?_⟩
  obtain ⟨wd, hwd, rfl⟩ := List.mem_map.mp hv
  have hw7 := hws7 wd hwd
  have bH5 : But l H H5 := s04.but.trans b5
  have nel : ∀ {a o}, H4 a = some (.dK o) → a ≠ l := fun {a o} e z => by obtain ⟨x, y, e2⟩ := hl.same s04; subst z; rw [e2] at e; cases e
  have it5 := b5 _ _ (nel it4) it4
  have st5 := b5 _ _ (nel hstd) hstd
  have B5 := hB.butL hl bH5
  -- ids = sorted(items)
  refine ⟨_, rfl, it, _, idsK D.kvs, rfl, .inl it5, B5.st.items.keys, by unfold idsK; rw [List.length_map]; have := B5.st.items.len; omega, fun ys sd hperm _ hsd => ?_⟩
  have s6 : Same H5 (upd H5 sd (.lst (ys.map V.int))) := same_new hsd
  have l6 := l5.same s6
  have sd6 : upd H5 sd (.lst (ys.map V.int)) sd = some (.lst (ys.map V.int)) := upd_same
  have nsl := l5.ne hsd
  have bH6 : But l H (upd H5 sd (.lst (ys.map V.int))) := bH5.trans s6.but
  have it6 := s6 _ _ it5
  have st6 := s6 _ _ st5
  generalize upd H5 sd (.lst (ys.map V.int)) = H6 at s6 l6 sd6 bH6 it6 st6
  have hyl : ys.length = D.kvs.length := by rw [hperm.length_eq]; unfold idsK; rw [List.length_map]
  -- if ids == [] or ..
  refine ⟨_, rfl, Nat.zero_le _, fun e0 he0 => ?_⟩
  have s7 := same_new (o := .lst []) he0
  have lE := l6.new (o := .lst []) he0
  have bE := bH6.new (o := .lst []) he0
  have sdE := s7 _ _ sd6
  have itE := s7 _ _ it6
  have stE := s7 _ _ st6
  have e0E : upd H6 e0 (.lst []) e0 = some (.lst []) := upd_same
  have BE := hB.butL hl bE
  generalize upd H6 e0 (.lst []) = HE at lE bE sdE itE stE e0E BE
  refine ⟨_, _, dp_ints (SqL.of sdE), dp_nil e0E, W.shaped_ints ys, rfl, _, rfl, ?_⟩
  cases hys : ys with
  | nil =>
      subst hys
      rw [show ([] : List Int).map PyData.int = [] from rfl, eqv_nil]
      refine iteT (iteT ?_)
      have hk20 : D.kvs.length < 20 := by rw [← hyl]; simp
      -- free = [..]; add
      refine ⟨_, _, rfl, ⟨by decide, by decide, by decide, by decide⟩, fun F0 hF0 => ?_⟩
      have bF := bE.new (o := .lst []) hF0
      have nFl := lE.ne hF0
      have nFb : F0 ≠ b := fun z => by obtain ⟨_, _, _, e, _⟩ := BE.ex; subst z; rw [hF0] at e; cases e
      refine lc_it (walk_range (lo := 1) (n := 39)) (fun j H' => ∃ fr : List Int, Same HE H' ∧ H' F0 = some (.lst (fr.map V.int)) ∧ fr.length ≤ j ∧ (∀ x ∈ fr, 1 ≤ x ∧ x ≤ 39 ∧ x ∉ idsK D.kvs) ∧ ∀ i : Nat, i < j → (1 + (i : Int)) ∉ idsK D.kvs → (1 + (i : Int)) ∈ fr) ?_ ?_ ?_ ?_
      · exact ⟨[], same_new hF0, upd_same, Nat.le_refl _, fun x h => (nomatch h), fun i h => absurd h (Nat.not_lt_zero _)⟩
      · exact fun _ _ _ _ => trivial
      · rintro j x Ha Hb hj ⟨fr, sa, hfr, hfl, f1, f2⟩ ⟨rfl, rfl⟩
        have dg := dget_rd (.inl (1 + (j : Int))) (Rd.of (sa _ _ itE))
        refine ⟨rfl, _, rfl, _, rfl, _, _, rfl, dg, _, rfl, ?_⟩
        by_cases hin : (1 + (j : Int)) ∈ idsK D.kvs
        · obtain ⟨t, wt, ns, hv, _⟩ := BE.st.items.get hin
          rw [hv]
          refine iteF ⟨fr, sa, hfr, by omega, f1, fun i hi h => ?_⟩
          by_cases e : i = j
          · subst e; exact absurd hin h
          · exact f2 i (by omega) h
        · rw [BE.st.items.no hin]
          refine iteT ⟨_, rfl, _, hfr, small1000 (by rw [List.length_map]; omega), fr ++ [1 + (j : Int)], sa.at hF0, by rw [upd_same, List.map_append]; rfl, by simp; omega, fun x hx => ?_, fun i hi h => ?_⟩
          · rcases List.mem_append.mp hx with hx | hx
            · exact f1 x hx
            · rw [List.mem_singleton.mp hx]; exact ⟨by omega, by omega, hin⟩
          · by_cases e : i = j
            · subst e; simp
            · exact List.mem_append_left _ (f2 i (by omega) h)
      rintro Ha ⟨fr, sa, hfr, hfl, f1, f2⟩
      have hne : 1 ≤ fr.length := by
        refine Nat.one_le_iff_ne_zero.mpr fun z => ?_
        have := nodup_le (ks := (List.range 39).map fun i => (1 : Int) + (i : Nat)) (l := idsK D.kvs) (List.pairwise_map.mpr (List.Pairwise.imp (fun {a b} h e => h (by omega)) List.nodup_range)) fun x hx => by
          obtain ⟨i, hi, rfl⟩ := List.mem_map.mp hx
          refine Classical.byContradiction fun h => ?_
          have := f2 i (List.mem_range.mp hi) h
          rw [List.length_eq_zero_iff.mp z] at this; cases this
        have h20 := BE.st.items.len
        unfold idsK at this
        rw [List.length_map, List.length_map, List.length_range] at this
        omega
      -- ('add', choose(free), item(..))
      refine ⟨_, rfl, _, rfl, _, rfl, l, F0, _, rfl, lE.same sa, hfr, nFl, by rw [List.length_map]; exact hne, by rw [List.length_map]; omega, fun Hc v bc lc hv => ?_⟩
      obtain ⟨i, hi, rfl⟩ := List.mem_map.mp hv
      obtain ⟨hi1, hi2, hi3⟩ := f1 i hi
      refine ⟨_, rfl, _, rfl, l, w', rfl, lc, hw1, by omega, fun Hd t f wt ns bd ld htn ntl ht hf hns hwt1 hwt2 hnb => ?_⟩
      refine ⟨by show 3 ≤ sizeLine; decide, fun a ha => ?_⟩
      have bZ : But l HE (upd Hd a (.tup [.str "add", .int i, .ref t])) := ((sa.but.trans bc).trans bd).new ha
      have lZ := ld.new (o := .tup [.str "add", .int i, .ref t]) ha
      have sZ : Same Hd (upd Hd a (.tup [.str "add", .int i, .ref t])) := same_new ha
      have aZ : upd Hd a (.tup [.str "add", .int i, .ref t]) a = some (.tup [.str "add", .int i, .ref t]) := upd_same
      have BZ := BE.butL lE bZ
      refine ⟨b, a, w', k, s, D, gs, nm, pn, "add", _, rfl, BZ, hk, by omega, aZ, .add i t f wt ns hi3 hi1 hi2 (by omega) (sZ _ _ ht) (sZ _ _ hf) (by omega) hwt1 hwt2 hnb, fun H' s' D' gs' nm' pn' bt hB' hc => ?_⟩
      exact q H' s' D' gs' nm' pn' wd (fun x o n1 n2 e => bt x o n2 (bZ x o n1 (bE x o n1 e))) (strB BZ lZ bt) hB' hwd fun _ => hc (by decide +kernel)
  | cons y0 yr =>
    rw [List.map_cons, eqv_cons]
    refine iteF ⟨_, rfl, rfl, _, rfl, ?_⟩
    by_cases hadd : wd = "add" ∧ ys.length < 9
    · refine iteD (by rw [hadd.1]) ⟨_, rfl, _, _, rfl, .inl (SqL.of sdE), _, _, rfl, rfl, _, rfl, iteD (by rw [List.length_map]; omega) ?_⟩
      have hk20 : D.kvs.length < 20 := by rw [← hyl]; omega
      -- free = [..]; add
      refine ⟨_, _, rfl, ⟨by decide, by decide, by decide, by decide⟩, fun F0 hF0 => ?_⟩
      have bF := bE.new (o := .lst []) hF0
      have nFl := lE.ne hF0
      have nFb : F0 ≠ b := fun z => by obtain ⟨_, _, _, e, _⟩ := BE.ex; subst z; rw [hF0] at e; cases e
      refine lc_it (walk_range (lo := 1) (n := 39)) (fun j H' => ∃ fr : List Int, Same HE H' ∧ H' F0 = some (.lst (fr.map V.int)) ∧ fr.length ≤ j ∧ (∀ x ∈ fr, 1 ≤ x ∧ x ≤ 39 ∧ x ∉ idsK D.kvs) ∧ ∀ i : Nat, i < j → (1 + (i : Int)) ∉ idsK D.kvs → (1 + (i : Int)) ∈ fr) ?_ ?_ ?_ ?_
      · exact ⟨[], same_new hF0, upd_same, Nat.le_refl _, fun x h => (nomatch h), fun i h => absurd h (Nat.not_lt_zero _)⟩
      · exact fun _ _ _ _ => trivial
      · rintro j x Ha Hb hj ⟨fr, sa, hfr, hfl, f1, f2⟩ ⟨rfl, rfl⟩
        have dg := dget_rd (.inl (1 + (j : Int))) (Rd.of (sa _ _ itE))
        refine ⟨rfl, _, rfl, _, rfl, _, _, rfl, dg, _, rfl, ?_⟩
        by_cases hin : (1 + (j : Int)) ∈ idsK D.kvs
        · obtain ⟨t, wt, ns, hv, _⟩ := BE.st.items.get hin
          rw [hv]
          refine iteF ⟨fr, sa, hfr, by omega, f1, fun i hi h => ?_⟩
          by_cases e : i = j
          · subst e; exact absurd hin h
          · exact f2 i (by omega) h
        · rw [BE.st.items.no hin]
          refine iteT ⟨_, rfl, _, hfr, small1000 (by rw [List.length_map]; omega), fr ++ [1 + (j : Int)], sa.at hF0, by rw [upd_same, List.map_append]; rfl, by simp; omega, fun x hx => ?_, fun i hi h => ?_⟩
          · rcases List.mem_append.mp hx with hx | hx
            · exact f1 x hx
            · rw [List.mem_singleton.mp hx]; exact ⟨by omega, by omega, hin⟩
          · by_cases e : i = j
            · subst e; simp
            · exact List.mem_append_left _ (f2 i (by omega) h)
      rintro Ha ⟨fr, sa, hfr, hfl, f1, f2⟩
      have hne : 1 ≤ fr.length := by
        refine Nat.one_le_iff_ne_zero.mpr fun z => ?_
        have := nodup_le (ks := (List.range 39).map fun i => (1 : Int) + (i : Nat)) (l := idsK D.kvs) (List.pairwise_map.mpr (List.Pairwise.imp (fun {a b} h e => h (by omega)) List.nodup_range)) fun x hx => by
          obtain ⟨i, hi, rfl⟩ := List.mem_map.mp hx
          refine Classical.byContradiction fun h => ?_
          have := f2 i (List.mem_range.mp hi) h
          rw [List.length_eq_zero_iff.mp z] at this; cases this
        have h20 := BE.st.items.len
        unfold idsK at this
        rw [List.length_map, List.length_map, List.length_range] at this
        omega
      -- ('add', choose(free), item(..))
      refine ⟨_, rfl, _, rfl, _, rfl, l, F0, _, rfl, lE.same sa, hfr, nFl, by rw [List.length_map]; exact hne, by rw [List.length_map]; omega, fun Hc v bc lc hv => ?_⟩
      obtain ⟨i, hi, rfl⟩ := List.mem_map.mp hv
      obtain ⟨hi1, hi2, hi3⟩ := f1 i hi
      refine ⟨_, rfl, _, rfl, l, w', rfl, lc, hw1, by omega, fun Hd t f wt ns bd ld htn ntl ht hf hns hwt1 hwt2 hnb => ?_⟩
      refine ⟨by show 3 ≤ sizeLine; decide, fun a ha => ?_⟩
      have bZ : But l HE (upd Hd a (.tup [.str "add", .int i, .ref t])) := ((sa.but.trans bc).trans bd).new ha
      have lZ := ld.new (o := .tup [.str "add", .int i, .ref t]) ha
      have sZ : Same Hd (upd Hd a (.tup [.str "add", .int i, .ref t])) := same_new ha
      have aZ : upd Hd a (.tup [.str "add", .int i, .ref t]) a = some (.tup [.str "add", .int i, .ref t]) := upd_same
      have BZ := BE.butL lE bZ
      refine ⟨b, a, w', k, s, D, gs, nm, pn, "add", _, rfl, BZ, hk, by omega, aZ, .add i t f wt ns hi3 hi1 hi2 (by omega) (sZ _ _ ht) (sZ _ _ hf) (by omega) hwt1 hwt2 hnb, fun H' s' D' gs' nm' pn' bt hB' hc => ?_⟩
      exact q H' s' D' gs' nm' pn' wd (fun x o n1 n2 e => bt x o n2 (bZ x o n1 (bE x o n1 e))) (strB BZ lZ bt) hB' hwd fun _ => hc (by decide +kernel)
    by_cases ha9 : wd = "add"
    · refine iteD (by rw [ha9]) ⟨_, rfl, _, _, rfl, .inl (SqL.of sdE), _, _, rfl, rfl, _, rfl, iteDF (by rw [List.length_map]; have : ¬ ys.length < 9 := fun h => hadd ⟨ha9, h⟩; omega) ?_⟩
      have hyne : 1 ≤ ys.length := by rw [hys]; simp
      have hy20 : ys.length ≤ 20 := by rw [hyl]; exact BE.st.items.len
      refine ⟨_, rfl, _, rfl, l, sd, _, rfl, lE, sdE, nsl, by rw [List.length_map]; exact hyne, by rw [List.length_map]; omega, fun Hf v bf lf hv => ?_⟩
      obtain ⟨i, hiy, rfl⟩ := List.mem_map.mp hv
      have hi : i ∈ idsK D.kvs := hperm.mem_iff.mp hiy
      have nelE : ∀ {a o}, HE a = some (.dK o) → a ≠ l := fun {a o} e z => by obtain ⟨x, y, e2⟩ := lE; subst z; rw [e2] at e; cases e
      have itF := bf _ _ (nelE itE) itE
      have stF := bf _ _ (nelE stE) stE
      have bR := bE.trans bf
      have BR := BE.butL lE bf
      have l7 : ∀ {z : Str}, z ∉ words7 → wd ≠ z := fun h e => h (e ▸ hw7)
      refine ⟨_, rfl, rfl, _, rfl, ?_⟩
      by_cases w1 : wd = "fields"
      · obtain ⟨t0, wt0, ns0, hv0, _, _, hit0⟩ := BR.st.items.get hi
        obtain ⟨f0, g1, g2⟩ := hit0.f
        have dg := dget_rd (.inl i) (Rd.of itF)
        rw [hv0] at dg
        refine iteD (by rw [w1]) ⟨_, rfl, _, rfl, _, rfl, _, rfl, _, rfl, _, _, rfl, dg, _, _, _, _, rfl, rfl, SqT.of g1, atI_nat (j := 0) rfl, _, rfl, _, rfl, l, w', rfl, lf, hw1, by omega, fun Hg t f wt ns bg lg htn ntl ht hfg hns hwt1 hwt2 hnb => ⟨_, _, _, _, rfl, rfl, SqT.of ht, atI_nat (j := 1) rfl, by show 2 ≤ sizeLine; decide, fun t2 ht2 => ⟨by show 3 ≤ sizeLine; decide, fun a ha => ?_⟩⟩⟩
        have s2' : Same Hg (upd (upd Hg t2 (.tup [.int wt0, .ref f])) a (.tup [.str wd, .int i, .ref t2])) := (same_new ht2).new ha
        have bZ : But l Hf (upd (upd Hg t2 (.tup [.int wt0, .ref f])) a (.tup [.str wd, .int i, .ref t2])) := bg.trans s2'.but
        have e2 := (same_new (o := .tup [.str wd, .int i, .ref t2]) ha) t2 _ upd_same
        have eA : upd (upd Hg t2 (.tup [.int wt0, .ref f])) a (.tup [.str wd, .int i, .ref t2]) a = some (.tup [.str "fields", .int i, .ref t2]) := by rw [upd_same, w1]
        have BZ := BR.butL lf bZ
        refine ⟨b, a, w', k, s, D, gs, nm, pn, "fields", _, rfl, BZ, hk, by omega, eA, .fields i t2 f (.int wt0) ns hi e2 (s2' _ _ hfg) (by omega) hnb, fun H' s' D' gs' nm' pn' bt hB' hc => ?_⟩
        exact q H' s' D' gs' nm' pn' wd (fun x o n1 n2 e => bt x o n2 (bZ x o n1 (bR x o n1 e))) (strB BZ (lg.same s2') bt) hB' hwd fun _ => hc (by decide +kernel)
      refine iteDF (str_ne w1) ⟨_, rfl, rfl, _, rfl, iteDF (str_ne (l7 (by decide +kernel))) ⟨_, rfl, rfl, _, rfl, ?_⟩⟩
      by_cases w2 : wd = "drop"
      · refine iteD (by rw [w2]) ⟨_, rfl, _, rfl, _, rfl, by show 1 ≤ sizeLine; decide, fun p hp => ⟨by show 2 ≤ sizeLine; decide, fun a ha => ?_⟩⟩
        have s2' : Same Hf (upd (upd Hf p (.tup [.int i])) a (.tup [.str wd, .ref p])) := (same_new hp).new ha
        have e2 := (same_new (o := .tup [.str wd, .ref p]) ha) p _ upd_same
        have eA : upd (upd Hf p (.tup [.int i])) a (.tup [.str wd, .ref p]) a = some (.tup [.str "drop", .ref p]) := by rw [upd_same, w2]
        have BZ := BR.same s2'
        refine ⟨b, a, w', k, s, D, gs, nm, pn, "drop", _, rfl, BZ, hk, by omega, eA, .drop i p hi e2, fun H' s' D' gs' nm' pn' bt hB' hc => ?_⟩
        exact q H' s' D' gs' nm' pn' wd (fun x o n1 n2 e => bt x o n2 (s2' x o (bR x o n1 e))) (strB BZ (lf.same s2') bt) hB' hwd fun _ => hc (by decide +kernel)
      refine iteDF (str_ne w2) ⟨_, rfl, rfl, _, rfl, ?_⟩
      by_cases w3 : wd = "rule"
      · refine iteD (by rw [w3]) ⟨_, rfl, _, rfl, _, rfl, _, rfl, l, w', rfl, lf, hw1, by omega, fun Hg r ps bg lg hrn nrl hr' hok => ⟨by show 2 ≤ sizeLine; decide, fun a ha => ?_⟩⟩
        have s2' : Same Hg (upd Hg a (.tup [.str wd, .ref r])) := same_new ha
        have bZ : But l Hf (upd Hg a (.tup [.str wd, .ref r])) := bg.trans s2'.but
        have eA : upd Hg a (.tup [.str wd, .ref r]) a = some (.tup [.str "rule", .ref r]) := by rw [upd_same, w3]
        have BZ := BR.butL lf bZ
        refine ⟨b, a, w', k, s, D, gs, nm, pn, "rule", _, rfl, BZ, hk, by omega, eA, .rule r ps (hr'.same s2') hok, fun H' s' D' gs' nm' pn' bt hB' hc => ?_⟩
        exact q H' s' D' gs' nm' pn' wd (fun x o n1 n2 e => bt x o n2 (bZ x o n1 (bR x o n1 e))) (strB BZ (lg.same s2') bt) hB' hwd fun _ => hc (by decide +kernel)
      have hno : wd ∉ chg3 := fun h => by
        simp only [chg3, List.mem_cons, List.not_mem_nil, or_false] at h
        rcases h with h | h | h
        · exact w1 h
        · exact w3 h
        · exact w2 h
      refine iteDF (str_ne w3) ⟨_, rfl, rfl, _, rfl, iteDF (str_ne (l7 (by decide +kernel))) (iteF ?_)⟩
      -- unpin, or give and pin
      have other : ∀ (Hg : Hp), Same Hf Hg → (∀ x : Prop, x → x) := fun _ _ _ h => h
      refine ⟨_, rfl, rfl, _, rfl, ?_⟩
      by_cases w4 : wd = "unpin" ∧ D.kp ≠ []
      · refine iteD (by rw [w4.1]) ⟨_, rfl, fun e5 he5 => ⟨std, e5, D.kp, rfl, rfl, (same_new he5) _ _ stF, upd_same, _, rfl, ?_⟩⟩
        have hk1 : (!D.kp.isEmpty) = true := by cases hkp : D.kp with
          | nil => exact absurd hkp w4.2
          | cons _ _ => rfl
        rw [hk1]
        have s5 : Same Hf (upd Hf e5 (.dK [])) := same_new he5
        generalize upd Hf e5 (.dK []) = Hg at s5
        obtain ⟨ks, k1, k2, k3, k4⟩ := BR.st.pn.keys
        have hkl : ks.length = D.kp.length := by have := congrArg List.length k1; rw [List.length_map, List.length_map] at this; omega
        have h5 : D.kp.length ≤ 5 := Nat.le_trans (few' BR.st.pn five BR.ok.pin5) (by decide)
        refine iteT ⟨_, rfl, _, rfl, _, rfl, _, rfl, std, _, ks, rfl, .inl (s5 _ _ stF), k1, by omega, fun ys2 p hpm _ hp => ?_⟩
        have lp := (lf.same s5).new (o := .lst (ys2.map V.str)) hp
        have npl := (lf.same s5).ne hp
        have s6' := s5.trans (same_new (o := .lst (ys2.map V.str)) hp)
        have ep : upd Hg p (.lst (ys2.map V.str)) p = some (.lst (ys2.map V.str)) := upd_same
        generalize upd Hg p (.lst (ys2.map V.str)) = Hh at lp s6' ep
        have hy2 : 1 ≤ ys2.length := by
          rw [hpm.length_eq, hkl]
          cases hkp : D.kp with
          | nil => exact absurd hkp w4.2
          | cons _ _ => simp
        refine ⟨l, p, _, rfl, lp, ep, npl, by rw [List.length_map]; exact hy2, by rw [List.length_map]; have := hpm.length_eq; omega, fun Hi v bi li hv2 => ⟨by show 2 ≤ sizeLine; decide, fun a ha => ?_⟩⟩
        obtain ⟨n, hn, rfl⟩ := List.mem_map.mp hv2
        obtain ⟨i2, hi2⟩ := k3 n (hpm.mem_iff.mp hn)
        have bZ : But l Hf (upd Hi a (.tup [.str wd, .str n])) := (s6'.but.trans bi).new ha
        have eA : upd Hi a (.tup [.str wd, .str n]) a = some (.tup [.str "unpin", .str n]) := by rw [upd_same, w4.1]
        have BZ := BR.butL lf bZ
        refine ⟨b, a, w', k, s, D, gs, nm, pn, "unpin", _, rfl, BZ, hk, by omega, eA, .unpin n i2 hi2, fun H' s' D' gs' nm' pn' bt hB' hc => ?_⟩
        exact q H' s' D' gs' nm' pn' wd (fun x o n1 n2 e => bt x o n2 (bZ x o n1 (bR x o n1 e))) (strB BZ (li.new ha) bt) hB' hwd fun h => absurd h hno
      by_cases w5 : wd = "unpin"
      · have hk0 : D.kp = [] := Classical.byContradiction fun h => w4 ⟨w5, h⟩
        refine iteD (by rw [w5]) ⟨_, rfl, fun e5 he5 => ⟨std, e5, D.kp, rfl, rfl, (same_new he5) _ _ stF, upd_same, _, rfl, ?_⟩⟩
        have hk1 : (!D.kp.isEmpty) = false := by rw [hk0]; rfl
        rw [hk1]
        have s5 : Same Hf (upd Hf e5 (.dK [])) := same_new he5
        generalize upd Hf e5 (.dK []) = Hg at s5
        refine iteF ?_
        refine ⟨fun σ' H' => ∃ wd2 : Str, (wd2 = "give" ∨ wd2 = "pin") ∧ σ' = [some (.ref l), some (.ref b), some (.ref wl), some (.ref it), some (.int w'), some (.ref nmd), some (.ref std), some (.str wd2), some (.ref sd), some (.int i), none] ∧ Same Hg H', ?_, ?_⟩
        · refine ⟨_, rfl, by show 2 ≤ sizeLine; decide, fun p hp => ⟨p, _, rfl, .inr (SqT.of upd_same), rfl, rfl, _, rfl, ?_⟩⟩
          refine ite2 (fun _ => ?_) fun _ => ?_
          · exact ⟨"pin", .inr rfl, rfl, same_new hp⟩
          · exact ⟨"give", .inl rfl, rfl, same_new hp⟩
        · rintro σ' Hj ⟨wd2, hwd2, rfl, sj⟩
          have sFj := s5.trans sj
          have lj := lf.same sFj
          refine ⟨_, rfl, _, rfl, _, rfl, by show 5 ≤ sizeLine; decide, fun c hc => ?_⟩
          have s8 : Same Hj (upd Hj c (.lst (five.map V.str))) := same_new hc
          refine ⟨l, c, five.map V.str, rfl, lj.same s8, upd_same, lj.ne hc, by show 1 ≤ 5; decide, by show 5 ≤ 1000; decide, fun Hk v bk lk hv3 => ⟨_, rfl, by show 3 ≤ sizeLine; decide, fun a ha => ?_⟩⟩
          obtain ⟨n, hn, rfl⟩ := List.mem_map.mp hv3
          have bZ : But l Hf (upd Hk a (.tup [.str wd2, .str n, .int i])) := ((sFj.trans s8).but.trans bk).new ha
          have BZ := BR.butL lf bZ
          refine ⟨b, a, w', k, s, D, gs, nm, pn, wd2, _, rfl, BZ, hk, by omega, upd_same, .give wd2 n i hwd2 hn hi, fun H' s' D' gs' nm' pn' bt hB' hc => ?_⟩
          exact q H' s' D' gs' nm' pn' wd (fun x o n1 n2 e => bt x o n2 (bZ x o n1 (bR x o n1 e))) (strB BZ (lk.new ha) bt) hB' hwd fun h => absurd h hno
      · have s5 : Same Hf Hf := Same.refl Hf
        refine iteDF (str_ne w5) (iteF ?_)

        refine ⟨fun σ' H' => ∃ wd2 : Str, (wd2 = "give" ∨ wd2 = "pin") ∧ σ' = [some (.ref l), some (.ref b), some (.ref wl), some (.ref it), some (.int w'), some (.ref nmd), some (.ref std), some (.str wd2), some (.ref sd), some (.int i), none] ∧ Same Hf H', ?_, ?_⟩
        · refine ⟨_, rfl, by show 2 ≤ sizeLine; decide, fun p hp => ⟨p, _, rfl, .inr (SqT.of upd_same), rfl, rfl, _, rfl, ?_⟩⟩
          refine ite2 (fun _ => ?_) fun _ => ?_
          · exact ⟨"pin", .inr rfl, rfl, same_new hp⟩
          · exact ⟨"give", .inl rfl, rfl, same_new hp⟩
        · rintro σ' Hj ⟨wd2, hwd2, rfl, sj⟩
          have sFj := s5.trans sj
          have lj := lf.same sFj
          refine ⟨_, rfl, _, rfl, _, rfl, by show 5 ≤ sizeLine; decide, fun c hc => ?_⟩
          have s8 : Same Hj (upd Hj c (.lst (five.map V.str))) := same_new hc
          refine ⟨l, c, five.map V.str, rfl, lj.same s8, upd_same, lj.ne hc, by show 1 ≤ 5; decide, by show 5 ≤ 1000; decide, fun Hk v bk lk hv3 => ⟨_, rfl, by show 3 ≤ sizeLine; decide, fun a ha => ?_⟩⟩
          obtain ⟨n, hn, rfl⟩ := List.mem_map.mp hv3
          have bZ : But l Hf (upd Hk a (.tup [.str wd2, .str n, .int i])) := ((sFj.trans s8).but.trans bk).new ha
          have BZ := BR.butL lf bZ
          refine ⟨b, a, w', k, s, D, gs, nm, pn, wd2, _, rfl, BZ, hk, by omega, upd_same, .give wd2 n i hwd2 hn hi, fun H' s' D' gs' nm' pn' bt hB' hc => ?_⟩
          exact q H' s' D' gs' nm' pn' wd (fun x o n1 n2 e => bt x o n2 (bZ x o n1 (bR x o n1 e))) (strB BZ (lk.new ha) bt) hB' hwd fun h => absurd h hno
    · refine iteDF (str_ne ha9) (iteF ?_)
      have hyne : 1 ≤ ys.length := by rw [hys]; simp
      have hy20 : ys.length ≤ 20 := by rw [hyl]; exact BE.st.items.len
      refine ⟨_, rfl, _, rfl, l, sd, _, rfl, lE, sdE, nsl, by rw [List.length_map]; exact hyne, by rw [List.length_map]; omega, fun Hf v bf lf hv => ?_⟩
      obtain ⟨i, hiy, rfl⟩ := List.mem_map.mp hv
      have hi : i ∈ idsK D.kvs := hperm.mem_iff.mp hiy
      have nelE : ∀ {a o}, HE a = some (.dK o) → a ≠ l := fun {a o} e z => by obtain ⟨x, y, e2⟩ := lE; subst z; rw [e2] at e; cases e
      have itF := bf _ _ (nelE itE) itE
      have stF := bf _ _ (nelE stE) stE
      have bR := bE.trans bf
      have BR := BE.butL lE bf
      have l7 : ∀ {z : Str}, z ∉ words7 → wd ≠ z := fun h e => h (e ▸ hw7)
      refine ⟨_, rfl, rfl, _, rfl, ?_⟩
      by_cases w1 : wd = "fields"
      · obtain ⟨t0, wt0, ns0, hv0, _, _, hit0⟩ := BR.st.items.get hi
        obtain ⟨f0, g1, g2⟩ := hit0.f
        have dg := dget_rd (.inl i) (Rd.of itF)
        rw [hv0] at dg
        refine iteD (by rw [w1]) ⟨_, rfl, _, rfl, _, rfl, _, rfl, _, rfl, _, _, rfl, dg, _, _, _, _, rfl, rfl, SqT.of g1, atI_nat (j := 0) rfl, _, rfl, _, rfl, l, w', rfl, lf, hw1, by omega, fun Hg t f wt ns bg lg htn ntl ht hfg hns hwt1 hwt2 hnb => ⟨_, _, _, _, rfl, rfl, SqT.of ht, atI_nat (j := 1) rfl, by show 2 ≤ sizeLine; decide, fun t2 ht2 => ⟨by show 3 ≤ sizeLine; decide, fun a ha => ?_⟩⟩⟩
        have s2' : Same Hg (upd (upd Hg t2 (.tup [.int wt0, .ref f])) a (.tup [.str wd, .int i, .ref t2])) := (same_new ht2).new ha
        have bZ : But l Hf (upd (upd Hg t2 (.tup [.int wt0, .ref f])) a (.tup [.str wd, .int i, .ref t2])) := bg.trans s2'.but
        have e2 := (same_new (o := .tup [.str wd, .int i, .ref t2]) ha) t2 _ upd_same
        have eA : upd (upd Hg t2 (.tup [.int wt0, .ref f])) a (.tup [.str wd, .int i, .ref t2]) a = some (.tup [.str "fields", .int i, .ref t2]) := by rw [upd_same, w1]
        have BZ := BR.butL lf bZ
        refine ⟨b, a, w', k, s, D, gs, nm, pn, "fields", _, rfl, BZ, hk, by omega, eA, .fields i t2 f (.int wt0) ns hi e2 (s2' _ _ hfg) (by omega) hnb, fun H' s' D' gs' nm' pn' bt hB' hc => ?_⟩
        exact q H' s' D' gs' nm' pn' wd (fun x o n1 n2 e => bt x o n2 (bZ x o n1 (bR x o n1 e))) (strB BZ (lg.same s2') bt) hB' hwd fun _ => hc (by decide +kernel)
      refine iteDF (str_ne w1) ⟨_, rfl, rfl, _, rfl, iteDF (str_ne (l7 (by decide +kernel))) ⟨_, rfl, rfl, _, rfl, ?_⟩⟩
      by_cases w2 : wd = "drop"
      · refine iteD (by rw [w2]) ⟨_, rfl, _, rfl, _, rfl, by show 1 ≤ sizeLine; decide, fun p hp => ⟨by show 2 ≤ sizeLine; decide, fun a ha => ?_⟩⟩
        have s2' : Same Hf (upd (upd Hf p (.tup [.int i])) a (.tup [.str wd, .ref p])) := (same_new hp).new ha
        have e2 := (same_new (o := .tup [.str wd, .ref p]) ha) p _ upd_same
        have eA : upd (upd Hf p (.tup [.int i])) a (.tup [.str wd, .ref p]) a = some (.tup [.str "drop", .ref p]) := by rw [upd_same, w2]
        have BZ := BR.same s2'
        refine ⟨b, a, w', k, s, D, gs, nm, pn, "drop", _, rfl, BZ, hk, by omega, eA, .drop i p hi e2, fun H' s' D' gs' nm' pn' bt hB' hc => ?_⟩
        exact q H' s' D' gs' nm' pn' wd (fun x o n1 n2 e => bt x o n2 (s2' x o (bR x o n1 e))) (strB BZ (lf.same s2') bt) hB' hwd fun _ => hc (by decide +kernel)
      refine iteDF (str_ne w2) ⟨_, rfl, rfl, _, rfl, ?_⟩
      by_cases w3 : wd = "rule"
      · refine iteD (by rw [w3]) ⟨_, rfl, _, rfl, _, rfl, _, rfl, l, w', rfl, lf, hw1, by omega, fun Hg r ps bg lg hrn nrl hr' hok => ⟨by show 2 ≤ sizeLine; decide, fun a ha => ?_⟩⟩
        have s2' : Same Hg (upd Hg a (.tup [.str wd, .ref r])) := same_new ha
        have bZ : But l Hf (upd Hg a (.tup [.str wd, .ref r])) := bg.trans s2'.but
        have eA : upd Hg a (.tup [.str wd, .ref r]) a = some (.tup [.str "rule", .ref r]) := by rw [upd_same, w3]
        have BZ := BR.butL lf bZ
        refine ⟨b, a, w', k, s, D, gs, nm, pn, "rule", _, rfl, BZ, hk, by omega, eA, .rule r ps (hr'.same s2') hok, fun H' s' D' gs' nm' pn' bt hB' hc => ?_⟩
        exact q H' s' D' gs' nm' pn' wd (fun x o n1 n2 e => bt x o n2 (bZ x o n1 (bR x o n1 e))) (strB BZ (lg.same s2') bt) hB' hwd fun _ => hc (by decide +kernel)
      have hno : wd ∉ chg3 := fun h => by
        simp only [chg3, List.mem_cons, List.not_mem_nil, or_false] at h
        rcases h with h | h | h
        · exact w1 h
        · exact w3 h
        · exact w2 h
      refine iteDF (str_ne w3) ⟨_, rfl, rfl, _, rfl, iteDF (str_ne (l7 (by decide +kernel))) (iteF ?_)⟩
      -- unpin, or give and pin
      have other : ∀ (Hg : Hp), Same Hf Hg → (∀ x : Prop, x → x) := fun _ _ _ h => h
      refine ⟨_, rfl, rfl, _, rfl, ?_⟩
      by_cases w4 : wd = "unpin" ∧ D.kp ≠ []
      · refine iteD (by rw [w4.1]) ⟨_, rfl, fun e5 he5 => ⟨std, e5, D.kp, rfl, rfl, (same_new he5) _ _ stF, upd_same, _, rfl, ?_⟩⟩
        have hk1 : (!D.kp.isEmpty) = true := by cases hkp : D.kp with
          | nil => exact absurd hkp w4.2
          | cons _ _ => rfl
        rw [hk1]
        have s5 : Same Hf (upd Hf e5 (.dK [])) := same_new he5
        generalize upd Hf e5 (.dK []) = Hg at s5
        obtain ⟨ks, k1, k2, k3, k4⟩ := BR.st.pn.keys
        have hkl : ks.length = D.kp.length := by have := congrArg List.length k1; rw [List.length_map, List.length_map] at this; omega
        have h5 : D.kp.length ≤ 5 := Nat.le_trans (few' BR.st.pn five BR.ok.pin5) (by decide)
        refine iteT ⟨_, rfl, _, rfl, _, rfl, _, rfl, std, _, ks, rfl, .inl (s5 _ _ stF), k1, by omega, fun ys2 p hpm _ hp => ?_⟩
        have lp := (lf.same s5).new (o := .lst (ys2.map V.str)) hp
        have npl := (lf.same s5).ne hp
        have s6' := s5.trans (same_new (o := .lst (ys2.map V.str)) hp)
        have ep : upd Hg p (.lst (ys2.map V.str)) p = some (.lst (ys2.map V.str)) := upd_same
        generalize upd Hg p (.lst (ys2.map V.str)) = Hh at lp s6' ep
        have hy2 : 1 ≤ ys2.length := by
          rw [hpm.length_eq, hkl]
          cases hkp : D.kp with
          | nil => exact absurd hkp w4.2
          | cons _ _ => simp
        refine ⟨l, p, _, rfl, lp, ep, npl, by rw [List.length_map]; exact hy2, by rw [List.length_map]; have := hpm.length_eq; omega, fun Hi v bi li hv2 => ⟨by show 2 ≤ sizeLine; decide, fun a ha => ?_⟩⟩
        obtain ⟨n, hn, rfl⟩ := List.mem_map.mp hv2
        obtain ⟨i2, hi2⟩ := k3 n (hpm.mem_iff.mp hn)
        have bZ : But l Hf (upd Hi a (.tup [.str wd, .str n])) := (s6'.but.trans bi).new ha
        have eA : upd Hi a (.tup [.str wd, .str n]) a = some (.tup [.str "unpin", .str n]) := by rw [upd_same, w4.1]
        have BZ := BR.butL lf bZ
        refine ⟨b, a, w', k, s, D, gs, nm, pn, "unpin", _, rfl, BZ, hk, by omega, eA, .unpin n i2 hi2, fun H' s' D' gs' nm' pn' bt hB' hc => ?_⟩
        exact q H' s' D' gs' nm' pn' wd (fun x o n1 n2 e => bt x o n2 (bZ x o n1 (bR x o n1 e))) (strB BZ (li.new ha) bt) hB' hwd fun h => absurd h hno
      by_cases w5 : wd = "unpin"
      · have hk0 : D.kp = [] := Classical.byContradiction fun h => w4 ⟨w5, h⟩
        refine iteD (by rw [w5]) ⟨_, rfl, fun e5 he5 => ⟨std, e5, D.kp, rfl, rfl, (same_new he5) _ _ stF, upd_same, _, rfl, ?_⟩⟩
        have hk1 : (!D.kp.isEmpty) = false := by rw [hk0]; rfl
        rw [hk1]
        have s5 : Same Hf (upd Hf e5 (.dK [])) := same_new he5
        generalize upd Hf e5 (.dK []) = Hg at s5
        refine iteF ?_
        refine ⟨fun σ' H' => ∃ wd2 : Str, (wd2 = "give" ∨ wd2 = "pin") ∧ σ' = [some (.ref l), some (.ref b), some (.ref wl), some (.ref it), some (.int w'), some (.ref nmd), some (.ref std), some (.str wd2), some (.ref sd), some (.int i), none] ∧ Same Hg H', ?_, ?_⟩
        · refine ⟨_, rfl, by show 2 ≤ sizeLine; decide, fun p hp => ⟨p, _, rfl, .inr (SqT.of upd_same), rfl, rfl, _, rfl, ?_⟩⟩
          refine ite2 (fun _ => ?_) fun _ => ?_
          · exact ⟨"pin", .inr rfl, rfl, same_new hp⟩
          · exact ⟨"give", .inl rfl, rfl, same_new hp⟩
        · rintro σ' Hj ⟨wd2, hwd2, rfl, sj⟩
          have sFj := s5.trans sj
          have lj := lf.same sFj
          refine ⟨_, rfl, _, rfl, _, rfl, by show 5 ≤ sizeLine; decide, fun c hc => ?_⟩
          have s8 : Same Hj (upd Hj c (.lst (five.map V.str))) := same_new hc
          refine ⟨l, c, five.map V.str, rfl, lj.same s8, upd_same, lj.ne hc, by show 1 ≤ 5; decide, by show 5 ≤ 1000; decide, fun Hk v bk lk hv3 => ⟨_, rfl, by show 3 ≤ sizeLine; decide, fun a ha => ?_⟩⟩
          obtain ⟨n, hn, rfl⟩ := List.mem_map.mp hv3
          have bZ : But l Hf (upd Hk a (.tup [.str wd2, .str n, .int i])) := ((sFj.trans s8).but.trans bk).new ha
          have BZ := BR.butL lf bZ
          refine ⟨b, a, w', k, s, D, gs, nm, pn, wd2, _, rfl, BZ, hk, by omega, upd_same, .give wd2 n i hwd2 hn hi, fun H' s' D' gs' nm' pn' bt hB' hc => ?_⟩
          exact q H' s' D' gs' nm' pn' wd (fun x o n1 n2 e => bt x o n2 (bZ x o n1 (bR x o n1 e))) (strB BZ (lk.new ha) bt) hB' hwd fun h => absurd h hno
      · have s5 : Same Hf Hf := Same.refl Hf
        refine iteDF (str_ne w5) (iteF ?_)

        refine ⟨fun σ' H' => ∃ wd2 : Str, (wd2 = "give" ∨ wd2 = "pin") ∧ σ' = [some (.ref l), some (.ref b), some (.ref wl), some (.ref it), some (.int w'), some (.ref nmd), some (.ref std), some (.str wd2), some (.ref sd), some (.int i), none] ∧ Same Hf H', ?_, ?_⟩
        · refine ⟨_, rfl, by show 2 ≤ sizeLine; decide, fun p hp => ⟨p, _, rfl, .inr (SqT.of upd_same), rfl, rfl, _, rfl, ?_⟩⟩
          refine ite2 (fun _ => ?_) fun _ => ?_
          · exact ⟨"pin", .inr rfl, rfl, same_new hp⟩
          · exact ⟨"give", .inl rfl, rfl, same_new hp⟩
        · rintro σ' Hj ⟨wd2, hwd2, rfl, sj⟩
          have sFj := s5.trans sj
          have lj := lf.same sFj
          refine ⟨_, rfl, _, rfl, _, rfl, by show 5 ≤ sizeLine; decide, fun c hc => ?_⟩
          have s8 : Same Hj (upd Hj c (.lst (five.map V.str))) := same_new hc
          refine ⟨l, c, five.map V.str, rfl, lj.same s8, upd_same, lj.ne hc, by show 1 ≤ 5; decide, by show 5 ≤ 1000; decide, fun Hk v bk lk hv3 => ⟨_, rfl, by show 3 ≤ sizeLine; decide, fun a ha => ?_⟩⟩
          obtain ⟨n, hn, rfl⟩ := List.mem_map.mp hv3
          have bZ : But l Hf (upd Hk a (.tup [.str wd2, .str n, .int i])) := ((sFj.trans s8).but.trans bk).new ha
          have BZ := BR.butL lf bZ
          refine ⟨b, a, w', k, s, D, gs, nm, pn, wd2, _, rfl, BZ, hk, by omega, upd_same, .give wd2 n i hwd2 hn hi, fun H' s' D' gs' nm' pn' bt hB' hc => ?_⟩
          exact q H' s' D' gs' nm' pn' wd (fun x o n1 n2 e => bt x o n2 (bZ x o n1 (bR x o n1 e))) (strB BZ (lk.new ha) bt) hB' hwd fun h => absurd h hno
end KN

set_option Elab.async false
set_option linter.all false
set_option maxRecDepth 100000
set_option maxHeartbeats 4000000
/-! a book filled -/
namespace KN
open PySem PySem.Spec PyProof.Rows L2 ClX StX
open C8 (Cal Met Mak CalAt pe_c pe_mk pe_mt pe_mt0 pss_cut tCut pe_gc)
def iKeysL (td : TE) : TI := fun σ H R => td σ H fun x H1 => ∃ d kvs, x = .ref d ∧ H1 d = some (.dK kvs) ∧ ∀ o, R (Itk d o kvs) (upd H1 d (.frz o (.dK kvs)))
/-- for k in e, e a dict just made -/
theorem pi_keysL {X : Cx} {tg e : Expr} {td : TE} (he : PE X e td) : PI X tg e (iKeysL td) := by
  refine ⟨fun pins s σ H R I h => ?_⟩
  refine thn (he.run pins s σ H _ I h) fun u s1 ⟨x, H1, I1, rx, d, kvs, ex, hd, q⟩ => ?_
  subst ex
  obtain rfl : u = Value.ref d := rx
  obtain ⟨o, I2⟩ := I1.lock hd trivial
  obtain ⟨hs, hgd, hx, es, ep, vs, hdt, hsz, kv, hm⟩ := I2.frzK upd_same
  refine iter_keys hs hgd hx hdt (pi_one (tk := s1.toks) I2 _ (turn_keys _ hdt) ⟨_, Heap.get?_push_size _ rfl, rfl, ?_⟩ (q o))
  rw [hsz] <;> rfl
def spFilled (K : PySem.W.Frag) : Sp := fun vs H Q _ => ∃ (l : Addr) (n : Nat), vs = [.ref l, .int n] ∧ StrAt H l ∧ n ≤ 20 ∧
  ∀ (H' : Hp) (b : Addr) (w k : Nat) (s : Addr) (D : StD) (gs : List (List Int)) (nm pn : Str → Option Int), But l H H' → StrAt H' l → H b = none → b ≠ l → BkAt K w H' b k s D gs nm pn → k ≤ 30 → w ≤ 2 → Q (.ref b) H'
theorem ok__law_filled {P : Program} {w : World} {K : PySem.W.Frag} {mg : Str → Option Value} {base : Heap} (T : Tx K mg) : Cal P w K mg base 12 "_law_filled" (spFilled K) [] := by
  obtain ⟨fd, F⟩ := T.d__law_filled
  have G_NameBook_init := ok_NameBook_init (P := P) (w := w) (base := base) T
  have G__law_change := ok__law_change (P := P) (w := w) (base := base) T
  have G__law_draw := ok__law_draw (P := P) (w := w) (base := base) T
  have G__law_some_rule := ok__law_some_rule (P := P) (w := w) (base := base) T
  have bd : Binds K fd ["_law_stream_here", "_law_amount"] [] := F.binds fun _ _ _ _ _ _ us hl => match us, hl with | [_, _], _ => rfl
  refine cal_of (F.ok sc__law_filled (fun vs H Q E h => ?len) (fun cdv A outer s H vs Q E hr h => ?body)) bd T.g__law_filled T.k__law_filled
  case len => exact (by first | (obtain ⟨rfl, _⟩ := h; rfl) | (obtain ⟨_, rfl, _⟩ := h; rfl) | (obtain ⟨_, _, rfl, _⟩ := h; rfl) | (obtain ⟨_, _, _, rfl, _⟩ := h; rfl) | (obtain ⟨_, _, _, _, rfl, _⟩ := h; rfl) | (obtain ⟨_, _, _, _, _, rfl, _⟩ := h; rfl) | (obtain ⟨_, _, _, _, _, _, rfl, _⟩ := h; rfl) | (obtain ⟨_, _, _, _, _, _, _, rfl, _⟩ := h; rfl) | (obtain ⟨_, _, _, _, _, _, _, _, rfl, _⟩ := h; rfl) | (obtain ⟨_, _, _, _, _, _, _, _, _, rfl, _⟩ := h; rfl) | (obtain ⟨_, _, _, _, _, _, _, _, _, _, rfl, _⟩ := h; rfl) | (obtain ⟨_, _, _, _, _, _, _, _, _, _, _, rfl, _⟩ := h; rfl) | (obtain ⟨_, _, _, _, _, _, _, _, _, _, _, _, rfl, _⟩ := h; rfl) | (obtain ⟨_, _, _, _, _, _, _, _, _, _, _, _, _, rfl, _⟩ := h; rfl) | (obtain ⟨_, _, _, _, _, _, _, _, _, _, _, _, _, _, rfl, _⟩ := h; rfl) | (obtain ⟨_, _, _, _, _, _, _, _, _, _, _, _, _, _, _, rfl, _⟩ := h; rfl))
  case body =>
  have hu := hu_of hr
  refine ⟨_, (pss_cons (ps_set (i := 2) sc__law_filled.nd rfl (Or.inl rfl) (pe_op op_add pe_int (pe_c G__law_draw hr (by decide) (by rfl) (pa_cons (pv 0) (pa_cons pe_int pa_nil)))))
      (pss_cons (ps_set (i := 3) sc__law_filled.nd rfl (Or.inl rfl) (pe_mkN G_NameBook_init hr (by decide) (by rfl) T.g_NameBook (pa_cons (pv 2) pa_nil) (pk_cons (pe_c G__law_some_rule hr (by decide) (by rfl) (pa_cons (pv 0) (pa_cons (pv 2) pa_nil))) pk_nil)))
      (pss_cons (ps_for PassesOwn.never rfl (pi_range1 (by rfl) T.z_range (pa_cons (pv 1) pa_nil)) (pg_name (i := 4) sc__law_filled.nd rfl (Or.inl rfl))
      (pss_one (ps_expr (pe_c G__law_change hr (by decide) (by rfl) (pa_cons (pv 0) (pa_cons (pv 3) (pa_cons (pe_lst (pa_cons pe_str pa_nil)) pa_nil)))))))
      (pss_cons (ps_for PassesOwn.never rfl (pi_range1 (by rfl) T.z_range (pa_cons (pe_c G__law_draw hr (by decide) (by rfl) (pa_cons (pv 0) (pa_cons pe_int pa_nil))) pa_nil)) (pg_name (i := 4) sc__law_filled.nd rfl (Or.inl rfl))
      (pss_one (ps_expr (pe_c G__law_change hr (by decide) (by rfl) (pa_cons (pv 0) (pa_cons (pv 3) (pa_cons (pe_lst (pa_cons pe_str (pa_cons pe_str (pa_cons pe_str pa_nil)))) pa_nil)))))))
      (pss_one (ps_ret (pv 3))))))), ?_⟩
  obtain ⟨l, n, rfl, hl, hn, q⟩ := h
  refine ⟨_, rfl, l, 2, rfl, hl, by decide, by decide, fun H1 r b1 l1 hr => ⟨_, _, rfl, rfl, ?_⟩⟩
  obtain ⟨w', hw, hw1, hw2⟩ : ∃ w' : Nat, (1 + (r : Int)) = w' ∧ 1 ≤ w' ∧ w' ≤ 2 := ⟨1 + r, by omega, by omega, by omega⟩
  refine ⟨_, rfl, _, rfl, _, rfl, l, w', (by show [V.ref l, V.int (1 + (r : Int))] = [V.ref l, V.int w']; rw [hw]), l1, hw1, by omega, fun H2 ru ps b2 l2 hru nrl hR hok => ⟨rfl, rfl, fun b dx hb hdx hne => ?_⟩⟩
  have bH2 := b1.trans b2
  have nbl := l2.ne hb
  refine ⟨H2, b, dx, ru, w', ps, (by show [V.ref b, V.int (1 + (r : Int)), V.ref ru] = [V.ref b, V.int w', V.ref ru]; rw [hw]), upd_same, hb, ((Same.refl H2).at hdx).at hb, hR, hok, by omega, by omega, fun H3 s D gs s3 hB _ _ _ => ⟨rfl, ?_⟩⟩
  have bH3 := bH2.trans s3.but
  have hbH : H b = none := bH2.free hb nbl
  have l3 := l2.same s3
  -- one change more
  have step : ∀ {Ha Hb : Hp}, But l H Ha → (∀ a o, a ≠ l → a ≠ b → Ha a = some o → Hb a = some o) → But l H Hb := fun {Ha Hb} h1 h2 a o na e => h2 a o na (ne_of_none e hbH) (h1 a o na e)
  refine ⟨_, rfl, n, rfl, by omega, by omega, for_it (walk_range (lo := 0) (n := n)) (fun j σ H' => ∃ (v : Option V) (k : Nat) (s : Addr) (D : StD) (gs : List (List Int)) (nm pn : Str → Option Int), σ = [some (.ref l), some (.int n), some (.int w'), some (.ref b), v] ∧ But l H H' ∧ StrAt H' l ∧ BkAt K w' H' b k s D gs nm pn ∧ k ≤ j) ?_ ?_ ?_ ?_⟩
  · exact ⟨none, 0, s, D, gs, _, _, (by show [some (V.ref l), some (V.int n), some (V.int (1 + (r : Int))), some (V.ref b), none] = _; rw [hw]), bH3, l3, hB, Nat.le_refl _⟩
  · exact fun _ _ _ _ _ => trivial
  · rintro j x σ Ha Hb hj ⟨v, k, s, D, gs, nm, pn, rfl, ba, la, hBa, hk⟩ ⟨rfl, rfl⟩
    refine ⟨_, rfl, _, rfl, by show 1 ≤ sizeLine; decide, fun c hc => ?_⟩
    have sc : Same Hb (upd Hb c (.lst (([("add" : Str)] : List Str).map V.str))) := same_new hc
    refine ⟨l, b, c, w', k, s, D, gs, nm, pn, ["add"], rfl, la.same sc, hBa.same sc, by omega, by omega, upd_same, la.ne hc, by decide, by decide, by decide +kernel, fun Hc s' D' gs' nm' pn' wd bc lc hBc hwd _ => ?_⟩
    exact ⟨_, k + 1, s', D', gs', nm', pn', rfl, step ba fun a o n1 n2 e => bc a o n1 n2 (sc _ _ e), lc, hBc, by omega⟩
  · rintro σ Ha ⟨v, k, s, D, gs, nm, pn, rfl, ba, la, hBa, hk⟩
    refine ⟨_, rfl, l, 4, rfl, la, by decide, by decide, fun Hb r2 bb lb hr2 => ⟨r2, rfl, by omega, by omega, ?_⟩⟩
    refine for_it (walk_range (lo := 0) (n := r2)) (fun j σ H' => ∃ (v : Option V) (k : Nat) (s : Addr) (D : StD) (gs : List (List Int)) (nm pn : Str → Option Int), σ = [some (.ref l), some (.int n), some (.int w'), some (.ref b), v] ∧ But l H H' ∧ StrAt H' l ∧ BkAt K w' H' b k s D gs nm pn ∧ k ≤ n + j) ?_ ?_ ?_ ?_
    · exact ⟨v, k, s, D, gs, nm, pn, rfl, ba.trans bb, lb, hBa.butL la bb, by omega⟩
    · exact fun _ _ _ _ _ => trivial
    · rintro j x σ Hc Hd hj ⟨v, k, s, D, gs, nm, pn, rfl, bc, lc, hBc, hk⟩ ⟨rfl, rfl⟩
      refine ⟨_, rfl, _, rfl, by show 3 ≤ sizeLine; decide, fun c hc => ?_⟩
      have sc : Same Hd (upd Hd c (.lst (([("give" : Str), "give", "pin"] : List Str).map V.str))) := same_new hc
      refine ⟨l, b, c, w', k, s, D, gs, nm, pn, ["give", "give", "pin"], rfl, lc.same sc, hBc.same sc, by omega, by omega, upd_same, lc.ne hc, by decide, by decide, by decide +kernel, fun He s' D' gs' nm' pn' wd be le hBe hwd _ => ?_⟩
      exact ⟨_, k + 1, s', D', gs', nm', pn', rfl, step bc fun a o n1 n2 e => be a o n1 n2 (sc _ _ e), le, hBe, by omega⟩
    · rintro σ Hc ⟨v, k, s, D, gs, nm, pn, rfl, bc, lc, hBc, hk⟩
      exact ⟨_, rfl, q Hc b w' k s D gs nm pn bc lc hbH nbl hBc (by omega) (by omega)⟩
end KN

set_option Elab.async false
set_option linter.all false
set_option maxRecDepth 100000
set_option maxHeartbeats 4000000
namespace KN
open PySem PySem.Spec PyProof.Rows L2 ClX StX
open C8 (Cal Met Mak CalAt pe_c pe_mk pe_mt pe_mt0 pss_cut tCut pe_gc)
/-- a comprehension over the keys of a dict that takes none -/
theorem lc_none {i j : Nat} {d : Addr} {kvs : List (Key × V)} {H : Hp} {σ : L2.St} {tt : TT} {te : TE} {vs : List Nat} {Q : VK} (hd : H d = some (.dK kvs)) (hi : σ[i]? = some (some (.ref d)))
    (hw : ∀ x, wipe ((wipe σ vs).set j (some x)) vs = wipe σ vs)
    (hf : ∀ (od : Obj) (n : Nat) (k : Key) (v : V) (H' : Hp), kvs[n]? = some (k, v) → Same (upd H d (.frz od (.dK kvs))) H' → ∀ R : Bool → Hp → Prop, R false H' → tt ((wipe σ vs).set j (some (kV k))) H' R)
    (q : ∀ (p : Addr) (Hq : Hp), Same H Hq → H p = none → Hq p = some (.lst []) → Q (.ref p) Hq) :
    tLockE (tLc (iKeys (tVar i)) (gName j) tt te vs) σ H Q := by
  refine ⟨d, _, hd, trivial, fun od => ?_⟩
  have h0 : upd H d (.frz od (.dK kvs)) d = some (.frz od (.dK kvs)) := upd_same
  refine ⟨_, hi, d, od, rfl, .inl ⟨kvs, h0, fun D hD => ?_⟩⟩
  have nD : D ≠ d := fun z => by subst z; rw [h0] at hD; cases hD
  have hDH : H D = none := by rw [upd_ne nD] at hD; exact hD
  refine lc_it walk_keys (fun _ H' => Same (upd H d (.frz od (.dK kvs))) H' ∧ H' D = some (.lst [])) ⟨same_new hD, upd_same⟩ (fun k H' _ h => h.1 _ _ h0) ?_ ?_
  · rintro n x H2 H3 hk ⟨s2, e2⟩ ⟨rfl, k, v, e, rfl⟩
    exact ⟨hw _, hf od n k v _ e s2 _ ⟨s2, e2⟩⟩
  · rintro H2 ⟨s2, e2⟩
    exact ⟨s2 _ _ h0, q _ _ (unlock hd s2) hDH (by rw [upd_ne nD]; exact e2)⟩
theorem DM.pairs {κ A B : Type} [DecidableEq κ] [DecidableEq A] {f : A → κ} {g : B → V} {kvs : List (κ × V)} {m : A → Option B} (h : DM f g kvs m) (hf : ∀ a a', f a = f a' → a = a') (hg : ∀ a a', g a = g a' → a = a') :
    ∃ l : List (A × B), kvs = l.map (fun p => (f p.1, g p.2)) ∧ (l.map (·.1)).Nodup ∧ ∀ p ∈ l, m p.1 = some p.2 := by
  have h1 : ∀ kvs : List (κ × V), (∀ p ∈ kvs, ∃ a b, p = (f a, g b)) → ∃ l : List (A × B), kvs = l.map (fun p => (f p.1, g p.2)) := by
    intro kvs
    induction kvs with
    | nil => exact fun _ => ⟨[], rfl⟩
    | cons p r ih =>
      intro h
      obtain ⟨a, b, e⟩ := h p (by simp)
      obtain ⟨l, e2⟩ := ih fun p hp => h p (by simp [hp])
      exact ⟨(a, b) :: l, by rw [e, e2]; rfl⟩
  obtain ⟨l, e⟩ := h1 kvs h.el
  refine ⟨l, e, ?_, fun p hp => ?_⟩
  · have := h.nd
    rw [e, List.map_map] at this
    exact List.pairwise_map.mpr ((List.pairwise_map.mp this).imp fun h e => h (congrArg f e))
  · obtain ⟨i, hi⟩ := List.mem_iff_getElem?.mp hp
    obtain ⟨a, b, e1, e2, e3⟩ := h.ix (i := i) (k := f p.1) (v := g p.2) hf (by rw [e, List.getElem?_map, hi]; rfl)
    rw [hf _ _ e1, hg _ _ e2]; exact e3
theorem int_inj (a a' : Int) (h : V.int a = V.int a') : a = a' := V.int.inj h
def spRight (K : PySem.W.Frag) : Sp := fun vs H Q _ => ∃ (b : Addr) (w : Int) (k : Nat) (s : Addr) (D : StD) (gs : List (List Int)) (nm pn : Str → Option Int), vs = [.ref b] ∧ BkAt K w H b k s D gs nm pn ∧ ∀ H', Same H H' → Q (.bl true) H'
theorem ok__law_right {P : Program} {w : World} {K : PySem.W.Frag} {mg : Str → Option Value} {base : Heap} (T : Tx K mg) : Cal P w K mg base 3 "_law_right" (spRight K) [] := by
  obtain ⟨fd, F⟩ := T.d__law_right
  have G_NameBook_groups := ok_NameBook_groups (P := P) (w := w) (base := base) T
  have G_NameBook_names := ok_NameBook_names (P := P) (w := w) (base := base) T
  have G_NameBook_pins := ok_NameBook_pins (P := P) (w := w) (base := base) T
  have bd : Binds K fd ["_law_book"] [] := F.binds fun _ _ _ _ _ _ us hl => match us, hl with | [_], _ => rfl
  refine cal_of (F.ok sc__law_right (fun vs H Q E h => ?len) (fun cdv A outer s H vs Q E hr h => ?body)) bd T.g__law_right T.k__law_right
  case len => exact (by first | (obtain ⟨rfl, _⟩ := h; rfl) | (obtain ⟨_, rfl, _⟩ := h; rfl) | (obtain ⟨_, _, rfl, _⟩ := h; rfl) | (obtain ⟨_, _, _, rfl, _⟩ := h; rfl) | (obtain ⟨_, _, _, _, rfl, _⟩ := h; rfl) | (obtain ⟨_, _, _, _, _, rfl, _⟩ := h; rfl) | (obtain ⟨_, _, _, _, _, _, rfl, _⟩ := h; rfl) | (obtain ⟨_, _, _, _, _, _, _, rfl, _⟩ := h; rfl) | (obtain ⟨_, _, _, _, _, _, _, _, rfl, _⟩ := h; rfl) | (obtain ⟨_, _, _, _, _, _, _, _, _, rfl, _⟩ := h; rfl) | (obtain ⟨_, _, _, _, _, _, _, _, _, _, rfl, _⟩ := h; rfl) | (obtain ⟨_, _, _, _, _, _, _, _, _, _, _, rfl, _⟩ := h; rfl) | (obtain ⟨_, _, _, _, _, _, _, _, _, _, _, _, rfl, _⟩ := h; rfl) | (obtain ⟨_, _, _, _, _, _, _, _, _, _, _, _, _, rfl, _⟩ := h; rfl) | (obtain ⟨_, _, _, _, _, _, _, _, _, _, _, _, _, _, rfl, _⟩ := h; rfl) | (obtain ⟨_, _, _, _, _, _, _, _, _, _, _, _, _, _, _, rfl, _⟩ := h; rfl))
  case body =>
  have hu := hu_of hr
  refine ⟨_, (pss_cons (ps_asg (pe_tup (pa_cons (pe_mt0 G_NameBook_names hr (by decide) (pv 0)) (pa_cons (pe_mt0 G_NameBook_pins hr (by decide) (pv 0)) (pa_cons (pe_mt0 G_NameBook_groups hr (by decide) (pv 0)) pa_nil)))) (pg_tup rfl (pgs_cons (pg_name (i := 1) sc__law_right.nd rfl (Or.inr rfl)) (pgs_cons (pg_name (i := 2) sc__law_right.nd rfl (Or.inr rfl)) (pgs_cons (pg_name (i := 3) sc__law_right.nd rfl (Or.inr rfl)) pgs_nil)))))
      (pss_cons (ps_if (pt_cmpR op_lt (RZ.pe_lenSetI rfl T.z_len rfl T.z_set (pe_listVals rfl (pv 1) (by rfl) T.z_list)) (pe_callB call_lenD (by rfl) T.z_len PySem.boot_len (pa_cons (pv 1) pa_nil)) (nomark _)) (pss_one (ps_ret pe_bl))
      pss_nil)
      (pss_cons (ps_if (pt_cmpR (op_neD hr.units) (pe_lock (pe_lc (own := [("_law_name", 4)]) rfl sc__law_right.nd (pi_keys (pv 1)) (blkOk_by (own := [("_law_name", 4)]) (N := N__law_right) (sc := defScope s__law_right) (by decide +kernel)) (fun _ _ _ _ _ => (pg_name (i := 4) sc__law_right.nd rfl (Or.inl rfl))) (fun _ _ _ _ _ => (pts_one (pt_not (pt_chain op_le op_lt pe_int (pe_dget hu (pv 1) (pv 4) (fun _ _ => rfl)) (pe_callB (lenS K rfl) (by rfl) T.z_len PySem.boot_len (pa_cons (pv 3) pa_nil)))))) (fun _ _ _ _ _ => (pv 4)))) (pe_lst pa_nil) (nomark _)) (pss_one (ps_ret pe_bl))
      pss_nil)
      (pss_one (ps_ret (pe_cmpR (op_eqD hr.units) (pe_lock (pe_lc (own := [("_law_name", 4)]) rfl sc__law_right.nd (pi_keys (pv 2)) (blkOk_by (own := [("_law_name", 4)]) (N := N__law_right) (sc := defScope s__law_right) (by decide +kernel)) (fun _ _ _ _ _ => (pg_name (i := 4) sc__law_right.nd rfl (Or.inl rfl))) (fun _ _ _ _ _ => (pts_one (PW.pt (pw_or (pt_cmp (pc_dnotin hu (pv 4) (pv 1)) rfl) (pw_or1 (pt_cmpR (niS K rfl) (pe_dget hu (pv 2) (pv 4) (fun _ _ => rfl)) (pe_ix (ixL K rfl) (pv 3) (pe_dget hu (pv 1) (pv 4) (fun _ _ => rfl)) (fun _ _ => rfl)) rfl)))))) (fun _ _ _ _ _ => (pv 4)))) (pe_lst pa_nil) (nomark _))))))), ?_⟩
  obtain ⟨b, w', k, s, D, gs, nm, pn, rfl, hB, q⟩ := h
  obtain ⟨dx, sl, ss, h1, _⟩ := id hB.ex
  refine ⟨_, rfl, b, dx, _, rfl, h1, rfl, b, w', k, s, D, gs, nm, pn, rfl, hB, fun H1 p1 s1 n1 e1 => ?_⟩
  have hB1 := hB.same s1
  refine ⟨_, rfl, b, dx, _, rfl, s1 _ _ h1, rfl, b, w', k, s, D, gs, nm, pn, rfl, hB1, fun H2 p2 s2 n2 e2 => ?_⟩
  have hB2 := hB1.same s2
  refine ⟨_, rfl, b, dx, _, rfl, s2 _ _ (s1 _ _ h1), rfl, b, w', k, s, D, gs, nm, pn, rfl, hB2, ?_⟩
  intro H3 p3 s3 n3 e3
  have hB3 := hB2.same s3
  refine ⟨by show 3 ≤ sizeLine; decide, fun p4 n4 => ?_⟩
  have s4 : Same H3 (upd H3 p4 (.tup [.ref p1, .ref p2, .ref p3])) := same_new n4
  refine ⟨p4, _, rfl, SqT.of upd_same, rfl, _, _, rfl, _, _, rfl, _, _, rfl, rfl, ?_⟩
  generalize upd H3 p4 (.tup [.ref p1, .ref p2, .ref p3]) = H4 at s4
  have s24 := (s2.trans s3).trans s4
  have sA := s1.trans s24
  obtain ⟨nl, el, nnd, nat⟩ := hB.st.nm.pairs inr_inj int_inj
  have vnd : (nl.map (·.2)).Nodup := by
    refine List.pairwise_map.mpr (List.Pairwise.imp_of_mem ?_ (List.pairwise_map.mp nnd))
    intro a c ha hc ne e
    exact ne (hB.ok.inj _ _ a.2 (nat a ha) (by rw [e]; exact nat c hc))
  have vlen : nl.length ≤ 5 := by
    have := Nat.le_trans (few' hB.st.nm five hB.ok.five) (by decide : five.length ≤ 5)
    rw [el, List.length_map] at this; exact this
  refine ⟨_, rfl, p1, _, rfl, .inl ⟨_, .inl (s24 _ _ e1), rfl⟩, fun p5 n5 => ?_⟩
  have s5 : Same H4 (upd H4 p5 (.lst (D.kn.map fun x => x.snd))) := same_new n5
  have e5 : upd H4 p5 (.lst (D.kn.map fun x => x.snd)) p5 = some (.lst ((nl.map (·.2)).map V.int)) := by rw [upd_same, el, List.map_map, List.map_map]; rfl
  generalize upd H4 p5 (.lst (D.kn.map fun x => x.snd)) = H5 at s5 e5
  have s25 := s24.trans s5
  refine ⟨p5, nl.map (·.2), rfl, SqL.of e5, vnd, by rw [List.length_map]; omega, ?_⟩
  refine ⟨_, rfl, p1, _, rfl, s25 _ _ e1, _, _, rfl, rfl, _, rfl, iteDF (by rw [el, List.length_map, List.length_map]; omega) ?_⟩
  have e35 := (s4.trans s5) _ _ e3
  have hB5 := hB1.same s25
  -- all names hold
  delta tNext
  dsimp only
  delta tSeq
  dsimp only
  delta tIfS tTest tOp
  show tLockE _ _ _ _
  refine lc_none (s25 _ _ e1) ?_ ?_ (fun od n ky v H6 hk s6 R r => ?_) fun p6 H6 s6 n6 e6 => ?_
  · rfl
  · exact fun _ => rfl
  · obtain ⟨o, z, rfl, rfl, hoz⟩ := hB.st.nm.ix inr_inj hk
    obtain ⟨j, rfl, hj⟩ := hB.ok.rng _ _ hoz
    have dg := dget_rd (.inr o) (.inr ⟨od, s6 _ _ upd_same⟩)
    rw [hB.st.nm.at_, hoz] at dg
    have e36 := s6 _ _ (lk (od := od) (s25 _ _ e1) e35 (fun z => nomatch z))
    have hl : D.ts.length = gs.length := hB.st.grp.len
    refine ⟨_, rfl, _, rfl, p1, _, rfl, dg, _, _, rfl, rfl, _, rfl, iteD (by omega) ⟨_, rfl, p3, _, rfl, .inl (SqL.of e36), _, _, rfl, rfl, _, rfl, ?_⟩⟩
    rw [decide_eq_true (by rw [List.length_map]; omega)]
    exact r
  refine ⟨by show 0 ≤ sizeLine; decide, fun p7 n7 => ?_⟩
  have s7 : Same H6 (upd H6 p7 (.lst [])) := same_new n7
  have e7 : upd H6 p7 (.lst []) p7 = some (.lst []) := upd_same
  generalize upd H6 p7 (.lst []) = H7 at s7 e7
  refine ⟨_, _, dp_nil (s7 _ _ e6), dp_nil e7, rfl, rfl, _, rfl, ?_⟩
  rw [eqv_nil]
  have s57 := s6.trans s7
  dsimp only
  rw [if_neg (by simp)]
  delta tRet
  dsimp only
  show tLockE _ _ _ _
  refine lc_none (s57 _ _ (((s3.trans s4).trans s5) _ _ e2)) ?_ ?_ (fun od n ky v H8 hk s8 R r => ?_) fun p8 H8 s8 n8 e8 => ?_
  · rfl
  · exact fun _ => rfl
  · obtain ⟨o, z, rfl, rfl, hoz⟩ := hB.st.pn.ix inr_inj hk
    have e27 := s57 _ _ (((s3.trans s4).trans s5) _ _ e2)
    obtain ⟨j, hj, g, hg, hzg⟩ := hB.ok.pin _ _ hoz
    have dg2 := dget_rd (.inr o) (.inr ⟨od, s8 _ _ upd_same⟩)
    rw [hB.st.pn.at_, hoz] at dg2
    have dg := dget_rd (.inr o) (s8.rd (rd_lock (od := od) e27 (.inl (s57 _ _ (s25 _ _ e1))) (fun _ _ z => nomatch z)))
    rw [hB.st.nm.at_, hj] at dg
    have hjt : j < D.ts.length := by rw [hB.st.grp.len]; exact (List.getElem?_eq_some_iff.mp hg).1
    have ht : D.ts[j]? = some D.ts[j] := List.getElem?_eq_getElem hjt
    obtain ⟨g', hg', hgt⟩ := hB.st.grp.at_ _ _ ht
    rw [hg] at hg'
    cases hg'
    have e38 := s8 _ _ (lk (od := od) e27 (s57 _ _ (s5 _ _ (s4 _ _ e3))) (fun z => nomatch z))
    have hgH := s8 _ _ (lk (od := od) e27 (s57 _ _ (s25 _ _ (s1 _ _ hgt))) (fun z => nomatch z))
    refine ⟨_, rfl, _, rfl, _, _, rfl, dg, _, rfl, ?_⟩
    refine iteF ⟨_, rfl, _, rfl, p2, _, rfl, dg2, _, rfl, _, rfl, _, rfl, _, _, rfl, dg, p3, _, _, _, rfl, rfl, SqL.of e38, atI_nat (j := j) (v := .ref D.ts[j]) (by rw [List.getElem?_map, ht]; rfl), _, _, rfl, .inr (SqT.of hgH), rfl, ?_⟩
    refine ⟨flat_int _, false, ?_, r⟩
    rw [inV_int, decide_eq_true hzg]; rfl
  refine ⟨by show 0 ≤ sizeLine; decide, fun p9 n9 => ?_⟩
  have s9 : Same H8 (upd H8 p9 (.lst [])) := same_new n9
  refine ⟨_, _, dp_nil (s9 _ _ e8), dp_nil upd_same, rfl, rfl, ?_⟩
  rw [eqv_nil]
  exact q _ ((sA.trans s5).trans (s57.trans (s8.trans s9)))
end KN

set_option Elab.async false
set_option linter.all false
set_option maxRecDepth 100000
set_option maxHeartbeats 4000000
namespace KN
open PySem PySem.Spec PyProof.Rows L2 ClX StX
open C8 (Cal Met Mak CalAt pe_c pe_mk pe_mt pe_mt0 pss_cut tCut pe_gc)
theorem go_ifs {tt : TT} {a b : TS} {D : Ends} {σ : L2.St} {H : Hp} (h : tt σ H fun c H1 => if c = true then a D σ H1 else b D σ H1) : tIfS tt a b D σ H := h
theorem go_seq {a b : TS} {D : Ends} {σ : L2.St} {H : Hp} (h : a { D with nx := b D } σ H) : tSeq a b D σ H := h
theorem go_test {te : TE} {σ : L2.St} {H : Hp} {Q : Bool → Hp → Prop} (h : te σ H fun x H' => ∃ k, x = .bl k ∧ Q k H') : tTest te σ H Q := h
theorem go_op {r : R2} {ta tb : TE} {σ : L2.St} {H : Hp} {Q : VK} (h : ta σ H fun x H1 => tb σ H1 fun y H2 => r x y H2 Q) : tOp r ta tb σ H Q := h
theorem go_next {D : Ends} {σ : L2.St} {H : Hp} (h : D.nx σ H) : tNext D σ H := h
/-- a comprehension over the keys of a dict just made, that takes none -/
theorem lc_noneL {td : TE} {j : Nat} {kvs : List (Key × V)} {H : Hp} {σ : L2.St} {tt : TT} {te : TE} {vs : List Nat} {Q : VK}
    (ht : ∀ R : VK, (∀ d H1, Same H H1 → H d = none → H1 d = some (.dK kvs) → R (.ref d) H1) → td σ H R)
    (hw : ∀ x, wipe ((wipe σ vs).set j (some x)) vs = wipe σ vs)
    (hf : ∀ (n : Nat) (k : Key) (v : V) (H' : Hp), kvs[n]? = some (k, v) → Same H H' → ∀ R : Bool → Hp → Prop, (∀ H'', Same H' H'' → R false H'') → tt ((wipe σ vs).set j (some (kV k))) H' R)
    (q : ∀ (p : Addr) (Hq : Hp), Same H Hq → Hq p = some (.lst []) → Q (.ref p) Hq) :
    tLc (iKeysL td) (gName j) tt te vs σ H Q := by
  refine ht _ fun d H1 s1 n1 e1 => ⟨d, kvs, rfl, e1, fun od => ?_⟩
  have h0 : upd H1 d (.frz od (.dK kvs)) d = some (.frz od (.dK kvs)) := upd_same
  have sF : Same H (upd H1 d (.frz od (.dK kvs))) := fun a o e => by
    have na : a ≠ d := fun z => by subst z; rw [n1] at e; cases e
    rw [upd_ne na]; exact s1 _ _ e
  refine fun D hD => ?_
  refine lc_it walk_keys (fun _ H' => Same (upd H1 d (.frz od (.dK kvs))) H' ∧ H' D = some (.lst [])) ⟨same_new hD, upd_same⟩ (fun k H' _ h => h.1 _ _ h0) ?_ ?_
  · rintro n x H2 H3 hk ⟨s2, e2⟩ ⟨rfl, k, v, e, rfl⟩
    exact ⟨hw _, hf n k v _ e (sF.trans s2) _ fun H4 s4 => ⟨s2.trans s4, s4 _ _ e2⟩⟩
  · rintro H2 ⟨s2, e2⟩
    exact q _ _ (sF.trans s2) e2
def spPinsR (K : PySem.W.Frag) : Sp := fun vs H Q _ => ∃ (b b2 : Addr) (w w2 : Int) (k k2 : Nat) (s s2 : Addr) (D D2 : StD) (gs gs2 : List (List Int)) (nm pn nm2 pn2 : Str → Option Int), vs = [.ref b, .ref b2] ∧ BkAt K w H b k s D gs nm pn ∧ BkAt K w2 H b2 k2 s2 D2 gs2 nm2 pn2 ∧ Chg nm pn (idsK D2.kvs) gs2 nm2 pn2 ∧ ∀ H', Same H H' → Q (.bl true) H'
theorem ok__law_pins_right {P : Program} {w : World} {K : PySem.W.Frag} {mg : Str → Option Value} {base : Heap} (T : Tx K mg) : Cal P w K mg base 3 "_law_pins_right" (spPinsR K) [] := by
  obtain ⟨fd, F⟩ := T.d__law_pins_right
  have G_NameBook_all_items := ok_NameBook_all_items (P := P) (w := w) (base := base) T
  have G_NameBook_groups := ok_NameBook_groups (P := P) (w := w) (base := base) T
  have G_NameBook_names := ok_NameBook_names (P := P) (w := w) (base := base) T
  have G_NameBook_pins := ok_NameBook_pins (P := P) (w := w) (base := base) T
  have bd : Binds K fd ["_law_before", "_law_after"] [] := F.binds fun _ _ _ _ _ _ us hl => match us, hl with | [_, _], _ => rfl
  refine cal_of (F.ok sc__law_pins_right (fun vs H Q E h => ?len) (fun cdv A outer s H vs Q E hr h => ?body)) bd T.g__law_pins_right T.k__law_pins_right
  case len => exact (by first | (obtain ⟨rfl, _⟩ := h; rfl) | (obtain ⟨_, rfl, _⟩ := h; rfl) | (obtain ⟨_, _, rfl, _⟩ := h; rfl) | (obtain ⟨_, _, _, rfl, _⟩ := h; rfl) | (obtain ⟨_, _, _, _, rfl, _⟩ := h; rfl) | (obtain ⟨_, _, _, _, _, rfl, _⟩ := h; rfl) | (obtain ⟨_, _, _, _, _, _, rfl, _⟩ := h; rfl) | (obtain ⟨_, _, _, _, _, _, _, rfl, _⟩ := h; rfl) | (obtain ⟨_, _, _, _, _, _, _, _, rfl, _⟩ := h; rfl) | (obtain ⟨_, _, _, _, _, _, _, _, _, rfl, _⟩ := h; rfl) | (obtain ⟨_, _, _, _, _, _, _, _, _, _, rfl, _⟩ := h; rfl) | (obtain ⟨_, _, _, _, _, _, _, _, _, _, _, rfl, _⟩ := h; rfl) | (obtain ⟨_, _, _, _, _, _, _, _, _, _, _, _, rfl, _⟩ := h; rfl) | (obtain ⟨_, _, _, _, _, _, _, _, _, _, _, _, _, rfl, _⟩ := h; rfl) | (obtain ⟨_, _, _, _, _, _, _, _, _, _, _, _, _, _, rfl, _⟩ := h; rfl) | (obtain ⟨_, _, _, _, _, _, _, _, _, _, _, _, _, _, _, rfl, _⟩ := h; rfl) | (obtain ⟨_, _, _, _, _, _, _, _, _, _, _, _, _, _, _, _, rfl, _⟩ := h; rfl) | (obtain ⟨_, _, _, _, _, _, _, _, _, _, _, _, _, _, _, _, _, rfl, _⟩ := h; rfl) | (obtain ⟨_, _, _, _, _, _, _, _, _, _, _, _, _, _, _, _, _, _, rfl, _⟩ := h; rfl) | (obtain ⟨_, _, _, _, _, _, _, _, _, _, _, _, _, _, _, _, _, _, _, rfl, _⟩ := h; rfl) | (obtain ⟨_, _, _, _, _, _, _, _, _, _, _, _, _, _, _, _, _, _, _, _, rfl, _⟩ := h; rfl) | (obtain ⟨_, _, _, _, _, _, _, _, _, _, _, _, _, _, _, _, _, _, _, _, _, rfl, _⟩ := h; rfl) | (obtain ⟨_, _, _, _, _, _, _, _, _, _, _, _, _, _, _, _, _, _, _, _, _, _, rfl, _⟩ := h; rfl) | (obtain ⟨_, _, _, _, _, _, _, _, _, _, _, _, _, _, _, _, _, _, _, _, _, _, _, rfl, _⟩ := h; rfl) | (obtain ⟨_, _, _, _, _, _, _, _, _, _, _, _, _, _, _, _, _, _, _, _, _, _, _, _, rfl, _⟩ := h; rfl) | (obtain ⟨_, _, _, _, _, _, _, _, _, _, _, _, _, _, _, _, _, _, _, _, _, _, _, _, _, rfl, _⟩ := h; rfl) | (obtain ⟨_, _, _, _, _, _, _, _, _, _, _, _, _, _, _, _, _, _, _, _, _, _, _, _, _, _, rfl, _⟩ := h; rfl) | (obtain ⟨_, _, _, _, _, _, _, _, _, _, _, _, _, _, _, _, _, _, _, _, _, _, _, _, _, _, _, rfl, _⟩ := h; rfl) | (obtain ⟨_, _, _, _, _, _, _, _, _, _, _, _, _, _, _, _, _, _, _, _, _, _, _, _, _, _, _, _, rfl, _⟩ := h; rfl) | (obtain ⟨_, _, _, _, _, _, _, _, _, _, _, _, _, _, _, _, _, _, _, _, _, _, _, _, _, _, _, _, _, rfl, _⟩ := h; rfl))
  case body =>
  have hu := hu_of hr
  refine ⟨_, (pss_cons (ps_asg (pe_tup (pa_cons (pe_mt0 G_NameBook_pins hr (by decide) (pv 0)) (pa_cons (pe_mt0 G_NameBook_pins hr (by decide) (pv 1)) pa_nil))) (pg_tup rfl (pgs_cons (pg_name (i := 2) sc__law_pins_right.nd rfl (Or.inr rfl)) (pgs_cons (pg_name (i := 3) sc__law_pins_right.nd rfl (Or.inr rfl)) pgs_nil))))
      (pss_cons (ps_if (pt_cmpR (op_neD hr.units) (pe_lock (pe_lc (own := [("_law_name", 4)]) rfl sc__law_pins_right.nd (pi_keys (pv 3)) (blkOk_by (own := [("_law_name", 4)]) (N := N__law_pins_right) (sc := defScope s__law_pins_right) (by decide +kernel)) (fun _ _ _ _ _ => (pg_name (i := 4) sc__law_pins_right.nd rfl (Or.inl rfl))) (fun _ _ _ _ _ => (pts_one (pt_cmpR op_ne (pe_dget1 hu (pv 2) (pv 4) ⟨rfl, rfl, rfl, rfl⟩) (pe_dget hu (pv 3) (pv 4) (fun _ _ => rfl)) (nomark _)))) (fun _ _ _ _ _ => (pv 4)))) (pe_lst pa_nil) (nomark _)) (pss_one (ps_ret pe_bl))
      pss_nil)
      (pss_cons (ps_if (pt_cmpR (op_neD hr.units) (pe_lc (own := [("_law_name", 4)]) rfl sc__law_pins_right.nd (pi_keysL (pe_mt0 G_NameBook_names hr (by decide) (pv 1))) (blkOk_by (own := [("_law_name", 4)]) (N := N__law_pins_right) (sc := defScope s__law_pins_right) (by decide +kernel)) (fun _ _ _ _ _ => (pg_name (i := 4) sc__law_pins_right.nd rfl (Or.inl rfl))) (fun _ _ _ _ _ => (pts_one (pt_cmp (pc_dnotin hu (pv 4) (pe_mt0 G_NameBook_names hr (by decide) (pv 0))) rfl))) (fun _ _ _ _ _ => (pv 4))) (pe_lst pa_nil) (nomark _)) (pss_one (ps_ret pe_bl))
      pss_nil)
      (pss_cons (ps_lock (ps_for PassesOwn.never rfl (pi_keys (pv 2)) (pg_name (i := 4) sc__law_pins_right.nd rfl (Or.inr rfl))
      (pss_one (ps_if (PW.pt (pw_and (pt_cmp (pc_dnotin hu (pv 4) (pv 3)) rfl) (pw_and1 (pt_cmp (pc_din hu (pe_dget hu (pv 2) (pv 4) (fun _ _ => rfl)) (pe_mt0 G_NameBook_all_items hr (by decide) (pv 1))) rfl)))) (pss_cons (ps_set (i := 5) sc__law_pins_right.nd rfl (Or.inr rfl) (pe_ix (ixL K rfl) (pe_lc (own := [("_law_one", 6)]) rfl sc__law_pins_right.nd (pi_listK K rfl (pe_mt0 G_NameBook_groups hr (by decide) (pv 1))) (blkOk_by (own := [("_law_one", 6)]) (N := N__law_pins_right) (sc := defScope s__law_pins_right) (by decide +kernel)) (fun _ _ _ _ _ => (pg_name (i := 6) sc__law_pins_right.nd rfl (Or.inl rfl))) (fun _ _ _ _ _ => (pts_one (pt_cmpR (inS K rfl) (pe_dget hu (pv 2) (pv 4) (fun _ _ => rfl)) (pv 6) rfl))) (fun _ _ _ _ _ => (pv 6))) pe_int (fun _ _ => rfl)))
      (pss_one (ps_if (pt_cmpR (op_eqD hr.units) (pe_lock (pe_lc (own := [("_law_other", 7)]) rfl sc__law_pins_right.nd (pi_keys (pv 3)) (blkOk_by (own := [("_law_other", 7)]) (N := N__law_pins_right) (sc := defScope s__law_pins_right) (by decide +kernel)) (fun _ _ _ _ _ => (pg_name (i := 7) sc__law_pins_right.nd rfl (Or.inl rfl))) (fun _ _ _ _ _ => (pts_one (PW.pt (pw_and (pt_cmpR op_lt_str (pv 7) (pv 4) (nomark _)) (pw_and1 (pt_cmpR (inS K rfl) (pe_dget hu (pv 3) (pv 7) (fun _ _ => rfl)) (pv 5) rfl)))))) (fun _ _ _ _ _ => (pv 7)))) (pe_lst pa_nil) (nomark _)) (pss_one (ps_ret pe_bl))
      pss_nil)))
      pss_nil))))
      (pss_one (ps_ret pe_bl)))))), ?_⟩
  obtain ⟨b, b2, w1, w2, k, k2, s, s2, D, D2, gs, gs2, nm, pn, nm2, pn2, rfl, hA, hB, hc, q⟩ := h
  obtain ⟨dx, sl, ss, h1, _⟩ := id hA.ex
  obtain ⟨dx2, sl2, ss2, h2, _⟩ := id hB.ex
  have lkp2 : D2.kp.length ≤ 5 := Nat.le_trans (few' hB.st.pn five hB.ok.pin5) (by decide)
  refine ⟨_, rfl, b, dx, _, rfl, h1, rfl, b, w1, k, s, D, gs, nm, pn, rfl, hA, fun H1 p1 s1 n1 e1 => ?_⟩
  have hB1 := hB.same s1
  refine ⟨_, rfl, b2, dx2, _, rfl, s1 _ _ h2, rfl, b2, w2, k2, s2, D2, gs2, nm2, pn2, rfl, hB1, fun H2 p2 t2 n2 e2 => ?_⟩
  refine ⟨by show 2 ≤ sizeLine; decide, fun p3 n3 => ?_⟩
  have t3 : Same H2 (upd H2 p3 (.tup [.ref p1, .ref p2])) := same_new n3
  refine ⟨p3, _, rfl, SqT.of upd_same, rfl, _, _, rfl, _, _, rfl, rfl, ?_⟩
  generalize upd H2 p3 (.tup [.ref p1, .ref p2]) = H3 at t3
  have sA := s1.trans (t2.trans t3)
  have e1' := (t2.trans t3) _ _ e1
  have e2' := t3 _ _ e2
  dsimp only
  refine go_seq (go_ifs (go_test (go_op ?_)))
  refine lc_none e2' ?_ ?_ (fun od n ky v H6 hk s6 R r => ?_) fun p6 H6 s6 n6 e6 => ?_
  · rfl
  · exact fun _ => rfl
  · obtain ⟨o, z, rfl, rfl, hoz⟩ := hB.st.pn.ix inr_inj hk
    have hoz1 := hc.pins _ _ hoz
    have r1 := s6.rd (rd_lock (od := od) e2' (.inl e1') (fun _ _ z => nomatch z))
    have dg := dget_rd (.inr o) r1
    rw [hA.st.pn.at_, hoz1] at dg
    have dg2 := dget_rd (.inr o) (.inr ⟨od, s6 _ _ upd_same⟩)
    rw [hB.st.pn.at_, hoz] at dg2
    refine ⟨_, rfl, p1, rfl, .inl ⟨_, r1⟩, _, rfl, _, dg, _, rfl, _, rfl, p2, _, rfl, dg2, rfl, _, rfl, ?_⟩
    rw [decide_eq_true (show (Option.map V.int (some z)).getD V.non = V.int z from rfl)]
    exact r
  refine ⟨by show 0 ≤ sizeLine; decide, fun p7 n7 => ?_⟩
  have s7 : Same H6 (upd H6 p7 (.lst [])) := same_new n7
  have e7 : upd H6 p7 (.lst []) p7 = some (.lst []) := upd_same
  generalize upd H6 p7 (.lst []) = H7 at s7 e7
  refine ⟨_, _, dp_nil (s7 _ _ e6), dp_nil e7, rfl, rfl, _, rfl, ?_⟩
  rw [eqv_nil]
  dsimp only
  rw [if_neg (by simp)]
  have sB := sA.trans (s6.trans s7)
  have e17 := (s6.trans s7) _ _ e1'
  have e27 := (s6.trans s7) _ _ e2'
  refine go_next ?_
  dsimp only
  refine go_seq (go_ifs (go_test (go_op ?_)))
  refine lc_noneL (kvs := D2.kn) (fun R r => ?_) ?_ (fun n ky v H8 hk s8 R r => ?_) fun p8 H8 s8 e8 => ?_
  · exact ⟨_, rfl, b2, dx2, _, rfl, sB _ _ h2, rfl, b2, w2, k2, s2, D2, gs2, nm2, pn2, rfl, hB.same sB, fun H' p ss np ep => r p H' ss np ep⟩
  · exact fun _ => rfl
  · obtain ⟨o, z, rfl, rfl, hoz⟩ := hB.st.nm.ix inr_inj hk
    obtain ⟨z', hz'⟩ := hc.names _ _ hoz
    refine ⟨_, rfl, _, rfl, b, dx, _, rfl, s8 _ _ (sB _ _ h1), rfl, b, w1, k, s, D, gs, nm, pn, rfl, (hA.same sB).same s8, fun H9 p s9 np ep => ?_⟩
    have dg := dget_rd (.inr o) (.inl ep)
    rw [hA.st.nm.at_, hz'] at dg
    exact ⟨_, _, rfl, dg, _, rfl, r _ s9⟩
  refine ⟨by show 0 ≤ sizeLine; decide, fun p9 n9 => ?_⟩
  have s9 : Same H8 (upd H8 p9 (.lst [])) := same_new n9
  have e9 : upd H8 p9 (.lst []) p9 = some (.lst []) := upd_same
  generalize upd H8 p9 (.lst []) = H9 at s9 e9
  refine ⟨_, _, dp_nil (s9 _ _ e8), dp_nil e9, rfl, rfl, _, rfl, ?_⟩
  rw [eqv_nil]
  rw [if_neg (by simp)]
  have sC := sB.trans (s8.trans s9)
  have e19 := (s8.trans s9) _ _ e17
  have e29 := (s8.trans s9) _ _ e27
  clear hB1 e6 e7 e8 e9 n7 n9 n6 s6 s7 s8 s9 e17 e27 e1' e2'
  have hA9 := hA.same sC
  have hB9 := hB.same sC
  -- the loop over the pins of before
  refine ⟨p1, _, e19, trivial, fun od => ?_⟩
  have h0 : upd H9 p1 (.frz od (.dK D.kp)) p1 = some (.frz od (.dK D.kp)) := upd_same
  have n12 : p2 ≠ p1 := fun z => by subst z; rw [e1] at n2; cases n2
  have f2 : upd H9 p1 (.frz od (.dK D.kp)) p2 = some (.dK D2.kp) := by rw [upd_ne n12]; exact e29
  have sF : Same H (upd H9 p1 (.frz od (.dK D.kp))) := fun a o e => by
    have na : a ≠ p1 := fun z => by subst z; rw [n1] at e; cases e
    rw [upd_ne na]; exact sC _ _ e
  refine ⟨_, rfl, p1, od, rfl, .inl ⟨D.kp, h0, ?_⟩⟩
  refine for_it (D := { nx := fun _ H' => H' p1 = some (.frz od (.dK D.kp)) ∧ Q (.bl true) (upd H' p1 (.dK D.kp)), rt := fun v H' => H' p1 = some (.frz od (.dK D.kp)) ∧ Q v (upd H' p1 (.dK D.kp)), bk := fun _ _ => True, ct := fun _ _ => True }) walk_keys (fun _ σ H' => Same (upd H9 p1 (.frz od (.dK D.kp))) H' ∧ ∃ v4 v5 : Option V, σ = [some (.ref b), some (.ref b2), some (.ref p1), some (.ref p2), v4, v5, none, none]) ?_ ?_ ?_ ?_
  · exact ⟨Same.refl _, none, none, rfl⟩
  · exact fun k σ H' _ h => h.1 _ _ h0
  · rintro n x σ H10 H8 hk ⟨s8, v4, v5, rfl⟩ ⟨rfl, ky, v, hkv, rfl⟩
    obtain ⟨o, z, rfl, rfl, hoz⟩ := hA.st.pn.ix inr_inj hkv
    have dg2 := dget_rd (.inr o) (.inl (s8 _ _ f2))
    rw [hB.st.pn.at_] at dg2
    refine ⟨_, rfl, _, rfl, _, _, rfl, dg2, _, rfl, ?_⟩
    cases hp2 : pn2 o with
    | some z2 => exact iteF (iteF ⟨s8, _, _, rfl⟩)
    | none =>
      have dg1 : DGet H8 p1 (.str o) (some (.int z)) := by
        have := dget_rd (.inr o) (.inr ⟨od, s8 _ _ h0⟩)
        rw [hA.st.pn.at_, hoz] at this
        exact this
      refine iteT ⟨_, rfl, _, rfl, p1, _, rfl, dg1, _, rfl, b2, dx2, _, rfl, s8 _ _ (sF _ _ h2), rfl, b2, w2, k2, s2, D2, gs2, nm2, pn2, rfl, (hB.same sF).same s8, fun Ha pa sa npa epa => ?_⟩
      have dga := dget_rd (.inl z) (.inl epa)
      refine ⟨_, _, rfl, dga, _, rfl, ?_⟩
      have sFa := sF.trans (s8.trans sa)
      have sFb := s8.trans sa
      by_cases hz : z ∈ idsK D2.kvs
      · obtain ⟨t, wt, ns, hv, _⟩ := hB.st.items.get hz
        rw [hv]
        refine iteT ?_
        obtain ⟨n', i', j, hn', hi'j, hzj, hlt⟩ := hc.lost _ _ hoz hp2 hz
        refine ⟨_, rfl, b2, dx2, _, rfl, sFa _ _ h2, rfl, b2, w2, k2, s2, D2, gs2, nm2, pn2, rfl, hB.same sFa, fun Hb pb sb npb epb => ?_⟩
        have sFc := sFb.trans sb
        have hBb := (hB.same sFa).same sb
        refine ⟨pb, rfl, ⟨_, SqL.of epb⟩, fun L0 hL0 => ?_⟩
        refine lc_list (a := pb) (xs := D2.ts.map V.ref) (fun m H' => ∃ L : List Addr, Same Hb H' ∧ H' L0 = some (.lst (L.map V.ref)) ∧ L.length ≤ m ∧ (∀ t ∈ L, ∃ (ix : Nat) (g : List Int), D2.ts[ix]? = some t ∧ gs2[ix]? = some g ∧ z ∈ g) ∧ (j < m → L ≠ [])) ?_ ?_ ?_ ?_
        · exact ⟨[], same_new hL0, upd_same, Nat.le_refl _, fun t h => by simp at h, fun h => absurd h (Nat.not_lt_zero _)⟩
        · rintro m H' _ ⟨L, sl, _⟩
          exact SqL.of (sl _ _ epb)
        · rintro m x H' hx ⟨L, sL, eL, hl, hall, hne⟩
          rw [List.getElem?_map] at hx
          obtain ⟨t, ht, rfl⟩ := Option.map_eq_some_iff.mp hx
          obtain ⟨g, hg, hgt⟩ := hBb.st.grp.at_ _ _ ht
          have hm20 : m < 20 := by have := (List.getElem?_eq_some_iff.mp hg).1; have := hB.st.gok.len; omega
          have dgc : DGet H' p1 (.str o) (some (.int z)) := by
            have := dget_rd (.inr o) (.inr ⟨od, (sFc.trans sL) _ _ h0⟩)
            rw [hA.st.pn.at_, hoz] at this
            exact this
          refine ⟨rfl, _, rfl, _, rfl, p1, _, rfl, dgc, _, rfl, t, _, rfl, .inr (SqT.of (sL _ _ hgt)), rfl, flat_int _, _, rfl, ?_⟩
          show if inV (.int z) (g.map V.int) = true then _ else _
          rw [inV_int]
          by_cases hzg : z ∈ g
          · refine iteD hzg ⟨_, rfl, _, eL, by rw [List.length_map]; have : (20 : Nat) < sizeLine := (by decide); omega, L ++ [t], sL.at hL0, ?_, ?_, ?_, ?_⟩
            · rw [upd_same, List.map_append]; rfl
            · rw [List.length_append]; simp; exact hl
            · intro t' ht'
              rcases List.mem_append.mp ht' with h | h
              · exact hall _ h
              · cases List.mem_singleton.mp h; exact ⟨m, g, ht, hg, hzg⟩
            · exact fun _ => by simp
          · refine iteDF hzg ⟨L, sL, eL, by omega, hall, fun hj => hne ?_⟩
            rcases Nat.lt_or_ge j m with h | h
            · exact h
            · exfalso
              have : j = m := by omega
              subst this
              obtain ⟨g', hg', hz'⟩ := hzj
              rw [hg] at hg'; cases hg'
              exact hzg hz'
        rintro Hc ⟨L, sL, eL, hl, hall, hne⟩
        have hjl : j < (D2.ts.map V.ref).length := by
          obtain ⟨g', hg', _⟩ := hzj
          rw [List.length_map, hB.st.grp.len]; exact (List.getElem?_eq_some_iff.mp hg').1
        match L, hne hjl, hall, eL with
        | t :: L', _, hall, eL =>
        obtain ⟨ix, g, ht, hg, hzg⟩ := hall t List.mem_cons_self
        have hix : ix = j := InG.uniq hB.st.gok.nd ⟨g, hg, hzg⟩ hzj
        subst hix
        obtain ⟨g2, hg2, hgt⟩ := hBb.st.grp.at_ _ _ ht
        rw [hg] at hg2
        cases hg2
        obtain ⟨g3, hg3, hi'g⟩ := hi'j
        rw [hg] at hg3
        cases hg3
        refine ⟨L0, _, 0, .ref t, rfl, rfl, SqL.of eL, atI_nat (j := 0) rfl, ?_⟩
        have hgc := sL _ _ hgt
        have sFd := sFc.trans sL
        -- the names left that come before
        have f2c := sFd _ _ f2
        refine ⟨p2, _, f2c, trivial, fun od2 => ?_⟩
        have k0 : upd Hc p2 (.frz od2 (.dK D2.kp)) p2 = some (.frz od2 (.dK D2.kp)) := upd_same
        have kg := lk (od := od2) f2c hgc (fun z => nomatch z)
        refine ⟨_, rfl, p2, od2, rfl, .inl ⟨_, k0, fun M0 hM0 => ?_⟩⟩
        have nM : M0 ≠ p2 := fun z => by subst z; rw [k0] at hM0; cases hM0
        refine lc_it walk_keys (fun m H' => ∃ ns : List Str, Same (upd Hc p2 (.frz od2 (.dK D2.kp))) H' ∧ H' M0 = some (.lst (ns.map V.str)) ∧ ns.length ≤ m ∧ (∀ n ∈ ns, n ∈ five) ∧ (Seen D2.kp m (.inr n') → n' ∈ ns)) ?_ ?_ ?_ ?_
        · exact ⟨[], same_new hM0, upd_same, Nat.le_refl _, fun n h => by simp at h, fun ⟨_, _, h, _⟩ => absurd h (Nat.not_lt_zero _)⟩
        · rintro m H' _ ⟨ns, sm, _⟩
          exact sm _ _ k0
        · rintro m x H' H'' hm ⟨ns, sm, em, hl2, h5, hseen⟩ ⟨rfl, ky, vl, hkv2, rfl⟩
          obtain ⟨o2, z2, rfl, rfl, hoz2⟩ := hB.st.pn.ix inr_inj hkv2
          have dgm := dget_rd (.inr o2) (.inr ⟨od2, sm _ _ k0⟩)
          rw [hB.st.pn.at_, hoz2] at dgm
          have seen1 : Seen D2.kp (m + 1) (.inr n') → n' = o2 ∨ n' ∈ ns := by
            rintro ⟨jj, vv, hj, e⟩
            rcases Nat.lt_or_ge jj m with h | h
            · exact .inr (hseen ⟨jj, vv, h, e⟩)
            · have : jj = m := by omega
              subst this
              rw [hkv2] at e
              cases e
              exact .inl rfl
          have fin : ¬ (n' = o2) → ∃ ns : List Str, Same (upd Hc p2 (.frz od2 (.dK D2.kp))) H'' ∧ H'' M0 = some (.lst (ns.map V.str)) ∧ ns.length ≤ m + 1 ∧ (∀ n ∈ ns, n ∈ five) ∧ (Seen D2.kp (m + 1) (.inr n') → n' ∈ ns) :=
            fun hn => ⟨ns, sm, em, by omega, h5, fun hs => (seen1 hs).resolve_left hn⟩
          refine ⟨rfl, _, rfl, _, rfl, o2, o, rfl, rfl, _, rfl, ?_⟩
          by_cases hlt2 : o2.cps.toList < o.cps.toList
          · rw [decide_eq_true hlt2]
            refine iteT ⟨_, rfl, _, rfl, p2, _, rfl, dgm, _, rfl, t, _, rfl, .inr (SqT.of (sm _ _ kg)), rfl, flat_int _, _, rfl, ?_⟩
            show if inV (.int z2) (g.map V.int) = true then _ else _
            rw [inV_int]
            by_cases hzg2 : z2 ∈ g
            · refine iteD hzg2 ⟨_, rfl, _, em, by rw [List.length_map]; have : (20 : Nat) < sizeLine := (by decide); omega, ns ++ [o2], sm.at hM0, ?_, ?_, ?_, ?_⟩
              · rw [upd_same, List.map_append]; rfl
              · rw [List.length_append]; simp; exact hl2
              · intro t' ht'
                rcases List.mem_append.mp ht' with h | h
                · exact h5 _ h
                · cases List.mem_singleton.mp h; exact hB.ok.pin5 _ _ hoz2
              · intro hs
                rcases seen1 hs with h | h
                · rw [h]; simp
                · exact List.mem_append_left _ h
            · refine iteDF hzg2 (fin fun e => ?_)
              subst e
              rw [hn'] at hoz2
              cases hoz2
              exact hzg2 hi'g
          · rw [decide_eq_false hlt2]
            refine iteF (iteF (fin fun e => ?_))
            subst e
            unfold SLt at hlt
            rw [ltCps_eq] at hlt
            exact hlt2 (of_decide_eq_true hlt)
        rintro Hd ⟨ns, sm, em, hl2, h5, hseen⟩
        refine ⟨sm _ _ k0, ?_⟩
        have sd : Same Hc (upd Hd p2 (.dK D2.kp)) := unlock f2c sm
        have ed : upd Hd p2 (.dK D2.kp) M0 = some (.lst (ns.map V.str)) := by rw [upd_ne nM]; exact em
        generalize upd Hd p2 (.dK D2.kp) = He at sd ed
        refine ⟨by show 0 ≤ sizeLine; decide, fun q0 nq0 => ?_⟩
        have se : Same He (upd He q0 (.lst [])) := same_new nq0
        have hmem : n' ∈ ns := hseen (hB.st.pn.seen hn')
        match ns, hmem, h5, se _ _ ed with
        | n0 :: r, _, h5, ed =>
        refine ⟨_, _, dp_strs (SqL.of ed), dp_nil upd_same, shaped_strs _ h5, rfl, _, rfl, ?_⟩
        rw [List.map_cons, eqv_cons]
        exact iteF ⟨sFd.trans (sd.trans se), _, _, rfl⟩
      · rw [hB.st.items.no hz]
        exact iteF ⟨sFb, _, _, rfl⟩
  · rintro σ H8 ⟨s8, v4, v5, rfl⟩
    exact ⟨s8 _ _ h0, q _ (sC.trans (unlock e19 s8))⟩
end KN

set_option Elab.async false
set_option linter.all false
set_option maxRecDepth 100000
set_option maxHeartbeats 4000000
namespace KN
open PySem PySem.Spec PyProof.Rows L2 ClX StX
open C8 (Cal Met Mak CalAt pe_c pe_mk pe_mt pe_mt0 pss_cut tCut pe_gc)
theorem BkAt.but2 {K : PySem.W.Frag} {w w2 : Int} {H H' : Hp} {l b b2 : Addr} {k k2 : Nat} {s s2 : Addr} {D D2 : StD} {gs gs2 : List (List Int)} {nm pn nm2 pn2 : Str → Option Int} (h : BkAt K w H b k s D gs nm pn) (h2 : BkAt K w2 H b2 k2 s2 D2 gs2 nm2 pn2) (ne : b2 ≠ b) (hl : StrAt H l) (hl' : StrAt H' l) (e : ∀ a o, a ≠ l → a ≠ b → H a = some o → H' a = some o) : BkAt K w2 H' b2 k2 s2 D2 gs2 nm2 pn2 := by
  obtain ⟨x, y, hx⟩ := hl'
  have e1 : But l H (upd H l (.lst [.int x, .int y])) := fun a o na ea => by rw [upd_ne na]; exact ea
  refine (h.butL hl e1).but (h2.butL hl e1) ne fun a o na ea => ?_
  by_cases al : a = l
  · subst al
    rw [upd_same] at ea
    cases ea
    exact hx
  · rw [upd_ne al] at ea
    exact e a o al na ea
def words8 : List Str := ["pin", "pin", "give", "fields", "fields", "rule", "drop", "unpin"]
def spLaw (K : PySem.W.Frag) : Sp := fun vs H Q _ => ∃ (a : Addr) (ns : List Int), vs = [.ref a] ∧ SqL K H a (ns.map V.int) ∧ ns.length ≤ 63 ∧ (∀ z ∈ ns, Builtin.Int.intBits z ≤ 1048576) ∧ ∀ H', Q (.bl true) H'
theorem ok_law {P : Program} {w : World} {K : PySem.W.Frag} {mg : Str → Option Value} {base : Heap} (T : Tx K mg) : ∃ fd, Fun K "law" "law" s_law (He.ga K "law") fd ∧ FnOk P w K mg base CX0 13 (He.ga K "law") fd ["_law_script"] (spLaw K) := by
  obtain ⟨fd, F⟩ := T.d_law
  have G_NameBook_copied := ok_NameBook_copied (P := P) (w := w) (base := base) T
  have G_NameBook_len := ok_NameBook_len (P := P) (w := w) (base := base) T
  have G__law_change := ok__law_change (P := P) (w := w) (base := base) T
  have G__law_choose := ok__law_choose (P := P) (w := w) (base := base) T
  have G__law_draw := ok__law_draw (P := P) (w := w) (base := base) T
  have G__law_filled := ok__law_filled (P := P) (w := w) (base := base) T
  have G__law_pins_right := ok__law_pins_right (P := P) (w := w) (base := base) T
  have G__law_right := ok__law_right (P := P) (w := w) (base := base) T
  have G__law_stream := ok__law_stream (P := P) (w := w) (base := base) T
  refine ⟨fd, F, (F.ok sc_law (fun vs H Q E h => ?len) (fun cdv A outer s H vs Q E hr h => ?body))⟩
  case len => exact (by first | (obtain ⟨rfl, _⟩ := h; rfl) | (obtain ⟨_, rfl, _⟩ := h; rfl) | (obtain ⟨_, _, rfl, _⟩ := h; rfl) | (obtain ⟨_, _, _, rfl, _⟩ := h; rfl) | (obtain ⟨_, _, _, _, rfl, _⟩ := h; rfl) | (obtain ⟨_, _, _, _, _, rfl, _⟩ := h; rfl) | (obtain ⟨_, _, _, _, _, _, rfl, _⟩ := h; rfl) | (obtain ⟨_, _, _, _, _, _, _, rfl, _⟩ := h; rfl) | (obtain ⟨_, _, _, _, _, _, _, _, rfl, _⟩ := h; rfl) | (obtain ⟨_, _, _, _, _, _, _, _, _, rfl, _⟩ := h; rfl) | (obtain ⟨_, _, _, _, _, _, _, _, _, _, rfl, _⟩ := h; rfl) | (obtain ⟨_, _, _, _, _, _, _, _, _, _, _, rfl, _⟩ := h; rfl) | (obtain ⟨_, _, _, _, _, _, _, _, _, _, _, _, rfl, _⟩ := h; rfl) | (obtain ⟨_, _, _, _, _, _, _, _, _, _, _, _, _, rfl, _⟩ := h; rfl) | (obtain ⟨_, _, _, _, _, _, _, _, _, _, _, _, _, _, rfl, _⟩ := h; rfl) | (obtain ⟨_, _, _, _, _, _, _, _, _, _, _, _, _, _, _, rfl, _⟩ := h; rfl) | (obtain ⟨_, _, _, _, _, _, _, _, _, _, _, _, _, _, _, _, rfl, _⟩ := h; rfl) | (obtain ⟨_, _, _, _, _, _, _, _, _, _, _, _, _, _, _, _, _, rfl, _⟩ := h; rfl) | (obtain ⟨_, _, _, _, _, _, _, _, _, _, _, _, _, _, _, _, _, _, rfl, _⟩ := h; rfl) | (obtain ⟨_, _, _, _, _, _, _, _, _, _, _, _, _, _, _, _, _, _, _, rfl, _⟩ := h; rfl) | (obtain ⟨_, _, _, _, _, _, _, _, _, _, _, _, _, _, _, _, _, _, _, _, rfl, _⟩ := h; rfl) | (obtain ⟨_, _, _, _, _, _, _, _, _, _, _, _, _, _, _, _, _, _, _, _, _, rfl, _⟩ := h; rfl) | (obtain ⟨_, _, _, _, _, _, _, _, _, _, _, _, _, _, _, _, _, _, _, _, _, _, rfl, _⟩ := h; rfl) | (obtain ⟨_, _, _, _, _, _, _, _, _, _, _, _, _, _, _, _, _, _, _, _, _, _, _, rfl, _⟩ := h; rfl) | (obtain ⟨_, _, _, _, _, _, _, _, _, _, _, _, _, _, _, _, _, _, _, _, _, _, _, _, rfl, _⟩ := h; rfl) | (obtain ⟨_, _, _, _, _, _, _, _, _, _, _, _, _, _, _, _, _, _, _, _, _, _, _, _, _, rfl, _⟩ := h; rfl) | (obtain ⟨_, _, _, _, _, _, _, _, _, _, _, _, _, _, _, _, _, _, _, _, _, _, _, _, _, _, rfl, _⟩ := h; rfl) | (obtain ⟨_, _, _, _, _, _, _, _, _, _, _, _, _, _, _, _, _, _, _, _, _, _, _, _, _, _, _, rfl, _⟩ := h; rfl) | (obtain ⟨_, _, _, _, _, _, _, _, _, _, _, _, _, _, _, _, _, _, _, _, _, _, _, _, _, _, _, _, rfl, _⟩ := h; rfl) | (obtain ⟨_, _, _, _, _, _, _, _, _, _, _, _, _, _, _, _, _, _, _, _, _, _, _, _, _, _, _, _, _, rfl, _⟩ := h; rfl))
  case body =>
  have hu := hu_of hr
  refine ⟨_, (pss_cons (ps_for PassesOwn.never rfl (pi_range1 (by rfl) T.z_range (pa_cons pe_int pa_nil)) (pg_name (i := 1) sc_law.nd rfl (Or.inl rfl))
      (pss_cons (ps_set (i := 2) sc_law.nd rfl (Or.inl rfl) (pe_c G__law_stream hr (by decide) (by rfl) (pa_cons (pv 0) (pa_cons (pv 1) pa_nil))))
      (pss_cons (ps_set (i := 3) sc_law.nd rfl (Or.inl rfl) (pe_c G__law_filled hr (by decide) (by rfl) (pa_cons (pv 2) (pa_cons (pe_op op_add pe_int (pe_c G__law_draw hr (by decide) (by rfl) (pa_cons (pv 2) (pa_cons pe_int pa_nil)))) pa_nil))))
      (pss_one (ps_for PassesOwn.never rfl (pi_range1 (by rfl) T.z_range (pa_cons pe_int pa_nil)) (pg_name (i := 4) sc_law.nd rfl (Or.inl rfl))
      (pss_cons (ps_set (i := 5) sc_law.nd rfl (Or.inl rfl) (pe_c G__law_choose hr (by decide) (by rfl) (pa_cons (pv 2) (pa_cons (pe_lst (pa_cons pe_str (pa_cons pe_str (pa_cons pe_str (pa_cons pe_str (pa_cons pe_str (pa_cons pe_str (pa_cons pe_str (pa_cons pe_str pa_nil))))))))) pa_nil))))
      (pss_cons (ps_set (i := 6) sc_law.nd rfl (Or.inl rfl) (pe_mt0 G_NameBook_copied hr (by decide) (pv 3)))
      (pss_cons (ps_expr (pe_c G__law_change hr (by decide) (by rfl) (pa_cons (pv 2) (pa_cons (pv 3) (pa_cons (pe_lst (pa_cons (pv 5) pa_nil)) pa_nil)))))
      (pss_cons (ps_if (pt_not (pt_val (pe_c G__law_right hr (by decide) (by rfl) (pa_cons (pv 3) pa_nil)))) (pss_one (ps_ret pe_bl))
      pss_nil)
      (pss_cons (ps_if (PW.pt (pw_and (pt_cmpR (inS K rfl) (pv 5) (pe_tup (pa_cons pe_str (pa_cons pe_str pa_nil))) rfl) (pw_and1 (pt_not (pt_val (pe_c G__law_pins_right hr (by decide) (by rfl) (pa_cons (pv 6) (pa_cons (pv 3) pa_nil)))))))) (pss_one (ps_ret pe_bl))
      pss_nil)
      (pss_one (ps_if (PW.pt (pw_and (pt_cmpR op_eq (pv 5) pe_str (nomark _)) (pw_and (pt_cmpR op_gt (pe_callB (call_ln G_NameBook_len hr (by decide)) (by rfl) T.z_len PySem.boot_len (pa_cons (pv 6) pa_nil)) pe_int (nomark _)) (pw_and1 (pt_not (pt_val (pe_c G__law_pins_right hr (by decide) (by rfl) (pa_cons (pv 6) (pa_cons (pv 3) pa_nil))))))))) (pss_one (ps_ret pe_bl))
      pss_nil))))))))))))
      (pss_one (ps_ret pe_bl))), ?_⟩
  obtain ⟨a, ns, rfl, hS, hlen, hbits, q⟩ := h
  refine ⟨2, rfl, by decide, by decide, for_it (walk_range (lo := 0) (n := 2)) (fun _ σ H' => Same H H' ∧ ∃ v1 v2 v3 v4 v5 v6 : Option V, σ = [some (.ref a), v1, v2, v3, v4, v5, v6]) ?_ ?_ ?_ ?_⟩
  · exact ⟨Same.refl _, none, none, none, none, none, none, rfl⟩
  · exact fun _ _ _ _ _ => trivial
  · rintro j x σ H1 H2 hj ⟨s1, v1, v2, v3, v4, v5, v6, rfl⟩ ⟨rfl, rfl⟩
    refine ⟨_, rfl, _, rfl, a, j, ns, (by show [V.ref a, V.int (0 + (j : Int))] = _; rw [Int.zero_add]), by omega, hS.imp s1.rd id, hlen, hbits, fun H3 l s3 nl hl => ?_⟩
    refine ⟨_, rfl, _, rfl, l, 7, rfl, hl, by decide, by decide, fun H4 r b4 l4 hr => ⟨_, _, rfl, rfl, ?_⟩⟩
    have nlH : ∀ {a o}, H a = some o → a ≠ l := fun {a o} e z => by subst z; rw [s1 _ _ e] at nl; cases nl
    have sB4 : Same H H4 := fun a o e => b4 _ _ (nlH e) (s3 _ _ (s1 _ _ e))
    refine ⟨l, 2 + r, by show [V.ref l, V.int (2 + (r : Int))] = [V.ref l, V.int ((2 + r : Nat) : Int)]; rw [Int.natCast_add]; rfl, l4, by omega, fun H5 b w' k s D gs nm pn b5 l5 nb nbl hB hk hw => ?_⟩
    have nbH : ∀ {a o}, H a = some o → a ≠ b := fun {a o} e z => by subst z; rw [sB4 _ _ e] at nb; cases nb
    have sB5 : Same H H5 := fun a o e => b5 _ _ (nlH e) (sB4 _ _ e)
    refine ⟨8, rfl, by decide, by decide, for_it (walk_range (lo := 0) (n := 8)) (fun i σ H' => Same H H' ∧ StrAt H' l ∧ (∃ (k : Nat) (s : Addr) (D : StD) (gs : List (List Int)) (nm pn : Str → Option Int), BkAt K w' H' b k s D gs nm pn ∧ k ≤ 30 + i) ∧ ∃ v4 v5 v6 : Option V, σ = [some (.ref a), some (.int (0 + (j : Int))), some (.ref l), some (.ref b), v4, v5, v6]) ?_ ?_ ?_ ?_⟩
    · exact ⟨sB5, l5, ⟨k, s, D, gs, nm, pn, hB, by omega⟩, v4, v5, v6, rfl⟩
    · exact fun _ _ _ _ _ => trivial
    · clear hB hk nb sB5 b5 l5 k s D gs nm pn
      rintro i x σ H6 H7 hi ⟨s6, l6, ⟨k, s, D, gs, nm, pn, hB, hk⟩, v4, v5, v6, rfl⟩ ⟨rfl, rfl⟩
      refine ⟨_, rfl, by show 8 ≤ sizeLine; decide, fun c hc => ?_⟩
      have sc : Same H7 (upd H7 c (.lst (words8.map V.str))) := same_new hc
      refine ⟨l, c, words8.map V.str, rfl, l6.same sc, upd_same, l6.ne hc, by decide, by decide, fun H8 v b8 l8 hv => ?_⟩
      obtain ⟨wd, hwd, rfl⟩ := List.mem_map.mp hv
      have hB8 := (hB.same sc).butL (l6.same sc) b8
      obtain ⟨dx, sl, ss, h1, _⟩ := id hB8.ex
      refine ⟨_, rfl, b, dx, _, rfl, h1, rfl, b, w', k, s, D, gs, nm, pn, rfl, hB8, fun H9 b' s' D' s9 nb' hB' hkv => ?_⟩
      have hbb : b' ≠ b := fun z => by subst z; rw [h1] at nb'; cases nb'
      refine ⟨_, rfl, _, rfl, _, rfl, by show 1 ≤ sizeLine; decide, fun c2 hc2 => ?_⟩
      have s10 : Same H9 (upd H9 c2 (.lst (([wd] : List Str).map V.str))) := same_new hc2
      refine ⟨l, b, c2, w', k, s, D, gs, nm, pn, [wd], rfl, (l8.same s9).same s10, (hB8.same s9).same s10, by omega, by omega, upd_same, (l8.same s9).ne hc2, Nat.le_refl 1, (by show 1 ≤ 10; decide), ?_, fun H11 s2 D2 gs2 nm2 pn2 wd2 b11 l11 hB11 hwd2 hchg => ?_⟩
      · intro z hz
        rw [List.mem_singleton.mp hz]
        have : ∀ z ∈ words8, z ∈ words7 := by decide +kernel
        exact this _ hwd
      rw [List.mem_singleton.mp hwd2] at hchg
      have s11 : Same H H11 := fun a o e => b11 a o (nlH e) (nbH e) (s10 _ _ (s9 _ _ (b8 a o (nlH e) (sc _ _ (s6 _ _ e)))))
      have hBef := ((hB8.same s9).same s10).but2 (hB'.same s10) hbb ((l8.same s9).same s10) l11 b11
      refine ⟨_, rfl, b, w', k + 1, s2, D2, gs2, nm2, pn2, rfl, hB11, fun H12 s12 => ⟨_, rfl, iteF ?_⟩⟩
      have s12' := s11.trans s12
      refine ⟨_, rfl, by show 2 ≤ sizeLine; decide, fun p1 hp1 => ?_⟩
      have s13 : Same H12 (upd H12 p1 (.tup [.str "fields", .str "rule"])) := same_new hp1
      refine ⟨p1, _, rfl, .inr (SqT.of upd_same), rfl, rfl, _, rfl, ?_⟩
      generalize upd H12 p1 (.tup [.str "fields", .str "rule"]) = H13 at s13
      have hB13 := (hB11.same s12).same s13
      have hA13 := (hBef.same s12).same s13
      have l13 := (l11.same s12).same s13
      have sH13 := s12'.trans s13
      clear hBef hB11 hB' hB8 hB s10 s9 b8 b11 l11 l8 l6
      show if inV (.str wd) ((["fields", "rule"] : List Str).map V.str) = true then _ else _
      rw [inV_str]
      by_cases hf : wd ∈ (["fields", "rule"] : List Str)
      · refine iteD hf ⟨_, rfl, _, rfl, b', b, w', w', 0, k + 1, s', s2, D', D2, gs, gs2, nm, pn, nm2, pn2, rfl, hA13, hB13, hchg ?_, fun H14 s14 => ⟨_, rfl, iteF ?_⟩⟩
        · have : ∀ z ∈ (["fields", "rule"] : List Str), z ∈ chg3 := by decide +kernel
          exact this _ hf
        · have nd : ∀ z ∈ (["fields", "rule"] : List Str), z ≠ "drop" := by decide +kernel
          refine ⟨_, rfl, rfl, _, rfl, iteDF (str_ne (nd _ hf)) (iteF ?_)⟩
          exact ⟨sH13.trans s14, l13.same s14, ⟨k + 1, s2, D2, gs2, nm2, pn2, hB13.same s14, by omega⟩, _, _, _, rfl⟩
      · refine iteDF hf (iteF ⟨_, rfl, rfl, _, rfl, ?_⟩)
        by_cases hd : wd = "drop"
        · subst hd
          obtain ⟨dx', sl', ss', h1', _⟩ := id hA13.ex
          refine iteD rfl ⟨_, rfl, b', dx', _, rfl, h1', b', w', 0, s', D', gs, nm, pn, rfl, hA13, fun n hn => ⟨n, rfl, hn, _, _, rfl, rfl, _, rfl, ite2 (fun _ => ?_) fun _ => iteF ?_⟩⟩
          · refine ⟨_, rfl, _, rfl, b', b, w', w', 0, k + 1, s', s2, D', D2, gs, gs2, nm, pn, nm2, pn2, rfl, hA13, hB13, hchg (by decide +kernel), fun H14 s14 => ⟨_, rfl, iteF ?_⟩⟩
            exact ⟨sH13.trans s14, l13.same s14, ⟨k + 1, s2, D2, gs2, nm2, pn2, hB13.same s14, by omega⟩, _, _, _, rfl⟩
          · exact ⟨sH13, l13, ⟨k + 1, s2, D2, gs2, nm2, pn2, hB13, by omega⟩, _, _, _, rfl⟩
        · refine iteDF (str_ne hd) (iteF ?_)
          exact ⟨sH13, l13, ⟨k + 1, s2, D2, gs2, nm2, pn2, hB13, by omega⟩, _, _, _, rfl⟩
    · rintro σ H6 ⟨s6, l6, ⟨k, s, D, gs, nm, pn, hB, hk⟩, v4, v5, v6, rfl⟩
      exact ⟨s6, _, _, _, _, _, _, rfl⟩
  · rintro σ H1 ⟨s1, v1, v2, v3, v4, v5, v6, rfl⟩
    exact q _
end KN

set_option Elab.async false
set_option linter.all false
set_option maxRecDepth 100000
set_option maxHeartbeats 0
namespace KN
open PySem PySem.Spec PyProof.Rows L2
/-! ### the facts beyond the lists -/
def propB (K : PySem.W.Frag) (C : Addr) (f : Str) : Bool := He.eqO (PySem.W.findIn K (.ref C) f) (some (some (.ref (He.ma K C f)))) && (He.eqO (PySem.W.specialIn K (.ref (He.ma K C f)) "__get__") (some (some (.builtin "property.__get__"))) && (decide (PySem.W.takesIn K (.ref (He.ma K C f)) = some true) && (match PySem.W.recIn K (He.ma K C f) "property" with
  | some (.ref _ :: _) => true
  | _ => false)))
theorem propB_ok {K : PySem.W.Frag} {C : Addr} {f : Str} (h : propB K C f = true) : PropOf K C f (He.ma K C f) (He5.wf K C "property" f) := by
  obtain ⟨h1, h⟩ := He.ba h
  obtain ⟨h2, h⟩ := He.ba h
  obtain ⟨h3, h4⟩ := He.ba h
  refine ⟨He.eqO_ok h1, He.eqO_ok h2, of_decide_eq_true h3, ?_⟩
  unfold He5.wf
  split at h4
  · rename_i g r e
    exact ⟨r, by rw [e]⟩
  · cases h4
def conB (K : PySem.W.Frag) (C : Addr) : Bool := match PySem.W.findIn K (.ref C) "LIMIT" with
  | some (some (.int j t)) => decide (j = 200) && He.eqO (PySem.W.specialIn K (.int j t) "__get__") (some none)
  | _ => false
theorem conB_ok {K : PySem.W.Frag} {C : Addr} (h : conB K C = true) : ∃ t, Con K C "LIMIT" (.int 200) (.int 200 t) := by
  unfold conB at h
  split at h
  · rename_i j t e
    obtain ⟨h1, h2⟩ := He.ba h
    obtain rfl := of_decide_eq_true h1
    exact ⟨t, e, ⟨t, rfl⟩, He.eqO_ok h2, by decide +kernel⟩
  · cases h
def xB (K : PySem.W.Frag) : Bool := propB K (CB K) "width" && (propB K (CB K) "rule" && (He5.wrapB K (CB K) "classmethod" "classmethod.__get__" "made" && (PySem.W.fnIn K (He5.wf K (CB K) "classmethod" "made") && (PySem.W.readsIn K (CB K) (.type "type") && (He.eqO (PySem.W.specialIn K (.ref (CB K)) "__getattribute__") (some (some (.builtin "type.__getattribute__"))) && (conB K (CB K) && (He.eqO (PySem.W.findIn K (.ref (CB K)) "__len__") (some (some (.ref (He.ma K (CB K) "__len__")))) && decide (PySem.W.typeIn K (.ref (He.ma K (CB K) "__len__")) = some (.type "function")))))))))
structure XF (K : PySem.W.Frag) : Prop where
  p_width : PropOf K (CB K) "width" (He.ma K (CB K) "width") (He5.wf K (CB K) "property" "width")
  p_rule : PropOf K (CB K) "rule" (He.ma K (CB K) "rule") (He5.wf K (CB K) "property" "rule")
  cr : ClX.CRead K (CB K) (.type "type")
  cm : ClX.CMet K (CB K) (.type "type") "made" (He.ma K (CB K) "made") (He5.wf K (CB K) "classmethod" "made")
  con : ∃ t, Con K (CB K) "LIMIT" (.int 200) (.int 200 t)
  len_f : PySem.W.findIn K (.ref (CB K)) "__len__" = some (some (.ref (He.ma K (CB K) "__len__")))
  len_t : PySem.W.typeIn K (.ref (He.ma K (CB K) "__len__")) = some (.type "function")
theorem xB_ok {K : PySem.W.Frag} (h : xB K = true) : XF K := by
  obtain ⟨h1, h⟩ := He.ba h
  obtain ⟨h2, h⟩ := He.ba h
  obtain ⟨h3, h⟩ := He.ba h
  obtain ⟨h4, h⟩ := He.ba h
  obtain ⟨h5, h⟩ := He.ba h
  obtain ⟨h6, h⟩ := He.ba h
  obtain ⟨h7, h⟩ := He.ba h
  obtain ⟨h8, h9⟩ := He.ba h
  exact ⟨propB_ok h1, propB_ok h2, ⟨h5, He.eqO_ok h6⟩, He5.cmet_of h3 h4, conB_ok h7, He.eqO_ok h8, of_decide_eq_true h9⟩
theorem tx_of {K : PySem.W.Frag} {h : Heap} {mg : Str → Option Value} (X : K.In h) (G : h.Ns mainGlobals mg) (c : He5.SaysA fa fn K) (x : XF K) : Tx K mg where
  g_is_integer := He.glo_ok X G (c.fact 0 (f := .glo "is_integer") rfl)
  g_is_id_items := He.glo_ok X G (c.fact 1 (f := .glo "is_id_items") rfl)
  g_is_weight := He.glo_ok X G (c.fact 2 (f := .glo "is_weight") rfl)
  g_are_fields := He.glo_ok X G (c.fact 3 (f := .glo "are_fields") rfl)
  g_is_item := He.glo_ok X G (c.fact 4 (f := .glo "is_item") rfl)
  g_is_part := He.glo_ok X G (c.fact 5 (f := .glo "is_part") rfl)
  g_is_rule := He.glo_ok X G (c.fact 6 (f := .glo "is_rule") rfl)
  g_is_name := He.glo_ok X G (c.fact 7 (f := .glo "is_name") rfl)
  g_key_of := He.glo_ok X G (c.fact 8 (f := .glo "key_of") rfl)
  g_keyed_groups := He.glo_ok X G (c.fact 9 (f := .glo "keyed_groups") rfl)
  g_group_items := He.glo_ok X G (c.fact 10 (f := .glo "group_items") rfl)
  g_row_entries := He.glo_ok X G (c.fact 11 (f := .glo "row_entries") rfl)
  g_best_moves := He.glo_ok X G (c.fact 12 (f := .glo "best_moves") rfl)
  g_greatest_pairs := He.glo_ok X G (c.fact 13 (f := .glo "greatest_pairs") rfl)
  g_label_table := He.glo_ok X G (c.fact 14 (f := .glo "label_table") rfl)
  g_without := He.glo_ok X G (c.fact 15 (f := .glo "without") rfl)
  g_table_names := He.glo_ok X G (c.fact 16 (f := .glo "table_names") rfl)
  g_table_places := He.glo_ok X G (c.fact 17 (f := .glo "table_places") rfl)
  g_exact_table := He.glo_ok X G (c.fact 18 (f := .glo "exact_table") rfl)
  g_best_carrying := He.glo_ok X G (c.fact 19 (f := .glo "best_carrying") rfl)
  g_places_of := He.glo_ok X G (c.fact 20 (f := .glo "places_of") rfl)
  g_labels_of := He.glo_ok X G (c.fact 21 (f := .glo "labels_of") rfl)
  g_counting_pins := He.glo_ok X G (c.fact 22 (f := .glo "counting_pins") rfl)
  g_open_table := He.glo_ok X G (c.fact 23 (f := .glo "open_table") rfl)
  g_carry_over := He.glo_ok X G (c.fact 24 (f := .glo "carry_over") rfl)
  g_is_id_book := He.glo_ok X G (c.fact 25 (f := .glo "is_id_book") rfl)
  g__law_stream := He.glo_ok X G (c.fact 26 (f := .glo "_law_stream") rfl)
  g__law_draw := He.glo_ok X G (c.fact 27 (f := .glo "_law_draw") rfl)
  g__law_choose := He.glo_ok X G (c.fact 28 (f := .glo "_law_choose") rfl)
  g__law_done := He.glo_ok X G (c.fact 29 (f := .glo "_law_done") rfl)
  g__law_dropped := He.glo_ok X G (c.fact 30 (f := .glo "_law_dropped") rfl)
  g__law_named := He.glo_ok X G (c.fact 31 (f := .glo "_law_named") rfl)
  g__law_unnamed := He.glo_ok X G (c.fact 32 (f := .glo "_law_unnamed") rfl)
  g__law_item := He.glo_ok X G (c.fact 33 (f := .glo "_law_item") rfl)
  g__law_some_rule := He.glo_ok X G (c.fact 34 (f := .glo "_law_some_rule") rfl)
  g__law_change := He.glo_ok X G (c.fact 35 (f := .glo "_law_change") rfl)
  g__law_filled := He.glo_ok X G (c.fact 36 (f := .glo "_law_filled") rfl)
  g__law_right := He.glo_ok X G (c.fact 37 (f := .glo "_law_right") rfl)
  g__law_pins_right := He.glo_ok X G (c.fact 38 (f := .glo "_law_pins_right") rfl)
  g_law := He.glo_ok X G (c.fact 39 (f := .glo "law") rfl)
  g_State := He.glo_ok X G (c.fact 40 (f := .glo "State") rfl)
  g_NameBook := He.glo_ok X G (c.fact 41 (f := .glo "NameBook") rfl)
  k_is_integer := He.keep_ok (c.fact 97 (f := .keep "is_integer") rfl)
  k_is_id_items := He.keep_ok (c.fact 98 (f := .keep "is_id_items") rfl)
  k_is_weight := He.keep_ok (c.fact 99 (f := .keep "is_weight") rfl)
  k_are_fields := He.keep_ok (c.fact 100 (f := .keep "are_fields") rfl)
  k_is_item := He.keep_ok (c.fact 101 (f := .keep "is_item") rfl)
  k_is_part := He.keep_ok (c.fact 102 (f := .keep "is_part") rfl)
  k_is_rule := He.keep_ok (c.fact 103 (f := .keep "is_rule") rfl)
  k_is_name := He.keep_ok (c.fact 104 (f := .keep "is_name") rfl)
  k_key_of := He.keep_ok (c.fact 105 (f := .keep "key_of") rfl)
  k_keyed_groups := He.keep_ok (c.fact 106 (f := .keep "keyed_groups") rfl)
  k_group_items := He.keep_ok (c.fact 107 (f := .keep "group_items") rfl)
  k_row_entries := He.keep_ok (c.fact 108 (f := .keep "row_entries") rfl)
  k_best_moves := He.keep_ok (c.fact 109 (f := .keep "best_moves") rfl)
  k_greatest_pairs := He.keep_ok (c.fact 110 (f := .keep "greatest_pairs") rfl)
  k_label_table := He.keep_ok (c.fact 111 (f := .keep "label_table") rfl)
  k_without := He.keep_ok (c.fact 112 (f := .keep "without") rfl)
  k_table_names := He.keep_ok (c.fact 113 (f := .keep "table_names") rfl)
  k_table_places := He.keep_ok (c.fact 114 (f := .keep "table_places") rfl)
  k_exact_table := He.keep_ok (c.fact 115 (f := .keep "exact_table") rfl)
  k_best_carrying := He.keep_ok (c.fact 116 (f := .keep "best_carrying") rfl)
  k_places_of := He.keep_ok (c.fact 117 (f := .keep "places_of") rfl)
  k_labels_of := He.keep_ok (c.fact 118 (f := .keep "labels_of") rfl)
  k_counting_pins := He.keep_ok (c.fact 119 (f := .keep "counting_pins") rfl)
  k_open_table := He.keep_ok (c.fact 120 (f := .keep "open_table") rfl)
  k_carry_over := He.keep_ok (c.fact 121 (f := .keep "carry_over") rfl)
  k_is_id_book := He.keep_ok (c.fact 122 (f := .keep "is_id_book") rfl)
  k__law_stream := He.keep_ok (c.fact 123 (f := .keep "_law_stream") rfl)
  k__law_draw := He.keep_ok (c.fact 124 (f := .keep "_law_draw") rfl)
  k__law_choose := He.keep_ok (c.fact 125 (f := .keep "_law_choose") rfl)
  k__law_done := He.keep_ok (c.fact 126 (f := .keep "_law_done") rfl)
  k__law_dropped := He.keep_ok (c.fact 127 (f := .keep "_law_dropped") rfl)
  k__law_named := He.keep_ok (c.fact 128 (f := .keep "_law_named") rfl)
  k__law_unnamed := He.keep_ok (c.fact 129 (f := .keep "_law_unnamed") rfl)
  k__law_item := He.keep_ok (c.fact 130 (f := .keep "_law_item") rfl)
  k__law_some_rule := He.keep_ok (c.fact 131 (f := .keep "_law_some_rule") rfl)
  k__law_change := He.keep_ok (c.fact 132 (f := .keep "_law_change") rfl)
  k__law_filled := He.keep_ok (c.fact 133 (f := .keep "_law_filled") rfl)
  k__law_right := He.keep_ok (c.fact 134 (f := .keep "_law_right") rfl)
  k__law_pins_right := He.keep_ok (c.fact 135 (f := .keep "_law_pins_right") rfl)
  k_law := He.keep_ok (c.fact 136 (f := .keep "law") rfl)
  z_isinstance := He.free_ok X G (c.fact 42 (f := .free "isinstance") rfl)
  z_int := He.free_ok X G (c.fact 43 (f := .free "int") rfl)
  z_bool := He.free_ok X G (c.fact 44 (f := .free "bool") rfl)
  z_tuple := He.free_ok X G (c.fact 45 (f := .free "tuple") rfl)
  z_str := He.free_ok X G (c.fact 46 (f := .free "str") rfl)
  z_len := He.free_ok X G (c.fact 47 (f := .free "len") rfl)
  z_all := He.free_ok X G (c.fact 48 (f := .free "all") rfl)
  z_set := He.free_ok X G (c.fact 49 (f := .free "set") rfl)
  z_list := He.free_ok X G (c.fact 50 (f := .free "list") rfl)
  z_sorted := He.free_ok X G (c.fact 51 (f := .free "sorted") rfl)
  z_dict := He.free_ok X G (c.fact 52 (f := .free "dict") rfl)
  z_enumerate := He.free_ok X G (c.fact 53 (f := .free "enumerate") rfl)
  z_range := He.free_ok X G (c.fact 54 (f := .free "range") rfl)
  i_MAX_ID := He.int_ok X G (c.fact 55 (f := .int "MAX_ID" 1000000) rfl)
  i_MAX_WEIGHT := He.int_ok X G (c.fact 56 (f := .int "MAX_WEIGHT" 1000000) rfl)
  i_MAX_FIELD := He.int_ok X G (c.fact 57 (f := .int "MAX_FIELD" 1000000000) rfl)
  i_MAX_WIDTH := He.int_ok X G (c.fact 58 (f := .int "MAX_WIDTH" 4) rfl)
  i_MAX_NAME := He.int_ok X G (c.fact 59 (f := .int "MAX_NAME" 12) rfl)
  i_LETTERS := He.str_ok X G (c.fact 60 (f := .str "LETTERS" "abcdefghijklmnopqrstuvwxyz") rfl)
  cS := He.cls_ok (c.fact 61 (f := .cls "State") rfl)
  cB := He.cls_ok (c.fact 62 (f := .cls "NameBook") rfl)
  mkS := He.mkr_ok (c.fact 63 (f := .mkr "State") rfl)
  mkB := He.mkr_ok (c.fact 64 (f := .mkr "NameBook") rfl)
  n_store := He.noat_ok (c.fact 65 (f := .noat "State" "store") rfl)
  n_columns := He.noat_ok (c.fact 66 (f := .noat "State" "columns") rfl)
  n_parts := He.noat_ok (c.fact 67 (f := .noat "State" "parts") rfl)
  n_named := He.noat_ok (c.fact 68 (f := .noat "State" "named") rfl)
  n_pinned := He.noat_ok (c.fact 69 (f := .noat "State" "pinned") rfl)
  n_size := He.noat_ok (c.fact 70 (f := .noat "NameBook" "size") rfl)
  n_states := He.noat_ok (c.fact 71 (f := .noat "NameBook" "states") rfl)
  n_spot := He.noat_ok (c.fact 72 (f := .noat "NameBook" "spot") rfl)
  n_depth := He.noat_ok (c.fact 73 (f := .noat "NameBook" "depth") rfl)
  m_State_told_labels := He.meth_ok (c.fact 74 (f := .meth "State" "told_labels") rfl)
  m_State_weights := He.meth_ok (c.fact 75 (f := .meth "State" "weights") rfl)
  m_State_place_keys := He.meth_ok (c.fact 76 (f := .meth "State" "place_keys") rfl)
  m_State_place_of := He.meth_ok (c.fact 77 (f := .meth "State" "place_of") rfl)
  m_State_changed := He.meth_ok (c.fact 78 (f := .meth "State" "changed") rfl)
  m_State_renamed := He.meth_ok (c.fact 79 (f := .meth "State" "renamed") rfl)
  m_State_given := He.meth_ok (c.fact 80 (f := .meth "State" "given") rfl)
  m_NameBook_now := He.meth_ok (c.fact 81 (f := .meth "NameBook" "now") rfl)
  m_NameBook_keep := He.meth_ok (c.fact 82 (f := .meth "NameBook" "keep") rfl)
  m_NameBook_need_known := He.meth_ok (c.fact 83 (f := .meth "NameBook" "need_known") rfl)
  m_NameBook_need_name := He.meth_ok (c.fact 84 (f := .meth "NameBook" "need_name") rfl)
  m_NameBook_add_item := He.meth_ok (c.fact 85 (f := .meth "NameBook" "add_item") rfl)
  m_NameBook_drop := He.meth_ok (c.fact 86 (f := .meth "NameBook" "drop") rfl)
  m_NameBook_set_fields := He.meth_ok (c.fact 87 (f := .meth "NameBook" "set_fields") rfl)
  m_NameBook_set_rule := He.meth_ok (c.fact 88 (f := .meth "NameBook" "set_rule") rfl)
  m_NameBook_give := He.meth_ok (c.fact 89 (f := .meth "NameBook" "give") rfl)
  m_NameBook_pin := He.meth_ok (c.fact 90 (f := .meth "NameBook" "pin") rfl)
  m_NameBook_unpin := He.meth_ok (c.fact 91 (f := .meth "NameBook" "unpin") rfl)
  m_NameBook_all_items := He.meth_ok (c.fact 92 (f := .meth "NameBook" "all_items") rfl)
  m_NameBook_groups := He.meth_ok (c.fact 93 (f := .meth "NameBook" "groups") rfl)
  m_NameBook_names := He.meth_ok (c.fact 94 (f := .meth "NameBook" "names") rfl)
  m_NameBook_pins := He.meth_ok (c.fact 95 (f := .meth "NameBook" "pins") rfl)
  m_NameBook_copied := He.meth_ok (c.fact 96 (f := .meth "NameBook" "copied") rfl)
  p_width := x.p_width
  p_rule := x.p_rule
  cr := x.cr
  cm := x.cm
  con := x.con
  len_f := x.len_f
  len_t := x.len_t
  d_is_integer := let ⟨fd, F⟩ := c.def_ 0 (d := d_is_integer) rfl; ⟨fd, He5.fun_of (st := s_is_integer) F⟩
  d_is_id_items := let ⟨fd, F⟩ := c.def_ 1 (d := d_is_id_items) rfl; ⟨fd, He5.fun_of (st := s_is_id_items) F⟩
  d_is_weight := let ⟨fd, F⟩ := c.def_ 2 (d := d_is_weight) rfl; ⟨fd, He5.fun_of (st := s_is_weight) F⟩
  d_are_fields := let ⟨fd, F⟩ := c.def_ 3 (d := d_are_fields) rfl; ⟨fd, He5.fun_of (st := s_are_fields) F⟩
  d_is_item := let ⟨fd, F⟩ := c.def_ 4 (d := d_is_item) rfl; ⟨fd, He5.fun_of (st := s_is_item) F⟩
  d_is_part := let ⟨fd, F⟩ := c.def_ 5 (d := d_is_part) rfl; ⟨fd, He5.fun_of (st := s_is_part) F⟩
  d_is_rule := let ⟨fd, F⟩ := c.def_ 6 (d := d_is_rule) rfl; ⟨fd, He5.fun_of (st := s_is_rule) F⟩
  d_is_name := let ⟨fd, F⟩ := c.def_ 7 (d := d_is_name) rfl; ⟨fd, He5.fun_of (st := s_is_name) F⟩
  d_key_of := let ⟨fd, F⟩ := c.def_ 8 (d := d_key_of) rfl; ⟨fd, He5.fun_of (st := s_key_of) F⟩
  d_keyed_groups := let ⟨fd, F⟩ := c.def_ 9 (d := d_keyed_groups) rfl; ⟨fd, He5.fun_of (st := s_keyed_groups) F⟩
  d_group_items := let ⟨fd, F⟩ := c.def_ 10 (d := d_group_items) rfl; ⟨fd, He5.fun_of (st := s_group_items) F⟩
  d_row_entries := let ⟨fd, F⟩ := c.def_ 11 (d := d_row_entries) rfl; ⟨fd, He5.fun_of (st := s_row_entries) F⟩
  d_best_moves := let ⟨fd, F⟩ := c.def_ 12 (d := d_best_moves) rfl; ⟨fd, He5.fun_of (st := s_best_moves) F⟩
  d_greatest_pairs := let ⟨fd, F⟩ := c.def_ 13 (d := d_greatest_pairs) rfl; ⟨fd, He5.fun_of (st := s_greatest_pairs) F⟩
  d_label_table := let ⟨fd, F⟩ := c.def_ 14 (d := d_label_table) rfl; ⟨fd, He5.fun_of (st := s_label_table) F⟩
  d_without := let ⟨fd, F⟩ := c.def_ 15 (d := d_without) rfl; ⟨fd, He5.fun_of (st := s_without) F⟩
  d_table_names := let ⟨fd, F⟩ := c.def_ 16 (d := d_table_names) rfl; ⟨fd, He5.fun_of (st := s_table_names) F⟩
  d_table_places := let ⟨fd, F⟩ := c.def_ 17 (d := d_table_places) rfl; ⟨fd, He5.fun_of (st := s_table_places) F⟩
  d_exact_table := let ⟨fd, F⟩ := c.def_ 18 (d := d_exact_table) rfl; ⟨fd, He5.fun_of (st := s_exact_table) F⟩
  d_best_carrying := let ⟨fd, F⟩ := c.def_ 19 (d := d_best_carrying) rfl; ⟨fd, He5.fun_of (st := s_best_carrying) F⟩
  d_places_of := let ⟨fd, F⟩ := c.def_ 20 (d := d_places_of) rfl; ⟨fd, He5.fun_of (st := s_places_of) F⟩
  d_labels_of := let ⟨fd, F⟩ := c.def_ 21 (d := d_labels_of) rfl; ⟨fd, He5.fun_of (st := s_labels_of) F⟩
  d_counting_pins := let ⟨fd, F⟩ := c.def_ 22 (d := d_counting_pins) rfl; ⟨fd, He5.fun_of (st := s_counting_pins) F⟩
  d_open_table := let ⟨fd, F⟩ := c.def_ 23 (d := d_open_table) rfl; ⟨fd, He5.fun_of (st := s_open_table) F⟩
  d_carry_over := let ⟨fd, F⟩ := c.def_ 24 (d := d_carry_over) rfl; ⟨fd, He5.fun_of (st := s_carry_over) F⟩
  d_is_id_book := let ⟨fd, F⟩ := c.def_ 25 (d := d_is_id_book) rfl; ⟨fd, He5.fun_of (st := s_is_id_book) F⟩
  d_State_init := let ⟨fd, F⟩ := c.def_ 26 (d := d_State_init) rfl; ⟨fd, He5.fun_of (st := s_State_init) F⟩
  d_State_told_labels := let ⟨fd, F⟩ := c.def_ 27 (d := d_State_told_labels) rfl; ⟨fd, He5.fun_of (st := s_State_told_labels) F⟩
  d_State_weights := let ⟨fd, F⟩ := c.def_ 28 (d := d_State_weights) rfl; ⟨fd, He5.fun_of (st := s_State_weights) F⟩
  d_State_place_keys := let ⟨fd, F⟩ := c.def_ 29 (d := d_State_place_keys) rfl; ⟨fd, He5.fun_of (st := s_State_place_keys) F⟩
  d_State_place_of := let ⟨fd, F⟩ := c.def_ 30 (d := d_State_place_of) rfl; ⟨fd, He5.fun_of (st := s_State_place_of) F⟩
  d_State_changed := let ⟨fd, F⟩ := c.def_ 31 (d := d_State_changed) rfl; ⟨fd, He5.fun_of (st := s_State_changed) F⟩
  d_State_renamed := let ⟨fd, F⟩ := c.def_ 32 (d := d_State_renamed) rfl; ⟨fd, He5.fun_of (st := s_State_renamed) F⟩
  d_State_given := let ⟨fd, F⟩ := c.def_ 33 (d := d_State_given) rfl; ⟨fd, He5.fun_of (st := s_State_given) F⟩
  d_NameBook_init := let ⟨fd, F⟩ := c.def_ 34 (d := d_NameBook_init) rfl; ⟨fd, He5.fun_of (st := s_NameBook_init) F⟩
  d_NameBook_made := let ⟨fd, F⟩ := c.def_ 35 (d := d_NameBook_made) rfl; ⟨fd, He5.fun_of (st := s_NameBook_made) F⟩
  d_NameBook_width := let ⟨fd, F⟩ := c.def_ 36 (d := d_NameBook_width) rfl; ⟨fd, He5.fun_of (st := s_NameBook_width) F⟩
  d_NameBook_rule := let ⟨fd, F⟩ := c.def_ 37 (d := d_NameBook_rule) rfl; ⟨fd, He5.fun_of (st := s_NameBook_rule) F⟩
  d_NameBook_now := let ⟨fd, F⟩ := c.def_ 38 (d := d_NameBook_now) rfl; ⟨fd, He5.fun_of (st := s_NameBook_now) F⟩
  d_NameBook_keep := let ⟨fd, F⟩ := c.def_ 39 (d := d_NameBook_keep) rfl; ⟨fd, He5.fun_of (st := s_NameBook_keep) F⟩
  d_NameBook_need_known := let ⟨fd, F⟩ := c.def_ 40 (d := d_NameBook_need_known) rfl; ⟨fd, He5.fun_of (st := s_NameBook_need_known) F⟩
  d_NameBook_need_name := let ⟨fd, F⟩ := c.def_ 41 (d := d_NameBook_need_name) rfl; ⟨fd, He5.fun_of (st := s_NameBook_need_name) F⟩
  d_NameBook_add_item := let ⟨fd, F⟩ := c.def_ 42 (d := d_NameBook_add_item) rfl; ⟨fd, He5.fun_of (st := s_NameBook_add_item) F⟩
  d_NameBook_drop := let ⟨fd, F⟩ := c.def_ 43 (d := d_NameBook_drop) rfl; ⟨fd, He5.fun_of (st := s_NameBook_drop) F⟩
  d_NameBook_set_fields := let ⟨fd, F⟩ := c.def_ 44 (d := d_NameBook_set_fields) rfl; ⟨fd, He5.fun_of (st := s_NameBook_set_fields) F⟩
  d_NameBook_set_rule := let ⟨fd, F⟩ := c.def_ 45 (d := d_NameBook_set_rule) rfl; ⟨fd, He5.fun_of (st := s_NameBook_set_rule) F⟩
  d_NameBook_give := let ⟨fd, F⟩ := c.def_ 46 (d := d_NameBook_give) rfl; ⟨fd, He5.fun_of (st := s_NameBook_give) F⟩
  d_NameBook_pin := let ⟨fd, F⟩ := c.def_ 47 (d := d_NameBook_pin) rfl; ⟨fd, He5.fun_of (st := s_NameBook_pin) F⟩
  d_NameBook_unpin := let ⟨fd, F⟩ := c.def_ 48 (d := d_NameBook_unpin) rfl; ⟨fd, He5.fun_of (st := s_NameBook_unpin) F⟩
  d_NameBook_all_items := let ⟨fd, F⟩ := c.def_ 49 (d := d_NameBook_all_items) rfl; ⟨fd, He5.fun_of (st := s_NameBook_all_items) F⟩
  d_NameBook_groups := let ⟨fd, F⟩ := c.def_ 50 (d := d_NameBook_groups) rfl; ⟨fd, He5.fun_of (st := s_NameBook_groups) F⟩
  d_NameBook_names := let ⟨fd, F⟩ := c.def_ 51 (d := d_NameBook_names) rfl; ⟨fd, He5.fun_of (st := s_NameBook_names) F⟩
  d_NameBook_pins := let ⟨fd, F⟩ := c.def_ 52 (d := d_NameBook_pins) rfl; ⟨fd, He5.fun_of (st := s_NameBook_pins) F⟩
  d_NameBook_copied := let ⟨fd, F⟩ := c.def_ 53 (d := d_NameBook_copied) rfl; ⟨fd, He5.fun_of (st := s_NameBook_copied) F⟩
  d_NameBook_len := let ⟨fd, F⟩ := c.def_ 54 (d := d_NameBook_len) rfl; ⟨fd, He5.fun_of (st := s_NameBook_len) F⟩
  d__law_stream := let ⟨fd, F⟩ := c.def_ 55 (d := d__law_stream) rfl; ⟨fd, He5.fun_of (st := s__law_stream) F⟩
  d__law_draw := let ⟨fd, F⟩ := c.def_ 56 (d := d__law_draw) rfl; ⟨fd, He5.fun_of (st := s__law_draw) F⟩
  d__law_choose := let ⟨fd, F⟩ := c.def_ 57 (d := d__law_choose) rfl; ⟨fd, He5.fun_of (st := s__law_choose) F⟩
  d__law_done := let ⟨fd, F⟩ := c.def_ 58 (d := d__law_done) rfl; ⟨fd, He5.fun_of (st := s__law_done) F⟩
  d__law_dropped := let ⟨fd, F⟩ := c.def_ 59 (d := d__law_dropped) rfl; ⟨fd, He5.fun_of (st := s__law_dropped) F⟩
  d__law_named := let ⟨fd, F⟩ := c.def_ 60 (d := d__law_named) rfl; ⟨fd, He5.fun_of (st := s__law_named) F⟩
  d__law_unnamed := let ⟨fd, F⟩ := c.def_ 61 (d := d__law_unnamed) rfl; ⟨fd, He5.fun_of (st := s__law_unnamed) F⟩
  d__law_item := let ⟨fd, F⟩ := c.def_ 62 (d := d__law_item) rfl; ⟨fd, He5.fun_of (st := s__law_item) F⟩
  d__law_some_rule := let ⟨fd, F⟩ := c.def_ 63 (d := d__law_some_rule) rfl; ⟨fd, He5.fun_of (st := s__law_some_rule) F⟩
  d__law_change := let ⟨fd, F⟩ := c.def_ 64 (d := d__law_change) rfl; ⟨fd, He5.fun_of (st := s__law_change) F⟩
  d__law_filled := let ⟨fd, F⟩ := c.def_ 65 (d := d__law_filled) rfl; ⟨fd, He5.fun_of (st := s__law_filled) F⟩
  d__law_right := let ⟨fd, F⟩ := c.def_ 66 (d := d__law_right) rfl; ⟨fd, He5.fun_of (st := s__law_right) F⟩
  d__law_pins_right := let ⟨fd, F⟩ := c.def_ 67 (d := d__law_pins_right) rfl; ⟨fd, He5.fun_of (st := s__law_pins_right) F⟩
  d_law := let ⟨fd, F⟩ := c.def_ 68 (d := d_law) rfl; ⟨fd, He5.fun_of (st := s_law) F⟩
/-! ### the Hook -/
def obsX (K : PySem.W.Frag) : He.AlD × Bool := (He5.obsA fa fn K, xB K)
def obsXG (as : List Addr) (g : Addr → Option Obj) : He.AlD × Bool := obsX (He.frG g as)
def hookX (as : List Addr) : PySem.W.Hook where
  α := He.AlD × Bool
  obs := fun s => obsXG as s.heap.get?
  val := fun _ => (He5.valA fn, true)
  says := fun _ h => ∃ K : PySem.W.Frag, K.In h ∧ He5.SaysA fa fn K ∧ xB K = true
  of := fun _ _ e => ⟨_, He.frG_in, congrArg (fun z : He.AlD × Bool => z.1) e, congrArg (fun z : He.AlD × Bool => z.2) e⟩
  keeps := fun _ _ _ ⟨K, hK, c⟩ k => ⟨K, PySem.W.Frag.In.keeps hK k, c⟩
theorem obsXG_eq {as : List Addr} {g : Addr → Option Obj} {s : Shared} (h : ∀ a, g a = s.heap.get? a) : obsXG as g = (hookX as).obs s := by
  have e : g = s.heap.get? := funext h
  rw [e] <;> rfl
/-- the end: what the head says gives the frag, the def and the promise; the script's bits are told -/
theorem end_bits {lw : PySem.W.OpenLaw} {most rm : Nat} {vw : Program} {lo : List Str} {XP : (Str → Option Value) → Heap → Prop} {YP : World → Heap → Prop} {dr : DefRec} {arg : Str}
    (hmost : lw.most = some most) (hline : most ≤ sizeLine) (hnodf : dr.params.defaults = []) (hroom : Room rm callerA)
    (Fw : ∀ (w : World) (mg : Str → Option Value) (fl : Addr) (hp : Heap), YP w hp → hp.Ns mainGlobals mg → mg dr.name = some (.ref fl) → ∃ (K : PySem.W.Frag) (fd : FuncData) (sp : Sp), K.In hp ∧
        (∀ (s : Shared) (u : Value), BindsTo s fd ⟨[u], []⟩ [(arg, u)]) ∧ (∀ (H : Hp) (c : Addr) (zs : List Int), zs.length ≤ most → (∀ z ∈ zs, Builtin.Int.intBits z ≤ 1048576) → SqL K H c (zs.map V.int) → sp [.ref c] H (fun v _ => v = .bl true) fun _ _ _ => False) ∧
        ∀ bs : Heap, K.In bs → bs.Ns mainGlobals mg → FnOk lw.prog w K mg bs CX0 rm fl fd [arg] sp) :
    PySem.W.WalkO vw lo XP YP lw.row.toRowW dr [] (fun f vs => PySem.call f vs) := by
  refine Att.attach_callB hmost hnodf fun w s0 s1 mg mb fl ob pm cd doc c vs zs Gr Yh _ _ _ hmg hlist hints hlen hbits hgens => ?_
  obtain ⟨K, fd, sp, KX, hbind, hpre, hprom⟩ := Fw w mg fl _ Yh Gr.T.g hmg
  exact law_call KX Gr.T.g Gr.T.b Gr.T.builtins Gr.T.nolimit hgens hlist hints (Nat.le_trans hlen hline) hroom hprom hbind (fun H _ hq => hpre H c zs hlen hbits hq) fun _ _ _ hz => hz
theorem facts {P : Program} {w : World} {K : PySem.W.Frag} {h : Heap} {mg : Str → Option Value} {f : Addr} (X : K.In h) (G : h.Ns mainGlobals mg) (hfa : mg ("law" : Str) = some (.ref f)) (c : He5.SaysA fa fn K) (x : XF K) :
    ∃ fd : FuncData, (∀ (s : Shared) (v : Value), BindsTo s fd ⟨[v], []⟩ [("_law_script", v)]) ∧ ∀ base : Heap, K.In base → base.Ns mainGlobals mg → FnOk P w K mg base CX0 13 f fd ["_law_script"] (spLaw K) := by
  have T := tx_of X G c x
  obtain ⟨fd, FD⟩ := c.def_ 68 (d := d_law) rfl
  have F : Fun K "law" "law" s_law (He.ga K "law") fd := He5.fun_of (st := s_law) FD
  have e := hfa.symm.trans T.g_law
  cases e
  have b := FunD.bindsA (ps := ["_law_script"]) FD fun _ _ _ _ _ _ us hl => match us, hl with | [_], _ => rfl
  have key : ∀ base : Heap, FnOk P w K mg base CX0 13 (He.ga K "law") fd ["_law_script"] (spLaw K) := fun base => by
    obtain ⟨fd2, F2, ok⟩ := ok_law (P := P) (w := w) (base := base) T
    obtain ⟨_, _, _, _, _, _, _, _, _, e1, l1, _⟩ := F.ex
    obtain ⟨_, _, _, _, _, _, _, _, _, e2, l2, _⟩ := F2.ex
    rw [l1] at l2
    have e3 : fd = fd2 := by
      injection l2 with l2
      injection l2 with _ _ l3 _
      injection l3
    rw [e3]; exact ok
  exact ⟨fd, fun s v => b s [v] rfl, fun base _ _ => key base⟩
end KN

set_option Elab.async false
set_option linter.all false
set_option maxRecDepth 100000
set_option maxHeartbeats 0
namespace KN
open PySem PySem.Spec PyProof.Rows L2
abbrev R : PySem.W.OpenRow := PySem.W.OpenLaw.row PySem.Challenge.rw_keptnames_k89_whole_pins_hold
def loose0 : List Str := ["_wall", "KeepError", "BadItem", "BadRule", "BadName", "BadIds", "UnknownId", "TakenId", "UnknownName", "TooMany", "NothingToDo", "MAX_ID", "MAX_WEIGHT", "MAX_FIELD", "MAX_WIDTH", "MAX_NAME", "LETTERS", "is_integer", "is_id", "is_id_items", "is_weight", "are_fields", "is_item", "is_part", "is_rule", "is_name", "key_of", "keyed_groups", "group_items", "row_entries"]
def loose1 : List Str := ["best_moves", "greatest_pairs", "label_table", "without", "table_names", "table_places", "exact_table", "best_carrying", "places_of", "labels_of", "counting_pins", "open_table", "carry_over", "is_id_book", "State", "NameBook", "OneChange", "_law_stream", "_law_draw", "_law_choose", "_law_done", "_law_dropped", "_law_named", "_law_unnamed", "_law_item", "_law_some_rule", "_law_change", "_law_filled", "_law_right", "_law_pins_right"]
def loose : List Str := loose0 ++ loose1
def adrs : List Addr := [3, 6, 4, 21, 31, 51, 70, 89, 108, 127, 146, 165, 184, 203, 212, 367, 219, 226, 231, 238, 245, 250, 255, 260, 265, 272, 279, 284, 291, 298, 306, 311, 316, 324, 332, 337, 342, 349, 354, 360, 432, 668, 703, 714, 721, 728, 735, 742, 749, 756, 761, 768, 773, 780, 785, 790, 797, 0, 20, 30, 50, 69, 88, 107, 126, 145, 164, 183, 202, 211, 366, 218, 225, 230, 237, 244, 249, 254, 259, 264, 271, 278, 283, 290, 297, 305, 301, 310, 315, 323, 317, 331, 325, 336, 341, 348, 353, 359, 355, 431, 667, 702, 713, 720, 727, 734, 741, 748, 755, 760, 767, 772, 779, 784, 789, 796, 15, 16, 17, 18, 19, 29, 32, 48, 49, 67, 68, 86, 87, 105, 106, 124, 125, 143, 144, 162, 163, 181, 182, 200, 201, 206, 207, 208, 209, 210, 361, 362, 363, 364, 365, 213, 214, 215, 216, 217, 220, 221, 222, 223, 224, 227, 228, 229, 232, 233, 234, 235, 236, 239, 240, 241, 242, 243, 246, 247, 248, 251, 252, 253, 256, 257, 258, 261, 262, 263, 266, 267, 268, 269, 270, 273, 274, 275, 276, 277, 280, 281, 282, 285, 286, 287, 288, 289, 292, 293, 294, 295, 296, 302, 303, 304, 299, 300, 307, 308, 309, 312, 313, 314, 318, 319, 320, 321, 322, 326, 327, 328, 329, 330, 333, 334, 335, 338, 339, 340, 343, 344, 345, 346, 347, 350, 351, 352, 356, 357, 358, 381, 388, 393, 398, 405, 412, 417, 424, 429, 430, 433, 434, 452, 461, 470, 478, 485, 492, 499, 506, 513, 520, 527, 532, 539, 546, 553, 560, 567, 574, 581, 588, 595, 602, 609, 616, 623, 630, 637, 644, 651, 658, 665, 666, 669, 670, 686, 693, 700, 701, 704, 705, 708, 709, 710, 711, 712, 715, 716, 717, 718, 719, 722, 723, 724, 725, 726, 729, 730, 731, 732, 733, 736, 737, 738, 739, 740, 743, 744, 745, 746, 747, 750, 751, 752, 753, 754, 757, 758, 759, 762, 763, 764, 765, 766, 769, 770, 771, 774, 775, 776, 777, 778, 781, 782, 783, 786, 787, 788, 791, 792, 793, 794, 795, 47, 66, 85, 104, 123, 142, 161, 180, 199, 380, 387, 392, 397, 404, 411, 416, 423, 428, 451, 445, 459, 460, 469, 477, 484, 491, 498, 505, 512, 519, 526, 531, 538, 545, 552, 559, 566, 573, 580, 587, 594, 601, 608, 615, 622, 629, 636, 643, 650, 657, 664, 685, 692, 699, 42, 43, 44, 45, 46, 61, 62, 63, 64, 65, 80, 81, 82, 83, 84, 99, 100, 101, 102, 103, 118, 119, 120, 121, 122, 137, 138, 139, 140, 141, 156, 157, 158, 159, 160, 175, 176, 177, 178, 179, 194, 195, 196, 197, 198, 375, 376, 377, 378, 379, 382, 383, 384, 385, 386, 389, 390, 391, 394, 395, 396, 399, 400, 401, 402, 403, 406, 407, 408, 409, 410, 413, 414, 415, 418, 419, 420, 421, 422, 425, 426, 427, 446, 447, 448, 449, 450, 444, 458, 462, 468, 476, 479, 480, 481, 482, 483, 486, 487, 488, 489, 490, 493, 494, 495, 496, 497, 500, 501, 502, 503, 504, 507, 508, 509, 510, 511, 514, 515, 516, 517, 518, 521, 522, 523, 524, 525, 528, 529, 530, 533, 534, 535, 536, 537, 540, 541, 542, 543, 544, 547, 548, 549, 550, 551, 554, 555, 556, 557, 558, 561, 562, 563, 564, 565, 568, 569, 570, 571, 572, 575, 576, 577, 578, 579, 582, 583, 584, 585, 586, 589, 590, 591, 592, 593, 596, 597, 598, 599, 600, 603, 604, 605, 606, 607, 610, 611, 612, 613, 614, 617, 618, 619, 620, 621, 624, 625, 626, 627, 628, 631, 632, 633, 634, 635, 638, 639, 640, 641, 642, 645, 646, 647, 648, 649, 652, 653, 654, 655, 656, 659, 660, 661, 662, 663, 680, 681, 682, 683, 684, 687, 688, 689, 690, 691, 694, 695, 696, 697, 698, 453, 454, 455, 456, 457, 463, 464, 465, 466, 467, 471, 472, 473, 474, 475, 2]
abbrev hk : PySem.W.Hook := hookX adrs
def ob (s : PySem.W.SharedT) : He.AlD × Bool := obsXG adrs (HandSHeadRun.getT s)
theorem ob_eq (s : PySem.W.SharedT) : ob s = hk.obs s.abs := obsXG_eq (HandSHeadRun.getT_eq s)
theorem run (w : World) : HandSHeadRun.RunEq R (PySem.W.view R.prog [69]) hk ob 10000 loose w := by
  intro os
  kernel_rfl
end KN
open PySem PySem.W PySem.Calls PyProof.Rows
theorem PySem.Challenge.cw_keptnames_k89_whole_pins_hold_holds : PySem.Challenge.rw_keptnames_k89_whole_pins_hold.Holds := by
  w_on; o_law
  refine HandSHeadRun.head_any (r := OpenLaw.row PySem.Challenge.rw_keptnames_k89_whole_pins_hold) (q := view (OpenLaw.row PySem.Challenge.rw_keptnames_k89_whole_pins_hold).prog [69]) (H := KN.hk) (ob := KN.ob) (M := 10000) (loose := KN.loose) (d := HandSHeadRun.topDef (OpenLaw.row PySem.Challenge.rw_keptnames_k89_whole_pins_hold).prog 69) (kwd := []) KN.ob_eq
    (by kernel_rfl) (fun s => by kernel_rfl) KN.run (by kernel_rfl) (by kernel_rfl) (by kernel_rfl) (by rfl) (by first | assumption | decide +kernel) (by decide +kernel) ⟨rfl, rfl, rfl, rfl, rfl, by decide +kernel⟩ ?hw ?hc
  case hw => w_witness2
  case hc =>
    refine KN.end_bits (lw := PySem.Challenge.rw_keptnames_k89_whole_pins_hold) (most := 63) (rm := 13) (arg := "_law_script") rfl (by decide) (by kernel_rfl) ⟨rfl, by decide, by decide⟩ ?F
    intro w mg fa h Y G hmg0
    obtain ⟨K, KX, c, x⟩ := Y
    have hmg : mg ("law" : PySem.Str) = some (.ref fa) := by
      have e : (HandSHeadRun.topDef (OpenLaw.row PySem.Challenge.rw_keptnames_k89_whole_pins_hold).prog 69).name = ("law" : PySem.Str) := by kernel_rfl
      rw [← e]
      exact hmg0
    obtain ⟨fd, hb, hF⟩ := KN.facts (P := (PySem.Challenge.rw_keptnames_k89_whole_pins_hold).prog) (w := w) KX G hmg c (KN.xB_ok x)
    exact ⟨K, fd, KN.spLaw K, KX, hb, fun H a ns hl hbits hS => ⟨a, ns, rfl, hS, hl, hbits, fun _ => rfl⟩, hF⟩


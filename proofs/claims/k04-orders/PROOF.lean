import PyProof.Rows.All
import Wide.All
import OpenK.AllK
import Wide.FinOn
import KE.KStateDown
import Lean
import HandS.ForMost
import HandS.WordsExc
import HandS.ExcInit
import HandS.HeadHook1
import HandS.Defaults
import HandS.Wide
import HandS.Deep
import HandS.TupAny
import HandS.IsInst
import HandS.SortInts
import HandS.SortRule
import HandS.Strs
import HandS.Lambda
import HandS.EndTab
import HandS.TupLe
import HandS.Conv
import HandS.HeadHook2
import HandS.Style
import HandS.HeadHook4
import HandS.HeadEnd
import HandS.Head0
import HandS.Head1
import HandS.Head2
import HandS.DictComp
import HandS.SetFor
import HandS.List
import KE.KSortTup
import HandS.OwnEq
import HandS.ExcField
import HandS.TryMany
import KE.KNestM
import PyProof.ReprRoads
import PyProof.RowDictHeap
import PySem.Challenge.RW_sayalike_k04_orders
set_option Elab.async false
set_option linter.all false
set_option maxRecDepth 100000
set_option maxHeartbeats 4000000
namespace DSep
section
variable {α : Type} {E : α → α → Prop}
/-! ### ways that are open, in a web of arrows without rounds -/
inductive An (E : α → α → Prop) (S : α → Prop) : α → Prop
  | base {x : α} (h : S x) : An E S x
  | step {x y : α} (e : E x y) (h : An E S y) : An E S x
theorem An.mono {S T : α → Prop} (h : ∀ x, S x → T x) {x : α} (a : An E S x) : An E T x := by
  induction a with
  | base q => exact .base (h _ q)
  | step e _ ih => exact .step e ih
theorem An.trans {S T : α → Prop} (h : ∀ x, S x → An E T x) {x : α} (a : An E S x) : An E T x := by
  induction a with
  | base q => exact h _ q
  | step e _ ih => exact .step e ih
def Tie (E : α → α → Prop) (x y : α) : Prop := E x y ∨ E y x
theorem Tie.symm {x y : α} (h : Tie E x y) : Tie E y x := Or.symm h
def Pass (E : α → α → Prop) (C : α → Prop) (w x y : α) : Prop := (E w x ∧ E y x ∧ An E C x) ∨ (¬ (E w x ∧ E y x) ∧ ¬ C x)
theorem Pass.symm {C : α → Prop} {w x y : α} (h : Pass E C w x y) : Pass E C y x w := by
  unfold Pass at *
  rcases h with ⟨a, b, c⟩ | ⟨a, b⟩
  · exact .inl ⟨b, a, c⟩
  · exact .inr ⟨fun z => a ⟨z.2, z.1⟩, b⟩
def Opn (E : α → α → Prop) (C : α → Prop) : List α → Prop
  | [] => True
  | [_] => True
  | [x, y] => Tie E x y
  | x :: y :: z :: r => Tie E x y ∧ Pass E C x y z ∧ Opn E C (y :: z :: r)
theorem Opn.tail {C : α → Prop} {x : α} : ∀ {l : List α}, Opn E C (x :: l) → Opn E C l
  | [], _ => trivial
  | [_], _ => trivial
  | _ :: _ :: _, h => h.2.2
theorem Opn.tie {C : α → Prop} {x y : α} : ∀ {l : List α}, Opn E C (x :: y :: l) → Tie E x y
  | [], h => h
  | _ :: _, h => h.1
theorem Opn.suffix {C : α → Prop} {l2 : List α} : ∀ {l1 : List α}, Opn E C (l1 ++ l2) → Opn E C l2
  | [], h => h
  | _ :: _, h => Opn.suffix (Opn.tail h)
theorem opn_iff {C : α → Prop} : ∀ {l : List α}, Opn E C l ↔ (∀ (i : Nat) (x y : α), l[i]? = some x → l[i + 1]? = some y → Tie E x y) ∧ (∀ (i : Nat) (x y z : α), l[i]? = some x → l[i + 1]? = some y → l[i + 2]? = some z → Pass E C x y z)
  | [] => by simp [Opn]
  | [a] => by simp [Opn]
  | [a, b] => by
    simp only [Opn]
    constructor
    · intro h
      refine ⟨fun i x y h1 h2 => ?_, fun i x y z h1 h2 h3 => ?_⟩
      · cases i with
        | zero => simp at h1 h2; subst h1; subst h2; exact h
        | succ i => simp at h2
      · simp at h3
    · intro h
      exact h.1 0 a b rfl rfl
  | a :: b :: c :: r => by
    have ih := opn_iff (C := C) (l := b :: c :: r)
    simp only [Opn]
    rw [ih]
    constructor
    · rintro ⟨h1, h2, h3, h4⟩
      refine ⟨fun i x y q1 q2 => ?_, fun i x y z q1 q2 q3 => ?_⟩
      · cases i with
        | zero => simp at q1 q2; subst q1; subst q2; exact h1
        | succ i => exact h3 i x y (by simpa using q1) (by simpa using q2)
      · cases i with
        | zero => simp at q1 q2 q3; subst q1; subst q2; subst q3; exact h2
        | succ i => exact h4 i x y z (by simpa using q1) (by simpa using q2) (by simpa using q3)
    · rintro ⟨h1, h2⟩
      exact ⟨h1 0 a b rfl rfl, h2 0 a b c rfl rfl rfl, fun i x y q1 q2 => h1 (i + 1) x y (by simpa using q1) (by simpa using q2), fun i x y z q1 q2 q3 => h2 (i + 1) x y z (by simpa using q1) (by simpa using q2) (by simpa using q3)⟩
theorem rev_get {l : List α} {i : Nat} {x : α} (h : l.reverse[i]? = some x) : i < l.length ∧ l[l.length - 1 - i]? = some x := by
  have hi : i < l.length := by
    have := (List.getElem?_eq_some_iff.mp h).1
    simpa using this
  refine ⟨hi, ?_⟩
  rw [List.getElem?_reverse hi] at h
  exact h
theorem Opn.rev {C : α → Prop} {l : List α} (h : Opn E C l) : Opn E C l.reverse := by
  rw [opn_iff] at h ⊢
  refine ⟨fun i x y h1 h2 => ?_, fun i x y z h1 h2 h3 => ?_⟩
  · obtain ⟨_, a⟩ := rev_get h1
    obtain ⟨hl, b⟩ := rev_get h2
    refine (h.1 (l.length - 1 - (i + 1)) y x b ?_).symm
    rw [show l.length - 1 - (i + 1) + 1 = l.length - 1 - i by omega]
    exact a
  · obtain ⟨_, a⟩ := rev_get h1
    obtain ⟨_, b⟩ := rev_get h2
    obtain ⟨hl, c⟩ := rev_get h3
    refine (h.2 (l.length - 1 - (i + 2)) z y x c ?_ ?_).symm
    · rw [show l.length - 1 - (i + 2) + 1 = l.length - 1 - (i + 1) by omega]
      exact b
    · rw [show l.length - 1 - (i + 2) + 2 = l.length - 1 - i by omega]
      exact a
theorem nodup_rev {l : List α} (h : l.Nodup) : l.reverse.Nodup := List.nodup_iff_pairwise_ne.mpr (List.pairwise_reverse.mpr ((List.nodup_iff_pairwise_ne.mp h).imp fun h => h.symm))
/-! near places, sides -/
def Near (E : α → α → Prop) (F : α → Prop) (x y : α) : Prop := F x ∧ F y ∧ (Tie E x y ∨ ∃ c, F c ∧ E x c ∧ E y c)
inductive Side (E : α → α → Prop) (A C F : α → Prop) : α → Prop
  | base {x : α} (h : A x) : Side E A C F x
  | step {x y : α} (h : Side E A C F x) (n : Near E F x y) (c : ¬ C y) : Side E A C F y
/-- walks that are open: the place, and whether the last arrow leads into it -/
inductive Wk (E : α → α → Prop) (A C : α → Prop) : α → Bool → Prop
  | nil {x : α} (h : A x) : Wk E A C x false
  | down {x y : α} {d : Bool} (h : Wk E A C x d) (e : E x y) (c : ¬ C x) : Wk E A C y true
  | up {x y : α} {d : Bool} (h : Wk E A C x d) (e : E y x) (c1 : d = true → An E C x) (c2 : d = false → ¬ C x) : Wk E A C y false
def Fld (E : α → α → Prop) (A B C : α → Prop) : α → Prop := An E fun x => A x ∨ B x ∨ C x
section
variable {A B C : α → Prop}
theorem esc {z : α} (f : Fld E A B C z) : ∀ {d : Bool}, Wk E A C z d → ¬ An E C z → (∃ b d, B b ∧ Wk E A C b d) ∨ Wk E A C z false := by
  induction f with
  | base h =>
    intro d w n
    rcases h with h | h | h
    · exact .inr (.nil h)
    · exact .inl ⟨_, _, h, w⟩
    · exact (n (.base h)).elim
  | step e h ih =>
    intro d w n
    rename_i x y
    have nc : ¬ C x := fun z => n (.base z)
    have ny : ¬ An E C y := fun z => n (.step e z)
    rcases ih (.down w e nc) ny with q | q
    · exact .inl q
    · exact .inr (.up q e (fun z => by cases z) fun _ z => ny (.base z))
theorem leaveUp {x y : α} {d : Bool} (f : Fld E A B C x) (w : Wk E A C x d) (nc : ¬ C x) (e : E y x) : (∃ b d, B b ∧ Wk E A C b d) ∨ Wk E A C y false := by
  cases d with
  | false => exact .inr (.up w e (fun z => by cases z) fun _ => nc)
  | true =>
    by_cases h : An E C x
    · exact .inr (.up w e (fun _ => h) fun z => by cases z)
    · rcases esc f w h with q | q
      · exact .inl q
      · exact .inr (.up q e (fun z => by cases z) fun _ => nc)
theorem side_not (ha : ∀ x, A x → ¬ C x) {F : α → Prop} {x : α} (s : Side E A C F x) : ¬ C x := by
  cases s with
  | base h => exact ha _ h
  | step _ _ c => exact c
theorem side_walk (ha : ∀ x, A x → ¬ C x) {x : α} (s : Side E A C (Fld E A B C) x) : (∃ b d, B b ∧ Wk E A C b d) ∨ ∃ d, Wk E A C x d := by
  induction s with
  | base h => exact .inr ⟨_, .nil h⟩
  | step h n c ih =>
    rename_i x y
    have nx := side_not ha h
    rcases ih with q | ⟨d, w⟩
    · exact .inl q
    obtain ⟨fx, fy, t | ⟨c, fc, e1, e2⟩⟩ := n
    · rcases t with e | e
      · exact .inr ⟨_, .down w e nx⟩
      · rcases leaveUp fx w nx e with q | q
        · exact .inl q
        · exact .inr ⟨_, q⟩
    · have wc := Wk.down w e1 nx
      by_cases h : An E C c
      · exact .inr ⟨_, .up wc e2 (fun _ => h) fun z => by cases z⟩
      · rcases esc fc wc h with q | q
        · exact .inl q
        · exact .inr ⟨_, .up q e2 (fun z => by cases z) fun _ z => h (.base z)⟩
/-! from walks to ways -/
def Hd (E : α → α → Prop) : List α → Prop
  | x :: w :: _ => E w x
  | _ => False
structure Way (E : α → α → Prop) (A C : α → Prop) (x : α) (p : List α) : Prop where
  opn : Opn E C (x :: p)
  nd : (x :: p).Nodup
  last : ∃ a, (x :: p).getLast? = some a ∧ A a
theorem Way.cut {x y : α} {l1 l2 p : List α} (h : Way E A C x p) (e : x :: p = l1 ++ y :: l2) : Way E A C y l2 where
  opn := by
    have := h.opn
    rw [e] at this
    exact this.suffix
  nd := by
    have := h.nd
    rw [e] at this
    exact (List.nodup_append.mp this).2.1
  last := by
    obtain ⟨a, h1, h2⟩ := h.last
    refine ⟨a, ?_, h2⟩
    rw [e] at h1
    rw [List.getLast?_append] at h1
    cases q : (y :: l2).getLast? with
    | none => simp at q
    | some b =>
      rw [q] at h1
      simpa using h1
theorem inv_down {C : α → Prop} : ∀ {l1 : List α} {x : α} {p : List α} {y : α} {l2 : List α}, Opn E C (x :: p) → (Hd E (x :: p) → An E C x) → x :: p = l1 ++ y :: l2 → Hd E (y :: l2) → An E C y
  | [], x, p, y, l2, _, i, e, hy => by
    cases e
    exact i hy
  | u :: l1, x, p, y, l2, o, i, e, hy => by
    have e0 : x = u ∧ p = l1 ++ y :: l2 := by simpa using e
    cases p with
    | nil => simp at e0
    | cons z q =>
      refine inv_down (l1 := l1) (x := z) (p := q) o.tail (fun hz => ?_) e0.2 hy
      cases q with
      | nil => exact hz.elim
      | cons w q =>
        have hz : E w z := hz
        rcases o.1 with t | t
        · rcases o.2.1 with ⟨_, _, a⟩ | ⟨n, _⟩
          · exact a
          · exact (n ⟨t, hz⟩).elim
        · exact .step t (i t)
theorem walk_way (ha : ∀ x, A x → ¬ C x) (asy : ∀ x y, E x y → ¬ E y x) {x : α} {d : Bool} (w : Wk E A C x d) : ∃ p, Way E A C x p ∧ (d = true → Hd E (x :: p) ∨ ¬ C x) ∧ (d = false → ¬ Hd E (x :: p) ∨ An E C x) := by
  induction w with
  | nil h => exact ⟨[], ⟨trivial, List.nodup_cons.mpr ⟨by simp, List.nodup_nil⟩, _, rfl, h⟩, (fun z => by cases z), fun _ => .inl fun z => z.elim⟩
  | down w e c ih =>
    rename_i x y d
    obtain ⟨p, wy, h1, h2⟩ := ih
    by_cases m : y ∈ x :: p
    · obtain ⟨l1, l2, el⟩ := List.append_of_mem m
      refine ⟨l2, wy.cut el, fun _ => ?_, fun z => by cases z⟩
      cases l2 with
      | nil =>
        obtain ⟨a, q1, q2⟩ := (wy.cut el).last
        simp at q1
        subst q1
        exact .inr (ha _ q2)
      | cons w l2 =>
        by_cases hw : E w y
        · exact .inl hw
        · refine .inr ?_
          rcases List.eq_nil_or_concat l1 with rfl | ⟨l1, u, rfl⟩
          · simp at el
            obtain ⟨e1, _⟩ := el
            subst e1
            exact (asy _ _ e e).elim
          · have o := wy.opn
            rw [el, List.concat_eq_append, List.append_assoc] at o
            have o : Opn E C (u :: y :: w :: l2) := o.suffix
            rcases o.2.1 with ⟨_, q, _⟩ | ⟨_, q⟩
            · exact (hw q).elim
            · exact q
    · refine ⟨x :: p, ⟨?_, List.nodup_cons.mpr ⟨m, wy.nd⟩, ?_⟩, fun _ => .inl e, fun z => by cases z⟩
      · cases p with
        | nil => exact .inr e
        | cons w p => exact ⟨.inr e, .inr ⟨fun z => asy x y e z.1, c⟩, wy.opn⟩
      · obtain ⟨a, q1, q2⟩ := wy.last
        exact ⟨a, by rw [List.getLast?_cons_cons]; exact q1, q2⟩
  | up w e c1 c2 ih =>
    rename_i x y d
    obtain ⟨p, wy, h1, h2⟩ := ih
    have hc : Hd E (x :: p) → An E C x := fun h => by
      cases d with
      | true => exact c1 rfl
      | false => exact (h2 rfl).resolve_left fun n => n h
    have hn : ¬ Hd E (x :: p) → ¬ C x := fun h => by
      cases d with
      | true => exact (h1 rfl).resolve_left h
      | false => exact c2 rfl
    by_cases m : y ∈ x :: p
    · obtain ⟨l1, l2, el⟩ := List.append_of_mem m
      refine ⟨l2, wy.cut el, (fun z => by cases z), fun _ => ?_⟩
      by_cases h : Hd E (y :: l2)
      · exact .inr (inv_down wy.opn hc el h)
      · exact .inl h
    · refine ⟨x :: p, ⟨?_, List.nodup_cons.mpr ⟨m, wy.nd⟩, ?_⟩, (fun z => by cases z), fun _ => .inl (asy _ _ e)⟩
      · cases p with
        | nil => exact .inl e
        | cons w p =>
          refine ⟨.inl e, ?_, wy.opn⟩
          by_cases h : E w x
          · exact .inl ⟨e, h, hc h⟩
          · exact .inr ⟨fun z => h z.2, hn h⟩
      · obtain ⟨a, q1, q2⟩ := wy.last
        exact ⟨a, by rw [List.getLast?_cons_cons]; exact q1, q2⟩
/-! from ways to sides -/
theorem fld_an {x y : α} (e : E x y) (h : Fld E A B C y) : Fld E A B C x := .step e h
theorem fld_c {x : α} (h : An E C x) : Fld E A B C x := h.mono fun _ z => .inr (.inr z)
theorem head_in {A B C : α → Prop} : ∀ {x : α} {r : List α}, Opn E C (x :: r) → (∃ b, (x :: r).getLast? = some b ∧ B b) → Fld E A B C x ∨ ∃ n r', r = n :: r' ∧ E n x
  | x, [], _, ⟨b, h1, h2⟩ => by
    simp at h1
    subst h1
    exact .inl (.base (.inr (.inl h2)))
  | x, n :: r, o, ⟨b, h1, h2⟩ => by
    rw [List.getLast?_cons_cons] at h1
    rcases o.tie with e | e
    · rcases head_in o.tail ⟨b, h1, h2⟩ with f | ⟨m, r', er, em⟩
      · exact .inl (fld_an e f)
      · subst er
        rcases o.2.1 with ⟨_, _, q⟩ | ⟨q, _⟩
        · exact .inl (fld_an e (fld_c q))
        · exact (q ⟨e, em⟩).elim
    · exact .inr ⟨n, r, rfl, e⟩
theorem next_in {x n : α} {r : List α} (f : Fld E A B C x) (o : Opn E C (x :: n :: r)) (hb : ∃ b, (x :: n :: r).getLast? = some b ∧ B b) : Fld E A B C n := by
  obtain ⟨b, h1, h2⟩ := hb
  rw [List.getLast?_cons_cons] at h1
  rcases head_in o.tail ⟨b, h1, h2⟩ with q | ⟨m, r', er, em⟩
  · exact q
  · subst er
    rcases o.tie with e | e
    · rcases o.2.1 with ⟨_, _, q⟩ | ⟨q, _⟩
      · exact fld_c q
      · exact (q ⟨e, em⟩).elim
    · exact fld_an e f
theorem way_side (hb : ∀ x, B x → ¬ C x) (asy : ∀ x y, E x y → ¬ E y x) : ∀ (n : Nat) {x : α} {r : List α}, r.length ≤ n → Fld E A B C x → Side E A C (Fld E A B C) x → Opn E C (x :: r) → (∃ b, (x :: r).getLast? = some b ∧ B b) → ∃ b, B b ∧ Side E A C (Fld E A B C) b
  | _, x, [], _, f, s, o, ⟨b, h1, h2⟩ => by
    simp at h1
    subst h1
    exact ⟨x, h2, s⟩
  | 0, x, _ :: _, hl, _, _, _, _ => by simp at hl
  | k + 1, x, n :: r, hl, f, s, o, hbb => by
    have fn := next_in f o hbb
    obtain ⟨b, h1, h2⟩ := hbb
    rw [List.getLast?_cons_cons] at h1
    have hl : r.length ≤ k := by simpa using hl
    cases r with
    | nil =>
      simp at h1
      subst h1
      exact ⟨n, h2, .step s ⟨f, fn, .inl o.tie⟩ (hb _ h2)⟩
    | cons z r =>
      have fz := next_in fn o.tail ⟨b, h1, h2⟩
      rcases o.2.1 with ⟨e1, e2, q⟩ | ⟨_, q⟩
      · have nz : ¬ C z := by
          cases r with
          | nil =>
            simp at h1
            subst h1
            exact hb _ h2
          | cons u r =>
            rcases o.2.2.2.1 with ⟨e3, _⟩ | ⟨_, q⟩
            · exact (asy _ _ e2 e3).elim
            · exact q
        rw [List.getLast?_cons_cons] at h1
        exact way_side hb asy k (by simp at hl; omega) fz (.step s ⟨f, fz, .inr ⟨n, fn, e1, e2⟩⟩ nz) o.2.2.tail ⟨b, h1, h2⟩
      · exact way_side hb asy k hl fn (.step s ⟨f, fn, .inl o.tie⟩ q) o.2.2 ⟨b, h1, h2⟩
/-- an open way from a place of A to one of B -/
def Con (E : α → α → Prop) (A B C : α → Prop) : Prop := ∃ l a b, l.head? = some a ∧ l.getLast? = some b ∧ A a ∧ B b ∧ l.Nodup ∧ Opn E C l
theorem con_side (ha : ∀ x, A x → ¬ C x) (hb : ∀ x, B x → ¬ C x) (asy : ∀ x y, E x y → ¬ E y x) : Con E A B C ↔ ∃ b, B b ∧ Side E A C (Fld E A B C) b := by
  constructor
  · rintro ⟨l, a, b, h1, h2, h3, h4, _, h6⟩
    cases l with
    | nil => simp at h1
    | cons x r =>
      simp at h1
      subst h1
      exact way_side hb asy r.length (Nat.le_refl _) (.base (.inl h3)) (.base h3) h6 ⟨b, h2, h4⟩
  · rintro ⟨b, h1, h2⟩
    have : ∃ b d, B b ∧ Wk E A C b d := by
      rcases side_walk ha h2 with q | ⟨d, q⟩
      · exact q
      · exact ⟨b, d, h1, q⟩
    obtain ⟨b, d, hb1, w⟩ := this
    obtain ⟨p, wy, _⟩ := walk_way ha asy w
    obtain ⟨a, q1, q2⟩ := wy.last
    refine ⟨(b :: p).reverse, a, b, ?_, ?_, q2, hb1, nodup_rev wy.nd, wy.opn.rev⟩
    · rw [List.head?_reverse]
      exact q1
    · rw [List.getLast?_reverse]
      rfl
theorem con_symm : Con E A B C → Con E B A C := by
  rintro ⟨l, a, b, h1, h2, h3, h4, h5, h6⟩
  exact ⟨l.reverse, b, a, by rw [List.head?_reverse]; exact h2, by rw [List.getLast?_reverse]; exact h1, h4, h3, nodup_rev h5, h6.rev⟩
end
end
end DSep

namespace DSep
section
variable {α : Type} {E : α → α → Prop} {A B C D : α → Prop}
theorem Side.mono {C' F F' : α → Prop} (hc : ∀ x, C' x → C x) (hf : ∀ x, F x → F' x) {x : α} (s : Side E A C F x) : Side E A C' F' x := by
  induction s with
  | base h => exact .base h
  | step h n c ih => exact .step ih ⟨hf _ n.1, hf _ n.2.1, n.2.2.imp id fun ⟨c, q, e⟩ => ⟨c, hf _ q, e⟩⟩ fun z => c (hc _ z)
theorem con_left : Con E A B C → Con E A (fun x => B x ∨ D x) C := fun ⟨l, a, b, h1, h2, h3, h4, h5⟩ => ⟨l, a, b, h1, h2, h3, .inl h4, h5⟩
theorem con_right : Con E A D C → Con E A (fun x => B x ∨ D x) C := fun ⟨l, a, b, h1, h2, h3, h4, h5⟩ => ⟨l, a, b, h1, h2, h3, .inr h4, h5⟩
theorem con_or : Con E A (fun x => B x ∨ D x) C ↔ Con E A B C ∨ Con E A D C := ⟨fun ⟨l, a, b, h1, h2, h3, h4, h5⟩ => h4.elim (fun q => .inl ⟨l, a, b, h1, h2, h3, q, h5⟩) fun q => .inr ⟨l, a, b, h1, h2, h3, q, h5⟩, fun h => h.elim con_left con_right⟩
theorem con_single : Con E A B C ↔ ∃ b, B b ∧ Con E A (· = b) C := ⟨fun ⟨l, a, b, h1, h2, h3, h4, h5⟩ => ⟨b, h4, l, a, b, h1, h2, h3, rfl, h5⟩, fun ⟨b, hb, l, a, b', h1, h2, h3, h4, h5⟩ => ⟨l, a, b', h1, h2, h3, by rw [h4]; exact hb, h5⟩⟩
theorem Con.congr {A' B' C' : α → Prop} (h : Con E A B C) (ha : ∀ x, A x ↔ A' x) (hb : ∀ x, B x ↔ B' x) (hc : ∀ x, C x ↔ C' x) : Con E A' B' C' := by
  rw [← funext fun x => propext (ha x), ← funext fun x => propext (hb x), ← funext fun x => propext (hc x)]
  exact h
theorem Opn.prefix {l1 l2 : List α} (h : Opn E C (l1 ++ l2)) : Opn E C l1 := by
  have := h.rev
  rw [List.reverse_append] at this
  have := this.suffix.rev
  rwa [List.reverse_reverse] at this
theorem opn_more (h : Opn E C l) (hb : ∀ x ∈ l, ¬ B x) : Opn E (fun x => C x ∨ B x) l := by
  rw [opn_iff] at h ⊢
  refine ⟨h.1, fun i x y z h1 h2 h3 => ?_⟩
  rcases h.2 i x y z h1 h2 h3 with ⟨a, b, c⟩ | ⟨a, b⟩
  · exact .inl ⟨a, b, c.mono fun _ z => .inl z⟩
  · exact .inr ⟨a, fun q => q.elim b (hb _ (List.mem_of_getElem? h2))⟩
/-- what is open given more -/
theorem con_contract (h : Con E A D C) : Con E A B C ∨ Con E A D (fun x => C x ∨ B x) := by
  obtain ⟨l, a, d, h1, h2, h3, h4, h5, h6⟩ := h
  by_cases q : ∃ x ∈ l, B x
  · obtain ⟨x, m, bx⟩ := q
    obtain ⟨l1, l2, e⟩ := List.append_of_mem m
    refine .inl ⟨l1 ++ [x], a, x, ?_, by simp, h3, bx, ?_, ?_⟩
    · rw [e] at h1
      cases l1 with
      | nil => simpa using h1
      | cons y l1 => simpa using h1
    · rw [e, show l1 ++ x :: l2 = (l1 ++ [x]) ++ l2 by simp] at h5
      exact (List.nodup_append.mp h5).1
    · rw [e, show l1 ++ x :: l2 = (l1 ++ [x]) ++ l2 by simp] at h6
      exact h6.prefix
  · exact .inr ⟨l, a, d, h1, h2, h3, h4, h5, opn_more h6 fun x m z => q ⟨x, m, z⟩⟩
theorem fld_swap {x : α} : Fld E A D (fun x => C x ∨ B x) x ↔ Fld E A (fun x => B x ∨ D x) C x := ⟨fun h => h.mono fun _ z => by rcases z with z | z | z | z <;> simp [z], fun h => h.mono fun _ z => by rcases z with z | (z | z) | z <;> simp [z]⟩
theorem fld_swap2 {x : α} : Fld E A B (fun x => C x ∨ D x) x ↔ Fld E A (fun x => B x ∨ D x) C x := ⟨fun h => h.mono fun _ z => by rcases z with z | z | z | z <;> simp [z], fun h => h.mono fun _ z => by rcases z with z | (z | z) | z <;> simp [z]⟩
section
variable (ac : ∀ x, A x → ¬ C x) (bc : ∀ x, B x → ¬ C x) (dc : ∀ x, D x → ¬ C x) (ab : ∀ x, A x → ¬ B x) (ad : ∀ x, A x → ¬ D x) (bd : ∀ x, B x → ¬ D x) (asy : ∀ x y, E x y → ¬ E y x)
include ac bc dc ab ad bd asy
/-- moved to what is known -/
theorem con_weak (h : Con E A D (fun x => C x ∨ B x)) : Con E A (fun x => B x ∨ D x) C := by
  rw [con_side (fun x z q => q.elim (ac x z) (ab x z)) (fun x z q => q.elim (dc x z) fun q => bd x q z) asy] at h
  rw [con_side ac (fun x z => z.elim (bc x) (dc x)) asy]
  obtain ⟨d, hd, s⟩ := h
  exact ⟨d, .inr hd, s.mono (fun _ z => .inl z) fun _ z => fld_swap.mp z⟩
theorem con_weak2 (h : Con E A B (fun x => C x ∨ D x)) : Con E A (fun x => B x ∨ D x) C := by
  rw [con_side (fun x z q => q.elim (ac x z) (ad x z)) (fun x z q => q.elim (bc x z) (bd x z)) asy] at h
  rw [con_side ac (fun x z => z.elim (bc x) (dc x)) asy]
  obtain ⟨d, hd, s⟩ := h
  exact ⟨d, .inl hd, s.mono (fun _ z => .inl z) fun _ z => fld_swap2.mp z⟩
/-- both -/
theorem con_both (h : Con E A (fun x => B x ∨ D x) C) : Con E A B (fun x => C x ∨ D x) ∨ Con E A D (fun x => C x ∨ B x) := by
  rw [con_side (fun x z q => q.elim (ac x z) (ad x z)) (fun x z q => q.elim (bc x z) (bd x z)) asy, con_side (fun x z q => q.elim (ac x z) (ab x z)) (fun x z q => q.elim (dc x z) fun q => bd x q z) asy]
  rw [con_side ac (fun x z => z.elim (bc x) (dc x)) asy] at h
  rw [show (Fld E A B fun x => C x ∨ D x) = Fld E A (fun x => B x ∨ D x) C from funext fun x => propext fld_swap2, show (Fld E A D fun x => C x ∨ B x) = Fld E A (fun x => B x ∨ D x) C from funext fun x => propext fld_swap]
  generalize Fld E A (fun x => B x ∨ D x) C = F at *
  have key : ∀ x, Side E A C F x → (Side E A (fun x => C x ∨ B x ∨ D x) F x ∧ ¬ B x ∧ ¬ D x) ∨ (∃ b, B b ∧ Side E A (fun x => C x ∨ D x) F b) ∨ ∃ b, D b ∧ Side E A (fun x => C x ∨ B x) F b := by
    intro x s
    induction s with
    | base h => exact .inl ⟨.base h, ab _ h, ad _ h⟩
    | step h n c ih =>
      rename_i x y
      rcases ih with ⟨q1, q2, q3⟩ | q
      · by_cases hB : B y
        · exact .inr (.inl ⟨y, hB, .step (q1.mono (fun _ z => z.elim .inl fun z => .inr (.inr z)) fun _ z => z) n fun z => z.elim c (bd y hB)⟩)
        · by_cases hD : D y
          · exact .inr (.inr ⟨y, hD, .step (q1.mono (fun _ z => z.elim .inl fun z => .inr (.inl z)) fun _ z => z) n fun z => z.elim c hB⟩)
          · exact .inl ⟨.step q1 n fun z => by rcases z with z | z | z; exact c z; exact hB z; exact hD z, hB, hD⟩
      · exact .inr q
  obtain ⟨b, hb, s⟩ := h
  rcases key b s with ⟨_, q2, q3⟩ | q
  · exact (hb.elim q2 q3).elim
  · exact q
end
/-- a place, given its sources -/
theorem con_local (rk : α → Nat) (hrk : ∀ x y, E x y → rk x < rk y) {i : α} (hB : ∀ x, B x → ¬ E x i ∧ ¬ An (fun x y => E y x) (· = i) x) : ¬ Con E (· = i) B (fun x => E x i) := by
  have asy : ∀ x y, E x y → ¬ E y x := fun x y h h' => by have := hrk _ _ h; have := hrk _ _ h'; omega
  have up : ∀ x, An E (fun x => E x i) x → rk x < rk i := fun x h => by
    induction h with
    | base q => exact hrk _ _ q
    | step e _ ih => have := hrk _ _ e; omega
  have dn : ∀ x, An (fun x y => E y x) (· = i) x → rk i ≤ rk x := fun x h => by
    induction h with
    | base q => rw [q]; exact Nat.le_refl _
    | step e _ ih => have := hrk _ _ e; omega
  have go : ∀ (r : List α) (x n : α), Opn E (fun x => E x i) (x :: n :: r) → E x n → An (fun x y => E y x) (· = i) n → (∃ b, (x :: n :: r).getLast? = some b ∧ B b) → False := by
    intro r
    induction r with
    | nil =>
      rintro x n _ _ a ⟨b, h1, h2⟩
      simp at h1
      subst h1
      exact (hB _ h2).2 a
    | cons z r ih =>
      rintro x n o e a ⟨b, h1, h2⟩
      rw [List.getLast?_cons_cons] at h1
      rcases o.2.1 with ⟨_, _, q⟩ | ⟨q, _⟩
      · have := up _ q
        have := dn _ a
        omega
      · rcases o.2.2.tie with e2 | e2
        · exact ih n z o.2.2 e2 (.step e2 a) ⟨b, h1, h2⟩
        · exact q ⟨e, e2⟩
  rintro ⟨l, a, b, h1, h2, h3, h4, _, o⟩
  cases l with
  | nil => simp at h1
  | cons x r =>
    simp at h1
    subst h1
    subst h3
    cases r with
    | nil =>
      simp at h2
      subst h2
      exact (hB _ h4).2 (.base rfl)
    | cons n r =>
      rcases o.tie with e | e
      · exact go r x n o e (.step e (.base rfl)) ⟨b, h2, h4⟩
      · cases r with
        | nil =>
          simp at h2
          subst h2
          exact (hB _ h4).1 e
        | cons z r =>
          rcases o.2.1 with ⟨q, _⟩ | ⟨_, q⟩
          · exact asy _ _ e q
          · exact q e
theorem tie_con {i j : α} (h : Tie E i j) (n : i ≠ j) : Con E (· = i) (· = j) C := ⟨[i, j], i, j, rfl, rfl, rfl, rfl, by simpa using n, h⟩
end
end DSep

namespace Say
open L2 PyProof.Rows PySem.Spec PySem
/-- a tuple whose object is known to have no dict -/
def Tp (H : Hp) (a : Addr) (vs : List V) : Prop := ∃ o, H a = some (.frz o (.tup vs)) ∧ o.dict = none
theorem Tp.sq {K : PySem.W.Frag} {H : Hp} {a : Addr} {vs : List V} (h : Tp H a vs) : SqT K H a vs := by
  obtain ⟨o, e, _⟩ := h
  exact .inl (.inr ⟨o, e⟩)
/-- a new one at q -/
def NewT (H : Hp) (vs : List V) (Q : VK) : Prop := ∀ q o, H q = none → o.dict = none → Q (.ref q) (upd H q (.frz o (.tup vs)))
section
variable {X : Cx} {es : List Expr} {t : TA} {pos : Pos}
theorem laidT {pins : List (Addr × Obj)} {σ : L2.St} {H : Hp} {s : Shared} {Q : VK} {vs : List V} {us : List Value} (I : Inv X pins σ H s) (z : vs.length ≤ sizeLine) (r : Vals vs us) (q : NewT H vs Q) :
    EP X pins σ Q (.ref s.heap.objs.size) { s with heap := s.heap.push { cls := .type "tuple", data := .seq us.toArray } } := by
  have g : (s.heap.push { cls := .type "tuple", data := .seq us.toArray }).get? s.heap.objs.size = some { cls := .type "tuple", data := .seq us.toArray } := Heap.get?_push_size _ rfl
  refine ⟨.ref s.heap.objs.size, _, I.laid (t' := s.toks) (o := .frz { cls := .type "tuple", data := .seq us.toArray } (.tup vs)) (fun b ob w => Heap.get?_push_of_some _ w) (Nat.le_refl _) ?_, rfl, q _ _ (I.hok.fresh (Nat.le_refl _)) rfl⟩
  exact ⟨g, z, us, r, ⟨_, g, rfl, _, rfl⟩⟩
theorem pe_tupF {x1} (h : PA X es t) : PE X (.Tuple es x1 pos) (fun σ H Q => t σ H fun xs H1 => xs.length ≤ sizeLine ∧ NewT H1 xs Q) := by
  refine ⟨fun pins s σ H Q I hq => wpAny_Tuple_spliced (thn (h.run pos pins s σ H _ I hq) fun us s1 ⟨xs, H1, I1, r, z, q⟩ => ⟨by rw [← r.length]; exact z, laidT I1 z r q⟩)⟩
theorem call_tupleF : CallR X (.type "tuple") (fun xs H Q => ∃ p ys, xs = [.ref p] ∧ ((SqL X.K H p ys ∧ NewT H ys Q) ∨ (SqT X.K H p ys ∧ Q (.ref p) H))) := by
  intro pins s σ
      H xs us Q I r h
  obtain ⟨p, ys, e, h⟩ := h
  rcases h with ⟨sq, q⟩ | ⟨sq, q⟩
  · subst e
    obtain ⟨u, rfl, w⟩ := vals1 r
    cases w
    obtain ⟨its, rv, pl, z⟩ := I.list sq
    have n := rv.length
    exact call_tuple_list pl.isList (fun h' kp => laidT (I.kept (t' := s.toks) kp) z rv q) (by simp only [List.size_toArray] <;> omega)
  · exact call_tuple_of pins s σ H xs us Q I r ⟨p, ys, e, .inr ⟨sq, q⟩⟩
def rSlF (K : PySem.W.Frag) : V → Option Int → Option Int → Hp → VK → Prop := fun x lo hi H Q => ∃ a xs, x = .ref a ∧ SqT K H a xs ∧
  (HT.sIx xs.length 0 lo = 0 ∧ HT.sIx xs.length xs.length hi = xs.length → Q (.ref a) H) ∧ (¬ (HT.sIx xs.length 0 lo = 0 ∧ HT.sIx xs.length xs.length hi = xs.length) → NewT H (cutV xs lo hi) Q)
theorem sl_tupF : SlR X (rSlF X.K) := by
  intro pins s σ H x v vl vu
      lo hi sl Q I rx hs pl pu h
  obtain ⟨a, xs, e, sq, q1, q2⟩ := h
  by_cases hw : HT.sIx xs.length 0 lo = 0 ∧
      HT.sIx xs.length xs.length hi = xs.length
  · exact sl_tupA pins s σ H x v vl vu lo hi sl Q I rx hs pl pu ⟨a, xs, e, sq, q1, fun n => absurd hw n⟩
  · subst e
    cases rx
    obtain ⟨its, r, tp, z⟩ := I.tuple sq
    have n : its.toArray.size = xs.length := by rw [List.size_toArray, r.length]
    refine ⟨"tuple", _, PyProof.Rows.slot_tuple_getitem.lookup, tp.typeIs, HT.getItem_tuple_cut tp hs pl pu (by rw [n]; exact hw) ?_ (by rw [n]; exact z)⟩
    rw [n]
    exact laidT I (Nat.le_trans (cutV_length xs lo hi) z) ((r.drop (HT.sIx xs.length 0 lo)).take _) (q2 hw)
def rCatF (K : PySem.W.Frag) : R2 := fun x y H Q => ∃ a b xs ys, x = .ref a ∧ y = .ref b ∧ SqT K H a xs ∧ SqT K H b ys ∧ xs.length + ys.length ≤ sizeLine ∧
  (xs = [] → Q (.ref b) H) ∧ (xs ≠ [] → ys = [] → Q (.ref a) H) ∧ (xs ≠ [] → ys ≠ [] → NewT H (xs ++ ys) Q)
theorem op_catF : OpR X (binaryOp .Add) (rCatF X.K) := by
  intro pins s σ H x
      y v u Q I rx ry h
  obtain ⟨a, b, xs, ys, e1, e2, ha, hb, z, q0, q1, q2⟩ := h
  by_cases two : xs ≠ [] ∧ ys ≠ []
  · subst e1
    subst e2
    cases rx
    cases ry
    obtain ⟨us, r1, p1, _⟩ := I.tuple ha
    obtain ⟨ws, r2, p2, _⟩ := I.tuple hb
    refine HT.cat_tup p1 p2 (fun w => two.1 (r1.nil_iff.mp w)) (fun w => absurd (r2.nil_iff.mp w) two.2) (fun w => ?_) (by rw [← r1.length, ← r2.length]; exact z)
    exact laidT I (by rw [List.length_append]; exact z) (r1.append r2) (q2 two.1 two.2)
  · exact op_catA pins s σ H x y v u Q I rx ry ⟨a, b, xs, ys, e1, e2, ha, hb, z, q0, q1, fun w1 w2 => absurd ⟨w1, w2⟩ two⟩
/-- a method of such a tuple -/
theorem pe_tm {o e : Expr} {es : List Expr} {to : TE} {t : TA} {name : Str} {apos cpos : Pos} {id : String} {r : V → List V → Hp → VK → Prop} (slot : Slot "tuple" name id) (hty : typeOf (.builtin id) = pure (.type "method_descriptor")) (hm : MtR X id r) (ho : PE X o to) (ha : PA X (e :: es) t)
    (hbase : attributeBase o name X.env (eval o X.env) = eval o X.env :=
        by rfl)
    (few : ((backTo cpos (starEach (e :: es) X.env)).all (fun x => !x.1) && (backToKw cpos (keywordEach [] X.env)).all (fun x => x.1.isSome) && decide ((e :: es).length + ([] : List Keyword).length + (if ([] : List Keyword).isEmpty then 0 else 1) < 30)) = true := by rfl)
    (line : (apos.endLine == cpos.line) = true := by rfl) (hs : starEach (e :: es) X.env = (false, eval e X.env) :: starEach es X.env := by rfl) (plain : (backTo cpos (starEach es X.env)).any (·.1) = false := by rfl) :
    PE X (.Call (.Attribute o name apos) (e :: es) [] cpos) (fun σ H Q => to σ H fun x H1 => (∃ a vs, x = .ref a ∧ Tp H1 a vs) ∧ t σ H1 fun xs H2 => r x xs H2 Q) := by
  refine ⟨fun pins s σ H Q I h => wpAny_Call_method_late hbase few line rfl (thn (ho.run pins s σ H _ I h) fun v s1 ⟨x, H1, I1, r1, ty, q1⟩ => ?_)⟩
  obtain ⟨a, vs, e1, ob, e2, nd⟩ := ty
  have g := I1.hok _ _ e2
  obtain ⟨g1, g2, g3, g4, o2, g5, g6, g7⟩ := (show s1.heap.get? a = some ob ∧ ObjOk X.prog X.w H1 s1.heap a (.tup vs) from g)
  have g8 : o2 = ob := Option.some.inj (g5.symm.trans g1)
  subst g8
  have ev : v = .ref a := by rw [e1] at r1; exact r1
  refine ⟨"tuple", id, PySem.F.plainAttrs_tuple, slot, hty, by rw [ev]; exact ⟨_, g1, g6⟩, fun b eb => ⟨_, by rw [ev] at eb; cases eb; exact g1, nd⟩, ?_⟩
  have got := ha.run cpos pins s1 σ H1 _ I1 q1
  rw [hs] at got ⊢
  refine Calls.callWith_builtin (by show (false || (backTo cpos (starEach es X.env)).any (·.1)) = false; rw [plain] <;> rfl) (Calls.evalArgs_plain (thn got fun us s2 ⟨ws, H2, I2, r2, q2⟩ => hm pins s2 σ H2 x ws v us Q I2 r1 r2 q2))
end
end Say

namespace Say
open L2 PyProof.Rows PySem.Spec PySem

/-! ### data -/
inductive D where
  | non | bl (b : Bool) | int (i : Int) | str (s : Str)
  | tup (xs : List D) | itm (xs : List D) | lst (xs : List D) | dct (kvs : List (D × D)) | ins (c : Str) (fs : List (Str × D))
  | pen | fn (x : Str)
deriving Inhabited

def putD (f : Str) (d : D) : List (Str × D) → List (Str × D)
  | [] => [(f, d)]
  | (g, x) :: r => if g = f then (g, d) :: r else (g, x) :: putD f d r
/-- the law's pen -/
structure Pen where
  cells : List Int
  pos : Nat
  digits : Int
  count : Int
  fold : Int

inductive Out (α : Type) where
  | ok (a : α) (s : Pen)
  | exc (c : Str) (fs : List (Str × D)) (s : Pen)
  | bad
def M (α : Type) : Type := Pen → Out α
def M.pure {α : Type} (a : α) : M α := fun s => .ok a s
def M.bind {α β : Type} (m : M α) (f : α → M β) : M β := fun s => match m s with
  | .ok a s' => f a s'
  | .exc c fs s' => .exc c fs s'
  | .bad => .bad
instance : Monad M where
  pure := M.pure
  bind := M.bind
def bad {α : Type} : M α := fun _ => .bad
def raise {α : Type} (c : Str) (fs : List (Str × D)) : M α := fun s => .exc c fs s
@[simp] theorem pure_bind {α β : Type} (a : α) (f : α → M β) : ((pure a : M α) >>= f) = f a := by
  funext s
  rfl
@[simp] theorem bind_pure {α : Type} (m : M α) : (m >>= fun a => (pure a : M α)) = m := by
  funext s
  show (match m s with | .ok a s' => Out.ok a s' | .exc c fs s' => .exc c fs s' | .bad => .bad) = m s
  cases m s <;> rfl
@[simp] theorem bind_assoc {α β γ : Type} (m : M α) (f : α → M β) (g : β → M γ) : ((m >>= f) >>= g) = (m >>= fun a => f a >>= g) := by
  funext s
  show (match (match m s with | .ok a s' => f a s' | .exc c fs s' => .exc c fs s' | .bad => .bad) with | .ok a s' => g a s' | .exc c fs s' => .exc c fs s' | .bad => .bad) = (match m s with | .ok a s' => (f a >>= g) s' | .exc c fs s' => .exc c fs s' | .bad => .bad)
  cases m s <;> rfl
@[simp] theorem bad_bind {α β : Type} (f : α → M β) : ((bad : M α) >>= f) = bad := by
  funext s
  rfl

def wpM {α : Type} (m : M α) (s : Pen) (R : α → Pen → Prop) (Ex : Str → List (Str × D) → Pen → Prop) : Prop := match m s with
  | .ok a s' => R a s'
  | .exc c fs s' => Ex c fs s'
  | .bad => False
theorem wp_pure {α : Type} {a : α} {s : Pen} {R : α → Pen → Prop} {Ex : Str → List (Str × D) → Pen → Prop} : wpM (pure a) s R Ex = R a s := rfl
theorem wp_bad {α : Type} {s : Pen} {R : α → Pen → Prop} {Ex : Str → List (Str × D) → Pen → Prop} : wpM bad s R Ex = False := rfl
theorem wp_bind {α β : Type} {m : M α} {f : α → M β} {s : Pen} {R : β → Pen → Prop} {Ex : Str → List (Str × D) → Pen → Prop} : wpM (m >>= f) s R Ex = wpM m s (fun a s' => wpM (f a) s' R Ex) Ex := by
  show (match (match m s with | .ok a s' => f a s' | .exc c fs s' => .exc c fs s' | .bad => .bad) with | .ok a s' => R a s' | .exc c fs s' => Ex c fs s' | .bad => False) = (match m s with | .ok a s' => wpM (f a) s' R Ex | .exc c fs s' => Ex c fs s' | .bad => False)
  cases m s <;> rfl
theorem wp_mono {α : Type} {m : M α} {s : Pen} {R R' : α → Pen → Prop} {Ex Ex' : Str → List (Str × D) → Pen → Prop} (h : wpM m s R Ex) (hR : ∀ a s, R a s → R' a s) (hE : ∀ c fs s, Ex c fs s → Ex' c fs s) : wpM m s R' Ex' := by
  unfold wpM at h ⊢
  cases e : m s with
  | ok a s' => rw [e] at h; exact hR _ _ h
  | exc c fs s' => rw [e] at h; exact hE _ _ _ h
  | bad => rw [e] at h; exact h

/-! ### data in the heap -/
structure PL where
  pa : Addr
  ca : Addr
  /-- the instance that an __init__ fills -/
  sx : Addr
  /-- tables of code objects, each with the name of what stands in it -/
  T : List (Addr × Str) := []
/-- what may change within an expression: the pen, the tables -/
def PL.no (p : PL) (a : Addr) : Prop := a = p.pa ∨ a ∈ p.T.map (·.1)
section
variable (K : PySem.W.Frag) (p : PL) (H : Hp) (F : Addr → Prop)
mutual
inductive Rep : V → D → Prop
  | non : Rep .non .non
  | bl (b : Bool) : Rep (.bl b) (.bl b)
  | int (i : Int) : Rep (.int i) (.int i)
  | str (s : Str) (h : s.length ≤ sizeLine) : Rep (.str s) (.str s)
  | tup {a : Addr} {vs : List V} {ds : List D} (h : Tp H a vs ∧ ¬ F a) (hz : ds.length ≤ 16777216) (r : RepL vs ds) : Rep (.ref a) (.tup ds)
  | itm {a : Addr} {vs : List V} {ds : List D} (h : H a = some (.tup vs) ∧ ¬ F a) (hz : ds.length ≤ 16777216) (r : RepL vs ds) : Rep (.ref a) (.itm ds)
  | lst {a : Addr} {vs : List V} {ds : List D} (h : H a = some (.lst vs)) (hF : ¬ F a) (hz : ds.length ≤ 16777216) (r : RepL vs ds) : Rep (.ref a) (.lst ds)
  | ins {a dx : Addr} {c : Str} {vfs : List (Str × V)} {fs : List (Str × D)} (h : H a = some (.ins (He.ga K c) dx vfs)) (hF : ¬ F a) (r : RepF vfs fs) : Rep (.ref a) (.ins c fs)
  | dct {a : Addr} {kvs : List (Key × V)} {ds : List (D × D)} (h : H a = some (.dK kvs)) (hF : ¬ F a) (r : RepK kvs ds) : Rep (.ref a) (.dct ds)
  | pen : Rep (.ref p.pa) .pen
inductive RepL : List V → List D → Prop
  | nil : RepL [] []
  | cons {v : V} {vs : List V} {d : D} {ds : List D} (h : Rep v d) (r : RepL vs ds) : RepL (v :: vs) (d :: ds)
inductive RepF : List (Str × V) → List (Str × D) → Prop
  | nil : RepF [] []
  | cons {f : Str} {v : V} {vs : List (Str × V)} {d : D} {ds : List (Str × D)} (h : Rep v d) (r : RepF vs ds) : RepF ((f, v) :: vs) ((f, d) :: ds)
inductive RepK : List (Key × V) → List (D × D) → Prop
  | nil : RepK [] []
  | int {i : Int} {v : V} {vs : List (Key × V)} {d : D} {ds : List (D × D)} (h : Rep v d) (r : RepK vs ds) : RepK ((.inl i, v) :: vs) ((.int i, d) :: ds)
  | str {x : Str} {v : V} {vs : List (Key × V)} {d : D} {ds : List (D × D)} (h : Rep v d) (r : RepK vs ds) : RepK ((.inr x, v) :: vs) ((.str x, d) :: ds)
end
end
/-- all but what stands in F is as it was -/
def StepF (F : Addr → Prop) (H H' : Hp) : Prop := ∀ a o, H a = some o → ¬ F a → H' a = some o
def Step (p : PL) (H H' : Hp) : Prop := ∀ a o, H a = some o → ¬ p.no a → H' a = some o
theorem Step.refl {p : PL} {H : Hp} : Step p H H := fun _ _ h _ => h
theorem Step.trans {p : PL} {H H1 H2 : Hp} (a : Step p H H1) (b : Step p H1 H2) : Step p H H2 := fun x o h n => b x o (a x o h n) n
theorem Step.toF {p : PL} {F : Addr → Prop} {H H' : Hp} (h : Step p H H') (hF : ∀ a, p.no a → F a) : StepF F H H' := fun a o e n => h a o e fun z => n (hF a z)
theorem Step.new {p : PL} {H : Hp} {q : Addr} {o : HO} (h : H q = none) : Step p H (upd H q o) := fun a u e _ => by
  rw [upd_ne (ne_of_none e h)]
  exact e

section
variable {K : PySem.W.Frag} {p : PL} {H H' : Hp} {F F' : Addr → Prop}
mutual
theorem Rep.mono (st : StepF F H H') (hs : ∀ a, F' a → F a) : ∀ {v : V} {d : D}, Rep K p H F v d → Rep K p H' F' v d
  | _, _, .non => .non
  | _, _, .bl b => .bl b
  | _, _, .int i => .int i
  | _, _, .str s h => .str s h
  | _, _, .tup h hz r => .tup ⟨h.1.elim fun o e => ⟨o, st _ _ e.1 h.2, e.2⟩, fun q => h.2 (hs _ q)⟩ hz (RepL.mono st hs r)
  | _, _, .itm h hz r => .itm ⟨st _ _ h.1 h.2, fun q => h.2 (hs _ q)⟩ hz (RepL.mono st hs r)
  | _, _, .lst h n hz r => .lst (st _ _ h n) (fun q => n (hs _ q)) hz (RepL.mono st hs r)
  | _, _, .ins h n r => .ins (st _ _ h n) (fun q => n (hs _ q)) (RepF.mono st hs r)
  | _, _, .dct h n r => .dct (st _ _ h n) (fun q => n (hs _ q)) (RepK.mono st hs r)
  | _, _, .pen => .pen
theorem RepL.mono (st : StepF F H H') (hs : ∀ a, F' a → F a) : ∀ {v : List V} {d : List D}, RepL K p H F v d → RepL K p H' F' v d
  | _, _, .nil => .nil
  | _, _, .cons h r => .cons (Rep.mono st hs h) (RepL.mono st hs r)
theorem RepF.mono (st : StepF F H H') (hs : ∀ a, F' a → F a) : ∀ {v : List (Str × V)} {d : List (Str × D)}, RepF K p H F v d → RepF K p H' F' v d
  | _, _, .nil => .nil
  | _, _, .cons h r => .cons (Rep.mono st hs h) (RepF.mono st hs r)
theorem RepK.mono (st : StepF F H H') (hs : ∀ a, F' a → F a) : ∀ {v : List (Key × V)} {d : List (D × D)}, RepK K p H F v d → RepK K p H' F' v d
  | _, _, .nil => .nil
  | _, _, .int h r => .int (Rep.mono st hs h) (RepK.mono st hs r)
  | _, _, .str h r => .str (Rep.mono st hs h) (RepK.mono st hs r)
end
mutual
theorem Rep.more {N : Addr → Prop} (hq : ∀ a, N a → H a = none) : ∀ {v : V} {d : D}, Rep K p H F v d → Rep K p H (fun a => F a ∨ N a) v d
  | _, _, .non => .non
  | _, _, .bl b => .bl b
  | _, _, .int i => .int i
  | _, _, .str s h => .str s h
  | _, _, .tup h hz r => .tup ⟨h.1, fun w => w.elim h.2 fun q => h.1.elim fun o e => ne_of_none e.1 (hq _ q) rfl⟩ hz (RepL.more hq r)
  | _, _, .itm h hz r => .itm ⟨h.1, fun w => w.elim h.2 fun q => ne_of_none h.1 (hq _ q) rfl⟩ hz (RepL.more hq r)
  | _, _, .lst h n hz r => .lst h (fun w => w.elim n fun q => ne_of_none h (hq _ q) rfl) hz (RepL.more hq r)
  | _, _, .ins h n r => .ins h (fun w => w.elim n fun q => ne_of_none h (hq _ q) rfl) (RepF.more hq r)
  | _, _, .dct h n r => .dct h (fun w => w.elim n fun q => ne_of_none h (hq _ q) rfl) (RepK.more hq r)
  | _, _, .pen => .pen
theorem RepL.more {N : Addr → Prop} (hq : ∀ a, N a → H a = none) : ∀ {v : List V} {d : List D}, RepL K p H F v d → RepL K p H (fun a => F a ∨ N a) v d
  | _, _, .nil => .nil
  | _, _, .cons h r => .cons (Rep.more hq h) (RepL.more hq r)
theorem RepF.more {N : Addr → Prop} (hq : ∀ a, N a → H a = none) : ∀ {v : List (Str × V)} {d : List (Str × D)}, RepF K p H F v d → RepF K p H (fun a => F a ∨ N a) v d
  | _, _, .nil => .nil
  | _, _, .cons h r => .cons (Rep.more hq h) (RepF.more hq r)
theorem RepK.more {N : Addr → Prop} (hq : ∀ a, N a → H a = none) : ∀ {v : List (Key × V)} {d : List (D × D)}, RepK K p H F v d → RepK K p H (fun a => F a ∨ N a) v d
  | _, _, .nil => .nil
  | _, _, .int h r => .int (Rep.more hq h) (RepK.more hq r)
  | _, _, .str h r => .str (Rep.more hq h) (RepK.more hq r)
end
theorem RepL.length : ∀ {vs : List V} {ds : List D}, RepL K p H F vs ds → vs.length = ds.length
  | _, _, .nil => rfl
  | _, _, .cons _ r => by rw [List.length_cons, List.length_cons, RepL.length r]
theorem RepL.get : ∀ {vs : List V} {ds : List D} {i : Nat} {d : D}, RepL K p H F vs ds → ds[i]? = some d → ∃ v, vs[i]? = some v ∧ Rep K p H F v d
  | _, _, _, _, .nil, e =>
      by simp at e
  | _, _, 0, _, .cons h _, e => by simp at e; subst e; exact ⟨_, rfl, h⟩
  | _, _, i + 1, d, .cons _ r, e => by
    obtain ⟨v, h1, h2⟩ := RepL.get (i := i) (d := d) r (by simpa using e)
    exact ⟨v, by simpa using h1, h2⟩
theorem RepL.append : ∀ {vs ws : List V} {ds es : List D}, RepL K p H F vs ds → RepL K p H F ws es → RepL K p H F (vs ++ ws) (ds ++ es)
  | _, _, _, _, .nil, h => h
  | _, _, _, _, .cons h r, q => .cons h (RepL.append r q)
theorem RepL.take : ∀ {vs : List V} {ds : List D} (n : Nat), RepL K p H F vs ds → RepL K p H F (vs.take n) (ds.take n)
  | _, _, 0, _ => .nil
  | _, _, _ + 1, .nil => .nil
  | _, _, n + 1, .cons h r => .cons h (RepL.take n r)
theorem RepL.drop : ∀ {vs : List V} {ds : List D} (n : Nat), RepL K p H F vs ds → RepL K p H F (vs.drop n) (ds.drop n)
  | _, _, 0, r => r
  | _, _, _ + 1, .nil => .nil
  | _, _, n + 1, .cons _ r => RepL.drop n r
theorem RepL.set {v : V} {d : D} (h : Rep K p H F v d) : ∀ {vs : List V} {ds : List D} (i : Nat), RepL K p H F vs ds → RepL K p H F (vs.set i v) (ds.set i d)
  | _, _, _, .nil => .nil
  | _, _, 0, .cons _ r => .cons h r
  | _, _, i + 1, .cons q r => .cons q (RepL.set h i r)
theorem RepL.eraseIdx : ∀ {vs : List V} {ds : List D} (i : Nat), RepL K p H F vs ds → RepL K p H F (vs.eraseIdx i) (ds.eraseIdx i)
  | _, _, _, .nil => .nil
  | _, _, 0, .cons _ r => r
  | _, _, i + 1, .cons q r => .cons q (RepL.eraseIdx i r)
theorem RepL.reverse : ∀ {vs : List V} {ds : List D}, RepL K p H F vs ds → RepL K p H F vs.reverse ds.reverse
  | _, _, .nil => .nil
  | _, _, .cons h r => by
    rw [List.reverse_cons,
        List.reverse_cons]
    exact RepL.append (RepL.reverse r) (.cons h .nil)
theorem RepL.ints : ∀ (is : List Int), RepL K p H F (is.map V.int) (is.map D.int)
  | [] => .nil
  | i :: r => .cons (.int i) (RepL.ints r)
theorem RepF.lookup {x : Str} {d : D} : ∀ {vs : List (Str × V)} {ds : List (Str × D)}, RepF K p H F vs ds → ds.lookup x = some d → ∃ v, vs.lookup x = some v ∧ Rep K p H F v d
  | _, _, .nil, e => by simp at e
  | _, _, .cons (f := f) h r, e => by
    rw [List.lookup_cons] at e
    cases q : (x == f) with
    | true =>
      rw [q] at e
      cases e
      exact ⟨_, by rw [List.lookup_cons, q], h⟩
    | false =>
      rw [q] at e
      obtain ⟨v, h1, h2⟩ := RepF.lookup r e
      exact ⟨v, by rw [List.lookup_cons, q]; exact h1, h2⟩
end
/-! ### data without lists, dicts -/
mutual
def D.imm : D → Bool
  | .non | .bl _ | .int _ | .str _ | .pen => true
  | .tup xs => immL xs
  | .itm xs => immL xs
  | .ins _ fs => immF fs
  | .lst _ | .dct _ | .fn _ => false
def immL : List D → Bool
  | [] => true
  | d :: ds => d.imm && immL ds
def immF : List (Str × D) → Bool
  | [] => true
  | d :: ds => d.2.imm && immF ds
end
/-- what a def may own and change -/
def MtO : HO → Prop
  | .lst _ | .dK _ | .dT _ | .set _ _ => True
  | _ => False
section
variable {K : PySem.W.Frag} {p : PL} {H : Hp} {F F' : Addr → Prop}
mutual
theorem Rep.free (hm : ∀ a o, F' a → ¬ F a → H a = some o → MtO o) : ∀ {v : V} {d : D}, Rep K p H F v d → d.imm = true → Rep K p H F' v d
  | _, _, .non, _ => .non
  | _, _, .bl b, _ => .bl b
  | _, _, .int i, _ => .int i
  | _, _, .str s h, _ => .str s h
  | _, _, .tup h hz r, e => .tup ⟨h.1, fun q => h.1.elim fun o w => (show MtO (.frz _ _) from hm _ _ q h.2 w.1)⟩ hz (RepL.free hm r e)
  | _, _, .itm h hz r, e => .itm ⟨h.1, fun q => (show MtO (.tup _) from hm _ _ q h.2 h.1)⟩ hz (RepL.free hm r e)
  | _, _, .ins h n r, e => .ins h (fun q => (show MtO (.ins _ _ _) from hm _ _ q n h)) (RepF.free hm r e)
  | _, _, .pen, _ => .pen
theorem RepL.free (hm : ∀ a o, F' a → ¬ F a → H a = some o → MtO o) : ∀ {v : List V} {d : List D}, RepL K p H F v d → immL d = true → RepL K p H F' v d
  | _, _, .nil, _ => .nil
  | _, _, .cons h r, e => .cons (Rep.free hm h (Bool.and_eq_true_iff.mp e).1) (RepL.free hm r (Bool.and_eq_true_iff.mp e).2)
theorem RepF.free (hm : ∀ a o, F' a → ¬ F a → H a = some o → MtO o) : ∀ {v : List (Str × V)} {d : List (Str × D)}, RepF K p H F v d → immF d = true → RepF K p H F' v d
  | _, _, .nil, _ => .nil
  | _, _, .cons h r, e => .cons (Rep.free hm h (Bool.and_eq_true_iff.mp e).1) (RepF.free hm r (Bool.and_eq_true_iff.mp e).2)
end
end
section
variable {K : PySem.W.Frag} {p p' : PL} {H : Hp} {F : Addr → Prop}
mutual
theorem Rep.swap (e : p.pa = p'.pa) : ∀ {v : V} {d : D}, Rep K p H F v d → Rep K p' H F v d
  | _, _, .non => .non
  | _, _, .bl b => .bl b
  | _, _, .int i => .int i
  | _, _, .str s h => .str s h
  | _, _, .tup h hz r => .tup h hz (RepL.swap e r)
  | _, _, .itm h hz r => .itm h hz (RepL.swap e r)
  | _, _, .lst h n hz r => .lst h n hz (RepL.swap e r)
  | _, _, .ins h n r => .ins h n (RepF.swap e r)
  | _, _, .dct h n r => .dct h n (RepK.swap e r)
  | _, _, .pen => by rw [e]; exact .pen
theorem RepL.swap (e : p.pa = p'.pa) : ∀ {v : List V} {d : List D}, RepL K p H F v d → RepL K p' H F v d
  | _, _, .nil => .nil
  | _, _, .cons h r => .cons (Rep.swap e h) (RepL.swap e r)
theorem RepF.swap (e : p.pa = p'.pa) : ∀ {v : List (Str × V)} {d : List (Str × D)}, RepF K p H F v d → RepF K p' H F v d
  | _, _, .nil => .nil
  | _, _, .cons h r => .cons (Rep.swap e h) (RepF.swap e r)
theorem RepK.swap (e : p.pa = p'.pa) : ∀ {v : List (Key × V)} {d : List (D × D)}, RepK K p H F v d → RepK K p' H F v d
  | _, _, .nil => .nil
  | _, _, .int h r => .int (Rep.swap e h) (RepK.swap e r)
  | _, _, .str h r => .str (Rep.swap e h) (RepK.swap e r)
end
/-- fields stored -/
theorem RepF.put {f : Str} {v : V} {d : D} (h : Rep K p H F v d) : ∀ {vs : List (Str × V)} {ds : List (Str × D)}, RepF K p H F vs ds → RepF K p H F (putF f v vs) (putD f d ds)
  | _, _, .nil => .cons h .nil
  | _, _, .cons (f := g) q r => by
    show RepF K p H F (if g = f then (g, v) :: _ else (g, _) :: putF f v _) (if g = f then (g, d) :: _ else (g, _) :: putD f d _)
    by_cases e : g = f
    · rw [if_pos e, if_pos e]
      exact .cons h r
    · rw [if_neg e, if_neg e]
      exact .cons q (RepF.put h r)
theorem RepF.length : ∀ {vs : List (Str × V)} {ds : List (Str × D)}, RepF K p H F vs ds → vs.length = ds.length
  | _, _, .nil => rfl
  | _, _, .cons _ r => by rw [List.length_cons, List.length_cons, RepF.length r]
end
end Say

namespace Say
open L2 PyProof.Rows PySem.Spec PySem

/-! ### the pen in the heap -/
structure Pen.Ok (s : Pen) : Prop where
  cl : s.cells.length ≤ 63
  d0 : 0 ≤ s.digits
  c0 : 0 ≤ s.count
  f0 : 0 ≤ s.fold
  fb : s.fold < 2147483563
def penKV (p : PL) (s : Pen) : List (Key × V) := [(.inr "cells", .ref p.ca), (.inr "at", .int (s.pos : Int)), (.inr "digits", .int s.digits), (.inr "count", .int s.count), (.inr "fold", .int s.fold)]
structure PenAt (H : Hp) (p : PL) (s : Pen) : Prop where
  dict : H p.pa = some (.dK (penKV p s))
  cells : H p.ca = some (.lst (s.cells.map V.int))
  ok : s.Ok
  tabs : LamX.Tabs p.T H
theorem PenAt.ne {H : Hp} {p : PL} {s : Pen} (h : PenAt H p s) : p.ca ≠ p.pa := fun e => by
  have h1 := h.cells
  rw [e, h.dict] at h1
  cases h1
/-- all that was tracked is as it was, the pen too -/
theorem PenAt.same {H H' : Hp} {p : PL} {s : Pen} (h : PenAt H p s) (st : Same H H') : PenAt H' p s := ⟨st _ _ h.dict, st _ _ h.cells, h.ok, h.tabs.ext st⟩
theorem PenAt.noEx {H : Hp} {p : PL} {s : Pen} (h : PenAt H p s) {a : Addr} (z : p.no a) : ∃ o, H a = some o := by
  rcases z with z | z
  · exact ⟨_, by rw [z]; exact h.dict⟩
  · obtain ⟨t, ht, e⟩ := List.mem_map.mp z
    obtain ⟨ps, q, _⟩ := h.tabs t ht
    exact ⟨_, by rw [← e]; exact q⟩
theorem PenAt.notNo {H : Hp} {p : PL} {s : Pen} (h : PenAt H p s) {a : Addr} (n : H a = none) : ¬ p.no a := fun z => by
  obtain ⟨o, e⟩ := h.noEx z
  rw [n] at e
  cases e
/-- neither a table nor a code object -/
def Pln (o : HO) : Prop := (∀ ps, o ≠ .tbl ps) ∧ ∀ x y, o ≠ LamX.CodeO x y
theorem pln_lst {xs : List V} : Pln (.lst xs) := ⟨fun _ z => (by cases z), fun _ _ z => (by unfold LamX.CodeO at z; cases z)⟩
theorem pln_dK {xs : List (Key × V)} : Pln (.dK xs) := ⟨fun _ z => (by cases z), fun _ _ z => (by unfold LamX.CodeO at z; cases z)⟩
theorem pln_ins {c d : Addr} {xs : List (Str × V)} : Pln (.ins c d xs) := ⟨fun _ z => (by cases z), fun _ _ z => (by unfold LamX.CodeO at z; cases z)⟩
theorem tabs_upd {T : List (Addr × Str)} {H : Hp} {q : Addr} {o u : HO} (h : LamX.Tabs T H) (e : H q = some o) (hp : Pln o) : LamX.Tabs T (upd H q u) := fun t ht => by
  obtain ⟨ps, h1, h2, h3⟩ := h t ht
  refine ⟨ps, (upd_ne fun z => hp.1 ps (by rw [z, e] at h1; exact Option.some.inj h1)).trans h1, h2, fun pos cv hc => ?_⟩
  obtain ⟨c, e1, e2⟩
      := h3 pos cv hc
  exact ⟨c, e1, (upd_ne fun z => hp.2 _ _ (by rw [z, e] at e2; exact Option.some.inj e2)).trans e2⟩
theorem same_step {H H' : Hp} {p : PL} (st : Same H H') : Step p H H' := fun a o e _ => st a o e
theorem same_new {H : Hp} {q : Addr} {o : HO} (h : H q = none) : Same H (upd H q o) := fun a u e => by
  rw [upd_ne (ne_of_none e h)]
  exact e

/-! ### the environment of a def -/
inductive Sl where
  | no | dat (d : D) | own (d : D) | self (c : Str) (fs : List (Str × D))
deriving Inhabited
abbrev Env := List Sl
def OwnAt (K : PySem.W.Frag) (p : PL) (H : Hp) (F : Addr → Prop) (a : Addr) : Sl → Prop
  | .own (.lst ds) => ∃ vs, H a = some (.lst vs) ∧ ds.length ≤ 16777216 ∧ RepL K p H F vs ds
  | .own (.dct ds) => ∃ vs, H a = some (.dK vs) ∧ RepK K p H F vs ds
  | .self c fs => a = p.sx ∧ ∃ dx vfs, H a = some (.ins (He.ga K c) dx vfs) ∧ vfs.length ≤ 900 ∧ RepF K p H F vfs fs
  | _ => False
def Sl.held : Sl → Bool
  | .own _ | .self _ _ => true
  | _ => false
/-- what must not be touched by what is carried: G and the objects that the def owns -/
def Fo (G : Addr → Prop) (ρ : Env) (σ : L2.St) : Addr → Prop := fun a => G a ∨ ∃ (i : Nat) (x : Sl), ρ[i]? = some x ∧ x.held = true ∧ σ[i]? = some (some (.ref a))
structure Rel (K : PySem.W.Frag) (p : PL) (G : Addr → Prop) (H0 : Hp) (ρ : Env) (σ : L2.St) (H : Hp) (s : Pen) : Prop where
  len : ρ.length = σ.length
  dat : ∀ (i : Nat) (d : D), ρ[i]? = some (.dat d) → ∃ v, σ[i]? = some (some v) ∧ Rep K p H (Fo G ρ σ) v d
  own : ∀ (i : Nat) (x : Sl), ρ[i]? = some x → x.held = true → ∃ a, σ[i]? = some (some (.ref a)) ∧ H0 a = none ∧ OwnAt K p H (Fo G ρ σ) a x
  inj : ∀ (i j : Nat) (x y : Sl) (a : Addr), ρ[i]? = some x → x.held = true → ρ[j]? = some y → y.held = true → σ[i]? = some (some (.ref a)) → σ[j]? = some (some (.ref a)) → i = j
  old : Step p H0 H
  pen : PenAt H p s
  gpa : ∀ a, p.no a → G a
  gca : G p.ca
  gex : ∀ a, G a → ∃ o, H a = some o
  gne : ∀ (i : Nat) (x : Sl) (a : Addr), ρ[i]? = some x → x.held = true → σ[i]? = some (some (.ref a)) → ¬ G a
theorem OwnAt.mono {K : PySem.W.Frag} {p : PL} {H H' : Hp} {F F' : Addr → Prop} {a : Addr} {x : Sl} (h : OwnAt K p H F a x) (e : ∀ o, H a = some o → H' a = some o) (st : StepF F H H') (hs : ∀ a, F' a → F a) : OwnAt K p H' F' a x := by
  cases x with
  | no => exact h.elim
  | dat d => exact h.elim
  | self c fs =>
    obtain ⟨hx, dx, vs, h1, h0, h2⟩ := h
    exact ⟨hx, dx, vs, e _ h1, h0, h2.mono st hs⟩
  | own d =>
    cases d with
    | lst ds =>
      obtain ⟨vs, h1, hz, h2⟩ := h
      exact ⟨vs, e _ h1, hz, h2.mono st hs⟩
    | dct ds =>
      obtain ⟨vs, h1, h2⟩ := h
      exact ⟨vs, e _ h1, h2.mono st hs⟩
    | _ => exact h.elim
theorem OwnAt.there {K : PySem.W.Frag} {p : PL} {H : Hp} {F : Addr → Prop} {a : Addr} {x : Sl} (h : OwnAt K p H F a x) : ∃ o, H a = some o ∧ (∀ d, x = .own d → MtO o) := by
  cases x with
  | no => exact h.elim
  | dat d => exact h.elim
  | self c fs =>
    obtain ⟨hx, dx, vs, h1, h0, h2⟩ := h
    exact ⟨_, h1, fun d e => by cases e⟩
  | own d =>
    cases d with
    | lst ds =>
      obtain ⟨vs, h1, hz, h2⟩ := h
      exact ⟨_, h1, fun _ _ => trivial⟩
    | dct ds =>
      obtain ⟨vs, h1, h2⟩ := h
      exact ⟨_, h1, fun _ _ => trivial⟩
    | _ => exact h.elim
theorem OwnAt.pln {K : PySem.W.Frag} {p : PL} {H : Hp} {F : Addr → Prop} {a : Addr} {x : Sl} (h : OwnAt K p H F a x) : ∃ o, H a = some o ∧ Pln o := by
  cases x with
  | no => exact h.elim
  | dat d => exact h.elim
  | self c fs =>
    obtain ⟨hx, dx, vs, h1, h0, h2⟩ := h
    exact ⟨_, h1, pln_ins⟩
  | own d =>
    cases d with
    | lst ds =>
      obtain ⟨vs, h1, hz, h2⟩ := h
      exact ⟨_, h1, pln_lst⟩
    | dct ds =>
      obtain ⟨vs, h1, h2⟩ := h
      exact ⟨_, h1, pln_dK⟩
    | _ => exact h.elim
section
variable {K : PySem.W.Frag} {p : PL} {G : Addr → Prop} {H0 H H' : Hp} {ρ : Env} {σ : L2.St} {s s' : Pen}
theorem Rel.fpa (r : Rel K p G H0 ρ σ H s) : ∀ a, p.no a → Fo G ρ σ a := fun a z => .inl (r.gpa a z)
theorem Rel.ownNe (r : Rel K p G H0 ρ σ H s) {i : Nat} {x : Sl} {a : Addr} (e : ρ[i]? = some x) (hx : x.held = true) (e2 : σ[i]? = some (some (.ref a))) : ¬ G a := r.gne i x a e hx e2
theorem gex_step (gex : ∀ a, G a → ∃ o, H a = some o) (st : Step p H H') (pn : PenAt H' p s') : ∀ a, G a → ∃ o, H' a = some o := fun a ha => by
  obtain ⟨o, ho⟩ := gex a ha
  by_cases hp : p.no a
  · exact pn.noEx hp
  · exact ⟨o, st a o ho hp⟩
/-- behind an expression -/
theorem Rel.step (r : Rel K p G H0 ρ σ H s) (st : Step p H H') (pn : PenAt H' p s') : Rel K p G H0 ρ σ H' s' where
  len := r.len
  dat := fun i d e => by
    obtain ⟨v, h1, h2⟩ := r.dat i d e
    exact ⟨v, h1, h2.mono (st.toF r.fpa) fun _ z => z⟩
  own := fun i d e hx => by
    obtain ⟨a, h1, h2, h3⟩ := r.own i d e hx
    refine ⟨a, h1, h2, h3.mono (fun o ho => st a o ho fun z => ?_) (st.toF r.fpa) fun _ z => z⟩
    exact r.ownNe e hx h1 (r.gpa _ z)
  inj := r.inj
  old := r.old.trans st
  pen := pn
  gpa := r.gpa
  gca := r.gca
  gex := gex_step r.gex st pn
  gne := r.gne
end
def Sl.thaw : Sl → Sl
  | .own d => .dat d
  | x => x
def thaw (ρ : Env) : Env := ρ.map Sl.thaw
theorem thaw_get {ρ : Env} {i : Nat} {d : D} (h : (thaw ρ)[i]? = some (.dat d)) : ρ[i]? = some (.dat d) ∨ ρ[i]? = some (.own d) := by
  unfold thaw at h
  rw [List.getElem?_map] at h
  cases e : ρ[i]? with
  | none => rw [e]
      at h; cases h
  | some x =>
    rw [e] at h
    cases x with
    | no => cases h
    | dat z => cases h; exact .inl rfl
    | own z => cases h; exact .inr rfl
    | self c fs => cases h
theorem thaw_held {ρ : Env} {i : Nat} {x : Sl} (h : (thaw ρ)[i]? = some x) (hx : x.held = true) : ρ[i]? = some x ∧ ∀ d, x ≠ .own d := by
  unfold thaw at h
  rw [List.getElem?_map] at h
  cases e : ρ[i]? with
  | none => rw [e]
      at h; cases h
  | some y =>
    rw [e] at h
    cases y with
    | no => cases h; cases hx
    | dat z => cases h; cases hx
    | own z => cases h; cases hx
    | self c fs =>
      cases h
      exact ⟨rfl, fun d e => by cases e⟩
section
variable {K : PySem.W.Frag} {p : PL} {G : Addr → Prop} {H0 H H' : Hp} {ρ : Env} {σ : L2.St} {s s' : Pen}
theorem fo_thaw {a : Addr} (h : Fo G (thaw ρ) σ a) : Fo G ρ σ a := by
  rcases h with h | ⟨i, x, h, hx, e⟩
  · exact .inl h
  · exact .inr ⟨i, x, (thaw_held h hx).1, hx, e⟩
theorem Rel.thaw (r : Rel K p G H0 ρ σ H s) : Rel K p G H0 (thaw ρ) σ H s where
  len := by
    unfold Say.thaw
    rw [List.length_map]
    exact r.len
  dat := fun i d e => by
    rcases thaw_get e with e | e
    · obtain ⟨v, h1, h2⟩ := r.dat i d e
      exact ⟨v, h1, h2.mono (fun _ _ z _ => z) fun _ => fo_thaw⟩
    · obtain ⟨a, h1, h2, h3⟩ := r.own i (.own d) e rfl
      refine ⟨_, h1, ?_⟩
      have n : ¬ Fo G (Say.thaw ρ) σ a := fun z => by
        rcases z with z | ⟨j, x, q1, hx, q2⟩
        · exact r.ownNe e rfl h1 z
        · obtain ⟨q3, q4⟩ := thaw_held q1 hx
          have ej := r.inj i j _ _ a e rfl q3 hx h1 q2
          subst ej
          rw [e] at q3
          exact q4 d (Option.some.inj q3).symm
      cases d with
      | lst ds =>
        obtain ⟨vs, q1, hz, q2⟩ := h3
        exact .lst q1 n hz (q2.mono (fun _ _ z _ => z) fun _ => fo_thaw)
      | dct ds =>
        obtain ⟨vs, q1, q2⟩ := h3
        exact .dct q1 n (q2.mono (fun _ _ z _ => z) fun _ => fo_thaw)
      | _ => exact h3.elim
  own := fun i x e hx => by
    obtain ⟨q, _⟩ := thaw_held e hx
    obtain ⟨a, h1, h2, h3⟩ := r.own i x q hx
    exact ⟨a, h1, h2, h3.mono (fun _ z => z) (fun _ _ z _ => z) fun _ => fo_thaw⟩
  inj := fun i j x y a h hx h' hy => r.inj i j x y a (thaw_held h hx).1 hx (thaw_held h' hy).1 hy
  old := r.old
  pen := r.pen
  gpa := r.gpa
  gca := r.gca
  gex := r.gex
  gne := fun i x a h hx => r.gne i x a (thaw_held h hx).1 hx
/-- what is owned, not by self, is a list or a dict -/
theorem Rel.mt (r : Rel K p G H0 ρ σ H s) : ∀ a o, Fo G ρ σ a → ¬ Fo G (Say.thaw ρ) σ a → H a = some o → MtO o := fun a o f n e => by
  rcases f with g | ⟨i, x, e1, hx, e2⟩
  · exact (n (.inl g)).elim
  · obtain ⟨b, h1, h2, h3⟩ := r.own i x e1 hx
    rw [e2] at h1
    cases h1
    obtain ⟨u, hu, hm⟩ := h3.there
    rw [hu] at e
    cases e
    cases x with
    | own d => exact hm d rfl
    | no => cases hx
    | dat d => cases hx
    | self c fs =>
      refine (n (.inr ⟨i, .self c fs, ?_, rfl, e2⟩)).elim
      unfold Say.thaw
      rw [List.getElem?_map, e1]
      rfl
theorem Rel.fresh (r : Rel K p G H0 ρ σ H s) {q : Addr} (h : H q = none) : ¬ Fo G ρ σ q := fun z => by
  rcases z with g | ⟨i, d, e1, hx, e2⟩
  · obtain ⟨u, hu⟩ := r.gex q g
    rw [hu] at h
    cases h
  · obtain ⟨b, h1, h2, h3⟩ := r.own i d e1 hx
    rw [e2] at h1
    cases h1
    obtain ⟨u, hu, hm⟩ := h3.there
    rw [hu] at h
    cases h
end

/-! ### judgements -/
section
variable (X : Cx) (p : PL)
def tE (e : Expr) : TE := fun σ H Q => ∀ (pins : List (Addr × Obj)) (s : Shared), Inv X pins σ H s → wpAny (model X.prog X.w) X.A (eval e X.env) (EP X pins σ Q) X.xe s
def tT (e : Expr) : TT := fun σ H Q => ∀ (pins : List (Addr × Obj)) (s : Shared), Inv X pins σ H s → wpAny (model X.prog X.w) X.A (isTrue e X.env (eval e X.env)) (TP X pins σ Q) X.xe s
def tW (e : Expr) : TT := fun σ H Q => ∀ (whole : Sem Value) (pins : List (Addr × Obj)) (s : Shared), Inv X pins σ H s → wpAny (model X.prog X.w) X.A (isTrue e X.env whole) (TP X pins σ Q) X.xe s
def tA (es : List Expr) : TA := fun σ H Q => ∀ (pos : Pos) (pins : List (Addr × Obj)) (s : Shared), Inv X pins σ H s → wpAny (model X.prog X.w) X.A (spliced (backTo pos (starEach es X.env))) (AP X pins σ Q) X.xe s
def tS (st : Stmt) : TS := fun D σ H => ∀ (pins : List (Addr × Obj)) (s : Shared), Inv X pins σ H s → wpAny (model X.prog X.w) X.A (exec st X.env) (SP X pins D) X.xe s
def tSs (st : List Stmt) : TS := fun D σ H => ∀ (pins : List (Addr × Obj)) (s : Shared), Inv X pins σ H s → wpAny (model X.prog X.w) X.A (execs st X.env) (SP X pins D) X.xe s
variable {X}
theorem pe_self {e : Expr} : PE X e (tE X e) := ⟨fun pins s σ H Q I h => h pins s I⟩
theorem pt_self {e : Expr} : PT X e (tT X e) := ⟨fun pins s σ H Q I h => h pins s I⟩
theorem pw_self {e : Expr} : PW X e (tW X e) := ⟨fun wh pins s σ H Q I h => h wh pins s I⟩
theorem pa_self {es : List Expr} : PA X es (tA X es) := ⟨fun pos pins s σ H Q I h => h pos pins s I⟩
theorem ps_self {st : Stmt} : PS X st (tS X st) := ⟨fun pins s σ H Q I h => h pins s I⟩
theorem pss_self {st : List Stmt} : PSs X st (tSs X st) := ⟨fun pins s σ H Q I h => h pins s I⟩
theorem tE_of {e : Expr} {t : TE} {σ : L2.St} {H : Hp} {Q : VK} (h : PE X e t) (q : t σ H Q) : tE X e σ H Q := fun pins s I => h.run pins s σ H Q I q
theorem tT_of {e : Expr} {t : TT} {σ : L2.St} {H : Hp} {Q : Bool → Hp → Prop} (h : PT X e t) (q : t σ H Q) : tT X e σ H Q := fun pins s I => h.run pins s σ H Q I q
theorem tW_of {e : Expr} {t : TT} {σ : L2.St} {H : Hp} {Q : Bool → Hp → Prop} (h : PW X e t) (q : t σ H Q) : tW X e σ H Q := fun wh pins s I => h.run wh pins s σ H Q I q
theorem tA_of {es : List Expr} {t : TA} {σ : L2.St} {H : Hp} {Q : List V → Hp → Prop} (h : PA X es t) (q : t σ H Q) : tA X es σ H Q := fun pos pins s I => h.run pos pins s σ H Q I q
theorem tS_of {st : Stmt} {t : TS} {σ : L2.St} {H : Hp} {D : Ends} (h : PS X st t) (q : t D σ H) : tS X st D σ H := fun pins s I => h.run pins s σ H D I q
theorem tSs_of {st : List Stmt} {t : TS} {σ : L2.St} {H : Hp} {D : Ends} (h : PSs X st t) (q : t D σ H) : tSs X st D σ H := fun pins s I => h.run pins s σ H D I q
end
/-- an exception's own dict -/
def ExD (H : Hp) (dx : Addr) (vfs : List (Str × V)) : Prop := H dx = some (.xd vfs)
/-- behind: the heap has grown, the pen may have moved -/
structure Af (p : PL) (H H' : Hp) (s' : Pen) : Prop where
  st : Step p H H'
  pen : PenAt H' p s'
theorem Af.trans {p : PL} {H H1 H2 : Hp} {s1 s2 : Pen} (a : Af p H H1 s1) (b : Af p H1 H2 s2) : Af p H H2 s2 := ⟨a.st.trans b.st, b.pen⟩
theorem Af.same {p : PL} {H H' : Hp} {s : Pen} (h : PenAt H p s) (st : Same H H') : Af p H H' s := ⟨same_step st, h.same st⟩
theorem Af.refl {p : PL} {H : Hp} {s : Pen} (h : PenAt H p s) : Af p H H s := ⟨.refl, h⟩
/-- what is wanted of an exception -/
def PX (X : Cx) (p : PL) (W : WX) (F : Addr → Prop) (σ : L2.St) (H : Hp) (Ex : Str → List (Str × D) → Pen → Prop) : Prop :=
  ∀ c fs s' dx vfs H', Ex c fs s' → Af p H H' s' → ExD H' dx vfs → RepF X.K p H' F vfs fs → W (.ref (He.ga X.K c)) (some dx) σ H'
theorem PX.at {X : Cx} {p : PL} {W : WX} {F : Addr → Prop} {σ : L2.St} {H H1 : Hp} {s1 : Pen} {Ex : Str → List (Str × D) → Pen → Prop} (h : PX X p W F σ H Ex) (a : Af p H H1 s1) : PX X p W F σ H1 Ex :=
  fun c fs s' dx vfs H' e a' => h c fs s' dx vfs H' e (a.trans a')
abbrev XR := Str → List (Str × D) → Pen → Prop
structure DE (X : Cx) (p : PL) (e : Expr) (f : Env → M D) : Prop where
  run : ∀ (W : WX) (G : Addr → Prop) (H0 : Hp) (ρ : Env) (σ : L2.St) (H : Hp) (s : Pen) (R : D → Pen → Prop) (Ex : XR) (Q : VK), Takes X W → Rel X.K p G H0 ρ σ H s → wpM (f ρ) s R Ex →
    (∀ d s' v H', R d s' → Af p H H' s' → Rep X.K p H' (Fo G ρ σ) v d → Q v H') → PX X p W G σ H Ex → tE X e σ H Q
/-- a new list -/
structure DN (X : Cx) (p : PL) (e : Expr) (f : Env → M (List D)) : Prop where
  run : ∀ (W : WX) (G : Addr → Prop) (H0 : Hp) (ρ : Env) (σ : L2.St) (H : Hp) (s : Pen) (R : List D → Pen → Prop) (Ex : XR) (Q : VK), Takes X W → Rel X.K p G H0 ρ σ H s → wpM (f ρ) s R Ex →
    (∀ ds s' a vs H', R ds s' → Af p H H' s' → H a = none → H' a = some (.lst vs) → ds.length ≤ 16777216 → RepL X.K p H' (fun b => Fo G ρ σ b ∨ b = a) vs ds → Q (.ref a) H') → PX X p W G σ H Ex → tE X e σ H Q
structure DT (X : Cx) (p : PL) (e : Expr) (f : Env → M Bool) : Prop where
  run : ∀ (W : WX) (G : Addr → Prop) (H0 : Hp) (ρ : Env) (σ : L2.St) (H : Hp) (s : Pen) (R : Bool → Pen → Prop) (Ex : XR) (Q : Bool → Hp → Prop), Takes X W → Rel X.K p G H0 ρ σ H s → wpM (f ρ) s R Ex →
    (∀ d s' H', R d s' → Af p H H' s' → Q d H') → PX X p W G σ H Ex → tT X e σ H Q
structure DW (X : Cx) (p : PL) (e : Expr) (f : Env → M Bool) : Prop where
  run : ∀ (W : WX) (G : Addr → Prop) (H0 : Hp) (ρ : Env) (σ : L2.St) (H : Hp) (s : Pen) (R : Bool → Pen → Prop) (Ex : XR) (Q : Bool → Hp → Prop), Takes X W → Rel X.K p G H0 ρ σ H s → wpM (f ρ) s R Ex →
    (∀ d s' H', R d s' → Af p H H' s' → Q d H') → PX X p W G σ H Ex → tW X e σ H Q
/-- one after another -/
def seqA {β : Type} : List (Env → M D) → Env → (List D → M β) → M β
  | [], _, k => k []
  | f :: fs, ρ, k => f ρ >>= fun x => seqA fs ρ fun xs => k (x :: xs)
structure DA (X : Cx) (p : PL) (es : List Expr) (fs : List (Env → M D)) : Prop where
  run : ∀ (β : Type) (k : List D → M β) (W : WX) (G : Addr → Prop) (H0 : Hp) (ρ : Env) (σ : L2.St) (H : Hp) (s : Pen) (R : β → Pen → Prop) (Ex : XR) (Q : List V → Hp → Prop), Takes X W → Rel X.K p G H0 ρ σ H s → wpM (seqA fs ρ k) s R Ex →
    (∀ ds s' vs H', wpM (k ds) s' R Ex → Af p H H' s' → RepL X.K p H' (Fo G ρ σ) vs ds → ds.length = fs.length → Q vs H') → PX X p W G σ H Ex → tA X es σ H Q

/-! ### names, constants -/
def lift {α : Type} : Option α → M α
  | some a => pure a
  | none => bad
@[simp] theorem lift_some {α : Type} (a : α) : (lift (some a) : M α) = pure a := rfl
@[simp] theorem lift_none {α : Type} : (lift (none : Option α) : M α) = bad := rfl
def slD : Option Sl → M D
  | some (.dat d) => pure d
  | _ => bad
section
variable {X : Cx} {p : PL} {e a b : Expr} {f g : Env → M D} {pos : Pos}
theorem de_var (i : Nat) {x : Str} (hN : X.N[i]? = some x := by rfl) (hv : Vis X.env.scope x := by first | exact Or.inl rfl | exact Or.inr (Or.inl rfl) | exact Or.inr (Or.inr rfl)) (hd : (x == ("__debug__" : Str)) = false := by decide)
    (hcd : (x == ("__classdict__" : Str)) = false := by decide) : DE X p (.Name x pos) (fun ρ => slD ρ[i]?) := by
  refine ⟨fun W G H0 ρ σ H s R Ex Q tk r h q px => ?_⟩
  have h : wpM (slD ρ[i]?) s R Ex := h
  cases e : ρ[i]? with
  | none => rw [e] at h; exact h.elim
  | some x =>
    rw [e] at h
    cases x with
    | no => exact h.elim
    | own d => exact h.elim
    | self c fs => exact h.elim
    | dat d =>
      obtain ⟨v, h1, h2⟩ := r.dat i d e
      exact tE_of (pe_var hN hv hd hcd) ⟨v, h1, q d s v H h (.refl r.pen) h2⟩
theorem de_const {v : V} {d : D} (h : PE X e (tC v)) (hr : ∀ K p H F, Rep K p H F v d) : DE X p e (fun _ => pure d) :=
  ⟨fun W G H0 ρ σ H s R Ex Q tk r h1 q px => tE_of h (show Q v H from q d s v H h1 (.refl r.pen) (hr _ _ _ _))⟩
theorem de_int {i : Int} {j : Nat} : DE X p (.Constant (.int i) j pos) (fun _ => pure (.int i)) := de_const pe_int fun _ _ _ _ => .int i
theorem de_bl {i : Bool} {j : Nat} : DE X p (.Constant (.bool i) j pos) (fun _ => pure (.bl i)) := de_const pe_bl fun _ _ _ _ => .bl i
theorem de_non {j : Nat} : DE X p (.Constant .none j pos) (fun _ => pure .non) := de_const pe_non fun _ _ _ _ => .non
theorem de_str {x : Str} {j : Nat} (h : x.length ≤ sizeLine := by decide +kernel) : DE X p (.Constant (.str x) j pos) (fun _ => pure (.str x)) := de_const pe_str fun _ _ _ _ => .str x h
theorem de_glob {x : Str} {v : V} {u : Value} {d : D} (hg : Gl X x) (hm : X.mg x = some u) (r : RelV v u) (hr : ∀ K p H F, Rep K p H F v d) (hd : (x == ("__debug__" : Str)) = false := by decide) : DE X p (.Name x pos) (fun _ => pure d) := de_const (pe_glob hg hm r hd) hr

/-! ### operators: by values -/
def OpS (K : PySem.W.Frag) (p : PL) (r : R2) (g : D → D → Option D) : Prop :=
  ∀ (F : Addr → Prop) (H : Hp) (v1 v2 : V) (d1 d2 d : D) (Q : VK), (∀ a, p.no a → F a) → (∀ a, H a = none → ¬ F a) → Rep K p H F v1 d1 → Rep K p H F v2 d2 → g d1 d2 = some d → (∀ v H', Same H H' → Rep K p H' F v d → Q v H') → r v1 v2 H Q
def BinS (X : Cx) (p : PL) (op : Value → Value → Sem Value) (g : D → D → Option D) : Prop := ∃ r, OpR X op r ∧ OpS X.K p r g
theorem BinS.or {op : Value → Value → Sem Value} {g h : D → D → Option D} (a : BinS X p op g) (b : BinS X p op h) : BinS X p op (fun x y => (g x y).or (h x y)) := by
  obtain ⟨r, h1, h2⟩ := a
  obtain ⟨t, h3, h4⟩ := b
  refine ⟨_, h1.or h3, fun F H v1 v2 d1 d2 d Q hp hf r1 r2 e q => ?_⟩
  cases e1 : g d1 d2 with
  | some z =>
    have e : (g d1 d2).or (h d1 d2) = some d := e
    rw [e1] at e
    cases e
    exact .inl (h2 F H v1 v2 d1 d2 _ Q hp hf r1 r2 e1 q)
  | none =>
    have e : (g d1 d2).or (h d1 d2) = some d := e
    rw [e1] at e
    exact .inr (h4 F H v1 v2 d1 d2 _ Q hp hf r1 r2 e q)
theorem bin_run {r : R2} {k : D → D → Option D} (hs : OpS X.K p r k) (ha : DE X p a f) (hb : DE X p b g) {W : WX} {G : Addr → Prop} {H0 : Hp} {ρ : Env} {σ : L2.St} {H : Hp} {s : Pen} {R : D → Pen → Prop} {Ex : XR} {Q : VK} (tk : Takes X W) (rl : Rel X.K p G H0 ρ σ H s)
    (h : wpM (f ρ >>= fun x => g ρ >>= fun y => lift (k x y)) s R Ex) (q : ∀ d s' v H', R d s' → Af p H H' s' → Rep X.K p H' (Fo G ρ σ) v d → Q v H') (px : PX X p W G σ H Ex) : tOp r (tE X a) (tE X b) σ H Q := by
  rw [wp_bind] at h
  refine ha.run W G H0 ρ σ H s _ Ex _ tk rl h (fun d1 s1 v1 H1 h1 a1 r1 => ?_) px
  rw [wp_bind] at h1
  refine hb.run W G H0 ρ σ H1 s1 _ Ex _ tk (rl.step a1.st a1.pen) h1 (fun d2 s2 v2 H2 h2 a2 r2 => ?_) (px.at a1)
  cases e : k d1 d2 with
  | none => rw [e] at h2; exact h2.elim
  | some d =>
    rw [e] at h2
    exact hs _ H2 v1 v2 d1 d2 d Q rl.fpa (fun _ z => ((rl.step a1.st a1.pen).step a2.st a2.pen).fresh z) (r1.mono (a2.st.toF rl.fpa) fun _ z => z) r2 e fun v H3 sm r3 => q d s2 v H3 h2 ((a1.trans a2).trans (.same a2.pen sm)) r3
theorem de_bin {op : Operator} {k : D → D → Option D} (h : BinS X p (binaryOp op) k) (ha : DE X p a f) (hb : DE X p b g) : DE X p (.BinOp a op b pos) (fun ρ => f ρ >>= fun x => g ρ >>= fun y => lift (k x y)) := by
  obtain ⟨r, h1, h2⟩ := h
  exact ⟨fun W G H0 ρ σ H s R Ex Q tk rl hw q px => tE_of (pe_op h1 pe_self pe_self) (bin_run h2 ha hb tk rl hw q px)⟩
theorem de_cmp {op : CmpOp} {k : D → D → Option D} (h : BinS X p (compareOp op) k) (ha : DE X p a f) (hb : DE X p b g) (hm : behindInMarks op b = false := by first | exact nomark _ | rfl) : DE X p (.Compare a [op] [b] pos) (fun ρ => f ρ >>= fun x => g ρ >>= fun y => lift (k x y)) := by
  obtain ⟨r, h1, h2⟩ := h
  exact ⟨fun W G H0 ρ σ H s R Ex Q tk rl hw q px => tE_of (pe_cmpR h1 pe_self pe_self hm) (bin_run h2 ha hb tk rl hw q px)⟩
/-- a value as a truth -/
def truB : D → M Bool
  | .bl b => pure b
  | _ => bad
theorem bl_of {K : PySem.W.Frag} {H : Hp} {F : Addr → Prop} {v : V} {b : Bool} (r : Rep K p H F v (.bl b)) : v = .bl b := by
  cases r
  rfl
theorem tB_run {t : TE} {G : Addr → Prop} {ρ : Env} {σ : L2.St} {H : Hp} {s : Pen} {R : Bool → Pen → Prop} {Ex : XR} {Q : Bool → Hp → Prop}
    (h : wpM (f ρ >>= truB) s R Ex) (q : ∀ d s' H', R d s' → Af p H H' s' → Q d H')
    (run : ∀ (R' : D → Pen → Prop) (Q' : VK), wpM (f ρ) s R' Ex → (∀ d s' v H', R' d s' → Af p H H' s' → Rep X.K p H' (Fo G ρ σ) v d → Q' v H') → t σ H Q') : t σ H (fun x H' => ∃ k, x = .bl k ∧ Q k H') := by
  rw [wp_bind] at h
  refine run _ _ h fun d s' v H' hr a rp => ?_
  cases d with
  | bl k =>
    refine ⟨k, bl_of rp, q k s' H' hr a⟩
  | _ => exact hr.elim
theorem dt_cmp {op : CmpOp} {k : D → D → Option D} (h : BinS X p (compareOp op) k) (ha : DE X p a f) (hb : DE X p b g) (hm : behindInMarks op b = false := by first | exact nomark _ | rfl) : DT X p (.Compare a [op] [b] pos) (fun ρ => f ρ >>= fun x => g ρ >>= fun y => lift (k x y) >>= truB) := by
  obtain ⟨r, h1, h2⟩ := h
  exact ⟨fun W G H0 ρ σ H s R Ex Q tk rl hw q px => tT_of (pt_cmpR h1 pe_self pe_self hm) (tB_run (f := fun ρ => f ρ >>= fun x => g ρ >>= fun y => lift (k x y)) (by rw [bind_assoc]; simp only [bind_assoc]; exact hw) q fun R' Q' hw' q' => bin_run h2 ha hb tk rl hw' q' px)⟩
/-- an expression of another form as a test -/
theorem dt_val (ha : DE X p e f) (he : ∀ whole, isTrue e X.env whole = (do let v ← whole; standAt e.pos; holding [v] (truthy v)) := by intro _; rfl) : DT X p e (fun ρ => f ρ >>= truB) :=
  ⟨fun W G H0 ρ σ H s R Ex Q tk rl hw q px => tT_of (pt_val pe_self he) (tB_run hw q fun R' Q' hw' q' => ha.run W G H0 ρ σ H s R' Ex Q' tk rl hw' q' px)⟩
theorem dt_of {t : Env → M Bool} (h : DW X p e t) : DT X p e t := ⟨fun W G H0 ρ σ H s R Ex Q tk rl hw q px => tT_of pw_self.pt (h.run W G H0 ρ σ H s R Ex Q tk rl hw q px)⟩
/-! ### and, or, not: tests -/
variable {t u : Env → M Bool} {rest : List Expr}
def andB (a b : M Bool) : M Bool := a >>= fun x => if x = true then b else pure false
def orB (a b : M Bool) : M Bool := a >>= fun x => if x = true then pure true else b
def notB (a : M Bool) : M Bool := a >>= fun x => pure (!x)
theorem dw_and1 (ha : DT X p a t) : DW X p (.BoolOp .And [a] pos) t := ⟨fun W G H0 ρ σ H s R Ex Q tk rl hw q px => tW_of (pw_and1 pt_self) (ha.run W G H0 ρ σ H s R Ex Q tk rl hw q px)⟩
theorem dw_or1 (ha : DT X p a t) : DW X p (.BoolOp .Or [a] pos) t := ⟨fun W G H0 ρ σ H s R Ex Q tk rl hw q px => tW_of (pw_or1 pt_self) (ha.run W G H0 ρ σ H s R Ex Q tk rl hw q px)⟩
theorem dw_and (ha : DT X p a t) (hb : DW X p (.BoolOp .And (b :: rest) pos) u) : DW X p (.BoolOp .And (a :: b :: rest) pos) (fun ρ => andB (t ρ) (u ρ)) := by
  refine ⟨fun W G H0 ρ σ H s R Ex Q tk rl hw q px => tW_of (pw_and pt_self pw_self) ?_⟩
  have hw : wpM (t ρ >>= fun x => if x = true then u ρ else pure false) s R Ex := hw
  rw [wp_bind] at hw
  refine ha.run W G H0 ρ σ H s _ Ex _ tk rl hw (fun d s1 H1 h1 a1 => ?_) px
  cases d with
  | true =>
    rw [if_pos rfl]
    exact hb.run W G H0 ρ σ H1 s1 R Ex Q tk (rl.step a1.st a1.pen) h1 (fun d s2 H2 h2 a2 => q d s2 H2 h2 (a1.trans a2)) (px.at a1)
  | false =>
    rw [if_neg (by decide)]
    exact q false s1 H1 h1 a1
theorem dw_or (ha : DT X p a t) (hb : DW X p (.BoolOp .Or (b :: rest) pos) u) : DW X p (.BoolOp .Or (a :: b :: rest) pos) (fun ρ => orB (t ρ) (u ρ)) := by
  refine ⟨fun W G H0 ρ σ H s R Ex Q tk rl hw q px => tW_of (pw_or pt_self pw_self) ?_⟩
  have hw : wpM (t ρ >>= fun x => if x = true then pure true else u ρ) s R Ex := hw
  rw [wp_bind] at hw
  refine ha.run W G H0 ρ σ H s _ Ex _ tk rl hw (fun d s1 H1 h1 a1 => ?_) px
  cases d with
  | true =>
    rw [if_pos rfl]
    exact q true s1 H1 h1 a1
  | false =>
    rw [if_neg (by decide)]
    exact hb.run W G H0 ρ σ H1 s1 R Ex Q tk (rl.step a1.st a1.pen) h1 (fun d s2 H2 h2 a2 => q d s2 H2 h2 (a1.trans a2)) (px.at a1)
theorem dt_not (ha : DT X p a t) : DT X p (.UnaryOp .Not a pos) (fun ρ => notB (t ρ)) := by
  refine ⟨fun W G H0 ρ σ H s R Ex Q tk rl hw q px => tT_of (pt_not pt_self) ?_⟩
  have hw : wpM (t ρ >>= fun x => pure (!x)) s R Ex := hw
  rw [wp_bind] at hw
  exact ha.run W G H0 ρ σ H s _ Ex _ tk rl hw (fun d s1 H1 h1 a1 => q _ s1 H1 h1 a1) px
/-! ### .. as values -/
def andV (a b : M D) : M D := a >>= fun x => truB x >>= fun k => if k = true then b else pure (.bl false)
def orV (a b : M D) : M D := a >>= fun x => truB x >>= fun k => if k = true then pure (.bl true) else b
def notV (a : M D) : M D := a >>= fun x => truB x >>= fun k => pure (.bl (!k))
theorem de_one {op : BoolOp} (ha : DE X p a f) : DE X p (.BoolOp op [a] pos) f := ⟨fun W G H0 ρ σ H s R Ex Q tk rl hw q px => tE_of (pe_one pe_self) (ha.run W G H0 ρ σ H s R Ex Q tk rl hw q px)⟩
theorem de_and (ha : DE X p a f) (hb : DE X p (.BoolOp .And (b :: rest) pos) g) : DE X p (.BoolOp .And (a :: b :: rest) pos) (fun ρ => andV (f ρ) (g ρ)) := by
  refine ⟨fun W G H0 ρ σ H s R Ex Q tk rl hw q px => tE_of (pe_and pe_self pe_self) ?_⟩
  have hw : wpM (f ρ >>= fun x => truB x >>= fun k => if k = true then g ρ else pure (.bl false)) s R Ex := hw
  rw [wp_bind] at hw
  refine ha.run W G H0 ρ σ H s _ Ex _ tk rl hw (fun d s1 v H1 h1 a1 r1 => ?_) px
  rw [wp_bind] at h1
  cases d with
  | bl k =>
    refine ⟨k, bl_of r1, ?_⟩
    have h1 : wpM (if k = true then g ρ else pure (.bl false)) s1 R Ex := h1
    cases k with
    | true =>
      rw [if_pos rfl] at h1 ⊢
      exact hb.run W G H0 ρ σ H1 s1 R Ex Q tk (rl.step a1.st a1.pen) h1 (fun d s2 v2 H2 h2 a2 r2 => q d s2 v2 H2 h2 (a1.trans a2) r2) (px.at a1)
    | false =>
      rw [if_neg (by decide)] at h1 ⊢
      exact q _ s1 _ H1 h1 a1 (.bl false)
  | _ => exact h1.elim
theorem de_or (ha : DE X p a f) (hb : DE X p (.BoolOp .Or (b :: rest) pos) g) : DE X p (.BoolOp .Or (a :: b :: rest) pos) (fun ρ => orV (f ρ) (g ρ)) := by
  refine ⟨fun W G H0 ρ σ H s R Ex Q tk rl hw q px => tE_of (pe_or pe_self pe_self) ?_⟩
  have hw : wpM (f ρ >>= fun x => truB x >>= fun k => if k = true then pure (.bl true) else g ρ) s R Ex := hw
  rw [wp_bind] at hw
  refine ha.run W G H0 ρ σ H s _ Ex _ tk rl hw (fun d s1 v H1 h1 a1 r1 => ?_) px
  rw [wp_bind] at h1
  cases d with
  | bl k =>
    refine ⟨k, bl_of r1, ?_⟩
    have h1 : wpM (if k = true then pure (.bl true) else g ρ) s1 R Ex := h1
    cases k with
    | true =>
      rw [if_pos rfl] at h1 ⊢
      exact q _ s1 _ H1 h1 a1 (.bl true)
    | false =>
      rw [if_neg (by decide)] at h1 ⊢
      exact hb.run W G H0 ρ σ H1 s1 R Ex Q tk (rl.step a1.st a1.pen) h1 (fun d s2 v2 H2 h2 a2 r2 => q d s2 v2 H2 h2 (a1.trans a2) r2) (px.at a1)
  | _ => exact h1.elim
theorem de_not (ha : DE X p a f) : DE X p (.UnaryOp .Not a pos) (fun ρ => notV (f ρ)) := by
  refine ⟨fun W G H0 ρ σ H s R Ex Q tk rl hw q px => tE_of (pe_not pe_self) ?_⟩
  have hw : wpM (f ρ >>= fun x => truB x >>= fun k => pure (.bl (!k))) s R Ex := hw
  rw [wp_bind] at hw
  refine ha.run W G H0 ρ σ H s _ Ex _ tk rl hw (fun d s1 v H1 h1 a1 r1 => ?_) px
  rw [wp_bind] at h1
  cases d with
  | bl k => exact ⟨k, bl_of r1, q _ s1 _ H1 h1 a1 (.bl _)⟩
  | _ => exact h1.elim
theorem de_if {c : Expr} (hc : DT X p c t) (ha : DE X p a f) (hb : DE X p b g) : DE X p (.IfExp c a b pos) (fun ρ => t ρ >>= fun k => if k = true then f ρ else g ρ) := by
  refine ⟨fun W G H0 ρ σ H s R Ex Q tk rl hw q px => tE_of (pe_ifExp pt_self pe_self pe_self) ?_⟩
  rw [wp_bind] at hw
  refine hc.run W G H0 ρ σ H s _ Ex _ tk rl hw (fun k s1 H1 h1 a1 => ?_) px
  cases k with
  | true =>
    rw [if_pos rfl] at h1 ⊢
    exact ha.run W G H0 ρ σ H1 s1 R Ex Q tk (rl.step a1.st a1.pen) h1 (fun d s2 v2 H2 h2 a2 r2 => q d s2 v2 H2 h2 (a1.trans a2) r2) (px.at a1)
  | false =>
    rw [if_neg (by decide)] at h1 ⊢
    exact hb.run W G H0 ρ σ H1 s1 R Ex Q tk (rl.step a1.st a1.pen) h1 (fun d s2 v2 H2 h2 a2 r2 => q d s2 v2 H2 h2 (a1.trans a2) r2) (px.at a1)
/-! ### lists of arguments, displays -/
variable {es : List Expr} {fs : List (Env → M D)} {k : Env → M (List D)}
theorem da_nil : DA X p [] [] := ⟨fun β k W G H0 ρ σ H s R Ex Q tk rl hw q px => tA_of pa_nil (show Q [] H from q [] s [] H hw (.refl rl.pen) .nil rfl)⟩
theorem da_cons (ha : DE X p e f) (hr : DA X p es fs) (hs : starEach (e :: es) X.env = (false, eval e X.env) :: starEach es X.env := by rfl) : DA X p (e :: es) (f :: fs) := by
  refine ⟨fun β k W G H0 ρ σ H s R Ex Q tk rl hw q px => tA_of (pa_cons pe_self pa_self hs) ?_⟩
  have hw : wpM (f ρ >>= fun x => seqA fs ρ fun xs => k (x :: xs)) s R Ex := hw
  rw [wp_bind] at hw
  refine ha.run W G H0 ρ σ H s _ Ex _ tk rl hw (fun d s1 v H1 h1 a1 r1 => ?_) px
  exact hr.run β (fun xs => k (d :: xs)) W G H0 ρ σ H1 s1 R Ex _ tk (rl.step a1.st a1.pen) h1 (fun ds s2 vs H2 h2 a2 r2 e2 => q (d :: ds) s2 (v :: vs) H2 h2 (a1.trans a2) (.cons (r1.mono (a2.st.toF rl.fpa) fun _ z => z) r2) (congrArg (· + 1) e2)) (px.at a1)
def szL (xs : List D) : Bool := decide (xs.length ≤ 16777216)
theorem szL_ok {xs : List D} {n : Nat} (h : szL xs = true) (e : n = xs.length) : n ≤ sizeLine := by
  rw [sizeLine_eq, e]
  exact of_decide_eq_true h
def mkTup (xs : List D) : M D := if szL xs = true then pure (.tup xs) else bad
def mkLst (xs : List D) : M (List D) := if szL xs = true then pure xs else bad
theorem de_tup {x1 : Nat} (ha : DA X p es fs) : DE X p (.Tuple es x1 pos) (fun ρ => seqA fs ρ mkTup) := by
  refine ⟨fun W G H0 ρ σ H s R Ex Q tk rl hw q px => tE_of (pe_tupF pa_self) ?_⟩
  refine ha.run D mkTup W G H0 ρ σ H s R Ex _ tk rl hw (fun ds s1 vs H1 h1 a1 r1 _ => ?_) px
  unfold mkTup at h1
  cases e : szL ds with
  | false => rw [e] at h1; exact h1.elim
  | true =>
    rw [e] at h1
    refine ⟨szL_ok e r1.length, fun q' o hq nd => ?_⟩
    have sm := same_new (o := .frz o (.tup vs)) hq
    exact q (.tup ds) s1 _ _ h1 (a1.trans (.same a1.pen sm)) (.tup (⟨⟨o, upd_same, nd⟩, (rl.step a1.st a1.pen).fresh hq⟩) (of_decide_eq_true e) (r1.mono ((same_step (p := p) sm).toF rl.fpa) fun _ z => z))
theorem back_none {H H1 : Hp} {s1 : Pen} (a : Af p H H1 s1) {q : Addr} (hq : H1 q = none) : H q = none := by
  cases z : H q with
  | none => rfl
  | some o =>
    by_cases hp : p.no q
    · exact (a.pen.notNo hq hp).elim
    · have := a.st q o z hp
      rw [this] at hq
      cases hq
theorem dn_lst (ha : DA X p es fs) : DN X p (.List es pos) (fun ρ => seqA fs ρ mkLst) := by
  refine ⟨fun W G H0 ρ σ H s R Ex Q tk rl hw q px => tE_of (pe_lst pa_self) ?_⟩
  refine ha.run _ mkLst W G H0 ρ σ H s R Ex _ tk rl hw (fun ds s1 vs H1 h1 a1 r1 _ => ?_) px
  unfold mkLst at h1
  cases e : szL ds with
  | false => rw [e] at h1; exact h1.elim
  | true =>
    rw [e] at h1
    refine ⟨szL_ok e r1.length, fun q' hq => ?_⟩
    have sm := same_new (o := .lst vs) hq
    exact q ds s1 _ vs _ h1 (a1.trans (.same a1.pen sm)) (back_none a1 hq) upd_same (of_decide_eq_true e) ((r1.more (N := fun a => a = q') fun a z => by rw [z]; exact hq).mono ((same_step (p := p) sm).toF (fun a z => .inl (rl.fpa a z))) fun _ z => z)
/-- a new list as data -/
theorem de_new (ha : DN X p e k) : DE X p e (fun ρ => k ρ >>= fun xs => pure (.lst xs)) := by
  refine ⟨fun W G H0 ρ σ H s R Ex Q tk rl hw q px => ?_⟩
  rw [wp_bind] at hw
  refine ha.run W G H0 ρ σ H s _ Ex _ tk rl hw (fun ds s1 a vs H1 h1 a1 n1 e1 hz r1 => ?_) px
  exact q (.lst ds) s1 _ H1 h1 a1 (.lst e1 (rl.fresh n1) hz (r1.mono (fun _ _ z _ => z) fun _ z => .inl z))
/-- what is owned, read as data: only what holds no list may come out -/
def immD (d : D) : M D := if d.imm = true then pure d else bad
theorem de_thaw (ha : DE X p e f) : DE X p e (fun ρ => f (thaw ρ) >>= immD) := by
  refine ⟨fun W G H0 ρ σ H s R Ex Q tk rl hw q px => ?_⟩
  rw [wp_bind] at hw
  refine ha.run W G H0 (thaw ρ) σ H s _ Ex _ tk rl.thaw hw (fun d s1 v H1 h1 a1 r1 => ?_) px
  unfold immD at h1
  cases e : d.imm with
  | false => rw [e] at h1; exact h1.elim
  | true =>
    rw [e] at h1
    exact q d s1 v H1 h1 a1 (r1.free (rl.step a1.st a1.pen).mt e)
theorem dt_thaw (ha : DT X p e t) : DT X p e (fun ρ => t (thaw ρ)) :=
  ⟨fun W G H0 ρ σ H s R Ex Q tk rl hw q px => ha.run W G H0 (thaw ρ) σ H s R Ex Q tk rl.thaw hw q px⟩
end
end Say

namespace Say
open L2 PyProof.Rows PySem.Spec PySem

/-! ### equality -/
mutual
def D.toPy : D → PyData
  | .bl b => .bool b
  | .int i => .int i
  | .str s => .str s
  | .tup xs => .tuple (toPyL xs)
  | .lst xs => .list (toPyL xs)
  | _ => .none
def toPyL : List D → List PyData
  | [] => []
  | d :: ds => d.toPy :: toPyL ds
end
mutual
def D.plainN : Nat → D → Bool
  | _, .non | _, .bl _ | _, .int _ => true
  | _, .str s => PyData.strOk s
  | 0, _ => false
  | n + 1, .tup xs => plainL n xs
  | n + 1, .lst xs => plainL n xs
  | _ + 1, _ => false
def plainL : Nat → List D → Bool
  | _, [] => true
  | n, d :: ds => d.plainN n && plainL n ds
end
def D.plain (d : D) : Bool := d.plainN 60
def eqV (d e : D) : Bool := PyData.eqv d.toPy e.toPy
theorem plainN_ok : ∀ (n : Nat) (d : D), d.plainN n = true → d.toPy.canLay0 = true ∧ d.toPy.depth ≤ n := by
  have main : ∀ (n : Nat), (∀ d : D, d.plainN n = true → d.toPy.canLay0 = true ∧ d.toPy.depth ≤ n) ∧ (∀ ds : List D, plainL n ds = true → PyData.canLayAll0 (toPyL ds) = true ∧ PyData.depthAll (toPyL ds) ≤ n) := by
    intro n
    induction n with
    | zero =>
      have h1 : ∀ d : D, d.plainN 0 = true → d.toPy.canLay0 = true ∧ d.toPy.depth ≤ 0 := by
        intro d h
        cases d <;> first | (simp [D.plainN] at h; done) | simp_all [D.toPy, PyData.canLay0, PyData.depth, D.plainN]
      refine ⟨h1, fun ds => ?_⟩
      induction ds with
      | nil => intro _; simp [toPyL, PyData.canLayAll0, PyData.depthAll]
      | cons d ds ih =>
        intro h
        simp only [plainL, Bool.and_eq_true] at h
        have a := h1 d h.1
        have b := ih h.2
        simp only [toPyL, PyData.canLayAll0, PyData.depthAll, a.1, b.1, Bool.and_self, true_and]
        omega
    | succ n ih =>
      have h1 : ∀ d : D, d.plainN (n + 1) = true → d.toPy.canLay0 = true ∧ d.toPy.depth ≤ n + 1 := by
        intro d h
        cases d with
        | tup xs =>
          have q := ih.2 xs (by simpa [D.plainN] using h)
          simp only [D.toPy, PyData.canLay0, PyData.depth, q.1, true_and]
          omega
        | lst xs =>
          have q := ih.2 xs (by simpa [D.plainN] using h)
          simp only [D.toPy, PyData.canLay0, PyData.depth, q.1, true_and]
          omega
        | _ => first | (simp [D.plainN] at h; done) | simp_all [D.toPy, PyData.canLay0, PyData.depth, D.plainN]
      refine ⟨h1, fun ds => ?_⟩
      induction ds with
      | nil => intro _; simp [toPyL, PyData.canLayAll0, PyData.depthAll]
      | cons d ds ih =>
        intro h
        simp only [plainL, Bool.and_eq_true] at h
        have a := h1 d h.1
        have b := ih h.2
        simp only [toPyL, PyData.canLayAll0, PyData.depthAll, a.1, b.1, Bool.and_self, true_and]
        omega
  exact fun n => (main n).1
theorem plain_shaped {d : D} (h : d.plain = true) : SeqAt.shaped d.toPy = true := by
  have q := plainN_ok 60 d h
  unfold SeqAt.shaped
  rw [q.1, decide_eq_true (by omega)]
  rfl
section
variable {K : PySem.W.Frag} {p : PL} {H : Hp} {F : Addr → Prop}
theorem Rep.toDp : ∀ (n : Nat) {v : V} {d : D}, Rep K p H F v d → d.plainN n = true → Dp K H v d.toPy := by
  have main : ∀ (n : Nat), (∀ (d : D) (v : V), Rep K p H F v d → d.plainN n = true → Dp K H v d.toPy) ∧ (∀ (ds : List D) (vs : List V), RepL K p H F vs ds → plainL n ds = true → DpAll K H vs (toPyL ds)) := by
    have lists : ∀ n, (∀ (d : D) (v : V), Rep K p H F v d → d.plainN n = true → Dp K H v d.toPy) → ∀ (ds : List D) (vs : List V), RepL K p H F vs ds → plainL n ds = true → DpAll K H vs (toPyL ds) := by
      intro n h1 ds
      induction ds with
      | nil =>
        intro vs r _
        cases r
        exact .nil
      | cons d ds ih =>
        intro vs r h
        cases r with
        | cons r1 r2 =>
          simp only [plainL, Bool.and_eq_true] at h
          exact .cons (h1 d _ r1 h.1) (ih _ r2 h.2)
    intro n
    induction n with
    | zero =>
      have h1 : ∀ (d : D) (v : V), Rep K p H F v d → d.plainN 0 = true → Dp K H v d.toPy := by
        intro d v r h
        cases r <;> first | (simp [D.plainN] at h; done) | (simp only [D.toPy]; constructor)
      exact ⟨h1, lists 0 h1⟩
    | succ n ih =>
      have h1 : ∀ (d : D) (v : V), Rep K p H F v d → d.plainN (n + 1) = true → Dp K H v d.toPy := by
        intro d v r h
        cases r with
        | tup q hz r =>
          simp only [D.toPy]
          exact .tup q.1.sq (ih.2 _ _ r (by simpa [D.plainN] using h))
        | lst q hF hz r =>
          simp only [D.toPy]
          exact .lst (.inl (.inl q)) (ih.2 _ _ r (by simpa [D.plainN] using h))
        | _ => first | (simp [D.plainN] at h; done) | (simp only [D.toPy]; constructor)
      exact ⟨h1, lists (n + 1) h1⟩
  exact fun n {v d} r h => (main n).1 d v r h
end
def eqD (x y : D) : Option D := if (x.plain && y.plain) = true then some (.bl (eqV x y)) else none
def neD (x y : D) : Option D := if (x.plain && y.plain) = true then some (.bl (!eqV x y)) else none
def inD (x c : D) : Option D := match c with
  | .lst xs => if (x.plain && plainL 59 xs) = true then some (.bl (xs.any fun y => eqV y x)) else none
  | .tup xs => if (x.plain && plainL 59 xs) = true then some (.bl (xs.any fun y => eqV y x)) else none
  | _ => none
def ninD (x c : D) : Option D := match c with
  | .lst xs => if (x.plain && plainL 59 xs) = true then some (.bl (!xs.any fun y => eqV y x)) else none
  | .tup xs => if (x.plain && plainL 59 xs) = true then some (.bl (!xs.any fun y => eqV y x)) else none
  | _ => none
def iiD (g : Int → Int → D) (x y : D) : Option D := match x, y with
  | .int i, .int j => some (g i j)
  | _, _ => none
def iicD (c : Int → Int → Bool) (g : Int → Int → D) (x y : D) : Option D := match x, y with
  | .int i, .int j => if c i j = true then some (g i j) else none
  | _, _ => none
theorem iteSome {α : Type} {c : Prop} [Decidable c] {a b : α} (h : (if c then some a else none) = some b) : c ∧ a = b := by
  by_cases e : c
  · rw [if_pos e] at h
    exact ⟨e, Option.some.inj h⟩
  · rw [if_neg e] at h
    cases h
theorem toPyL_any (x : PyData) : ∀ ds : List D, ((toPyL ds).any fun y => PyData.eqv y x) = ds.any fun d => PyData.eqv d.toPy x
  | [] => rfl
  | d :: ds => by simp only [toPyL, List.any_cons, toPyL_any x ds]
section
variable {X : Cx} {p : PL} {k : Nat}
/-- what a rule of two ints gives -/
theorem bs_ii {op : Value → Value → Sem Value} {g : Int → Int → V} {g' : Int → Int → D} (h : OpR X op (rI0 g)) (hg : ∀ K p H F i j, Rep K p H F (g i j) (g' i j)) : BinS X p op (iiD g') := by
  refine ⟨_, h, fun F H v1 v2 d1 d2 d Q hp hf r1 r2 e q => ?_⟩
  unfold iiD at e
  split at e
  · cases e
    cases r1
    cases r2
    exact ⟨_, _, rfl, rfl, q _ H (Same.refl H) (hg _ _ _ _ _ _)⟩
  · cases e
theorem bs_iic {op : Value → Value → Sem Value} {C : Int → Int → Prop} {c : Int → Int → Bool} {g : Int → Int → V} {g' : Int → Int → D} (h : OpR X op (rI C g)) (hc : ∀ i j, c i j = true → C i j) (hg : ∀ K p H F i j, Rep K p H F (g i j) (g' i j)) : BinS X p op (iicD c g') := by
  refine ⟨_, h, fun F H v1 v2 d1 d2 d Q hp hf r1 r2 e q => ?_⟩
  unfold iicD at e
  split at e
  · obtain ⟨e1, e2⟩ := iteSome e
    subst e2
    cases r1
    cases r2
    exact ⟨_, _, rfl, rfl, hc _ _ e1, q _ H (Same.refl H) (hg _ _ _ _ _ _)⟩
  · cases e
def cMul (i j : Int) : Bool := decide (-(2 ^ 64) < i ∧ i < 2 ^ 64) || decide (-(2 ^ 64) < j ∧ j < 2 ^ 64)
def cPos (_ j : Int) : Bool := decide (0 < j)
def cDiv (_ j : Int) : Bool := decide (0 < j ∧ j < 1073741824)
def cPow (i j : Int) : Bool := decide (0 ≤ j ∧ j ≤ 1000000 ∧ i.natAbs < 2 ^ 64)
theorem bs_sub : BinS X p (binaryOp .Sub) (iiD fun i j => .int (i - j)) := bs_ii op_sub fun _ _ _ _ _ _ => .int _
theorem bs_mul : BinS X p (binaryOp .Mult) (iicD cMul fun i j => .int (i * j)) := bs_iic op_mul (fun i j h => by
  unfold cMul at h
  simp only [Bool.or_eq_true, decide_eq_true_eq] at h
  exact h) fun _ _ _ _ _ _ => .int _
theorem bs_mod : BinS X p (binaryOp .Mod) (iicD cPos fun i j => .int (i % j)) := bs_iic op_mod (fun i j h => of_decide_eq_true (p := 0 < j) h) fun _ _ _ _ _ _ => .int _
theorem bs_fdiv : BinS X p (binaryOp .FloorDiv) (iicD cDiv fun i j => .int (i / j)) := bs_iic op_fdiv (fun i j h => of_decide_eq_true (p := 0 < j ∧ j < 1073741824) h) fun _ _ _ _ _ _ => .int _
theorem bs_pow : BinS X p (binaryOp .Pow) (iicD cPow fun i j => .int (i ^ j.toNat)) := bs_iic op_pow (fun i j h => of_decide_eq_true (p := 0 ≤ j ∧ j ≤ 1000000 ∧ i.natAbs < 2 ^ 64) h) fun _ _ _ _ _ _ => .int _
/-! ### +, by the kinds -/
def catT (x y : D) : Option D := match x, y with
  | .tup xs, .tup ys => if xs.length + ys.length ≤ 16777216 then some (.tup (xs ++ ys)) else none
  | _, _ => none
def catL (x y : D) : Option D := match x, y with
  | .lst xs, .lst ys => if xs.length + ys.length ≤ 16777216 then some (.lst (xs ++ ys)) else none
  | _, _ => none
def catS (x y : D) : Option D := match x, y with
  | .str xs, .str ys => if xs.length + ys.length ≤ 16777216 ∧ (xs ++ ys).length ≤ 16777216 then some (.str (xs ++ ys)) else none
  | _, _ => none
theorem tupSq {K : PySem.W.Frag} {H : Hp} {F : Addr → Prop} {a : Addr} {vs : List V} (h : Tp H a vs ∧ ¬ F a) : SqT K H a vs := h.1.sq
theorem bs_catT : BinS X p (binaryOp .Add) catT := by
  refine ⟨_, op_catF, fun F H v1 v2 d1 d2 d Q hp hf r1 r2 e q => ?_⟩
  unfold catT at e
  split at e
  · obtain ⟨e1, e2⟩ := iteSome e
    subst e2
    cases r1 with
    | tup h1 hz1 l1 =>
    cases r2 with
    | tup h2 hz2 l2 =>
    refine ⟨_, _, _, _, rfl, rfl, tupSq h1, tupSq h2, by rw [l1.length, l2.length, sizeLine_eq]; exact e1, fun z => ?_, fun z z2 => ?_, fun z z2 a o ha nd => ?_⟩
    · subst z
      cases l1
      exact q _ H (Same.refl H) (.tup h2 hz2 l2)
    · subst z2
      cases l2
      rw [List.append_nil] at q
      exact q _ H (Same.refl H) (.tup h1 hz1 l1)
    · exact q _ _ (same_new ha) (.tup (⟨⟨o, upd_same, nd⟩, hf a ha⟩) (by rw [List.length_append]; exact e1) ((l1.append l2).mono ((same_step (p := p) (same_new ha)).toF hp) fun _ z => z))
  · cases e
theorem bs_catL : BinS X p (binaryOp .Add) catL := by
  refine ⟨_, op_cat, fun F H v1 v2 d1 d2 d Q hp hf r1 r2 e q => ?_⟩
  unfold catL at e
  split at e
  · obtain ⟨e1, e2⟩ := iteSome e
    subst e2
    cases r1 with
    | lst h1 n1 hz1 l1 =>
    cases r2 with
    | lst h2 n2 hz2 l2 =>
    refine ⟨_, _, _, _, rfl, rfl, h1, h2, by rw [l1.length, l2.length, sizeLine_eq]; exact e1, fun a ha => ?_⟩
    exact q _ _ (same_new ha) (.lst upd_same (hf a ha) (by rw [List.length_append]; exact e1) ((l1.append l2).mono ((same_step (p := p) (same_new ha)).toF hp) fun _ z => z))
  · cases e
theorem bs_catS : BinS X p (binaryOp .Add) catS := by
  refine ⟨_, op_add_str, fun F H v1 v2 d1 d2 d Q hp hf r1 r2 e q => ?_⟩
  unfold catS at e
  split at e
  · obtain ⟨e1, e2⟩ := iteSome e
    subst e2
    cases r1
    cases r2
    exact ⟨_, _, rfl, rfl, by rw [sizeLine_eq]; exact e1.1, q _ H (Same.refl H) (.str _ (by rw [sizeLine_eq]; exact e1.2))⟩
  · cases e
def addD (x y : D) : Option D := match x, y with
  | .int i, .int j => some (.int (i + j))
  | .tup xs, .tup ys => if xs.length + ys.length ≤ 16777216 then some (.tup (xs ++ ys)) else none
  | .lst xs, .lst ys => if xs.length + ys.length ≤ 16777216 then some (.lst (xs ++ ys)) else none
  | .str xs, .str ys => if xs.length + ys.length ≤ 16777216 ∧ (xs ++ ys).length ≤ 16777216 then some (.str (xs ++ ys)) else none
  | _, _ => none
theorem BinS.eq {op : Value → Value → Sem Value} {g h : D → D → Option D} (a : BinS X p op g) (e : ∀ x y d, h x y = some d → g x y = some d) : BinS X p op h := by
  obtain ⟨r, h1, h2⟩ := a
  exact ⟨r, h1, fun F H v1 v2 d1 d2 d Q hp hf r1 r2 e' q => h2 F H v1 v2 d1 d2 d Q hp hf r1 r2 (e _ _ _ e') q⟩
theorem bs_add : BinS X p (binaryOp .Add) addD := by
  refine (((bs_ii (g' := fun i j => .int (i + j)) op_add fun _ _ _ _ _ _ => .int _).or bs_catT).or (bs_catL.or bs_catS)).eq fun x y d e => ?_
  unfold addD at e
  split at e
  · exact (by rw [← e]; rfl)
  · obtain ⟨e1, e2⟩ := iteSome e
    subst e2
    simp [iiD, catT, catL, catS, e1]
  · obtain ⟨e1, e2⟩ := iteSome e
    subst e2
    simp [iiD, catT, catL, catS, e1]
  · obtain ⟨e1, e2⟩ := iteSome e
    subst e2
    simp only [iiD, catT, catL, catS, if_pos e1]
    rfl
  · cases e
/-! ### comparisons -/
theorem bs_eq (hr : Room k X.A) : BinS X p (compareOp .Eq) eqD := by
  refine ⟨_, op_eqD (by have := hr.un; omega), fun F H v1 v2 d1 d2 d Q hp hf r1 r2 e q => ?_⟩
  unfold eqD at e
  obtain ⟨e1, e2⟩ := iteSome e
  subst e2
  obtain ⟨p1, p2⟩ := Bool.and_eq_true_iff.mp e1
  exact ⟨_, _, r1.toDp 60 p1, r2.toDp 60 p2, plain_shaped p1, plain_shaped p2, q _ H (Same.refl H) (.bl _)⟩
theorem bs_ne (hr : Room k X.A) : BinS X p (compareOp .NotEq) neD := by
  refine ⟨_, op_neD (by have := hr.un; omega), fun F H v1 v2 d1 d2 d Q hp hf r1 r2 e q => ?_⟩
  unfold neD at e
  obtain ⟨e1, e2⟩ := iteSome e
  subst e2
  obtain ⟨p1, p2⟩ := Bool.and_eq_true_iff.mp e1
  exact ⟨_, _, r1.toDp 60 p1, r2.toDp 60 p2, plain_shaped p1, plain_shaped p2, q _ H (Same.refl H) (.bl _)⟩
/-- in, by data: the container a list or a tuple -/
def rInA (K : PySem.W.Frag) (neg : Bool) : R2 := fun x y H Q => ∃ d ds, Dp K H x d ∧ (Dp K H y (.list ds) ∨ Dp K H y (.tuple ds)) ∧ SeqAt.shaped d = true ∧ PyData.canLayAll0 ds = true ∧ Q (.bl (if neg = true then !(ds.any fun z => PyData.eqv z d) else ds.any fun z => PyData.eqv z d)) H
theorem op_inA (hu : X.A.units + 65 < cLine) : OpR X (compareOp .In) (rInA X.K false) := by
  rintro pins s σ H x y v u Q I rx ry ⟨d, ds, hd, he | he, sd, se, q⟩
  all_goals obtain ⟨as, one⟩ := id (Dp.reads I _ _ _ hd rx)
  all_goals obtain ⟨bs, many⟩ := id (Dp.reads I _ _ _ he ry)
  · exact SeqAt.in_list_reads many one se (SeqAt.canLay_of_shaped sd) (room_in_shaped sd hu) ⟨.bl _, H, I, rfl, q⟩
  · exact SeqAt.in_tuple_reads many one se (SeqAt.canLay_of_shaped sd) (room_in_shaped sd hu) ⟨.bl _, H, I, rfl, q⟩
theorem op_ninA (hu : X.A.units + 65 < cLine) : OpR X (compareOp .NotIn) (rInA X.K true) := by
  rintro pins s σ H x y v u Q I rx ry ⟨d, ds, hd, he | he, sd, se, q⟩
  all_goals obtain ⟨as, one⟩ := id (Dp.reads I _ _ _ hd rx)
  all_goals obtain ⟨bs, many⟩ := id (Dp.reads I _ _ _ he ry)
  · exact SeqAt.notIn_list_reads many one se (SeqAt.canLay_of_shaped sd) (room_in_shaped sd hu) ⟨.bl _, H, I, rfl, q⟩
  · exact SeqAt.notIn_tuple_reads many one se (SeqAt.canLay_of_shaped sd) (room_in_shaped sd hu) ⟨.bl _, H, I, rfl, q⟩
theorem plainL_lay {xs : List D} (h : plainL 59 xs = true) : PyData.canLayAll0 (toPyL xs) = true := by
  have q := (plainN_ok 60 (.tup xs) (by simpa [D.plainN] using h)).1
  simpa [D.toPy, PyData.canLay0] using q
theorem in_run {neg : Bool} {F : Addr → Prop} {H : Hp} {v1 v2 : V} {d1 d2 d : D} {Q : VK} (r1 : Rep X.K p H F v1 d1) (r2 : Rep X.K p H F v2 d2) (e : (if neg = true then ninD d1 d2 else inD d1 d2) = some d)
    (q : ∀ v H', Same H H' → Rep X.K p H' F v d → Q v H') : rInA X.K neg v1 v2 H Q := by
  have main : ∀ xs : List D, (d2 = .lst xs ∨ d2 = .tup xs) → (d1.plain && plainL 59 xs) = true → d = .bl (if neg = true then !(xs.any fun y => eqV y d1) else xs.any fun y => eqV y d1) → rInA X.K neg v1 v2 H Q := by
    intro xs hx h1 h2
    obtain ⟨p1, p2⟩ := Bool.and_eq_true_iff.mp h1
    refine ⟨_, toPyL xs, r1.toDp 60 p1, ?_, plain_shaped p1, plainL_lay p2, ?_⟩
    · rcases hx with hx | hx
      · subst hx
        have := r2.toDp 60 (show D.plainN 60 (.lst xs) = true by simpa [D.plainN] using p2)
        simp only [D.toPy] at this
        exact .inl this
      · subst hx
        have := r2.toDp 60 (show D.plainN 60 (.tup xs) = true by simpa [D.plainN] using p2)
        simp only [D.toPy] at this
        exact .inr this
    · rw [toPyL_any]
      subst h2
      exact q _ H (Same.refl H) (.bl _)
  cases neg with
  | true =>
    rw [if_pos rfl] at e
    unfold ninD at e
    split at e
    · obtain ⟨e1, e2⟩ := iteSome e
      exact main _ (.inl rfl) e1 e2.symm
    · obtain ⟨e1, e2⟩ := iteSome e
      exact main _ (.inr rfl) e1 e2.symm
    · cases e
  | false =>
    rw [if_neg (by decide)] at e
    unfold inD at e
    split at e
    · obtain ⟨e1, e2⟩ := iteSome e
      exact main _ (.inl rfl) e1 e2.symm
    · obtain ⟨e1, e2⟩ := iteSome e
      exact main _ (.inr rfl) e1 e2.symm
    · cases e
theorem bs_in (hr : Room k X.A) : BinS X p (compareOp .In) inD := ⟨_, op_inA (by have := hr.un; omega), fun F H v1 v2 d1 d2 d Q hp hf r1 r2 e q => in_run (neg := false) r1 r2 e q⟩
theorem bs_nin (hr : Room k X.A) : BinS X p (compareOp .NotIn) ninD := ⟨_, op_ninA (by have := hr.un; omega), fun F H v1 v2 d1 d2 d Q hp hf r1 r2 e q => in_run (neg := true) r1 r2 e q⟩
def D.isNon : D → Bool
  | .non => true
  | _ => false
def isN (x y : D) : Option D := match y with
  | .non => some (.bl x.isNon)
  | _ => none
def nisN (x y : D) : Option D := match y with
  | .non => some (.bl (!x.isNon))
  | _ => none
theorem rep_non {K : PySem.W.Frag} {H : Hp} {F : Addr → Prop} {v : V} {d : D} (r : Rep K p H F v d) : decide (v = V.non) = d.isNon := by
  cases r <;> rfl
theorem bs_isN : BinS X p (compareOp .Is) isN := by
  refine ⟨_, op_isN, fun F H v1 v2 d1 d2 d Q hp hf r1 r2 e q => ?_⟩
  unfold isN at e
  split at e
  · cases e
    cases r2
    exact ⟨rfl, q _ H (Same.refl H) (by rw [rep_non r1]; exact .bl _)⟩
  · cases e
theorem bs_nisN : BinS X p (compareOp .IsNot) nisN := by
  refine ⟨_, op_notN, fun F H v1 v2 d1 d2 d Q hp hf r1 r2 e q => ?_⟩
  unfold nisN at e
  split at e
  · cases e
    cases r2
    refine ⟨rfl, q _ H (Same.refl H) ?_⟩
    rw [rep_non r1]
    exact .bl _
  · cases e
end
/-! ### the order of ints and of tuples of such -/
inductive Od where
  | lt | le | gt | ge
def Od.i : Od → Int → Int → Bool
  | .lt, a, b => decide (a < b)
  | .le, a, b => decide (a ≤ b)
  | .gt, a, b => decide (b < a)
  | .ge, a, b => decide (b ≤ a)
def Od.op : Od → CmpOp
  | .lt => .Lt
  | .le => .LtE
  | .gt => .Gt
  | .ge => .GtE
/-- lexicographic, all unlike pairs being ints -/
def odL (o : Od) : List Int → List Int → Bool
  | x :: xs, y :: ys => if x = y then odL o xs ys else o.i x y
  | xs, ys => o.i xs.length ys.length
def intsOf : List D → Option (List Int)
  | [] => some []
  | .int i :: ds => (intsOf ds).map (i :: ·)
  | _ :: _ => none
def odD (o : Od) (x y : D) : Option D := match x, y with
  | .int i, .int j => some (.bl (o.i i j))
  | .tup xs, .tup ys => match intsOf xs, intsOf ys with
    | some ns, some ms => some (.bl (odL o ns ms))
    | _, _ => none
  | _, _ => none
theorem intsOf_ok : ∀ {xs : List D} {ns : List Int}, intsOf xs = some ns → xs = ns.map D.int
  | [], ns, h => by cases h; rfl
  | .int i :: ds, ns, h => by
    have h1 : (intsOf ds).map (i :: ·) = some ns := h
    cases e : intsOf ds with
    | none => rw [e] at h1; cases h1
    | some ms =>
      rw [e] at h1
      cases h1
      rw [intsOf_ok e]
      rfl
  | .non :: _, ns, h => by cases h
  | .bl _ :: _, ns, h => by cases h
  | .str _ :: _, ns, h => by cases h
  | .tup _ :: _, ns, h => by cases h
  | .lst _ :: _, ns, h => by cases h
  | .dct _ :: _, ns, h => by cases h
  | .ins _ _ :: _, ns, h => by cases h
  | .pen :: _, ns, h => by cases h
  | .fn _ :: _, ns, h => by cases h
theorem repL_ints {K : PySem.W.Frag} {p : PL} {H : Hp} {F : Addr → Prop} : ∀ {ns : List Int} {vs : List V}, RepL K p H F vs (ns.map D.int) → vs = ns.map V.int
  | [], _, .nil => rfl
  | n :: ns, _, .cons h r => by
    cases h
    rw [repL_ints r]
    rfl
theorem lexAt_odL (o : Od) (fin : Nat → Nat → Bool) (hfin : ∀ a b, fin a b = o.i a b) : ∀ (ns ms : List Int) (off n : Nat) (gn gm : Nat → Int), (∀ j, gn (off + j) = ns.getD j 0) → (∀ j, gm (off + j) = ms.getD j 0) → n = min ns.length ms.length →
    Ob.lexAt (fun j => decide (gn j = gm j)) (fun j => o.i (gn j) (gm j)) (fin ns.length ms.length) off n = odL o ns ms
  | [], ms, off, n, gn, gm, _, _, e => by
    have : n = 0 := by rw [e]; simp
    subst this
    rw [Ob.lexAt_zero, hfin]
    cases ms <;> rfl
  | x :: xs, [], off, n, gn, gm, _, _, e => by
    have : n = 0 := by rw [e]; simp
    subst this
    rw [Ob.lexAt_zero, hfin]
    rfl
  | x :: xs, y :: ys, off, n, gn, gm, h1, h2, e => by
    have e1 : n = min xs.length ys.length + 1 := by rw [e, List.length_cons, List.length_cons]; omega
    subst e1
    have a1 : gn off = x := by simpa using h1 0
    have a2 : gm off = y := by simpa using h2 0
    rw [Ob.lexAt_succ]
    simp only [a1, a2]
    have hz : fin (x :: xs).length (y :: ys).length = fin xs.length ys.length := by
      rw [hfin, hfin]
      cases o <;> simp [Od.i]
    rw [hz, lexAt_odL o fin hfin xs ys (off + 1) (min xs.length ys.length) gn gm (fun j => by have := h1 (j + 1); rw [show off + (j + 1) = off + 1 + j by omega] at this; simpa using this) (fun j => by have := h2 (j + 1); rw [show off + (j + 1) = off + 1 + j by omega] at this; simpa using this) rfl]
    by_cases hxy : x = y
    · subst hxy
      simp [odL]
    · simp [odL, hxy]
section
variable {X : Cx} {p : PL} {k : Nat}
def rOdT (K : PySem.W.Frag) (o : Od) : R2 := fun x y H Q => ∃ (a b : Addr) (ns ms : List Int), x = .ref a ∧ y = .ref b ∧ SqT K H a (ns.map V.int) ∧ SqT K H b (ms.map V.int) ∧ Q (.bl (odL o ns ms)) H
/-- a tuple of ints, as the heap holds it -/
theorem tup_ints {pins : List (Addr × Obj)} {σ : L2.St} {H : Hp} {s : Shared} {a : Addr} {ns : List Int} (I : Inv X pins σ H s) (h : SqT X.K H a (ns.map V.int)) : ∃ xs : Array Value, IsTup s.heap a xs ∧ xs.size = ns.length ∧ ∀ j (lt : j < xs.size), ∃ t, xs[j] = .int (ns.getD j 0) t := by
  obtain ⟨its, r, tp, _⟩ := I.tuple h
  have whole := Vals.ints r
  exact ⟨its.toArray, tp, (List.size_toArray ..).trans whole.length, fun j lt => PyProof.Rows.IntsAre.int_at whole _ _ (by simp at lt; simp [lt])⟩
theorem op_odT (o : Od) (hu : X.A.units < cLine) : OpR X (compareOp o.op) (rOdT X.K o) := by
  rintro pins s σ H _ _ v u Q I rx ry ⟨a, b, ns, ms, rfl, rfl, ha, hb, q⟩
  cases rx
  cases ry
  obtain ⟨its, p1, e1, at1⟩ := tup_ints I ha
  obtain ⟨its2, p2, e2, at2⟩ := tup_ints I hb
  have heq : ∀ j (h1 : j < its.size) (h2 : j < its2.size), SeqAt.EqAt X.A.in1 s its[j] its2[j] (decide (ns.getD j 0 = ms.getD j 0)) := fun j h1 h2 => by
    obtain ⟨t, et⟩ := at1 j h1
    obtain ⟨t', et'⟩ := at2 j h2
    have z : (ns.getD j 0 == ms.getD j 0) = decide (ns.getD j 0 = ms.getD j 0) := Bool.beq_eq_decide_eq _ _
    rw [et, et', ← z]
    exact SeqAt.EqAt.int_int _ _ _ _
  have fin : ∀ (r : Bool), Ob.RcOp o.op X.A s (.ref a) (.ref b) r → r = odL o ns ms → wpAny (model X.prog X.w) X.A (compareOp o.op (.ref a) (.ref b)) (EP X pins σ Q) X.xe s := fun r R e => by
    subst e
    cases o <;> exact R X.prog X.w _ _ ⟨.bl _, H, I, rfl, q⟩
  have lx := lexAt_odL o (fun a b => o.i a b) (fun _ _ => rfl) ns ms 0 (min ns.length ms.length) (fun j => ns.getD j 0) (fun j => ms.getD j 0) (fun j => by simp) (fun j => by simp) rfl
  cases o with
  | lt =>
    refine fin _ (Ob.RcOp.tuples_lt (r := fun j => Od.lt.i (ns.getD j 0) (ms.getD j 0)) p1 p2 hu heq fun j h1 h2 _ => ?_) ?_
    · obtain ⟨t, et⟩ := at1 j h1
      obtain ⟨t', et'⟩ := at2 j h2
      rw [et, et']
      exact Ob.RcOp.lt_int _ _ _ _
    · rw [e1, e2, ← lx]
      simp [Od.i]
  | le =>
    refine fin _ (Ob.RcOp.tuples_le (r := fun j => Od.le.i (ns.getD j 0) (ms.getD j 0)) p1 p2 hu heq fun j h1 h2 _ => ?_) ?_
    · obtain ⟨t, et⟩ := at1 j h1
      obtain ⟨t', et'⟩ := at2 j h2
      rw [et, et']
      exact Ob.RcOp.le_int _ _ _ _
    · rw [e1, e2, ← lx]
      simp [Od.i]
  | gt =>
    refine fin _ (Ob.RcOp.tuples_gt (r := fun j => Od.gt.i (ns.getD j 0) (ms.getD j 0)) p1 p2 hu heq fun j h1 h2 _ => ?_) ?_
    · obtain ⟨t, et⟩ := at1 j h1
      obtain ⟨t', et'⟩ := at2 j h2
      rw [et, et']
      exact Ob.RcOp.gt_int _ _ _ _
    · rw [e1, e2, ← lx]
      simp [Od.i]
  | ge =>
    refine fin _ (Ob.RcOp.tuples_ge (r := fun j => Od.ge.i (ns.getD j 0) (ms.getD j 0)) p1 p2 hu heq fun j h1 h2 _ => ?_) ?_
    · obtain ⟨t, et⟩ := at1 j h1
      obtain ⟨t', et'⟩ := at2 j h2
      rw [et, et']
      exact Ob.RcOp.ge_int _ _ _ _
    · rw [e1, e2, ← lx]
      simp [Od.i]
theorem op_odI (o : Od) : OpR X (compareOp o.op) (rI0 fun i j => .bl (o.i i j)) := by
  cases o
  · exact op_lt
  · exact op_le
  · exact op_gt
  · exact op_ge
theorem bs_od (o : Od) (hr : Room k X.A) : BinS X p (compareOp o.op) (odD o) := by
  refine ⟨_, (op_odI o).or (op_odT o (by have := hr.un; omega)), fun F H v1 v2 d1 d2 d Q hp hf r1 r2 e q => ?_⟩
  unfold odD at e
  split at e
  · cases e
    cases r1
    cases r2
    exact .inl ⟨_, _, rfl, rfl, q _ H (Same.refl H) (.bl _)⟩
  · split at e
    · rename_i ns ms h1 h2
      cases e
      cases r1 with
      | tup t1 hz1 l1 =>
      cases r2 with
      | tup t2 hz2 l2 =>
      rw [intsOf_ok h1] at l1
      rw [intsOf_ok h2] at l2
      have a1 := repL_ints l1
      have a2 := repL_ints l2
      subst a1 a2
      exact .inr ⟨_, _, ns, ms, rfl, rfl, tupSq t1, tupSq t2, q _ H (Same.refl H) (.bl _)⟩
    · cases e
  · cases e
theorem bs_lt (hr : Room k X.A) : BinS X p (compareOp .Lt) (odD .lt) := bs_od .lt hr
theorem bs_le (hr : Room k X.A) : BinS X p (compareOp .LtE) (odD .le) := bs_od .le hr
theorem bs_gt (hr : Room k X.A) : BinS X p (compareOp .Gt) (odD .gt) := bs_od .gt hr
theorem bs_ge (hr : Room k X.A) : BinS X p (compareOp .GtE) (odD .ge) := bs_od .ge hr
end
end Say

namespace Say
open L2 PyProof.Rows PySem.Spec PySem

/-! ### fields -/
/-- the classes cs have no attributes of the names fs -/
def Kls (K : PySem.W.Frag) (cs fs : List Str) : Prop := ∀ c ∈ cs, Cls K (He.ga K c) ∧ ∀ f ∈ fs, NoAttr K (He.ga K c) f
def attrD (cs : List Str) (f : Str) : D → M D
  | .ins c fs => if cs.contains c = true then lift (fs.lookup f) else bad
  | _ => bad
section
variable {X : Cx} {p : PL} {e a b : Expr} {f g : Env → M D} {pos : Pos} {k : Nat}
theorem de_attr {cs fs : List Str} {x : Str} (h : Kls X.K cs fs) (ha : DE X p e f) (hx : fs.contains x = true := by decide +kernel) (hb : attributeBase e x X.env (eval e X.env) = eval e X.env := by rfl) : DE X p (.Attribute e x pos) (fun ρ => f ρ >>= attrD cs x) := by
  refine ⟨fun W G H0 ρ σ H s R Ex Q tk rl hw q px => tE_of (pe_fld pe_self hb) ?_⟩
  rw [wp_bind] at hw
  refine ha.run W G H0 ρ σ H s _ Ex _ tk rl hw (fun d s1 v H1 h1 a1 r1 => ?_) px
  cases d with
  | ins c vs =>
    have h1 : wpM (if cs.contains c = true then lift (vs.lookup x) else bad) s1 R Ex := h1
    by_cases hc : cs.contains c = true
    · rw [if_pos hc] at h1
      obtain ⟨hcl, hno⟩ := h c (by simpa using hc)
      cases z : vs.lookup x with
      | none => rw [z] at h1; exact h1.elim
      | some y =>
        rw [z] at h1
        cases r1 with
        | ins ho hF rf =>
          obtain ⟨v, e1, e2⟩ := rf.lookup z
          exact ⟨_, _, _, _, v, rfl, ho, hcl, hno x (by simpa using hx), e1, q y s1 v H1 h1 a1 e2⟩
    · rw [if_neg hc] at h1
      exact h1.elim
  | _ => exact h1.elim

/-! ### subscripts -/
def IxS (X : Cx) (p : PL) (g : D → D → Option D) : Prop := ∃ r, IxR X r ∧ OpS X.K p r g
theorem de_ix {kk : D → D → Option D} (h : IxS X p kk) (ha : DE X p a f) (hb : DE X p b g) (hs : PlainIx b := by exact fun _ _ => rfl) : DE X p (.Subscript a b pos) (fun ρ => f ρ >>= fun x => g ρ >>= fun y => lift (kk x y)) := by
  obtain ⟨r, h1, h2⟩ := h
  exact ⟨fun W G H0 ρ σ H s R Ex Q tk rl hw q px => tE_of (pe_ix h1 pe_self pe_self hs) (bin_run h2 ha hb tk rl hw q px)⟩
def ixD (x i : D) : Option D := match x, i with
  | .lst xs, .int i => atI xs i
  | .tup xs, .int i => atI xs i
  | _, _ => none
theorem RepL.atI {K : PySem.W.Frag} {H : Hp} {F : Addr → Prop} {vs : List V} {ds : List D} {i : Int} {d : D} (r : RepL K p H F vs ds) (h : L2.atI ds i = some d) : ∃ v, L2.atI vs i = some v ∧ Rep K p H F v d := by
  unfold L2.atI at h ⊢
  rw [r.length]
  cases e : ixN ds.length i with
  | none => rw [e]
      at h; cases h
  | some j =>
    rw [e] at h
    exact r.get (i := j) (d := d) h
theorem is_seq : IxS X p ixD := by
  refine ⟨_, ix_list.or ix_tup, fun F H v1 v2 d1 d2 d Q hp hf r1 r2 e q => ?_⟩
  unfold ixD at e
  split at e
  · cases r2
    cases r1 with
    | lst h1 n1 hz l1 =>
      obtain ⟨v, e1, e2⟩ := l1.atI e
      exact .inl ⟨_, _, _, v, rfl, rfl, .inl (.inl h1), e1, q v H (Same.refl H) e2⟩
  · cases r2
    cases r1 with
    | tup h1 hz l1 =>
      obtain ⟨v, e1, e2⟩ := l1.atI e
      exact .inr ⟨_, _, _, v, rfl, rfl, tupSq h1, e1, q v H (Same.refl H) e2⟩
  · cases e
/-! ### slices -/
def cutG {α : Type} (xs : List α) (lo hi : Option Int) : List α := (xs.drop (HT.sIx xs.length 0 lo)).take (HT.sIx xs.length xs.length hi - HT.sIx xs.length 0 lo)
def sliceD (x : D) (lo hi : Option Int) : M D := match x with
  | .lst xs => pure (.lst (cutG xs lo hi))
  | .tup xs => pure (.tup (cutG xs lo hi))
  | _ => bad
def intM : D → M Int
  | .int i => pure i
  | _ => bad
theorem cutG_len {α : Type} (xs : List α) (lo hi : Option Int) : (cutG xs lo hi).length ≤ xs.length := by
  unfold cutG
  rw [List.length_take,
      List.length_drop]
  omega
theorem RepL.cut {K : PySem.W.Frag} {H : Hp} {F : Addr → Prop} {vs : List V} {ds : List D} (r : RepL K p H F vs ds) (lo hi : Option Int) : RepL K p H F (cutV vs lo hi) (cutG ds lo hi) := by
  unfold cutV cutG
  rw [r.length]
  exact (r.drop _).take _
/-- an optional part -/
structure DO (X : Cx) (p : PL) (e : Option Expr) (f : Env → M (Option Int)) : Prop where
  run : ∀ (W : WX) (G : Addr → Prop) (H0 : Hp) (ρ : Env) (σ : L2.St) (H : Hp) (s : Pen) (R : Option Int → Pen → Prop) (Ex : XR) (Q : Option Int → Hp → Prop), Takes X W → Rel X.K p G H0 ρ σ H s → wpM (f ρ) s R Ex →
    (∀ d s' H', R d s' → Af p H H' s' → Q d H') → PX X p W G σ H Ex → ∃ t, PO X e t ∧ t σ H Q
theorem do_none : DO X p none (fun _ => pure none) := ⟨fun W G H0 ρ σ H s R Ex Q tk rl hw q px => ⟨_, po_none, show Q none H from q none s H hw (.refl rl.pen)⟩⟩
theorem do_some (ha : DE X p e f) : DO X p (some e) (fun ρ => f ρ >>= intM >>= fun i => pure (some i)) := by
  refine ⟨fun W G H0 ρ σ H s R Ex Q tk rl hw q px => ⟨_, po_some pe_self, ?_⟩⟩
  rw [bind_assoc, wp_bind] at hw
  refine ha.run W G H0 ρ σ H s _ Ex _ tk rl hw (fun d s1 v H1 h1 a1 r1 => ?_) px
  cases d with
  | int i =>
    cases r1
    exact ⟨i, rfl, q (some i) s1 H1 h1 a1⟩
  | _ => exact h1.elim
end
/-- parts of a slice, the wish a letter -/
def tO (X : Cx) (e : Option Expr) : TO := fun σ H Q => ∃ t, PO X e t ∧ t σ H Q
section
variable {X : Cx} {p : PL} {e a b : Expr} {f g : Env → M D} {pos : Pos} {k : Nat}
theorem po_self {e : Option Expr} : PO X e (tO X e) := by
  refine ⟨fun pins
      s σ H Q I h => ?_⟩
  obtain ⟨t, h1, h2⟩ := h
  exact h1.run pins s σ H Q I h2
theorem de_slice {lo hi : Option Expr} {p2 : Pos} {fl fh : Env → M (Option Int)} (ha : DE X p e f) (hl : DO X p lo fl) (hh : DO X p hi fh) : DE X p (.Subscript e (.Slice lo hi none p2) pos) (fun ρ => f ρ >>= fun x => fl ρ >>= fun l => fh ρ >>= fun h => sliceD x l h) := by
  refine ⟨fun W G H0 ρ σ H s R Ex Q tk rl hw q px => tE_of (pe_slice (sl_list.or sl_tupF) pe_self po_self po_self) ?_⟩
  rw [wp_bind] at hw
  refine ha.run W G H0 ρ σ H s _ Ex _ tk rl hw (fun d s1 v H1 h1 a1 r1 => ?_) px
  rw [wp_bind] at h1
  refine hl.run W G H0 ρ σ H1 s1 _ Ex _ tk (rl.step a1.st a1.pen) h1 (fun l s2 H2 h2 a2 => ?_) (px.at a1)
  rw [wp_bind] at h2
  refine hh.run W G H0 ρ σ H2 s2 _ Ex _ tk ((rl.step a1.st a1.pen).step a2.st a2.pen) h2 (fun u s3 H3 h3 a3 => ?_) ((px.at a1).at a2)
  have r3 := (r1.mono (a2.st.toF rl.fpa) fun _ z => z).mono (a3.st.toF rl.fpa) fun _ z => z
  have a13 := (a1.trans a2).trans a3
  have rl3 := rl.step a13.st a13.pen
  cases d with
  | lst xs =>
    cases r3 with
    | lst ho hF hz lr =>
      refine .inl ⟨_, _, rfl, .inl (.inl ho), fun q' hq => ?_⟩
      exact q _ s3 _ _ h3 (a13.trans (.same a13.pen (same_new hq))) (.lst upd_same (rl3.fresh hq) (Nat.le_trans (cutG_len _ _ _) hz) ((lr.cut l u).mono ((same_step (p := p) (same_new hq)).toF rl.fpa) fun _ z => z))
  | tup xs =>
    cases r3 with
    | tup ho hz lr =>
      refine .inr ⟨_, _, rfl, tupSq ho, fun hw2 => ?_, fun _ q' o hq nd => ?_⟩
      · have e1 : cutG xs l u = xs := by
          unfold cutG
          rw [← lr.length, hw2.1, hw2.2, List.drop_zero, Nat.sub_zero, lr.length, List.take_length]
        have h3 : R (.tup (cutG xs l u)) s3 := h3
        rw [e1] at h3
        exact q _ s3 _ _ h3 a13 (.tup ho hz lr)
      · exact q _ s3 _ _ h3 (a13.trans (.same a13.pen (same_new hq))) (.tup (⟨⟨o, upd_same, nd⟩, rl3.fresh hq⟩) (Nat.le_trans (cutG_len _ _ _) hz) ((lr.cut l u).mono ((same_step (p := p) (same_new hq)).toF rl.fpa) fun _ z => z))
  | _ => exact h3.elim
/-! ### a chain of two comparisons -/
def chainB (x y z : D) (g h : D → D → Option D) : M Bool := lift (g x y) >>= truB >>= fun k => if k = true then lift (h y z) >>= truB else pure false
end
/-! ### defs of the text -/
section
variable (K : PySem.W.Frag)
/-- what a def promises, told by its mirror m of n arguments -/
def SpM (n : Nat) (m : List D → M D) : Sp := fun vs H Q E => ∃ (p : PL) (G : Addr → Prop) (ds : List D) (s : Pen), (∀ a, p.no a → G a) ∧ G p.ca ∧ (∀ a, G a → ∃ o, H a = some o) ∧ PenAt H p s ∧ vs.length = n ∧ RepL K p H G vs ds ∧
  wpM (m ds) s (fun d s' => ∀ v H', Af p H H' s' → Rep K p H' G v d → Q v H') (fun c fs s' => ∀ dx vfs H', Af p H H' s' → ExD H' dx vfs → RepF K p H' G vfs fs → E (.ref (He.ga K c)) (some dx) H')
end
/-! ### a def that keeps its promise where nothing is being shown -/
structure RoomG (k : Nat) (A : Around) : Prop where
  toRoom : Room k A
  gd : A.guards = some []
theorem RoomG.mono {j k : Nat} {A : Around} (r : RoomG k A) (h : j ≤ k) : RoomG j A := ⟨r.toRoom.mono h, r.gd⟩
theorem RoomG.make {k : Nat} {A : Around} (r : RoomG (k + 1) A) (C : Addr) (us : List Value) (kw : List (Str × Value)) : RoomG k (A.under (.builtin "type.__call__" ⟨.ref C :: us, kw⟩)) :=
  ⟨r.toRoom.make C us kw, by
    have h := r.gd
    unfold Around.under
    simp only [h]
    rfl⟩
structure FnG (P : Program) (w : World) (K : PySem.W.Frag) (mg : Str → Option Value) (base : Heap) (CX : CXT) (k : Nat) (f : Addr) (fd : FuncData) (ps : List Str) (sp : Sp) : Prop where
  len : ∀ vs H Q E, sp vs H Q E → List.length vs = List.length ps
  run : ∀ (A : Around) (outer : List PySem.Env) (s : Shared) (H : Hp) (args : Args) (us : List Value) (vs : List V) (Q : VK) (E : XK), RoomG k A → Env0 P w K mg base A outer s H → BindsTo s fd args (ps.zip us) → Vals vs us → sp vs H Q E → codeAny (model P w) A (.call (.ref f) args) (CR CX outer P w H s Q E) s
theorem FnG.of {P : Program} {w : World} {K : PySem.W.Frag} {mg : Str → Option Value} {base : Heap} {CX : CXT} {k : Nat} {f : Addr} {fd : FuncData} {ps : List Str} {sp : Sp} (F : FnOk P w K mg base CX k f fd ps sp) : FnG P w K mg base CX k f fd ps sp :=
  ⟨F.len, fun A outer s H args us vs Q E hr => F.run A outer s H args us vs Q E hr.toRoom⟩
section
variable {P : Program} {w : World} {K : PySem.W.Frag} {mg : Str → Option Value} {base : Heap} {x qual : Str} {params : Arguments} {body : List Stmt} {scope : Scope} {f : Addr} {fd : FuncData} {CX : CXT} {N ps : List Str} {k : Nat} {sp : Sp}
theorem okG {pr : Value → Prop} (F : FunD K x qual params body scope [] [] f fd) (hp : ∀ oc od osl, K.lookup f = some ⟨oc, od, .func fd, osl⟩ → pr fd.code) (S : FnScope N ps scope) (len : ∀ vs H Q E, sp vs H Q E → vs.length = ps.length)
    (hbody : ∀ (cdv : Value) (A : Around) (outer : List PySem.Env) (s : Shared) (H : Hp) (vs : List V) (Q : VK) (E : XK), pr cdv → RoomG k (A.deeper (envOfC qual scope s.heap.objs.size f cdv)) → sp vs H Q E →
      ∃ t, PSs (cxOf CX P w K mg base N qual scope f cdv A outer s H E) body t ∧ t { nx := fun _ H' => Q .non H', rt := Q } (L2.start N vs) H) : FnG P w K mg base CX (k + 1) f fd ps sp := by
  obtain ⟨oc, od, dflt, kwd, doc, pm, an, cdv, ct, sl, rfl, lk, hcd, _⟩ := F.ex
  have hc : pr cdv := hp oc od sl lk
  exact ⟨len, fun A outer s H args us vs Q E hr e0 hb r h => LamX.run_ofS lk hcd S hr.toRoom e0 hb r (len vs H Q E h) fun hr' => hbody cdv A outer s H vs Q E hc ⟨hr', hr.gd⟩ h⟩
end
section
variable {X : Cx} {CX : CXT} {k : Nat} {f : Addr} {fd : FuncData} {ps : List Str} {sp : Sp} {E : L2.St → XK} {x : Str} {p pos : Pos} {e : Expr} {es : List Expr} {t : TA}
theorem run_fnG {pins : List (Addr × Obj)} {σ : L2.St} {H : Hp} {s : Shared} {Q : VK} {us : List Value} {vs : List V} (F : FnG X.prog X.w X.K X.mg X.base CX k f fd ps sp) (room : RoomG k X.A) (bind : Binds X.K fd ps []) (pass : PassesAt CX X σ (E σ)) (I : Inv X pins σ H s) (r : Vals vs us)
    (q : sp vs H Q (E σ)) : wpAny (model X.prog X.w) X.A (call (.ref f) us) (EP X pins σ Q) X.xe s := by
  have many : us.length = ps.length := r.length.symm.trans (F.len _ _ _ _ q)
  have bound := bind s us I.kIn ((congrArg List.length (List.append_nil us)).trans many)
  rw [List.append_nil] at bound
  refine wpAny_call (codeAny_mono (F.run _ _ _ _ ⟨us, []⟩ us vs Q (E σ) room I.env0 bound r q) fun out t got => ?_)
  match out, got with
  | .error e, got => exact pass pins H s e t I got
  | .ok (.ret u), got => exact I.after got
  | .ok .next, got => exact False.elim got
  | .ok .brk, got => exact False.elim got
  | .ok .cont, got => exact False.elim got
theorem pe_callG (F : FnG X.prog X.w X.K X.mg X.base CX k f fd ps sp) (hr : RoomG k X.A) (hg : Gl X x) (hm : X.mg x = some (.ref f)) (hk : PySem.W.keepIn X.K (.ref f) = true) (hb : Binds X.K fd ps []) (hx : ∀ σ, PassesAt CX X σ (E σ))
    (ha : PA X (e :: es) t) (hdb : (x == ("__debug__" : Str)) = false :=
        by decide) (he : starEach (e :: es) X.env = (false, eval e X.env) :: starEach es X.env := by rfl) (hpl : (backTo pos (starEach es X.env)).any (·.1) = false := by rfl) :
    PE X (.Call (.Name x p) (e :: es) [] pos) (tCallS sp E t) :=
  ⟨fun pins s σ H Q I h => wpAny_Call_Name_kw (ld_glob I hg hm (PySem.W.callWith_K (h₀ := X.base) I.ok.mod.kin hk (thn (ha.run pos pins s σ H _ I h) fun us s1 ⟨vs, H1, I1, r, q⟩ => ⟨I1.kIn, run_fnG F hr hb (hx σ) I1 r q⟩) he hpl) hdb)⟩
end
structure Has (P : Program) (w : World) (K : PySem.W.Frag) (mg : Str → Option Value) (base : Heap) (k : Nat) (x : Str) (n : Nat) (m : List D → M D) : Prop where
  ex : ∃ (f : Addr) (fd : FuncData) (ps : List Str), mg x = some (.ref f) ∧ PySem.W.keepIn K (.ref f) = true ∧ Binds K fd ps [] ∧ ps.length = n ∧ FnG P w K mg base (L2.CX P w) k f fd ps (SpM K n m)
section
variable {X : Cx} {p : PL} {e a b : Expr} {es : List Expr} {f g : Env → M D} {fs : List (Env → M D)} {pos pos' : Pos} {k : Nat} {x : Str} {n : Nat} {m : List D → M D}
theorem de_call (h : Has X.prog X.w X.K X.mg X.base k x n m) (hr : RoomG k X.A) (ha : DA X p (e :: es) fs) (hn : fs.length = n := by rfl) (hg : Gl X x := by rfl) (hdb : (x == ("__debug__" : Str)) = false := by decide)
    (he : starEach (e :: es) X.env = (false, eval e X.env) :: starEach es X.env := by rfl) (hpl : (backTo pos (starEach es X.env)).any (·.1) = false := by rfl) : DE X p (.Call (.Name x pos') (e :: es) [] pos) (fun ρ => seqA fs ρ m) := by
  obtain ⟨f, fd, ps, mf, kp, hb, hl, F⟩ := h.ex
  refine ⟨fun W G H0 ρ σ H s R Ex Q tk rl hw q px => tE_of (pe_callG F hr hg mf kp hb (fun σ => passAt tk σ) pa_self hdb he hpl) ?_⟩
  refine ha.run D m W G H0 ρ σ H s R Ex _ tk rl hw (fun ds s1 vs H1 h1 a1 r1 en => ?_) px
  have rl1 := rl.step a1.st a1.pen
  refine ⟨p, Fo G ρ σ, ds, s1, rl.fpa, .inl rl.gca, fun a ha => ?_, a1.pen, by rw [r1.length, en, hn], r1, wp_mono h1 (fun d s2 hR v H2 a2 r2 => q d s2 v H2 hR (a1.trans a2) r2) fun c fs s2 hE dx vfs H2 a2 x2 r2 => px c fs s2 dx vfs H2 hE (a1.trans a2) x2 (r2.mono (fun _ _ z _ => z) fun _ z => .inl z)⟩
  cases z : H1 a with
  | some o => exact ⟨o, rfl⟩
  | none => exact (rl1.fresh z ha).elim
/-! ### calls of built-ins, by values -/
def CalS (K : PySem.W.Frag) (p : PL) (r : List V → Hp → VK → Prop) (g : List D → Option D) : Prop :=
  ∀ (F : Addr → Prop) (H : Hp) (vs : List V) (ds : List D) (d : D) (Q : VK), (∀ a, p.no a → F a) → (∀ a, H a = none → ¬ F a) → RepL K p H F vs ds → g ds = some d → (∀ v H', Same H H' → Rep K p H' F v d → Q v H') → r vs H Q
theorem cal_run {r : List V → Hp → VK → Prop} {kk : List D → Option D} (hs : CalS X.K p r kk) (ha : DA X p es fs) {W : WX} {G : Addr → Prop} {H0 : Hp} {ρ : Env} {σ : L2.St} {H : Hp} {s : Pen} {R : D → Pen → Prop} {Ex : XR} {Q : VK} (tk : Takes X W) (rl : Rel X.K p G H0 ρ σ H s)
    (h : wpM (seqA fs ρ fun xs => lift (kk xs)) s R Ex) (q : ∀ d s' v H', R d s' → Af p H H' s' → Rep X.K p H' (Fo G ρ σ) v d → Q v H') (px : PX X p W G σ H Ex) : tCB r (tA X es) σ H Q := by
  refine ha.run D _ W G H0 ρ σ H s R Ex _ tk rl h (fun ds s1 vs H1 h1 a1 r1 _ => ?_) px
  cases e : kk ds with
  | none => rw [e] at h1; exact h1.elim
  | some d =>
    rw [e] at h1
    exact hs _ H1 vs ds d Q rl.fpa (fun _ z => (rl.step a1.st a1.pen).fresh z) r1 e fun v H2 sm r2 => q d s1 v H2 h1 (a1.trans (.same a1.pen sm)) r2
theorem de_callB {id : String} {r : List V → Hp → VK → Prop} {kk : List D → Option D} (hc : CallR X (.builtin id) r) (hs : CalS X.K p r kk) (hm : X.mg x = none) (hv : bootBuiltins x = some (.builtin id)) (ha : DA X p (e :: es) fs) (hg : Gl X x := by rfl) (hn : x ≠ "__name__" := by decide) (hdb : (x == ("__debug__" : Str)) = false := by decide)
    (he : starEach (e :: es) X.env = (false, eval e X.env) :: starEach es X.env := by rfl) (hpl : (backTo pos (starEach es X.env)).any (·.1) = false := by rfl) : DE X p (.Call (.Name x pos') (e :: es) [] pos) (fun ρ => seqA fs ρ fun xs => lift (kk xs)) :=
  ⟨fun W G H0 ρ σ H s R Ex Q tk rl hw q px => tE_of (pe_callB hc hg hm hv pa_self hn hdb he hpl) (cal_run hs ha tk rl hw q px)⟩
theorem de_callTy {T : String} {r : List V → Hp → VK → Prop} {kk : List D → Option D} (hc : CallR X (.type T) r) (hs : CalS X.K p r kk) (hm : X.mg x = none) (hv : bootBuiltins x = some (.type T)) (ha : DA X p (e :: es) fs) (hg : Gl X x := by rfl) (hn : x ≠ "__name__" := by decide) (hdb : (x == ("__debug__" : Str)) = false := by decide)
    (he : starEach (e :: es) X.env = (false, eval e X.env) :: starEach es X.env := by rfl) (hpl : (backTo pos (starEach es X.env)).any (·.1) = false := by rfl) : DE X p (.Call (.Name x pos') (e :: es) [] pos) (fun ρ => seqA fs ρ fun xs => lift (kk xs)) :=
  ⟨fun W G H0 ρ σ H s R Ex Q tk rl hw q px => tE_of (pe_callTy hc hg hm hv pa_self hn hdb he hpl) (cal_run hs ha tk rl hw q px)⟩
/-! len, tuple, list, all, any, sum -/
def lenD : List D → Option D
  | [.lst xs] => some (.int xs.length)
  | [.tup xs] => some (.int xs.length)
  | [.str s] => some (.int s.length)
  | _ => none
theorem de_len (hm : X.mg "len" = none) (ha : DA X p [e] fs) (hg : Gl X "len" := by rfl) (he : starEach (e :: []) X.env = (false, eval e X.env) :: starEach [] X.env := by rfl) (hpl : (backTo pos (starEach [] X.env)).any (·.1) = false := by rfl) :
    DE X p (.Call (.Name "len" pos') [e] [] pos) (fun ρ => seqA fs ρ fun xs => lift (lenD xs)) := by
  refine de_callB (call_len_seq.or call_len_str) (fun F H vs ds d Q hp hf r e q => ?_) hm boot_len ha hg (by decide) (by decide) he hpl
  unfold lenD at e
  split at e
  · cases e
    cases r with
    | cons r1 r2 =>
      cases r2
      cases r1 with
      | lst h1 n1 hz l1 => exact .inl ⟨_, _, rfl, .inl (.inl (.inl h1)), q _ H (Same.refl H) (by rw [l1.length]; exact .int _)⟩
  · cases e
    cases r with
    | cons r1 r2 =>
      cases r2
      cases r1 with
      | tup h1 hz l1 => exact .inl ⟨_, _, rfl, .inr (tupSq h1), q _ H (Same.refl H) (by rw [l1.length]; exact .int _)⟩
  · cases e
    cases r with
    | cons r1 r2 =>
      cases r2
      cases r1 with
      | str s h => exact .inr ⟨_, rfl, h, q _ H (Same.refl H) (.int _)⟩
  · cases e
def tupleD : List D → Option D
  | [.lst xs] => some (.tup xs)
  | [.tup xs] => some (.tup xs)
  | _ => none
theorem de_tuple (hm : X.mg "tuple" = none) (ha : DA X p [e] fs) (hg : Gl X "tuple" := by rfl) (he : starEach (e :: []) X.env = (false, eval e X.env) :: starEach [] X.env := by rfl) (hpl : (backTo pos (starEach [] X.env)).any (·.1) = false := by rfl) :
    DE X p (.Call (.Name "tuple" pos') [e] [] pos) (fun ρ => seqA fs ρ fun xs => lift (tupleD xs)) := by
  refine de_callTy call_tupleF (fun F H vs ds d Q hp hf r e q => ?_) hm (by decide +kernel) ha hg (by decide) (by decide) he hpl
  unfold tupleD at e
  split at e
  · cases e
    cases r with
    | cons r1 r2 =>
      cases r2
      cases r1 with
      | lst h1 n1 hz l1 =>
        refine ⟨_, _, rfl, .inl ⟨.inl (.inl h1), fun a o ha nd => ?_⟩⟩
        exact q _ _ (same_new ha) (.tup (⟨⟨o, upd_same, nd⟩, hf a ha⟩) hz (l1.mono ((same_step (p := p) (same_new ha)).toF hp) fun _ z => z))
  · cases e
    cases r with
    | cons r1 r2 =>
      cases r2
      cases r1 with
      | tup h1 hz l1 => exact ⟨_, _, rfl, .inr ⟨tupSq h1, q _ H (Same.refl H) (.tup h1 hz l1)⟩⟩
  · cases e
def blsOf : List D → Option (List Bool)
  | [] => some []
  | .bl b :: ds => (blsOf ds).map (b :: ·)
  | _ :: _ => none
theorem blsOf_ok : ∀ {xs : List D} {ns : List Bool}, blsOf xs = some ns → xs = ns.map D.bl
  | [], ns, h => by cases h; rfl
  | .bl i :: ds, ns, h => by
    have h1 : (blsOf ds).map (i :: ·) = some ns := h
    cases e : blsOf ds with
    | none => rw [e] at h1; cases h1
    | some ms =>
      rw [e] at h1
      cases h1
      rw [blsOf_ok e]
      rfl
  | .non :: _, ns, h => by cases h
  | .int _ :: _, ns, h => by cases h
  | .str _ :: _, ns, h => by cases h
  | .tup _ :: _, ns, h => by cases h
  | .lst _ :: _, ns, h => by cases h
  | .dct _ :: _, ns, h => by cases h
  | .ins _ _ :: _, ns, h => by cases h
  | .pen :: _, ns, h => by cases h
  | .fn _ :: _, ns, h => by cases h
theorem repL_bls {K : PySem.W.Frag} {H : Hp} {F : Addr → Prop} : ∀ {ns : List Bool} {vs : List V}, RepL K p H F vs (ns.map D.bl) → vs = ns.map V.bl
  | [], _, .nil => rfl
  | n :: ns, _, .cons h r => by
    cases h
    rw [repL_bls r]
    rfl
def allD : List D → Option D
  | [.lst xs] => (blsOf xs).map fun bs => .bl (bs.all id)
  | _ => none
def anyD : List D → Option D
  | [.lst xs] => (blsOf xs).map fun bs => .bl (bs.any id)
  | _ => none
theorem de_all (hm : X.mg "all" = none) (ha : DA X p [e] fs) (hc : X.calm = true := by rfl) (hg : Gl X "all" := by rfl) (he : starEach (e :: []) X.env = (false, eval e X.env) :: starEach [] X.env := by rfl) (hpl : (backTo pos (starEach [] X.env)).any (·.1) = false := by rfl) :
    DE X p (.Call (.Name "all" pos') [e] [] pos) (fun ρ => seqA fs ρ fun xs => lift (allD xs)) := by
  refine de_callB (cr_all hc) (fun F H vs ds d Q hp hf r e q => ?_) hm (by decide +kernel) ha hg (by decide) (by decide) he hpl
  unfold allD at e
  split at e
  · obtain ⟨bs, e1, e2⟩ := Option.map_eq_some_iff.mp e
    subst e2
    cases r with
    | cons r1 r2 =>
      cases r2
      cases r1 with
      | lst h1 n1 hz l1 =>
        rw [blsOf_ok e1] at l1
        have := repL_bls l1
        subst this
        exact ⟨_, bs, rfl, .inl (.inl h1), q _ H (Same.refl H) (.bl _)⟩
  · cases e
theorem de_any (hm : X.mg "any" = none) (ha : DA X p [e] fs) (hc : X.calm = true := by rfl) (hg : Gl X "any" := by rfl) (he : starEach (e :: []) X.env = (false, eval e X.env) :: starEach [] X.env := by rfl) (hpl : (backTo pos (starEach [] X.env)).any (·.1) = false := by rfl) :
    DE X p (.Call (.Name "any" pos') [e] [] pos) (fun ρ => seqA fs ρ fun xs => lift (anyD xs)) := by
  refine de_callB (cr_any hc) (fun F H vs ds d Q hp hf r e q => ?_) hm (by decide +kernel) ha hg (by decide) (by decide) he hpl
  unfold anyD at e
  split at e
  · obtain ⟨bs, e1, e2⟩ := Option.map_eq_some_iff.mp e
    subst e2
    cases r with
    | cons r1 r2 =>
      cases r2
      cases r1 with
      | lst h1 n1 hz l1 =>
        rw [blsOf_ok e1] at l1
        have := repL_bls l1
        subst this
        exact ⟨_, bs, rfl, .inl (.inl h1), q _ H (Same.refl H) (.bl _)⟩
  · cases e
/-- list(xs): new -/
def listD : List D → M (List D)
  | [.lst xs] => pure xs
  | [.tup xs] => pure xs
  | _ => bad
theorem dn_list (hm : X.mg "list" = none) (ha : DA X p [e] fs) (hg : Gl X "list" := by rfl) (he : starEach (e :: []) X.env = (false, eval e X.env) :: starEach [] X.env := by rfl) (hpl : (backTo pos (starEach [] X.env)).any (·.1) = false := by rfl) :
    DN X p (.Call (.Name "list" pos') [e] [] pos) (fun ρ => seqA fs ρ listD) := by
  refine ⟨fun W G H0 ρ σ H s R Ex Q tk rl hw q px => tE_of (pe_callTy call_list_of hg hm (by decide +kernel) pa_self (by decide) (by decide) he hpl) ?_⟩
  refine ha.run _ listD W G H0 ρ σ H s R Ex _ tk rl hw (fun ds s1 vs H1 h1 a1 r1 _ => ?_) px
  have fin : ∀ (vs : List V) (xs : List D), xs.length ≤ 16777216 → RepL X.K p H1 (Fo G ρ σ) vs xs → R xs s1 → ∀ l, H1 l = none → Q (.ref l) (upd H1 l (.lst vs)) := fun vs xs hz lr hR l hl =>
    q xs s1 l vs _ hR (a1.trans (.same a1.pen (same_new hl))) (back_none a1 hl) upd_same hz ((lr.more (N := fun a => a = l) fun a z => by rw [z]; exact hl).mono ((same_step (p := p) (same_new hl)).toF (fun a z => .inl (rl.fpa a z))) fun _ z => z)
  unfold listD at h1
  split at h1
  · cases r1 with
    | cons r1 r2 =>
      cases r2
      cases r1 with
      | lst ho n1 hz l1 => exact ⟨_, _, rfl, .inl (.inl (.inl ho)), fin _ _ hz l1 h1⟩
  · cases r1 with
    | cons r1 r2 =>
      cases r2
      cases r1 with
      | tup ho hz l1 => exact ⟨_, _, rfl, .inr (tupSq ho), fin _ _ hz l1 h1⟩
  · exact h1.elim
/-- xs + ys, lists: new -/
def catN : D → D → M (List D)
  | .lst xs, .lst ys => if xs.length + ys.length ≤ 16777216 then pure (xs ++ ys) else bad
  | _, _ => bad
theorem dn_cat (ha : DE X p a f) (hb : DE X p b g) : DN X p (.BinOp a .Add b pos) (fun ρ => f ρ >>= fun x => g ρ >>= fun y => catN x y) := by
  refine ⟨fun W G H0 ρ σ H s R Ex Q tk rl hw q px => tE_of (pe_op op_cat pe_self pe_self) ?_⟩
  rw [wp_bind] at hw
  refine ha.run W G H0 ρ σ H s _ Ex _ tk rl hw (fun d1 s1 v1 H1 h1 a1 r1 => ?_) px
  rw [wp_bind] at h1
  refine hb.run W G H0 ρ σ H1 s1 _ Ex _ tk (rl.step a1.st a1.pen) h1 (fun d2 s2 v2 H2 h2 a2 r2 => ?_) (px.at a1)
  have r1' := r1.mono (a2.st.toF rl.fpa) fun _ z => z
  unfold catN at h2
  split at h2
  · rename_i xs ys
    by_cases hc : xs.length + ys.length ≤ 16777216
    · rw [if_pos hc] at h2
      cases r1' with
      | lst ho1 n1 hz1 l1 =>
      cases r2 with
      | lst ho2 n2 hz2 l2 =>
      refine ⟨_, _, _, _, rfl, rfl, ho1, ho2, by rw [l1.length, l2.length, sizeLine_eq]; exact hc, fun l hl => ?_⟩
      have a12 := a1.trans a2
      exact q _ s2 l _ _ h2 (a12.trans (.same a12.pen (same_new hl))) (back_none a12 hl) upd_same (by rw [List.length_append]; exact hc) (((l1.append l2).more (N := fun a => a = l) fun a z => by rw [z]; exact hl).mono ((same_step (p := p) (same_new hl)).toF (fun a z => .inl (rl.fpa a z))) fun _ z => z)
    · rw [if_neg hc] at h2
      exact h2.elim
  · exact h2.elim
end
end Say

namespace Say
open L2 PyProof.Rows PySem.Spec PySem

/-! ### slots stored, wiped -/
theorem get_set {α : Type} {l : List α} {i j : Nat} {x y : α} (h : (l.set i x)[j]? = some y) : (i = j ∧ y = x ∧ i < l.length) ∨ (i ≠ j ∧ l[j]? = some y) := by
  by_cases e : i = j
  · subst e
    by_cases hl : i < l.length
    · rw [List.getElem?_set_self hl] at h
      cases h
      exact .inl ⟨rfl, rfl, hl⟩
    · rw [List.getElem?_eq_none (by rw [List.length_set]; omega)] at h
      cases h
  · rw [List.getElem?_set_ne e] at h
    exact .inr ⟨e, h⟩
section
variable {K : PySem.W.Frag} {p : PL} {G : Addr → Prop} {H0 H H' : Hp} {ρ : Env} {σ : L2.St} {s s' : Pen}
theorem fo_set {i : Nat} {x : Sl} {o : Option V} (hx : x.held = false) {a : Addr} (h : Fo G (ρ.set i x) (σ.set i o) a) : Fo G ρ σ a := by
  rcases h with h | ⟨j, y, h1, hy, h2⟩
  · exact .inl h
  · rcases get_set h1 with ⟨rfl, rfl, _⟩ | ⟨ne, h1⟩
    · rw [hx] at hy
      cases hy
    · rw [List.getElem?_set_ne ne] at h2
      exact .inr ⟨j, y, h1, hy, h2⟩
/-- a slot that holds nothing of its own is stored -/
theorem Rel.put {i : Nat} {x : Sl} {o : Option V} (r : Rel K p G H0 ρ σ H s) (hx : x.held = false) (ho : ∀ d, x = .dat d → ∃ v, o = some v ∧ Rep K p H (Fo G ρ σ) v d) : Rel K p G H0 (ρ.set i x) (σ.set i o) H s where
  len := by rw [List.length_set, List.length_set]; exact r.len
  dat := fun j d e => by
    rcases get_set e with ⟨rfl, q, hl⟩ | ⟨ne, e⟩
    · obtain ⟨v, h1, h2⟩ := ho d q.symm
      subst h1
      exact ⟨v, List.getElem?_set_self (by rw [← r.len]; exact hl), h2.mono (fun _ _ z _ => z) fun _ => fo_set hx⟩
    · obtain ⟨v, h1, h2⟩ := r.dat j d e
      exact ⟨v, by rw [List.getElem?_set_ne ne]; exact h1, h2.mono (fun _ _ z _ => z) fun _ => fo_set hx⟩
  own := fun j y e hy => by
    rcases get_set e with ⟨rfl, q, hl⟩ | ⟨ne, e⟩
    · subst q
      rw [hx] at hy
      cases hy
    · obtain ⟨a, h1, h2, h3⟩ := r.own j y e hy
      exact ⟨a, by rw [List.getElem?_set_ne ne]; exact h1, h2, h3.mono (fun _ z => z) (fun _ _ z _ => z) fun _ => fo_set hx⟩
  inj := fun j k y z a h1 hy h2 hz h3 h4 => by
    rcases get_set h1 with ⟨rfl, q, _⟩ | ⟨ne, h1⟩
    · subst q
      rw [hx] at hy
      cases hy
    · rcases get_set h2 with ⟨rfl, q, _⟩ | ⟨ne2, h2⟩
      · subst q
        rw [hx] at hz
        cases hz
      · rw [List.getElem?_set_ne ne] at h3
        rw [List.getElem?_set_ne ne2] at h4
        exact r.inj j k y z a h1 hy h2 hz h3 h4
  old := r.old
  pen := r.pen
  gpa := r.gpa
  gca := r.gca
  gex := r.gex
  gne := fun j y a h1 hy h2 => by
    rcases get_set h1 with ⟨rfl, q, _⟩ | ⟨ne, h1⟩
    · subst q
      rw [hx] at hy
      cases hy
    · rw [List.getElem?_set_ne ne] at h2
      exact r.gne j y a h1 hy h2
end
def wipeE (ρ : Env) : List Nat → Env
  | [] => ρ
  | v :: vs => (wipeE ρ vs).set v .no
/-- none of them holds what is owned -/
def okW (vs : List Nat) (ρ : Env) : Bool := vs.all fun i => match ρ[i]? with
  | some x => !x.held
  | none => true
theorem Rel.wipe {K : PySem.W.Frag} {p : PL} {G : Addr → Prop} {H0 H : Hp} {ρ : Env} {σ : L2.St} {s : Pen} (r : Rel K p G H0 ρ σ H s) : ∀ vs : List Nat, Rel K p G H0 (wipeE ρ vs) (L2.wipe σ vs) H s
  | [] => r
  | v :: vs => (r.wipe vs).put rfl fun d e => by cases e
theorem wipeE_out {ρ : Env} {i : Nat} : ∀ {vs : List Nat}, i ∉ vs → (wipeE ρ vs)[i]? = ρ[i]?
  | [], _ => rfl
  | v :: vs, h => by
    rw [List.mem_cons,
        not_or] at h
    show ((wipeE ρ vs).set v .no)[i]? = _
    rw [List.getElem?_set_ne (Ne.symm h.1), wipeE_out h.2]
theorem fo_wipe {G : Addr → Prop} {ρ : Env} {σ : L2.St} {vs : List Nat} (ok : okW vs ρ = true) {a : Addr} (h : Fo G ρ σ a) : Fo G (wipeE ρ vs) (L2.wipe σ vs) a := by
  rcases h with h | ⟨i, x, h1, hx, h2⟩
  · exact .inl h
  · have hn : i ∉ vs := fun hm => by
      have := List.all_eq_true.mp ok i hm
      rw [h1] at this
      simp [hx] at this
    exact .inr ⟨i, x, by rw [wipeE_out hn]; exact h1, hx, by rw [L2.wipe_out hn]; exact h2⟩

/-! ### targets -/
def tG (X : Cx) (tg : Expr) : TG := fun v σ H Q => ∀ (pins : List (Addr × Obj)) (s : Shared) (u : Value), Inv X pins σ H s → RelV v u →
  wpAny (model X.prog X.w) X.A (assign tg X.env u) (fun _ s' => ∃ σ' H', Inv X pins σ' H' s' ∧ Q σ' H') X.xe s
theorem pg_self {X : Cx} {tg : Expr} : PG X tg (tG X tg) := ⟨fun pins s σ H v u Q I r h => h pins s u I r⟩
theorem tG_of {X : Cx} {tg : Expr} {t : TG} {v : V} {σ : L2.St} {H : Hp} {Q : L2.St → Hp → Prop} (h : PG X tg t) (q : t v σ H Q) : tG X tg v σ H Q := fun pins s u I r => h.run pins s σ H v u Q I r q
/-- the slots of ts alone are stored -/
def SameBut (ts : List Nat) (ρ ρ' : Env) (σ σ' : L2.St) : Prop := (∀ vs, (∀ i ∈ ts, i ∈ vs) → L2.wipe σ' vs = L2.wipe σ vs) ∧ (∀ j, j ∉ ts → ρ'[j]? = ρ[j]? ∧ σ'[j]? = σ[j]?)
structure DG (X : Cx) (p : PL) (tg : Expr) (ts : List Nat) (h : D → Env → Option Env) : Prop where
  run : ∀ (G : Addr → Prop) (H0 : Hp) (ρ ρ' : Env) (σ : L2.St) (H : Hp) (s : Pen) (v : V) (d : D) (Q : L2.St → Hp → Prop), Rel X.K p G H0 ρ σ H s → Rep X.K p H (Fo G ρ σ) v d → h d ρ = some ρ' →
    (∀ σ', Rel X.K p G H0 ρ' σ' H s → SameBut ts ρ ρ' σ σ' → Q σ' H) → tG X tg v σ H Q
theorem set_wipe {σ : L2.St} {i : Nat} {x : Option V} : ∀ {vs : List Nat}, i ∈ vs → L2.wipe (σ.set i x) vs = L2.wipe σ vs
  | [], h => nomatch h
  | v :: vs, h => by
    show (L2.wipe (σ.set i x) vs).set v none = (L2.wipe σ vs).set v none
    by_cases hm : i ∈ vs
    · rw [set_wipe hm]
    · have e : i = v := (List.mem_cons.mp h).resolve_right hm
      subst e
      have z : ∀ ws : List Nat, i ∉ ws → L2.wipe (σ.set i x) ws = (L2.wipe σ ws).set i x := by
        intro ws
        induction ws with
        | nil => intro _; rfl
        | cons w ws ih =>
          intro hn
          rw [List.mem_cons,
              not_or] at hn
          show (L2.wipe (σ.set i x) ws).set w none = ((L2.wipe σ ws).set w none).set i x
          rw [ih hn.2, List.set_comm _ _ hn.1]
      rw [z vs hm, List.set_set]
section
variable {X : Cx} {p : PL} {pos : Pos}
theorem dg_name {i : Nat} {x : Str} (hN : X.N.Nodup) (hi : X.N[i]? = some x := by rfl) (hx : Loc X.env.scope x := by first | exact Or.inl rfl | exact Or.inr rfl) (hf : X.fn x = true ∨ X.env.scope.names.lookup x = some .local := by first | exact .inl rfl | exact .inr rfl) : DG X p (.Name x pos) [i] (fun d ρ => some (ρ.set i (.dat d))) := by
  refine ⟨fun G H0 ρ ρ' σ H s v d Q r rp e q => tG_of (pg_name hN hi hx hf) ?_⟩
  cases e
  refine q _ (r.put rfl fun d' e => by cases e; exact ⟨v, rfl, rp⟩) ⟨fun vs hv => set_wipe (hv i (by simp)), fun j hj => ?_⟩
  have ne : i ≠ j := fun z => hj (by rw [z]; simp)
  exact ⟨List.getElem?_set_ne ne, List.getElem?_set_ne ne⟩
/-- several targets -/
def tGs (X : Cx) (tgs : List Expr) : TGs := fun vs σ H Q => ∀ (pins : List (Addr × Obj)) (s : Shared) (us : List Value), Inv X pins σ H s → Vals vs us →
  wpAny (model X.prog X.w) X.A (assignInOrder ((assignEach tgs X.env).map (·.2)) us) (fun _ s' => ∃ σ' H', Inv X pins σ' H' s' ∧ Q σ' H') X.xe s
theorem pgs_self {tgs : List Expr} : PGs X tgs (tGs X tgs) := ⟨fun pins s σ H vs us Q I r h => h pins s us I r⟩
structure DGs (X : Cx) (p : PL) (tgs : List Expr) (ts : List Nat) (h : List D → Env → Option Env) : Prop where
  run : ∀ (G : Addr → Prop) (H0 : Hp) (ρ ρ' : Env) (σ : L2.St) (H : Hp) (s : Pen) (vs : List V) (ds : List D) (Q : L2.St → Hp → Prop), Rel X.K p G H0 ρ σ H s → RepL X.K p H (Fo G ρ σ) vs ds → h ds ρ = some ρ' →
    (∀ σ', Rel X.K p G H0 ρ' σ' H s → SameBut ts ρ ρ' σ σ' → Q σ' H) → tGs X tgs vs σ H Q
def unpack : List (D → Env → Option Env) → List D → Env → Option Env
  | [], [], ρ => some ρ
  | h :: hs, d :: ds, ρ => match h d ρ with
    | some ρ' => unpack hs ds ρ'
    | none => none
  | _, _, _ => none
theorem fo_but {G : Addr → Prop} {K : PySem.W.Frag} {H0 H : Hp} {ρ ρ' : Env} {σ σ' : L2.St} {s : Pen} {ts : List Nat} (r : Rel K p G H0 ρ σ H s) (h : SameBut ts ρ ρ' σ σ') (hn : ∀ (j : Nat) (x : Sl), j ∈ ts → ρ'[j]? = some x → x.held = false) {a : Addr} (f : Fo G ρ' σ' a) : Fo G ρ σ a := by
  rcases f with f | ⟨j, x, h1, hx, h2⟩
  · exact .inl f
  · by_cases hj : j ∈ ts
    · have := hn j x hj h1
      rw [hx] at this
      cases this
    · obtain ⟨e1, e2⟩ := h.2 j hj
      exact .inr ⟨j, x, by rw [← e1]; exact h1, hx, by rw [← e2]; exact h2⟩
theorem dgs_nil : DGs X p [] [] (unpack []) := by
  refine ⟨fun G H0 ρ ρ' σ H s vs ds Q r rp e q => fun pins sh us I rv => ?_⟩
  cases ds with
  | nil =>
    cases e
    cases rp
    exact pgs_nil.run pins sh σ H _ us Q I rv ⟨rfl, q σ r ⟨fun _ _ => rfl, fun _ _ => ⟨rfl, rfl⟩⟩⟩
  | cons d ds => cases e
theorem dgs_cons {i : Nat} {x : Str} {ts : List Nat} {tgs : List Expr} {hs : List (D → Env → Option Env)} (hN : X.N.Nodup) (hr : DGs X p tgs ts (unpack hs)) (hi : X.N[i]? = some x := by rfl) (hx : Loc X.env.scope x := by first | exact Or.inl rfl | exact Or.inr rfl) (hf : X.fn x = true ∨ X.env.scope.names.lookup x = some .local := by first | exact .inl rfl | exact .inr rfl)
    (ha : (assignEach (Expr.Name x pos :: tgs) X.env).map (·.2) = assign (.Name x pos) X.env :: (assignEach tgs X.env).map (·.2) := by rfl) : DGs X p (.Name x pos :: tgs) (i :: ts) (unpack ((fun d ρ => some (ρ.set i (.dat d))) :: hs)) := by
  refine ⟨fun G H0 ρ ρ' σ H s vs ds Q r rp e q => fun pins sh us I rv => ?_⟩
  cases ds with
  | nil => cases e
  | cons d ds =>
    cases rp with
    | cons r1 r2 =>
      refine (pgs_cons (pg_name hN hi hx hf) pgs_self ha).run pins sh σ H _ us Q I rv ⟨_, _, rfl, ?_⟩
      have rl := r.put (i := i) (x := .dat d) (o := some _) rfl fun d' e => by cases e; exact ⟨_, rfl, r1⟩
      refine hr.run G H0 (ρ.set i (.dat d)) ρ' _ H s _ ds Q rl (r2.mono (fun _ _ z _ => z) fun _ => fo_set rfl) e fun σ' r' sb => q σ' r' ⟨fun vs hv => ?_, fun j hj => ?_⟩
      · rw [sb.1 vs fun k hk => hv k (List.mem_cons_of_mem _ hk)]
        exact set_wipe (hv i (by simp))
      · rw [List.mem_cons, not_or] at hj
        obtain ⟨e1, e2⟩ := sb.2 j hj.2
        exact ⟨e1.trans (List.getElem?_set_ne (Ne.symm hj.1)), e2.trans (List.getElem?_set_ne (Ne.symm hj.1))⟩
def unpackD (hs : List (D → Env → Option Env)) (d : D) (ρ : Env) : Option Env := match d with
  | .tup ds => unpack hs ds ρ
  | .itm ds => unpack hs ds ρ
  | _ => none
theorem unpack_len : ∀ {hs : List (D → Env → Option Env)} {ds : List D} {ρ ρ' : Env}, unpack hs ds ρ = some ρ' → ds.length = hs.length
  | [], [], _, _, _ => rfl
  | h :: hs, d :: ds, ρ, ρ', e => by
    have e1 : (match h d ρ with | some ρ' => unpack hs ds ρ' | none => none) = some ρ' := e
    cases z : h d ρ with
    | none => rw [z] at e1; cases e1
    | some ρ1 =>
      rw [z] at e1
      rw [List.length_cons, List.length_cons, unpack_len e1]
  | [], _ :: _, _, _, e => by cases e
  | _ :: _, [], _, _, e => by cases e
theorem dg_tup {tgs : List Expr} {kk : Nat} {ts : List Nat} {hs : List (D → Env → Option Env)} (h : DGs X p tgs ts (unpack hs)) (hc : X.calm = true := by rfl) (hn : (assignEach tgs X.env).length = hs.length := by rfl) (hst : (assignEach tgs X.env).findIdx? (·.1) = none := by rfl) : DG X p (.Tuple tgs kk pos) ts (unpackD hs) := by
  refine ⟨fun G H0 ρ ρ' σ H s v d Q r rp e q => tG_of (pg_tup hc pgs_self hn hst) ?_⟩
  unfold unpackD at e
  split at e
  · cases rp with
    | tup ho hz l => exact ⟨_, _, rfl, tupSq ho, by rw [l.length, unpack_len e], h.run G H0 ρ ρ' σ H s _ _ Q r l e q⟩
  · cases rp with
    | itm ho hz l => exact ⟨_, _, rfl, .inl (.inl ho.1), by rw [l.length, unpack_len e], h.run G H0 ρ ρ' σ H s _ _ Q r l e q⟩
  · cases e
end

/-! ### what is walked -/
def Yld (K : PySem.W.Frag) (p : PL) (F : Addr → Prop) (Hs H1 H2 : Hp) (x : V) (d : D) : Prop :=
  (H2 = H1 ∧ Rep K p Hs F x d) ∨ (∃ (T : Addr) (vs : List V) (ds : List D), x = .ref T ∧ H1 T = none ∧ H2 = upd H1 T (.tup vs) ∧ d = .itm ds ∧ ds.length ≤ 16777216 ∧ RepL K p Hs F vs ds)
structure ItOk (K : PySem.W.Frag) (p : PL) (Fs F : Addr → Prop) (J : It) (H : Hp) (ds : List D) : Prop where
  go : ∀ (i : Nat) (d : D) (H1 : Hp), StepF Fs H H1 → ds[i]? = some d → J.go i H1 ∧ ∀ x H2, J.yld i H1 x H2 → Yld K p F H H1 H2 x d
  stop : ∀ H1, StepF Fs H H1 → J.stop ds.length H1
  sz : ds.length ≤ 16777216
def tI (X : Cx) (tg iter : Expr) : TI := fun σ H R => ∀ (pins : List (Addr × Obj)) (s : Shared), Inv X pins σ H s →
  wpAny (model X.prog X.w) X.A (eval iter X.env) (fun v s1 => wpAny
      (model X.prog X.w) X.A (pyIter v) (PIE X pins σ tg R) X.xe s1) X.xe s
theorem pi_self {X : Cx} {tg iter : Expr} : PI X tg iter (tI X tg iter) := ⟨fun pins s σ H R I h => h pins s I⟩
theorem tI_of {X : Cx} {tg iter : Expr} {t : TI} {σ : L2.St} {H : Hp} {R : It → Hp → Prop} (h : PI X tg iter t) (q : t σ H R) : tI X tg iter σ H R := fun pins s I => h.run pins s σ H R I q
/-- lp: for a loop, whose body may change what is owned -/
def Fs (lp : Bool) (G F : Addr → Prop) : Addr → Prop := if lp = true then F else G
structure DI (X : Cx) (p : PL) (lp : Bool) (tg iter : Expr) (g : Env → M (List D)) : Prop where
  run : ∀ (W : WX) (G : Addr → Prop) (H0 : Hp) (ρ : Env) (σ : L2.St) (H : Hp) (s : Pen) (R : List D → Pen → Prop) (Ex : XR) (Q : It → Hp → Prop), Takes X W → Rel X.K p G H0 ρ σ H s → wpM (g ρ) s R Ex →
    (∀ ds s' H' J, R ds s' → Af p H H' s' → ItOk X.K p (Fs lp G (Fo G ρ σ)) (Fo G ρ σ) J H' ds → Q J H') → PX X p W G σ H Ex → tI X tg iter σ H Q
def seqM : D → M (List D)
  | .lst xs => pure xs
  | .tup xs => pure xs
  | _ => bad
section
variable {X : Cx} {p : PL} {lp : Bool} {tg e a b : Expr} {f g : Env → M D} {pos pos' : Pos}
theorem fs_sub {G : Addr → Prop} {ρ : Env} {σ : L2.St} {a : Addr} (h : Fs lp G (Fo G ρ σ) a) : Fo G ρ σ a := by
  cases lp with
  | true => exact h
  | false => exact .inl h
/-- a list or a tuple -/
theorem pi_seq {l : Expr} : PI X tg l (fun σ H R => tE X l σ H fun x H1 => (∃ (a : Addr) (vs : List V), x = .ref a ∧ SqL X.K H1 a vs ∧ R (Itl X.K a) H1) ∨ (∃ (a : Addr) (vs : List V), x = .ref a ∧ SqT X.K H1 a vs ∧ R (Itt X.K a) H1)) := by
  refine ⟨fun pins s σ H R I h => thn (h pins s I) fun v s1 hq => ?_⟩
  obtain ⟨x, H1, I1, r1, q1⟩ := hq
  have nw : ∀ c : Obj, Inv X pins σ H1 { s1 with heap := s1.heap.push c } := fun c => I1.kept (t' := s1.toks) fun _ _ z => Heap.get?_push_of_some _ z
  have fp : ∀ b ∈ [s1.heap.objs.size], FpOk X pins H1 b := fun b hb => by
    rw [List.mem_singleton.mp hb]
    exact I1.fpOk (Nat.le_refl _)
        (I1.hok.fresh (Nat.le_refl _))
  rcases q1 with ⟨a, vs, e, hs, q⟩ | ⟨a, vs, e, hs, q⟩
  · subst e
    obtain ⟨its, rv, pl, hz⟩ := I1.list hs
    have r1 : v = .ref a := r1
    subst r1
    exact wpAny_pyIter_list pl.isList ⟨s1.heap.objs.size, [s1.heap.objs.size], _, _, H1, rfl, nw _, turn_list a _, ⟨_, Heap.get?_push_size _ rfl, rfl, rfl⟩, fp, q⟩
  · subst e
    obtain ⟨its, rv, pt, hz⟩ := I1.tuple hs
    have r1 : v = .ref a := r1
    subst r1
    exact wpAny_pyIter_tuple (show s1.heap.IsTuple a its.toArray from pt) ⟨s1.heap.objs.size, [s1.heap.objs.size], _, _, H1, rfl, nw _, turn_tuple a _, ⟨_, Heap.get?_push_size _ rfl, rfl, rfl⟩, fp, q⟩
theorem itOk_list {K : PySem.W.Frag} {Fs F : Addr → Prop} {H : Hp} {a : Addr} {vs : List V} {ds : List D} (ho : H a = some (.lst vs)) (hF : ¬ Fs a) (hz : ds.length ≤ 16777216) (l : RepL K p H F vs ds) : ItOk K p Fs F (Itl K a) H ds where
  go := fun i d H1 st e => by
    obtain ⟨v, h1, h2⟩ := l.get e
    have h := st a _ ho hF
    refine ⟨⟨vs, v, .inl (.inl h), h1⟩, fun x H2 y => .inl ⟨y.1, ?_⟩⟩
    have := y.2 vs (.inl (.inl h))
    rw [h1] at this
    cases this
    exact h2
  stop := fun H1 st => ⟨vs, .inl (.inl (st a _ ho hF)), by rw [l.length]; exact Nat.le_refl _⟩
  sz := hz
theorem itOk_tup {K : PySem.W.Frag} {Fs F : Addr → Prop} {H : Hp} {a : Addr} {vs : List V} {ds : List D} (ho : Tp H a vs ∧ ¬ F a) (hs : ∀ a, Fs a → F a) (hz : ds.length ≤ 16777216) (l : RepL K p H F vs ds) : ItOk K p Fs F (Itt K a) H ds := by
  have at_ : ∀ H1, StepF Fs H H1 → SqT K H1 a vs := fun H1 st => ho.1.elim fun o w => .inl (.inr ⟨o, st a _ w.1 fun z => ho.2 (hs a z)⟩)
  refine ⟨fun i d H1 st e => ?_, fun H1 st => ⟨vs, at_ H1 st, by rw [l.length]; exact Nat.le_refl _⟩, hz⟩
  obtain ⟨v, h1, h2⟩ := l.get e
  refine ⟨⟨vs, v, at_ H1 st, h1⟩, fun x H2 y => .inl ⟨y.1, ?_⟩⟩
  have := y.2 vs (at_ H1 st)
  rw [h1] at this
  cases this
  exact h2
theorem di_seq (ha : DE X p e f) : DI X p lp tg e (fun ρ => f ρ >>= seqM) := by
  refine ⟨fun W G H0 ρ σ H s R Ex Q tk rl hw q px => tI_of pi_seq ?_⟩
  rw [wp_bind] at hw
  refine ha.run W G H0 ρ σ H s _ Ex _ tk rl hw (fun d s1 v H1 h1 a1 r1 => ?_) px
  cases d with
  | lst xs =>
    cases r1 with
    | lst ho hF hz l => exact .inl ⟨_, _, rfl, .inl (.inl ho), q xs s1 H1 _ h1 a1 (itOk_list ho (fun z => hF (fs_sub z)) hz l)⟩
  | tup xs =>
    cases r1 with
    | tup ho hz l => exact .inr ⟨_, _, rfl, tupSq ho, q xs s1 H1 _ h1 a1 (itOk_tup ho (fun _ => fs_sub) hz l)⟩
  | _ => exact h1.elim
/-- an owned list, in a comprehension -/
def slOwn : Option Sl → M (List D)
  | some (.own (.lst xs)) => pure xs
  | _ => bad
theorem di_own (i : Nat) {x : Str} (hN : X.N[i]? = some x := by rfl) (hv : Vis X.env.scope x := by first | exact Or.inl rfl | exact Or.inr (Or.inl rfl) | exact Or.inr (Or.inr rfl)) (hd : (x == ("__debug__" : Str)) = false := by decide)
    (hcd : (x == ("__classdict__" : Str)) = false := by decide) : DI X p false tg (.Name x pos) (fun ρ => slOwn ρ[i]?) := by
  refine ⟨fun W G H0 ρ σ H s R Ex Q tk rl hw q px => tI_of pi_seq ?_⟩
  have hw : wpM (slOwn ρ[i]?) s R Ex := hw
  cases e : ρ[i]? with
  | none => rw [e] at hw; exact hw.elim
  | some y =>
    rw [e] at hw
    cases y with
    | own d =>
      cases d with
      | lst xs =>
        obtain ⟨a, h1, h2, vs, h3, h4, h5⟩ := rl.own i _ e rfl
        refine tE_of (pe_var hN hv hd hcd) ⟨_, h1, .inl ⟨a, vs, rfl, .inl (.inl h3), q xs s H _ hw (.refl rl.pen) (itOk_list h3 ?_ h4 h5)⟩⟩
        exact fun z => rl.ownNe e rfl h1 z
      | _ => exact hw.elim
    | _ => exact hw.elim
/-- what range may be asked; by choice, so that no evaluation starts here -/
noncomputable def rngOk (i j : Int) : Bool := @decide (-1073741824 ≤ i ∧ i < 1073741824 ∧ -1073741824 ≤ j ∧ j < 1073741824 ∧ (j - i).toNat ≤ 16777216) (Classical.propDecidable _)
theorem rngOk_iff {i j : Int} : rngOk i j = true ↔ (-1073741824 ≤ i ∧ i < 1073741824 ∧ -1073741824 ≤ j ∧ j < 1073741824 ∧ (j - i).toNat ≤ 16777216) := @decide_eq_true_iff _ (Classical.propDecidable _)
/-- range(n), range(a, b) -/
noncomputable def rngM (lo hi : D) : M (List D) := match lo, hi with
  | .int i, .int j => if rngOk i j = true then pure ((List.range (j - i).toNat).map fun (n : Nat) => D.int (i + (n : Int))) else bad
  | _, _ => bad
theorem itOk_rng {K : PySem.W.Frag} {Fs F : Addr → Prop} {H : Hp} {lo : Int} {n : Nat} (hz : n ≤ 16777216) : ItOk K p Fs F (Itr lo n) H ((List.range n).map fun (m : Nat) => D.int (lo + (m : Int))) where
  go := fun i d H1 st e => by
    rw [List.getElem?_map] at e
    by_cases hi : i < n
    · rw [List.getElem?_range hi] at e
      cases e
      refine ⟨hi, fun x H2 y => ?_⟩
      obtain ⟨y1, y2⟩ := y
      subst y1
      subst y2
      exact .inl ⟨rfl, .int _⟩
    · rw [List.getElem?_eq_none (by rw [List.length_range]; omega)] at e
      cases e
  stop := fun H1 st => by
    rw [List.length_map,
        List.length_range]
    exact Nat.le_refl n
  sz := by
    rw [List.length_map,
        List.length_range]
    exact hz
theorem di_rng1 (hm : X.mg "range" = none) (ha : DA X p [e] [f]) (hg : Gl X "range" := by rfl) (hs : starEach [e] X.env = [(false, eval e X.env)] := by rfl) : DI X p lp tg (.Call (.Name "range" pos') [e] [] pos) (fun ρ => f ρ >>= fun j => rngM (.int 0) j) := by
  refine ⟨fun W G H0 ρ σ H s R Ex Q tk rl hw q px => tI_of (pi_range1 hg hm pa_self hs) ?_⟩
  refine ha.run _ (fun xs => match xs with | [j] => rngM (.int 0) j | _ => bad) W G H0 ρ σ H s R Ex _ tk rl hw (fun ds s1 vs H1 h1 a1 r1 _ => ?_) px
  cases ds with
  | nil => exact h1.elim
  | cons d ds =>
    cases ds with
    | cons d2 ds => exact h1.elim
    | nil =>
      have h1 : wpM (rngM (.int 0) d) s1 R Ex := h1
      cases r1 with
      | cons r1 r2 =>
      cases r2
      cases d with
      | int j =>
        cases r1
        have h1 : wpM (if rngOk 0 j = true then pure ((List.range (j - 0).toNat).map fun (n : Nat) => D.int (0 + (n : Int))) else bad) s1 R Ex := h1
        by_cases hk : rngOk 0 j = true
        · have hc := rngOk_iff.mp hk
          rw [if_pos hk, Int.sub_zero] at h1
          rw [Int.sub_zero] at hc
          exact ⟨j, rfl, by omega, by omega, q _ s1 H1 _ h1 a1 (itOk_rng hc.2.2.2.2)⟩
        · rw [if_neg hk] at h1
          exact h1.elim
      | _ => exact h1.elim
theorem di_rng2 (hm : X.mg "range" = none) (ha : DA X p [a, b] [f, g]) (hg : Gl X "range" := by rfl) (hs : starEach [a, b] X.env = [(false, eval a X.env), (false, eval b X.env)] := by rfl) (hs2 : starEach [b] X.env = [(false, eval b X.env)] := by rfl) :
    DI X p lp tg (.Call (.Name "range" pos') [a, b] [] pos) (fun ρ => f ρ >>= fun i => g ρ >>= fun j => rngM i j) := by
  refine ⟨fun W G H0 ρ σ H s R Ex Q tk rl hw q px => tI_of (pi_range2 hg hm pa_self hs hs2) ?_⟩
  refine ha.run _ (fun xs => match xs with | [i, j] => rngM i j | _ => bad) W G H0 ρ σ H s R Ex _ tk rl hw (fun ds s1 vs H1 h1 a1 r1 _ => ?_) px
  cases ds with
  | nil => exact h1.elim
  | cons d1 ds =>
    cases ds with
    | nil => exact h1.elim
    | cons d2 ds =>
      cases ds with
      | cons d3 ds => exact h1.elim
      | nil =>
        have h1 : wpM (rngM d1 d2) s1 R Ex := h1
        cases r1 with
        | cons r1 r2 =>
        cases r2 with
        | cons r2 r3 =>
        cases r3
        cases d1 with
        | int i =>
          cases d2 with
          | int j =>
            cases r1
            cases r2
            have h1 : wpM (if rngOk i j = true then pure ((List.range (j - i).toNat).map fun (n : Nat) => D.int (i + (n : Int))) else bad) s1 R Ex := h1
            by_cases hk : rngOk i j = true
            · have hc := rngOk_iff.mp hk
              rw [if_pos hk] at h1
              exact ⟨i, j, rfl, ⟨by omega, by omega, by omega, by omega⟩, q _ s1 H1 _ h1 a1 (itOk_rng hc.2.2.2.2)⟩
            · rw [if_neg hk] at h1
              exact h1.elim
          | _ => exact h1.elim
        | _ => exact h1.elim
end

/-! ### comprehensions -/
/-- nothing may be raised -/
def nx {α : Type} (m : M α) : M α := fun s => match m s with
  | .exc _ _ _ => .bad
  | o => o
@[simp] theorem nx_pure {α : Type} (a : α) : nx (pure a : M α) = pure a := rfl
@[simp] theorem nx_bad {α : Type} : nx (bad : M α) = bad := rfl
theorem nx_bind {α β : Type} (m : M α) (f : α → M β) : nx (m >>= f) = (nx m >>= fun a => nx (f a)) := by
  funext s
  show (match (match m s with | .ok a s' => f a s' | .exc c fs s' => .exc c fs s' | .bad => .bad) with | .exc _ _ _ => Out.bad | o => o) = (match (match m s with | .exc _ _ _ => Out.bad | o => o) with | .ok a s' => nx (f a) s' | .exc c fs s' => .exc c fs s' | .bad => .bad)
  cases m s <;> rfl
theorem wp_nx {α : Type} {m : M α} {s : Pen} {R : α → Pen → Prop} {Ex : XR} (h : wpM (nx m) s R Ex) : wpM m s R (fun _ _ _ => False) := by
  have h1 : (match (match m s with | .exc _ _ _ => Out.bad | o => o) with | .ok a s' => R a s' | .exc c fs s' => Ex c fs s' | .bad => False) := h
  show (match m s with | .ok a s' => R a s' | .exc c fs s' => False | .bad => False)
  cases e : m s with
  | ok a s' => rw [e] at h1; exact h1
  | exc c fs s' => rw [e] at h1; exact h1
  | bad => rw [e] at h1; exact h1
def bindT {β : Type} : Option Env → (Env → M β) → M β
  | some ρ, k => k ρ
  | none, _ => bad
def compL (h : D → Option Env) (t : Env → M Bool) (e : Env → M D) : List D → M (List D)
  | [] => pure []
  | x :: xs => bindT (h x) fun ρ => nx (t ρ) >>= fun b => if b = true then nx (e ρ) >>= fun y => compL h t e xs >>= fun ys => pure (y :: ys) else compL h t e xs
structure DTs (X : Cx) (p : PL) (ifs : List Expr) (f : Env → M Bool) : Prop where
  ex : (ifs = [] ∧ f = fun _ => pure true) ∨ ∃ c, ifs = [c] ∧ DT X p c f
theorem dts_nil {X : Cx} {p : PL} : DTs X p [] (fun _ => pure true) := ⟨.inl ⟨rfl, rfl⟩⟩
theorem dts_one {X : Cx} {p : PL} {c : Expr} {f : Env → M Bool} (h : DT X p c f) : DTs X p [c] f := ⟨.inr ⟨c, rfl, h⟩⟩
def tTs (X : Cx) (ifs : List Expr) : TT := fun σ H Q => ∃ t, PTs X ifs t ∧ t σ H Q
theorem pts_self {X : Cx} {ifs : List Expr} : PTs X ifs (tTs X ifs) := ⟨fun pins s σ H Q I h => by
  obtain ⟨t, h1, h2⟩ := h
  exact h1.run pins s σ H Q I h2⟩
theorem DTs.run {X : Cx} {p : PL} {ifs : List Expr} {f : Env → M Bool} (h : DTs X p ifs f) {W : WX} {G : Addr → Prop} {H0 : Hp} {ρ : Env} {σ : L2.St} {H : Hp} {s : Pen} {R : Bool → Pen → Prop} {Ex : XR} {Q : Bool → Hp → Prop} (tk : Takes X W) (rl : Rel X.K p G H0 ρ σ H s) (hw : wpM (f ρ) s R Ex)
    (q : ∀ d s' H', R d s' → Af p H H' s' → Q d H') (px : PX X p W G σ H Ex) : tTs X ifs σ H Q := by
  rcases h.ex with ⟨rfl, rfl⟩ | ⟨c, rfl, hd⟩
  · exact ⟨_, pts_nil, q true s H hw (.refl rl.pen)⟩
  · exact ⟨_, pts_one pt_self, hd.run W G H0 ρ σ H s R Ex Q tk rl hw q px⟩
theorem takesN {X : Cx} : Takes X (fun _ _ _ _ => False) := takes0
section
variable {X : Cx} {p : PL} {elt tg iter : Expr} {ifs : List Expr} {scope : Scope} {own : List (Str × Nat)} {pos : Pos} {g : Env → M (List D)} {h : D → Env → Option Env} {ts : List Nat} {t : Env → M Bool} {e : Env → M D}
abbrev Blk (X : Cx) (s : Shared) (H : Hp) (scope : Scope) (C : Addr) (cl : List (Str × Addr)) (fp : List Addr) : Cx := X.blk s H scope (compEnvC scope cl C X.env) fp
def lcM (vs : List Nat) (g : Env → M (List D)) (h : D → Env → Option Env) (t : Env → M Bool) (e : Env → M D) (ρ : Env) : M (List D) := g ρ >>= fun xs => if okW vs ρ = true then compL (fun x => h x (wipeE ρ vs)) t e xs else bad
/-- the readings of a block's parts, for every frame of the block -/
def bG (X : Cx) (scope : Scope) (tg : Expr) : TG := fun v σ H Q => ∀ s H0 C cl fp, tG (Blk X s H0 scope C cl fp) tg v σ H Q
def bT (X : Cx) (scope : Scope) (ifs : List Expr) : TT := fun σ H Q => ∀ s H0 C cl fp, tTs (Blk X s H0 scope C cl fp) ifs σ H Q
def bE (X : Cx) (scope : Scope) (elt : Expr) : TE := fun σ H Q => ∀ s H0 C cl fp, tE (Blk X s H0 scope C cl fp) elt σ H Q
theorem yld_rep {K : PySem.W.Frag} {F : Addr → Prop} {Hs H1 H2 : Hp} {x : V} {d : D} (y : Yld K p F Hs H1 H2 x d) (hp : ∀ a, p.no a → F a) (st : StepF F Hs H1) (fr : ∀ a, H1 a = none → ¬ F a) : Same H1 H2 ∧ Rep K p H2 F x d := by
  rcases y with ⟨rfl, r⟩ | ⟨T, vs, ds, rfl, hT, rfl, rfl, hz, r⟩
  · exact ⟨Same.refl _, r.mono st fun _ z => z⟩
  · have sm := same_new (o := .tup vs) hT
    exact ⟨sm, .itm (⟨upd_same, fr T hT⟩) hz ((r.mono st fun _ z => z).mono ((same_step (p := p) sm).toF hp) fun _ z => z)⟩
theorem wipe_get {σ : L2.St} {j : Nat} : ∀ {vs : List Nat}, j ∈ vs → j < σ.length → (L2.wipe σ vs)[j]? = some none
  | [], h, _ => nomatch h
  | v :: vs, h, hl => by
    show ((L2.wipe σ vs).set v none)[j]? = some none
    by_cases e : v = j
    · subst e
      rw [List.getElem?_set_self (by rw [L2.wipe_length]; exact hl)]
    · rw [List.getElem?_set_ne e]
      exact wipe_get ((List.mem_cons.mp h).resolve_left fun z => e z.symm) hl
theorem wipe_wipe {σ : L2.St} (vs : List Nat) : L2.wipe (L2.wipe σ vs) vs = L2.wipe σ vs := by
  refine List.ext_getElem?
      fun j => ?_
  by_cases hl : j < σ.length
  · by_cases hj : j ∈ vs
    · rw [wipe_get hj (by rw [L2.wipe_length]; exact hl), wipe_get hj hl]
    · rw [L2.wipe_out hj]
  · rw [List.getElem?_eq_none (by rw [L2.wipe_length, L2.wipe_length]; omega), List.getElem?_eq_none (by rw [L2.wipe_length]; omega)]
theorem fo_wipe' {G : Addr → Prop} {ρ : Env} {σ : L2.St} {a : Addr} : ∀ {vs : List Nat}, Fo G (wipeE ρ vs) (L2.wipe σ vs) a → Fo G ρ σ a
  | [], h => h
  | v :: vs, h => fo_wipe' (vs := vs) (fo_set rfl h)
theorem Yld.more {K : PySem.W.Frag} {F N : Addr → Prop} {Hs H1 H2 : Hp} {x : V} {d : D} (y : Yld K p F Hs H1 H2 x d) (hN : ∀ a, N a → Hs a = none) : Yld K p (fun a => F a ∨ N a) Hs H1 H2 x d := by
  rcases y with ⟨h, r⟩ | ⟨T, vs, ds, h1, h2, h3, h4, hz, r⟩
  · exact .inl ⟨h, r.more hN⟩
  · exact .inr ⟨T, vs, ds, h1, h2, h3, h4, hz, r.more hN⟩
/-- an object of G is changed, not the pen's -/
theorem Rel.updG {K : PySem.W.Frag} {G : Addr → Prop} {H0 H : Hp} {ρ : Env} {σ : L2.St} {s : Pen} {L : Addr} {o : HO} (r : Rel K p G H0 ρ σ H s) (hG : G L) (h0 : H0 L = none) (n1 : ¬ p.no L) (n2 : L ≠ p.ca) (hp : ∃ u, H L = some u ∧ Pln u) : Rel K p G H0 ρ σ (upd H L o) s := by
  have st : StepF (Fo G ρ σ) H (upd H L o) := fun a u e n => by
    rw [upd_ne fun z => n (.inl (by rw [z]; exact hG))]
    exact e
  refine ⟨r.len, fun i d e => ?_, fun i x e hx => ?_, r.inj, fun a u e n => ?_, ⟨?_, ?_, r.pen.ok, hp.elim fun _ z => tabs_upd r.pen.tabs z.1 z.2⟩, r.gpa, r.gca, fun a ha => ?_, r.gne⟩
  · obtain ⟨v, h1, h2⟩ := r.dat i d e
    exact ⟨v, h1, h2.mono st fun _ z => z⟩
  · obtain ⟨a, h1, h2, h3⟩ := r.own i x e hx
    refine ⟨a, h1, h2, h3.mono (fun u hu => ?_) st fun _ z => z⟩
    rw [upd_ne fun z => r.gne i x a e hx h1 (by rw [z]; exact hG)]
    exact hu
  · rw [upd_ne fun z => by rw [z, h0] at e; cases e]
    exact r.old a u e n
  · rw [upd_ne fun z => n1 (.inl z.symm)]
    exact r.pen.dict
  · rw [upd_ne n2.symm]
    exact r.pen.cells
  · by_cases e : a = L
    · subst e
      exact ⟨o, upd_same⟩
    · rw [upd_ne e]
      exact r.gex a ha
theorem lc_run (hi : DI X p false tg iter g) (hg : ∀ s H C cl fp, DG (Blk X s H scope C cl fp) p tg ts h) (ht : ∀ s H C cl fp, DTs (Blk X s H scope C cl fp) p ifs t) (he : ∀ s H C cl fp, DE (Blk X s H scope C cl fp) p elt e) {vs : List Nat} (hv : ∀ i ∈ ts, i ∈ vs)
    {W : WX} {G : Addr → Prop} {H0 : Hp} {ρ : Env} {σ : L2.St} {H : Hp} {s : Pen} {R : List D → Pen → Prop} {Ex : XR} {Q : VK} (tk : Takes X W) (rl : Rel X.K p G H0 ρ σ H s) (hw : wpM (lcM vs g h t e ρ) s R Ex)
    (q : ∀ ds s' a ws H', R ds s' → Af p H H' s' → H a = none → H' a = some (.lst ws) → ds.length ≤ 16777216 → RepL X.K p H' (fun b => Fo G ρ σ b ∨ b = a) ws ds → Q (.ref a) H') (px : PX X p W G σ H Ex) :
    tLc (tI X tg iter) (bG X scope tg) (bT X scope ifs) (bE X scope elt) vs σ H Q := by
  unfold lcM at hw
  rw [wp_bind] at hw
  refine hi.run W G H0 ρ σ H s _ Ex _ tk rl hw (fun ds s1 H1 J h1 a1 ok => ?_) px
  by_cases hk : okW vs ρ = true
  case neg => rw [if_neg hk] at h1; exact h1.elim
  rw [if_pos hk] at h1
  intro L hL
  have rl1 := rl.step a1.st a1.pen
  -- within: the new list is not to be touched by what is carried
  have start : Rel X.K p (fun a => G a ∨ a = L) H0 ρ σ (upd H1 L (.lst [])) s1 := by
    have sm := same_new (o := .lst []) hL
    have rn := rl1.step (same_step (p := p) sm) (a1.pen.same sm)
    have fo : ∀ a, Fo (fun a => G a ∨ a = L) ρ σ a → Fo G ρ σ a ∨ a = L := fun a z => by
      rcases z with (z | z) | z
      · exact .inl (.inl z)
      · exact .inr z
      · exact .inl (.inr z)
    refine ⟨rn.len, fun i d e => ?_, fun i x e hx => ?_, rn.inj, rn.old, rn.pen, (fun a z => .inl (rn.gpa a z)), .inl rn.gca, fun a ha => ?_, fun i x a e hx e2 => ?_⟩
    · obtain ⟨v, q1, q2⟩ := rl1.dat i d e
      exact ⟨v, q1, ((q2.more (N := fun a => a = L) fun a z => by rw [z]; exact hL).mono ((same_step (p := p) sm).toF (fun a z => .inl (rl1.fpa a z))) fo)⟩
    · obtain ⟨a, q1, q2, q3⟩ := rl1.own i x e hx
      refine ⟨a, q1, q2, ?_⟩
      have old : ∀ o, H1 a = some o → upd H1 L (.lst []) a = some o := fun o z => sm a o z
      cases x with
      | no => exact q3.elim
      | dat d => exact q3.elim
      | self c fs =>
        obtain ⟨hx, dx, ws, z1, z0, z2⟩ := q3
        exact ⟨hx, dx, ws, old _ z1, z0, (z2.more (N := fun a => a = L) fun a z => by rw [z]; exact hL).mono ((same_step (p := p) sm).toF (fun a z => .inl (rl1.fpa a z))) fo⟩
      | own d =>
        cases d with
        | lst ds =>
          obtain ⟨ws, z1, z0, z2⟩ := q3
          exact ⟨ws, old _ z1, z0, (z2.more (N := fun a => a = L) fun a z => by rw [z]; exact hL).mono ((same_step (p := p) sm).toF (fun a z => .inl (rl1.fpa a z))) fo⟩
        | dct ds =>
          obtain ⟨ws, z1, z2⟩ := q3
          exact ⟨ws, old _ z1, (z2.more (N := fun a => a = L) fun a z => by rw [z]; exact hL).mono ((same_step (p := p) sm).toF (fun a z => .inl (rl1.fpa a z))) fo⟩
        | _ => exact q3.elim
    · rcases ha with ha | ha
      · exact rn.gex a ha
      · rw [ha]
        exact ⟨_, upd_same⟩
    · rintro (z | z)
      · exact rn.gne i x a e hx e2 z
      · subst z
        obtain ⟨b, q1, q2, q3⟩ := rl1.own i x e hx
        rw [e2] at q1
        cases q1
        obtain ⟨o, ho, _⟩ := q3.there
        rw [hL] at ho
        cases ho
  have szl : sizeLine = 16777216 := sizeLine_eq
  have h0L : H0 L = none := back_none (s1 := s1) ⟨rl1.old, rl1.pen⟩ hL
  have nLp : ¬ p.no L := a1.pen.notNo hL
  have nLc : L ≠ p.ca := fun z => by
    rw [z, a1.pen.cells] at hL
    cases hL
  have toFo : ∀ a, (Fo G ρ σ a ∨ a = L) → Fo (fun a => G a ∨ a = L) ρ σ a := fun a z => by
    rcases z with (z | z) | z
    · exact .inl (.inl z)
    · exact .inr z
    · exact .inl (.inr z)
  refine ⟨fun i m Hc => m = ds.length - i ∧ i ≤ ds.length ∧ ∃ sc acc dacc, Step p H1 Hc ∧ Rel X.K p (fun a => G a ∨ a = L) H0 ρ σ Hc sc ∧ Hc L = some (.lst acc) ∧ RepL X.K p Hc (fun a => Fo G ρ σ a ∨ a = L) acc dacc ∧ dacc.length ≤ i ∧
    wpM (compL (fun x => h x (wipeE ρ vs)) t e (ds.drop i)) sc (fun ys s' => R (dacc ++ ys) s') Ex, ⟨ds.length, rfl, Nat.zero_le _, s1, [], [], same_step (same_new hL), start, upd_same, .nil, Nat.zero_le _, h1⟩, ?_⟩
  rintro i m Hc ⟨rfl, hi', sc, acc, dacc, st, rc, hacc, racc, hlen, hwp⟩
  have stF : StepF (Fs false G (Fo G ρ σ)) H1 Hc := fun a o e n => st a o e fun z => n (rl.gpa _ z)
  by_cases hlt : i < ds.length
  · obtain ⟨go, yl⟩ := ok.go i ds[i] Hc stF (List.getElem?_eq_getElem hlt)
    refine .inr ⟨go, fun H' => ∃ sc acc dacc, Step p H1 H' ∧ Rel X.K p (fun a => G a ∨ a = L) H0 ρ σ H' sc ∧ H' L = some (.lst acc) ∧ RepL X.K p H' (fun a => Fo G ρ σ a ∨ a = L) acc dacc ∧ dacc.length ≤ i + 1 ∧
      wpM (compL (fun x => h x (wipeE ρ vs)) t e (ds.drop (i + 1))) sc (fun ys s' => R (dacc ++ ys) s') Ex, fun H' hN => ⟨_, by omega, rfl, hlt, hN⟩, fun x Hy y => ?_⟩
    have stF' : StepF (fun a => Fo G ρ σ a ∨ a = L) H1 Hc := fun a o e n => st a o e fun z => n (.inl (rl.fpa _ z))
    obtain ⟨sm, rx⟩ := yld_rep ((yl x Hy y).more (N := fun a => a = L) fun a z => by rw [z]; exact hL) (fun a z => .inl (rl.fpa a z)) stF' fun a ha z => rc.fresh ha (toFo a z)
    have ry := rc.step (same_step (p := p) sm) (rc.pen.same sm)
    rw [List.drop_eq_getElem_cons hlt] at hwp
    have hwp : wpM (bindT (h ds[i] (wipeE ρ vs)) fun ρ' => nx (t ρ') >>= fun b => if b = true then nx (e ρ') >>= fun y => compL (fun x => h x (wipeE ρ vs)) t e (ds.drop (i + 1)) >>= fun ys => pure (y :: ys) else compL (fun x => h x (wipeE ρ vs)) t e (ds.drop (i + 1))) sc (fun ys s' => R (dacc ++ ys) s') Ex := hwp
    cases eh : h ds[i] (wipeE ρ vs) with
    | none => rw [eh] at hwp; exact hwp.elim
    | some ρ' =>
    rw [eh] at hwp
    have hwp : wpM (nx (t ρ') >>= fun b => if b = true then nx (e ρ') >>= fun y => compL (fun x => h x (wipeE ρ vs)) t e (ds.drop (i + 1)) >>= fun ys => pure (y :: ys) else compL (fun x => h x (wipeE ρ vs)) t e (ds.drop (i + 1))) sc (fun ys s' => R (dacc ++ ys) s') Ex := hwp
    rw [wp_bind] at hwp
    have hacc' := sm _ _ hacc
    have racc' := racc.mono ((same_step (p := p) sm).toF (fun a z => .inl (rl.fpa a z))) fun _ z => z
    intro sB HB CB clB fpB
    refine (hg sB HB CB clB fpB).run (fun a => G a ∨ a = L) H0 (wipeE ρ vs) ρ' (L2.wipe σ vs) Hy sc x ds[i] _ (ry.wipe vs) (rx.mono (fun _ _ z _ => z) fun a z => ?_) eh fun σ2 r2 sb => ⟨by rw [sb.1 vs hv, wipe_wipe], ?_⟩
    · have := fo_wipe' z
      rcases this with (z | z) | z
      · exact .inl (.inl z)
      · exact .inr z
      · exact .inl (.inr z)
    intro sC HC CC clC fpC
    refine (ht sC HC CC clC fpC).run takesN r2 (wp_nx hwp) (fun b s3 H3 hb a3 => ?_) fun _ _ _ _ _ _ z => z.elim
    have r3 := r2.step a3.st a3.pen
    have rc3 := ry.step a3.st a3.pen
    have st3 : Step p H1 H3 := (st.trans (same_step sm)).trans a3.st
    have hacc3 : H3 L = some (.lst acc) := a3.st L _ hacc' nLp
    have racc3 := racc'.mono (a3.st.toF (fun a z => .inl (rl.fpa a z))) fun _ z => z
    cases b with
    | false =>
      rw [if_neg (by decide)] at hb ⊢
      exact ⟨s3, acc, dacc, st3, rc3, hacc3, racc3, by omega, hb⟩
    | true =>
      rw [if_pos rfl] at hb ⊢
      rw [wp_bind] at hb
      intro sD HD CD clD fpD
      refine (he sD HD CD clD fpD).run _ _ _ _ _ _ _ _ _ _ takesN r3 (wp_nx hb) (fun d s4 v H4 hd a4 r4 => ?_) fun _ _ _ _ _ _ z => z.elim
      rw [wp_bind] at hd
      have hacc4 : H4 L = some (.lst acc) := a4.st L _ hacc3 nLp
      have racc4 := racc3.mono (a4.st.toF (fun a z => .inl (rl.fpa a z))) fun _ z => z
      have rc4 := rc3.step a4.st a4.pen
      have hl : acc.length = dacc.length := racc4.length
      have h16 := ok.sz
      refine ⟨acc, hacc4, by omega, s4, acc ++ [v], dacc ++ [d], fun a o e n => ?_, rc4.updG (.inr rfl) h0L nLp nLc ⟨_, hacc4, pln_lst⟩, upd_same, ?_, by rw [List.length_append]; show dacc.length + 1 ≤ i + 1; omega, ?_⟩
      · rw [upd_ne fun z => by rw [z, hL] at e; cases e]
        exact (st3.trans a4.st) a o e n
      · have rv : Rep X.K p H4 (fun a => Fo G ρ σ a ∨ a = L) v d := r4.mono (fun _ _ z _ => z) fun a z => by
          rcases z with (z | ⟨j, y, z1, z2, z3⟩) | z
          · exact .inl (.inl z)
          · have hn : j ∉ vs := fun hm => by
              have := List.all_eq_true.mp hk j hm
              rw [z1] at this
              simp [z2] at this
            have ht' : j ∉ ts := fun hm => hn (hv j hm)
            obtain ⟨e1, e2⟩ := sb.2 j ht'
            exact .inr ⟨j, y, by rw [e1, wipeE_out hn]; exact z1, z2, by rw [e2, L2.wipe_out hn]; exact z3⟩
          · exact .inl (.inr z)
        refine (racc4.append (.cons rv .nil)).mono (fun a o e n => ?_) fun _ z => z
        rw [upd_ne fun z => n (.inr z)]
        exact e
      · refine wp_mono hd (fun ys s5 hy => ?_) fun _ _ _ z => z
        rw [List.append_assoc]
        exact hy
  · have e : i = ds.length := by omega
    subst e
    rw [List.drop_length] at hwp
    have hwp : R (dacc ++ []) sc := hwp
    rw [List.append_nil] at hwp
    exact .inl ⟨ok.stop Hc stF, q dacc sc L acc Hc hwp (a1.trans ⟨st, rc.pen⟩) (back_none a1 hL) hacc (Nat.le_trans hlen ok.sz) racc⟩
end
end Say

namespace Say
open L2 PyProof.Rows PySem.Spec PySem

section
variable {X : Cx} {p : PL} {elt tg iter : Expr} {ifs : List Expr} {scope : Scope} {own : List (Str × Nat)} {pos : Pos} {g : Env → M (List D)} {h : D → Env → Option Env} {ts : List Nat} {t : Env → M Bool} {e : Env → M D}
theorem dn_lc (own : List (Str × Nat)) (hN : X.N.Nodup) (hi : DI X p false tg iter g) (hg : ∀ s H C cl fp, DG (Blk X s H scope C cl fp) p tg ts h) (ht : ∀ s H C cl fp, DTs (Blk X s H scope C cl fp) p ifs t) (he : ∀ s H C cl fp, DE (Blk X s H scope C cl fp) p elt e)
    (ok : blkC X.N X.env.scope scope own = true := by first | kernel_rfl | rfl) (hv : ∀ i ∈ ts, i ∈ own.map (·.2) := by decide) (hc : X.calm = true := by rfl) (hs : ∀ x, foldedSetIterable iter X.env x = pure x := by intro _; rfl) :
    DN X p (.ListComp elt [⟨tg, iter, ifs, 0⟩] scope pos) (lcM (own.map (·.2)) g h t e) := by
  refine ⟨fun W G H0 ρ σ H s R Ex Q tk rl hw q px => tE_of (pe_lc (wi := tI X tg iter) (g := bG X scope tg) (tt := bT X scope ifs) (te := bE X scope elt) hc hN pi_self (blkOk_by ok)
    (fun s H C cl fp => ⟨fun pins sh σ H v u Q I r h => pg_self.run pins sh σ H v u Q I r (h s _ C cl fp)⟩) (fun s H C cl fp => ⟨fun pins sh σ H Q I h => pts_self.run pins sh σ H Q I (h s _ C cl fp)⟩) (fun s H C cl fp => ⟨fun pins sh σ H Q I h => pe_self.run pins sh σ H Q I (h s _ C cl fp)⟩) hs) ?_⟩
  exact lc_run hi hg ht he hv tk rl hw q px
end

/-! ### statements -/
abbrev S := (Env → M D) → (D → M D) → (Env → M D) → (Env → M D) → Env → M D
/-- the wishes behind a statement, told by the mirror's ways on -/
structure Way (K : PySem.W.Frag) (p : PL) (G : Addr → Prop) (H0 : Hp) (k : Env → M D) (r : D → M D) (b c : Env → M D) (R : D → Pen → Prop) (Ex : XR) (Dn : Ends) : Prop where
  nx : ∀ ρ σ H s, Rel K p G H0 ρ σ H s → wpM (k ρ) s R Ex → Dn.nx σ H
  rt : ∀ d s v H, Step p H0 H → PenAt H p s → Rep K p H G v d → wpM (r d) s R Ex → Dn.rt v H
  bk : ∀ ρ σ H s, Rel K p G H0 ρ σ H s → wpM (b ρ) s R Ex → Dn.bk σ H
  ct : ∀ ρ σ H s, Rel K p G H0 ρ σ H s → wpM (c ρ) s R Ex → Dn.ct σ H
/-- an exception that leaves a statement -/
def PXs (K : PySem.W.Frag) (p : PL) (W : WX) (G : Addr → Prop) (H0 : Hp) (Ex : XR) : Prop :=
  ∀ c fs s σ dx vfs H, Ex c fs s → Step p H0 H → PenAt H p s → ExD H dx vfs → RepF K p H G vfs fs → W (.ref (He.ga K c)) (some dx) σ H
theorem PXs.px {X : Cx} {p : PL} {W : WX} {G : Addr → Prop} {H0 H : Hp} {Ex : XR} {σ : L2.St} (h : PXs X.K p W G H0 Ex) (st : Step p H0 H) : PX X p W G σ H Ex := fun c fs s' dx vfs H' e a x r => h c fs s' σ dx vfs H' e (st.trans a.st) a.pen x r
structure DS (X : Cx) (p : PL) (st : Stmt) (f : S) : Prop where
  run : ∀ (W : WX) (G : Addr → Prop) (H0 : Hp) (ρ : Env) (σ : L2.St) (H : Hp) (s : Pen) (k : Env → M D) (r : D → M D) (b c : Env → M D) (R : D → Pen → Prop) (Ex : XR) (Dn : Ends), Takes X W → Rel X.K p G H0 ρ σ H s → wpM (f k r b c ρ) s R Ex →
    Way X.K p G H0 k r b c R Ex Dn → PXs X.K p W G H0 Ex → tS X st Dn σ H
structure DSs (X : Cx) (p : PL) (st : List Stmt) (f : S) : Prop where
  run : ∀ (W : WX) (G : Addr → Prop) (H0 : Hp) (ρ : Env) (σ : L2.St) (H : Hp) (s : Pen) (k : Env → M D) (r : D → M D) (b c : Env → M D) (R : D → Pen → Prop) (Ex : XR) (Dn : Ends), Takes X W → Rel X.K p G H0 ρ σ H s → wpM (f k r b c ρ) s R Ex →
    Way X.K p G H0 k r b c R Ex Dn → PXs X.K p W G H0 Ex → tSs X st Dn σ H
def sNil : S := fun k _ _ _ ρ => k ρ
def sSeq (f g : S) : S := fun k r b c ρ => f (g k r b c) r b c ρ
def sSet (i : Nat) (f : Env → M D) : S := fun k _ _ _ ρ => f ρ >>= fun d => k (ρ.set i (.dat d))
def sRet (f : Env → M D) : S := fun _ r _ _ ρ => f (thaw ρ) >>= r
def sRetN : S := fun _ r _ _ _ => r .non
def sDrop (f : Env → M D) : S := fun k _ _ _ ρ => f ρ >>= fun _ => k ρ
def sIf (t : Env → M Bool) (f g : S) : S := fun k r b c ρ => t ρ >>= fun x => if x = true then f k r b c ρ else g k r b c ρ
def sBrk : S := fun _ _ b _ ρ => b ρ
def sCnt : S := fun _ _ _ c ρ => c ρ
def sBad : S := fun _ _ _ _ _ => bad
section
variable {X : Cx} {p : PL} {st : Stmt} {sts : List Stmt} {e a : Expr} {pos : Pos} {f g : S} {fe : Env → M D} {t : Env → M Bool}
theorem dss_nil : DSs X p [] sNil := ⟨fun W G H0 ρ σ H s k r b c R Ex Dn tk rl hw wy px => tSs_of pss_nil (wy.nx ρ σ H s rl hw)⟩
theorem dss_cons (h1 : DS X p st f) (h2 : DSs X p sts g) : DSs X p (st :: sts) (sSeq f g) :=
  ⟨fun W G H0 ρ σ H s k r b c R Ex Dn tk rl hw wy px => tSs_of (pss_cons ps_self pss_self) (h1.run W G H0 ρ σ H s (g k r b c) r b c R Ex _ tk rl hw
    ⟨fun ρ' σ' H' s' rl' hw' => h2.run W G H0 ρ' σ' H' s' k r b c R Ex Dn tk rl' hw' wy px, wy.rt, wy.bk, wy.ct⟩ px)⟩
theorem dss_one (h1 : DS X p st f) : DSs X p [st] f := ⟨fun W G H0 ρ σ H s k r b c R Ex Dn tk rl hw wy px => tSs_of (pss_one ps_self) (h1.run W G H0 ρ σ H s k r b c R Ex Dn tk rl hw wy px)⟩
theorem ds_pass : DS X p (.Pass pos) sNil := ⟨fun W G H0 ρ σ H s k r b c R Ex Dn tk rl hw wy px => tS_of ps_pass (wy.nx ρ σ H s rl hw)⟩
theorem ds_break : DS X p (.Break pos) sBrk := ⟨fun W G H0 ρ σ H s k r b c R Ex Dn tk rl hw wy px => tS_of ps_break (wy.bk ρ σ H s rl hw)⟩
theorem ds_continue : DS X p (.Continue pos) sCnt := ⟨fun W G H0 ρ σ H s k r b c R Ex Dn tk rl hw wy px => tS_of ps_continue (wy.ct ρ σ H s rl hw)⟩
theorem ds_never : DS X p st sBad := ⟨fun W G H0 ρ σ H s k r b c R Ex Dn tk rl hw wy px => hw.elim⟩
theorem ds_set (i : Nat) {x : Str} {pos' : Pos} (hN : X.N.Nodup) (he : DE X p e fe) (hi : X.N[i]? = some x := by rfl) (hx : Loc X.env.scope x := by first | exact Or.inl rfl | exact Or.inr rfl) (hs : swapsWith e (some (.Name x pos')) pos.line X.env = pure false := by rfl) (hf : X.fn x = true ∨ X.env.scope.names.lookup x = some .local := by first | exact .inl rfl | exact .inr rfl) :
    DS X p (.Assign [.Name x pos'] e pos) (sSet i fe) := by
  refine ⟨fun W G H0 ρ σ H s k r b c R Ex Dn tk rl hw wy px => tS_of (ps_set hN hi hx pe_self hs hf) ?_⟩
  have hw : wpM (fe ρ >>= fun d => k (ρ.set i (.dat d))) s R Ex := hw
  rw [wp_bind] at hw
  refine he.run W G H0 ρ σ H s _ Ex _ tk rl hw (fun d s1 v H1 h1 a1 r1 => ?_) (px.px rl.old)
  exact wy.nx _ _ H1 s1 ((rl.step a1.st a1.pen).put rfl fun d' e => by cases e; exact ⟨v, rfl, r1⟩) h1
theorem ds_asg {tg : Expr} {ts : List Nat} {h : D → Env → Option Env} (he : DE X p e fe) (hg : DG X p tg ts h) (hs : swapsWithSole [tg] e pos.line X.env = pure false := by rfl) (hw : swappedStores [tg] e X.env = pure none := by rfl)
    (h1 : (assignEach [tg] X.env).map (·.2) = [assign tg X.env] := by rfl) : DS X p (.Assign [tg] e pos) (fun k _ _ _ ρ => fe ρ >>= fun d => bindT (h d ρ) k) := by
  refine ⟨fun W G H0 ρ σ H s k r b c R Ex Dn tk rl hww wy px => tS_of (ps_asg pe_self pg_self hs hw h1) ?_⟩
  have hw : wpM (fe ρ >>= fun d => bindT (h d ρ) k) s R Ex := hww
  rw [wp_bind] at hw
  refine he.run W G H0 ρ σ H s _ Ex _ tk rl hw (fun d s1 v H1 h1 a1 r1 => ?_) (px.px rl.old)
  cases eh : h d ρ with
  | none => rw [eh] at h1; exact h1.elim
  | some ρ' =>
    rw [eh] at h1
    exact hg.run G H0 ρ ρ' σ H1 s1 v d _ (rl.step a1.st a1.pen) r1 eh fun σ' r' _ => wy.nx ρ' σ' H1 s1 r' h1
theorem ds_par {i j : Nat} {x y : Str} {e2 : Expr} {fe2 : Env → M D} {px' py pt pt2 : Pos} {kt k2 : Nat} (hN : X.N.Nodup) (h1 : DE X p e fe) (h2 : DE X p e2 fe2) (hi : X.N[i]? = some x := by rfl) (hj : X.N[j]? = some y := by rfl) (hij : i ≠ j := by decide)
    (hx : X.env.scope.names.lookup x = some .local := by rfl) (hy : X.env.scope.names.lookup y = some .local := by rfl) (hc : X.calm = true := by rfl)
    (hse : starEach (e :: [e2]) X.env = (false, eval e X.env) :: starEach [e2] X.env := by rfl) (hse2 : starEach (e2 :: []) X.env = (false, eval e2 X.env) :: starEach [] X.env := by rfl)
    (hw : swappedStores [.Tuple [.Name x px', .Name y py] kt pt] (.Tuple [e, e2] k2 pt2) X.env = pure (some [x, y]) := by rfl)
    (hs : swapsWithSole [.Tuple [.Name x px', .Name y py] kt pt] (.Tuple [e, e2] k2 pt2) pos.line X.env = pure false := by rfl) :
    DS X p (.Assign [.Tuple [.Name x px', .Name y py] kt pt] (.Tuple [e, e2] k2 pt2) pos) (fun k _ _ _ ρ => fe ρ >>= fun d => fe2 ρ >>= fun d2 => k ((ρ.set i (.dat d)).set j (.dat d2))) := by
  refine ⟨fun W G H0 ρ σ H s k r b c R Ex Dn tk rl hww wy px => tS_of (ps_par hc hN hi hj hij hx hy (pa_cons pe_self (pa_cons pe_self pa_nil hse2) hse) hw hs) ?_⟩
  have hw : wpM (fe ρ >>= fun d => fe2 ρ >>= fun d2 => k ((ρ.set i (.dat d)).set j (.dat d2))) s R Ex := hww
  rw [wp_bind] at hw
  refine h1.run W G H0 ρ σ H s _ Ex _ tk rl hw (fun d s1 v H1 w1 a1 r1 => ?_) (px.px rl.old)
  rw [wp_bind] at w1
  have rl1 := rl.step a1.st a1.pen
  refine h2.run W G H0 ρ σ H1 s1 _ Ex _ tk rl1 w1 (fun d2 s2 v2 H2 w2 a2 r2 => ?_) (px.px rl1.old)
  have rl2 := rl1.step a2.st a2.pen
  refine ⟨v, v2, rfl, wy.nx _ _ H2 s2 ((rl2.put (i := i) (x := .dat d) (o := some v) rfl fun d' e => by cases e; exact ⟨v, rfl, r1.mono (a2.st.toF rl.fpa) fun _ z => z⟩).put rfl fun d' e => by cases e; exact ⟨v2, rfl, r2.mono (fun _ _ z _ => z) fun _ => fo_set rfl⟩) w2⟩
theorem ds_ret (he : DE X p e fe) : DS X p (.Return (some e) pos) (sRet fe) := by
  refine ⟨fun W G H0 ρ σ H s k r b c R Ex Dn tk rl hw wy px => tS_of (ps_ret pe_self) ?_⟩
  have hw : wpM (fe (thaw ρ) >>= r) s R Ex := hw
  rw [wp_bind] at hw
  refine he.run W G H0 (thaw ρ) σ H s _ Ex _ tk rl.thaw hw (fun d s1 v H1 h1 a1 r1 => ?_) (px.px rl.old)
  exact wy.rt d s1 v H1 (rl.old.trans a1.st) a1.pen (r1.mono (fun _ _ z _ => z) fun _ z => .inl z) h1
theorem ds_retN : DS X p (.Return none pos) sRetN := ⟨fun W G H0 ρ σ H s k r b c R Ex Dn tk rl hw wy px => tS_of ps_retN (show Dn.rt .non H from wy.rt .non s .non H rl.old rl.pen .non hw)⟩
theorem ds_expr (he : DE X p e fe) (hs : swapsWith e none pos.line X.env = pure false := by rfl) : DS X p (.Expr e pos) (sDrop fe) := by
  refine ⟨fun W G H0 ρ σ H s k r b c R Ex Dn tk rl hw wy px => tS_of (ps_expr pe_self hs) ?_⟩
  have hw : wpM (fe ρ >>= fun _ => k ρ) s R Ex := hw
  rw [wp_bind] at hw
  refine he.run W G H0 ρ σ H s _ Ex _ tk rl hw (fun d s1 v H1 h1 a1 r1 => ?_) (px.px rl.old)
  exact wy.nx ρ σ H1 s1 (rl.step a1.st a1.pen) h1
theorem ds_if {c : Expr} {A B : List Stmt} (hc : DT X p c t) (ha : DSs X p A f) (hb : DSs X p B g) : DS X p (.If c A B pos) (sIf t f g) := by
  refine ⟨fun W G H0 ρ σ H s k r b c' R Ex Dn tk rl hw wy px => tS_of (ps_if pt_self pss_self pss_self) ?_⟩
  have hw : wpM (t ρ >>= fun x => if x = true then f k r b c' ρ else g k r b c' ρ) s R Ex := hw
  rw [wp_bind] at hw
  refine hc.run W G H0 ρ σ H s _ Ex _ tk rl hw (fun x s1 H1 h1 a1 => ?_) (px.px rl.old)
  have rl1 := rl.step a1.st a1.pen
  cases x with
  | true =>
    rw [if_pos rfl] at h1 ⊢
    exact ha.run W G H0 ρ σ H1 s1 k r b c' R Ex Dn tk rl1 h1 wy px
  | false =>
    rw [if_neg (by decide)] at h1 ⊢
    exact hb.run W G H0 ρ σ H1 s1 k r b c' R Ex Dn tk rl1 h1 wy px
end
/-! ### a list of its own -/
section
variable {K : PySem.W.Frag} {p : PL} {G : Addr → Prop} {H0 H H' : Hp} {ρ : Env} {σ : L2.St} {s s' : Pen}
/-- a slot gets a new object of its own at q -/
theorem Rel.putOwn {i : Nat} {x : Sl} {q : Addr} {Hb : Hp} (r : Rel K p G H0 ρ σ H s) (hb : Rel K p G H0 ρ σ Hb s') (hq : Hb q = none) (hl : i < ρ.length) (ho : OwnAt K p H (fun a => Fo G ρ σ a ∨ a = q) q x) (st : Step p Hb H) : Rel K p G H0 (ρ.set i x) (σ.set i (some (.ref q))) H s := by
  have nq' : ¬ Fo G ρ σ q := hb.fresh hq
  have sub : ∀ a, Fo G (ρ.set i x) (σ.set i (some (.ref q))) a → Fo G ρ σ a ∨ a = q := fun a z => by
    rcases z with z | ⟨j, y, h1, hy, h2⟩
    · exact .inl (.inl z)
    · rcases get_set h1 with ⟨rfl, rfl, _⟩ | ⟨ne, h1⟩
      · rw [List.getElem?_set_self (by rw [← r.len]; exact hl)] at h2
        cases h2
        exact .inr rfl
      · rw [List.getElem?_set_ne ne] at h2
        exact .inl (.inr ⟨j, y, h1, hy, h2⟩)
  have h0 : H0 q = none := back_none (s1 := s') ⟨hb.old, hb.pen⟩ hq
  refine ⟨by rw [List.length_set, List.length_set]; exact r.len, fun j d e => ?_, fun j y e hy => ?_, fun j k y z a h1 hy h2 hz h3 h4 => ?_, r.old, r.pen, r.gpa, r.gca, r.gex, fun j y a h1 hy h2 => ?_⟩
  · rcases get_set e with ⟨rfl, qq, hl⟩ | ⟨ne, e⟩
    · subst qq
      exact ho.elim
    · obtain ⟨v, h1, h2⟩ := hb.dat j d e
      exact ⟨v, by rw [List.getElem?_set_ne ne]; exact h1, (h2.more (N := fun a => a = q) fun a z => by rw [z]; exact hq).mono (st.toF (fun a z => .inl (r.fpa a z))) sub⟩
  · rcases get_set e with ⟨rfl, rfl, _⟩ | ⟨ne, e⟩
    · exact ⟨q, List.getElem?_set_self (by rw [← r.len]; exact hl), h0, ho.mono (fun _ z => z) (fun _ _ z _ => z) sub⟩
    · obtain ⟨a, h1, h2, h3⟩ := hb.own j y e hy
      have ne' : ¬ p.no a := fun z => hb.gne j y a e hy h1 (hb.gpa _ z)
      refine ⟨a, by rw [List.getElem?_set_ne ne]; exact h1, h2, ?_⟩
      cases y with
      | no => exact h3.elim
      | dat d => exact h3.elim
      | self c fs =>
        obtain ⟨hx, dx, ws, z1, z0, z2⟩ := h3
        exact ⟨hx, dx, ws, st _ _ z1 ne', z0, (z2.more (N := fun a => a = q) fun a z => by rw [z]; exact hq).mono (st.toF (fun a z => .inl (r.fpa a z))) sub⟩
      | own d =>
        cases d with
        | lst ds =>
          obtain ⟨ws, z1, z0, z2⟩ := h3
          exact ⟨ws, st _ _ z1 ne', z0, (z2.more (N := fun a => a = q) fun a z => by rw [z]; exact hq).mono (st.toF (fun a z => .inl (r.fpa a z))) sub⟩
        | dct ds =>
          obtain ⟨ws, z1, z2⟩ := h3
          exact ⟨ws, st _ _ z1 ne', (z2.more (N := fun a => a = q) fun a z => by rw [z]; exact hq).mono (st.toF (fun a z => .inl (r.fpa a z))) sub⟩
        | _ => exact h3.elim
  · have other : ∀ (j : Nat) (y : Sl), i ≠ j → ρ[j]? = some y → y.held = true → (σ.set i (some (.ref q)))[j]? = some (some (.ref q)) → False := fun j y ne e hy e2 => by
      rw [List.getElem?_set_ne ne] at e2
      exact nq' (.inr ⟨j, y, e, hy, e2⟩)
    rcases get_set h1 with ⟨rfl, _, _⟩ | ⟨ne, h1⟩
    · rcases get_set h2 with ⟨rfl, _, _⟩ | ⟨ne2, h2⟩
      · rfl
      · rw [List.getElem?_set_self (by rw [← r.len]; exact hl)] at h3
        cases h3
        exact (other k z ne2 h2 hz h4).elim
    · rcases get_set h2 with ⟨rfl, _, _⟩ | ⟨ne2, h2⟩
      · rw [List.getElem?_set_self (by rw [← r.len]; exact hl)] at h4
        cases h4
        exact (other j y ne h1 hy h3).elim
      · rw [List.getElem?_set_ne ne] at h3
        rw [List.getElem?_set_ne ne2] at h4
        exact r.inj j k y z a h1 hy h2 hz h3 h4
  · rcases get_set h1 with ⟨rfl, _, _⟩ | ⟨ne, h1⟩
    · rw [List.getElem?_set_self (by rw [← r.len]; exact hl)] at h2
      cases h2
      exact fun z => nq' (.inl z)
    · rw [List.getElem?_set_ne ne] at h2
      exact r.gne j y a h1 hy h2
/-- what is owned at slot i changes -/
theorem Rel.updOwn {i : Nat} {x y : Sl} {q : Addr} {o : HO} (r : Rel K p G H0 ρ σ H s) (e : ρ[i]? = some x) (hx : x.held = true) (hy : y.held = true) (eq : σ[i]? = some (some (.ref q))) (ho : OwnAt K p (upd H q o) (Fo G ρ σ) q y) : Rel K p G H0 (ρ.set i y) σ (upd H q o) s := by
  have hl : i < ρ.length := (List.getElem?_eq_some_iff.mp e).1
  have fq : Fo G ρ σ q := .inr ⟨i, x, e, hx, eq⟩
  have st : StepF (Fo G ρ σ) H (upd H q o) := fun a u e n => by
    rw [upd_ne fun z => n (by rw [z]; exact fq)]
    exact e
  have ng : ¬ G q := r.gne i x q e hx eq
  obtain ⟨b, z1, h0, _⟩ := r.own i x e hx
  rw [eq] at z1
  cases z1
  have sub : ∀ a, Fo G (ρ.set i y) σ a → Fo G ρ σ a := fun a z => by
    rcases z with z | ⟨j, w, h1, hw, h2⟩
    · exact .inl z
    · rcases get_set h1 with ⟨rfl, rfl, _⟩ | ⟨ne, h1⟩
      · exact .inr ⟨_, x, e, hx, h2⟩
      · exact .inr ⟨j, w, h1, hw, h2⟩
  have back : ∀ (j : Nat) (w : Sl), (ρ.set i y)[j]? = some w → w.held = true → ∃ w', ρ[j]? = some w' ∧ w'.held = true := fun j w h1 hw => by
    rcases get_set h1 with ⟨rfl, rfl, _⟩ | ⟨ne, h1⟩
    · exact ⟨x, e, hx⟩
    · exact ⟨w, h1, hw⟩
  refine ⟨by rw [List.length_set]; exact r.len, fun j d e1 => ?_, fun j w e1 hw => ?_, fun j k w z a h1 hw h2 hz h3 h4 => ?_, fun a u e1 n => ?_, ⟨?_, ?_, r.pen.ok, ?_⟩, r.gpa, r.gca, fun a ha => ?_, fun j w a h1 hw h2 => ?_⟩
  · rcases get_set e1 with ⟨rfl, qq, _⟩ | ⟨ne, e1⟩
    · subst qq
      cases hy
    · obtain ⟨v, h1, h2⟩ := r.dat j d e1
      exact ⟨v, h1, h2.mono st sub⟩
  · rcases get_set e1 with ⟨rfl, rfl, _⟩ | ⟨ne, e1⟩
    · exact ⟨q, eq, h0, ho.mono (fun _ z => z) (fun _ _ z _ => z) sub⟩
    · obtain ⟨a, h1, h2, h3⟩ := r.own j w e1 hw
      refine ⟨a, h1, h2, h3.mono (fun u hu => ?_) st sub⟩
      rw [upd_ne fun z => ne (r.inj i j x w q e hx e1 hw eq (by rw [h1, z]))]
      exact hu
  · obtain ⟨w', q1, q2⟩ := back j w h1 hw
    obtain ⟨z', q3, q4⟩ := back k z h2 hz
    exact r.inj j k w' z' a q1 q2 q3 q4 h3 h4
  · rw [upd_ne fun z => by rw [z, h0] at e1; cases e1]
    exact r.old a u e1 n
  · rw [upd_ne fun z => ng (r.gpa _ (.inl z.symm))]
    exact r.pen.dict
  · rw [upd_ne fun z => ng (by rw [← z]; exact r.gca)]
    exact r.pen.cells
  · obtain ⟨b, g1, _, g3⟩ := r.own i x e hx
    rw [eq] at g1
    cases g1
    obtain ⟨u, u1, u2⟩ := g3.pln
    exact tabs_upd r.pen.tabs u1 u2
  · rw [upd_ne fun z => ng (by rw [← z]; exact ha)]
    exact r.gex a ha
  · obtain ⟨w', q1, q2⟩ := back j w h1 hw
    exact r.gne j w' a q1 q2 h2
end
def sOwn (i : Nat) (f : Env → M (List D)) : S := fun k _ _ _ ρ => f ρ >>= fun ds => k (ρ.set i (.own (.lst ds)))
def ownL : Option Sl → M (List D)
  | some (.own (.lst xs)) => pure xs
  | _ => bad
def pushD (xs : List D) (d : D) : M (List D) := if xs.length < 16777216 then pure (xs ++ [d]) else bad
def sApp (i : Nat) (f : Env → M D) : S := fun k _ _ _ ρ => ownL ρ[i]? >>= fun xs => f ρ >>= fun d => pushD xs d >>= fun ys => k (ρ.set i (.own (.lst ys)))
section
variable {X : Cx} {p : PL} {st : Stmt} {sts : List Stmt} {e a : Expr} {pos pos' : Pos} {f g : S} {fe : Env → M D} {t : Env → M Bool} {fl : Env → M (List D)}
theorem ds_own (i : Nat) {x : Str} (hN : X.N.Nodup) (he : DN X p e fl) (hi : X.N[i]? = some x := by rfl) (hx : Loc X.env.scope x := by first | exact Or.inl rfl | exact Or.inr rfl) (hs : swapsWith e (some (.Name x pos')) pos.line X.env = pure false := by rfl) (hf : X.fn x = true ∨ X.env.scope.names.lookup x = some .local := by first | exact .inl rfl | exact .inr rfl) :
    DS X p (.Assign [.Name x pos'] e pos) (fun k _ _ _ ρ => if i < ρ.length then fl ρ >>= fun ds => k (ρ.set i (.own (.lst ds))) else bad) := by
  refine ⟨fun W G H0 ρ σ H s k r b c R Ex Dn tk rl hw wy px => tS_of (ps_set hN hi hx pe_self hs hf) ?_⟩
  have hw : wpM (if i < ρ.length then fl ρ >>= fun ds => k (ρ.set i (.own (.lst ds))) else bad) s R Ex := hw
  by_cases hl : i < ρ.length
  case neg => rw [if_neg hl] at hw; exact hw.elim
  rw [if_pos hl, wp_bind] at hw
  refine he.run W G H0 ρ σ H s _ Ex _ tk rl hw (fun ds s1 q vs H1 h1 a1 n1 e1 hz r1 => ?_) (px.px rl.old)
  exact wy.nx _ _ H1 s1 ((rl.step a1.st a1.pen).putOwn (x := .own (.lst ds)) rl n1 hl ⟨vs, e1, hz, r1⟩ a1.st) h1
/-- xs.append(e), xs its own -/
theorem ds_app (i : Nat) {x : Str} {p1 p2 : Pos} (he : DE X p e fe) (hN : X.N[i]? = some x := by rfl) (hv : Vis X.env.scope x := by first | exact Or.inl rfl | exact Or.inr (Or.inl rfl) | exact Or.inr (Or.inr rfl)) (hd : (x == ("__debug__" : Str)) = false := by decide)
    (hcd : (x == ("__classdict__" : Str)) = false := by decide) (hs : swapsWith (.Call (.Attribute (.Name x p1) "append" p2) [e] [] pos') none pos.line X.env = pure false := by rfl)
    (hp : PE X (.Call (.Attribute (.Name x p1) "append" p2) [e] [] pos') (tBM X.K "list" rAppend (tVar i) (tCons (tE X e) tNil)) := by exact pe_bm PySem.F.plainAttrs_list PySem.F.slot_list_append PySem.F.type_list_append mt_append (pv _) (pa_cons pe_self pa_nil)) :
    DS X p (.Expr (.Call (.Attribute (.Name x p1) "append" p2) [e] [] pos') pos) (sApp i fe) := by
  refine ⟨fun W G H0 ρ σ H s k r b c R Ex Dn tk rl hw wy px => tS_of (ps_expr hp hs) ?_⟩
  have hw : wpM (ownL ρ[i]? >>= fun xs => fe ρ >>= fun d => pushD xs d >>= fun ys => k (ρ.set i (.own (.lst ys)))) s R Ex := hw
  cases eo : ρ[i]? with
  | none => rw [eo] at hw; exact hw.elim
  | some y =>
    rw [eo] at hw
    cases y with
    | own d =>
      cases d with
      | lst xs =>
        have hw : wpM (fe ρ >>= fun d => pushD xs d >>= fun ys => k (ρ.set i (.own (.lst ys)))) s R Ex := hw
        obtain ⟨q, h1, h2, vs, h3, hz, h4⟩ := rl.own i _ eo rfl
        refine ⟨_, h1, .inl ⟨rfl, vs, .inl (.inl h3)⟩, ?_⟩
        rw [wp_bind] at hw
        refine he.run W G H0 ρ σ H s _ Ex _ tk rl hw (fun d s1 v H1 w1 a1 r1 => ?_) (px.px rl.old)
        have nq : ¬ p.no q := fun z => rl.gne i _ q eo rfl h1 (rl.gpa _ z)
        have rl1 := rl.step a1.st a1.pen
        rw [wp_bind] at w1
        unfold pushD at w1
        by_cases hl : xs.length < 16777216
        · rw [if_pos hl] at w1
          have w1 : wpM (k (ρ.set i (.own (.lst (xs ++ [d]))))) s1 R Ex := w1
          have l4 := h4.mono (a1.st.toF rl.fpa) fun _ z => z
          refine ⟨q, vs, v, rfl, rfl, a1.st q _ h3 nq, by rw [l4.length, sizeLine_eq]; exact hl, wy.nx _ σ _ s1 (rl1.updOwn (y := .own (.lst (xs ++ [d]))) eo rfl rfl h1 ⟨vs ++ [v], upd_same, by rw [List.length_append]; exact hl, ?_⟩) w1⟩
          refine (l4.append (.cons r1 .nil)).mono (fun a u e n => ?_) fun _ z => z
          rw [upd_ne fun z => n (by rw [z]; exact .inr ⟨i, _, eo, rfl, h1⟩)]
          exact e
        · rw [if_neg hl] at w1
          exact w1.elim
      | _ => exact hw.elim
    | _ => exact hw.elim
/-- x = [..], the comprehension stored on one line -/
theorem ds_lcD (i : Nat) {x : Str} {elt tg iter : Expr} {ifs : List Expr} {scope : Scope} {h : D → Env → Option Env} {ts : List Nat} {py : Pos} {ee : Env → M D} (own : List (Str × Nat)) (hN : X.N.Nodup) (hi : DI X p false tg iter fl) (hg : ∀ s H C cl fp, DG (Blk X s H scope C cl fp) p tg ts h) (ht : ∀ s H C cl fp, DTs (Blk X s H scope C cl fp) p ifs t) (he : ∀ s H C cl fp, DE (Blk X s H scope C cl fp) p elt ee)
    (hy : X.N[i]? = some x := by rfl) (hyl : X.env.scope.names.lookup x = some .local := by rfl) (hl : (py.line == pos.line) = true := by rfl) (ha : (scope.names.any fun (n, k) => n == x && (k == .local || k == .cell)) = false := by decide +kernel) (hk : X.env.scope.kind = .function := by rfl)
    (ok : blkC X.N X.env.scope scope own = true := by first | kernel_rfl | rfl) (hv : ∀ i ∈ ts, i ∈ own.map (·.2) := by decide) (hc : X.calm = true := by rfl) (hs : ∀ x, foldedSetIterable iter X.env x = pure x := by intro _; rfl) :
    DS X p (.Assign [.Name x py] (.ListComp elt [⟨tg, iter, ifs, 0⟩] scope pos) pos') (sSet i fun ρ => lcM (own.map (·.2)) fl h t ee ρ >>= fun xs => pure (.lst xs)) := by
  refine ⟨fun W G H0 ρ σ H s k r b c R Ex Dn tk rl hw wy px => tS_of (ps_setLc (wi := tI X tg iter) (g := bG X scope tg) (tt := bT X scope ifs) (te := bE X scope elt) hc hN hy hyl (sw_true hk hyl hl ha) pi_self (blkOk_by ok)
    (fun s H C cl fp => ⟨fun pins sh σ H v u Q I r h => pg_self.run pins sh σ H v u Q I r (h s _ C cl fp)⟩) (fun s H C cl fp => ⟨fun pins sh σ H Q I h => pts_self.run pins sh σ H Q I (h s _ C cl fp)⟩) (fun s H C cl fp => ⟨fun pins sh σ H Q I h => pe_self.run pins sh σ H Q I (h s _ C cl fp)⟩) hs) ?_⟩
  have hw : wpM ((lcM (own.map (·.2)) fl h t ee ρ >>= fun xs => pure (.lst xs)) >>= fun d => k (ρ.set i (.dat d))) s R Ex := hw
  rw [bind_assoc, wp_bind] at hw
  exact lc_run hi hg ht he hv tk rl hw (fun ds s1 q vs H1 h1 a1 n1 e1 hz r1 => wy.nx _ _ H1 s1 ((rl.step a1.st a1.pen).put rfl fun d' e => by
    cases e
    exact ⟨_, rfl, .lst e1 (rl.fresh n1) hz (r1.mono (fun _ _ z _ => z) fun _ z => .inl z)⟩) h1) (px.px rl.old)
theorem ds_lcO (i : Nat) {x : Str} {elt tg iter : Expr} {ifs : List Expr} {scope : Scope} {h : D → Env → Option Env} {ts : List Nat} {py : Pos} {ee : Env → M D} (own : List (Str × Nat)) (hN : X.N.Nodup) (hi : DI X p false tg iter fl) (hg : ∀ s H C cl fp, DG (Blk X s H scope C cl fp) p tg ts h) (ht : ∀ s H C cl fp, DTs (Blk X s H scope C cl fp) p ifs t) (he : ∀ s H C cl fp, DE (Blk X s H scope C cl fp) p elt ee)
    (hy : X.N[i]? = some x := by rfl) (hyl : X.env.scope.names.lookup x = some .local := by rfl) (hl : (py.line == pos.line) = true := by rfl) (ha : (scope.names.any fun (n, k) => n == x && (k == .local || k == .cell)) = false := by decide +kernel) (hk : X.env.scope.kind = .function := by rfl)
    (ok : blkC X.N X.env.scope scope own = true := by first | kernel_rfl | rfl) (hv : ∀ i ∈ ts, i ∈ own.map (·.2) := by decide) (hc : X.calm = true := by rfl) (hs : ∀ x, foldedSetIterable iter X.env x = pure x := by intro _; rfl) :
    DS X p (.Assign [.Name x py] (.ListComp elt [⟨tg, iter, ifs, 0⟩] scope pos) pos') (fun k _ _ _ ρ => if i < ρ.length then lcM (own.map (·.2)) fl h t ee ρ >>= fun ds => k (ρ.set i (.own (.lst ds))) else bad) := by
  refine ⟨fun W G H0 ρ σ H s k r b c R Ex Dn tk rl hw wy px => tS_of (ps_setLc (wi := tI X tg iter) (g := bG X scope tg) (tt := bT X scope ifs) (te := bE X scope elt) hc hN hy hyl (sw_true hk hyl hl ha) pi_self (blkOk_by ok)
    (fun s H C cl fp => ⟨fun pins sh σ H v u Q I r h => pg_self.run pins sh σ H v u Q I r (h s _ C cl fp)⟩) (fun s H C cl fp => ⟨fun pins sh σ H Q I h => pts_self.run pins sh σ H Q I (h s _ C cl fp)⟩) (fun s H C cl fp => ⟨fun pins sh σ H Q I h => pe_self.run pins sh σ H Q I (h s _ C cl fp)⟩) hs) ?_⟩
  have hw : wpM (if i < ρ.length then lcM (own.map (·.2)) fl h t ee ρ >>= fun ds => k (ρ.set i (.own (.lst ds))) else bad) s R Ex := hw
  by_cases hil : i < ρ.length
  case neg => rw [if_neg hil] at hw; exact hw.elim
  rw [if_pos hil, wp_bind] at hw
  exact lc_run hi hg ht he hv tk rl hw (fun ds s1 q vs H1 h1 a1 n1 e1 hz r1 => wy.nx _ _ H1 s1 ((rl.step a1.st a1.pen).putOwn (x := .own (.lst ds)) rl n1 hil ⟨vs, e1, hz, r1⟩ a1.st) h1) (px.px rl.old)
end
/-! ### for, while -/
def forS (h : D → Env → Option Env) (body : S) (k : Env → M D) (r : D → M D) : List D → Env → M D
  | [], ρ => k ρ
  | x :: xs, ρ => bindT (h x ρ) fun ρ' => body (forS h body k r xs) r k (forS h body k r xs) ρ'
def sFor (g : Env → M (List D)) (h : D → Env → Option Env) (body : S) : S := fun k r _ _ ρ => g ρ >>= fun xs => forS h body k r xs ρ
def whileS (t : Env → M Bool) (body : S) (k : Env → M D) (r : D → M D) : Nat → Env → M D
  | 0, _ => bad
  | n + 1, ρ => t ρ >>= fun x => if x = true then body (whileS t body k r n) r k (whileS t body k r n) ρ else k ρ
def sWhile (n : Nat) (t : Env → M Bool) (body : S) : S := fun k r _ _ ρ => whileS t body k r n ρ
section
open Classical
/-- all but what is owned here -/
noncomputable def reb (ρ : Env) (σ : L2.St) (H : Hp) : Hp := fun a => if (∃ (i : Nat) (x : Sl), ρ[i]? = some x ∧ x.held = true ∧ σ[i]? = some (some (.ref a))) then none else H a
variable {K : PySem.W.Frag} {p : PL} {G : Addr → Prop} {H0 H H' : Hp} {ρ ρ' : Env} {σ σ' : L2.St} {s s' : Pen}
theorem reb_some {a : Addr} {o : HO} (h : reb ρ σ H a = some o) : H a = some o := by
  unfold reb at h
  split at h
  · cases h
  · exact h
theorem Rel.reb (r : Rel K p G H0 ρ σ H s) : Rel K p G (Say.reb ρ σ H) ρ σ H s where
  len := r.len
  dat := r.dat
  own := fun i x e hx => by
    obtain ⟨a, h1, h2, h3⟩ := r.own i x e hx
    exact ⟨a, h1, if_pos ⟨i, x, e, hx, h1⟩, h3⟩
  inj := r.inj
  old := fun a o e _ => reb_some e
  pen := r.pen
  gpa := r.gpa
  gca := r.gca
  gex := r.gex
  gne := r.gne
theorem Rel.rebStep (r : Rel K p G H0 ρ σ H s) (st : Step p (Say.reb ρ σ H) H') : Step p H0 H' := fun a o e n => by
  have hn : ¬ ∃ (i : Nat) (x : Sl), ρ[i]? = some x ∧ x.held = true ∧ σ[i]? = some (some (.ref a)) := fun ⟨i, x, h1, h2, h3⟩ => by
    obtain ⟨b, q1, q2, _⟩ := r.own i x h1 h2
    rw [h3] at q1
    cases q1
    rw [q2] at e
    cases e
  refine st a o ?_ n
  unfold Say.reb
  rw [if_neg hn]
  exact r.old a o e n
theorem Rel.back (r : Rel K p G H0 ρ σ H s) (r' : Rel K p G (Say.reb ρ σ H) ρ' σ' H' s') : Rel K p G H0 ρ' σ' H' s' where
  len := r'.len
  dat := r'.dat
  own := fun i x e hx => by
    obtain ⟨a, h1, h2, h3⟩ := r'.own i x e hx
    refine ⟨a, h1, ?_, h3⟩
    unfold Say.reb at h2
    split at h2
    · rename_i z
      obtain ⟨j, y, q1, q2, q3⟩ := z
      obtain ⟨b, q4, q5, _⟩ := r.own j y q1 q2
      rw [q3] at q4
      cases q4
      exact q5
    · cases z : H0 a with
      | none => rfl
      | some o =>
        by_cases hp : p.no a
        · exact (r.pen.notNo h2 hp).elim
        · have := r.old a o z hp
          rw [h2] at this
          cases this
  inj := r'.inj
  old := r.rebStep r'.old
  pen := r'.pen
  gpa := r'.gpa
  gca := r'.gca
  gex := r'.gex
  gne := r'.gne
/-- what is carried at a loop's start is carried within, whatever is owned there -/
theorem Rel.carry (r : Rel K p G H0 ρ σ H s) (r' : Rel K p G (Say.reb ρ σ H) ρ' σ' H' s') {v : V} {d : D} (h : Rep K p H (Fo G ρ σ) v d) : Rep K p H' (Fo G ρ' σ') v d := by
  have h1 : Rep K p (Say.reb ρ σ H) (Fo G ρ σ) v d := h.mono (fun a o e n => by
    unfold Say.reb
    rw [if_neg fun ⟨i, x, q1, q2, q3⟩ => n (.inr ⟨i, x, q1, q2, q3⟩)]
    exact e) fun _ z => z
  have h2 := h1.more (N := fun a => Say.reb ρ σ H a = none) fun a z => z
  refine h2.mono (fun a o e n => r'.old a o e fun z => n (.inl (r.fpa _ z))) fun a z => ?_
  rcases z with z | ⟨i, x, q1, q2, q3⟩
  · exact .inl (.inl z)
  · obtain ⟨b, q4, q5, _⟩ := r'.own i x q1 q2
    rw [q3] at q4
    cases q4
    exact .inr q5
theorem Rel.carryL (r : Rel K p G H0 ρ σ H s) (r' : Rel K p G (Say.reb ρ σ H) ρ' σ' H' s') : ∀ {vs : List V} {ds : List D}, RepL K p H (Fo G ρ σ) vs ds → RepL K p H' (Fo G ρ' σ') vs ds
  | _, _, .nil => .nil
  | _, _, .cons h t => .cons (r.carry r' h) (r.carryL r' t)
end
section
variable {X : Cx} {p : PL} {tg iter : Expr} {body : List Stmt} {pos : Pos} {g : Env → M (List D)} {h : D → Env → Option Env} {ts : List Nat} {f : S} {t : Env → M Bool}
theorem ds_for (hi : DI X p true tg iter g) (hg : DG X p tg ts h) (hb : DSs X p body f) (hp : PassesOwn (model X.prog X.w) X.A X.env X.xe) (hc : X.calm = true := by rfl) (hs : ∀ x, foldedSetIterable iter X.env x = pure x := by intro _; rfl) : DS X p (.For tg iter body [] pos) (sFor g h f) := by
  refine ⟨fun W G H0 ρ σ H s k r b c R Ex Dn tk rl hw wy px => tS_of (ps_for hp hc pi_self pg_self pss_self hs) ?_⟩
  have hw : wpM (g ρ >>= fun xs => forS h f k r xs ρ) s R Ex := hw
  rw [wp_bind] at hw
  refine hi.run W G H0 ρ σ H s _ Ex _ tk rl hw (fun ds s1 H1 J h1 a1 ok => ?_) (px.px rl.old)
  have rl1 := rl.step a1.st a1.pen
  refine ⟨fun i m σc Hc => m = ds.length - i ∧ i ≤ ds.length ∧ ∃ sc ρc, Rel X.K p G (reb ρ σ H1) ρc σc Hc sc ∧ wpM (forS h f k r (ds.drop i) ρc) sc R Ex, ⟨ds.length, rfl, Nat.zero_le _, s1, ρ, rl1.reb, h1⟩, ?_⟩
  rintro i m σc Hc ⟨rfl, hi', sc, ρc, rc, hwp⟩
  have stF : StepF (Fs true G (Fo G ρ σ)) H1 Hc := fun a o e n => by
    have n : ¬ Fo G ρ σ a := n
    refine rc.old a o ?_ fun z => n (rl.fpa _ z)
    unfold reb
    rw [if_neg fun ⟨i, x, q1, q2, q3⟩ => n (.inr ⟨i, x, q1, q2, q3⟩)]
    exact e
  by_cases hlt : i < ds.length
  · obtain ⟨go, yl⟩ := ok.go i ds[i] Hc stF (List.getElem?_eq_getElem hlt)
    refine .inr ⟨go, fun σ' H' => ∃ sc ρc, Rel X.K p G (reb ρ σ H1) ρc σ' H' sc ∧ wpM (forS h f k r (ds.drop (i + 1)) ρc) sc R Ex, fun σ' H' hN => ⟨_, by omega, rfl, hlt, hN⟩, fun x Hy y => ?_⟩
    obtain ⟨sm, rx⟩ : Same Hc Hy ∧ Rep X.K p Hy (Fo G ρc σc) x ds[i] := by
      rcases yl x Hy y with ⟨e, rr⟩ | ⟨T, vs, es, e1, hT, e2, e3, hz, rr⟩
      · subst e
        exact ⟨Same.refl _, rl1.carry rc rr⟩
      · subst e1
        subst e2
        rw [e3]
        have sm := same_new (o := .tup vs) hT
        exact ⟨sm, .itm (⟨upd_same, rc.fresh hT⟩) hz ((rl1.carryL rc rr).mono ((same_step (p := p) sm).toF rc.fpa) fun _ z => z)⟩
    have ry := rc.step (same_step (p := p) sm) (rc.pen.same sm)
    rw [List.drop_eq_getElem_cons hlt] at hwp
    have hwp : wpM (bindT (h ds[i] ρc) fun ρ' => f (forS h f k r (ds.drop (i + 1))) r k (forS h f k r (ds.drop (i + 1))) ρ') sc R Ex := hwp
    cases eh : h ds[i] ρc with
    | none => rw [eh] at hwp; exact hwp.elim
    | some ρ' =>
      rw [eh] at hwp
      refine hg.run G _ ρc ρ' σc Hy sc x ds[i] _ ry rx eh fun σ2 r2 sb => ?_
      refine hb.run W G (reb ρ σ H1) ρ' σ2 Hy sc _ r k _ R Ex _ tk r2 hwp ⟨fun ρ3 σ3 H3 s3 r3 w3 => ⟨s3, ρ3, r3, w3⟩, fun d s3 v H3 st3 pn3 rp3 w3 => wy.rt d s3 v H3 (rl1.rebStep st3) pn3 rp3 w3, fun ρ3 σ3 H3 s3 r3 w3 => wy.nx ρ3 σ3 H3 s3 (rl1.back r3) w3, fun ρ3 σ3 H3 s3 r3 w3 => ⟨s3, ρ3, r3, w3⟩⟩ fun c' fs s3 σ3 dx vfs H3 e3 st3 pn3 x3 rf3 => px c' fs s3 σ3 dx vfs H3 e3 (rl1.rebStep st3) pn3 x3 rf3
  · have e : i = ds.length := by omega
    subst e
    rw [List.drop_length] at hwp
    exact .inl ⟨ok.stop Hc stF, wy.nx ρc σc Hc sc (rl1.back rc) hwp⟩
theorem ds_while (n : Nat) {c : Expr} (ht : DT X p c t) (hb : DSs X p body f) (hp : PassesOwn (model X.prog X.w) X.A X.env X.xe) : DS X p (.While c body [] pos) (sWhile n t f) := by
  refine ⟨fun W G H0 ρ σ H s k r b c' R Ex Dn tk rl hw wy px => tS_of (ps_while hp pt_self pss_self) ?_⟩
  refine ⟨fun m σc Hc => ∃ sc ρc, Rel X.K p G H0 ρc σc Hc sc ∧ wpM (whileS t f k r m ρc) sc R Ex, ⟨n, s, ρ, rl, hw⟩, ?_⟩
  rintro m σc Hc ⟨sc, ρc, rc, hwp⟩
  cases m with
  | zero => exact hwp.elim
  | succ m =>
    have hwp : wpM (t ρc >>= fun x => if x = true then f (whileS t f k r m) r k (whileS t f k r m) ρc else k ρc) sc R Ex := hwp
    rw [wp_bind] at hwp
    refine ht.run W G H0 ρc σc Hc sc _ Ex _ tk rc hwp (fun x s1 H1 h1 a1 => ?_) (px.px rc.old)
    have rl1 := rc.step a1.st a1.pen
    cases x with
    | true =>
      rw [if_pos rfl] at h1 ⊢
      exact ⟨fun σ' H' => ∃ sc ρc, Rel X.K p G H0 ρc σ' H' sc ∧ wpM (whileS t f k r m ρc) sc R Ex, fun σ' H' hN => ⟨m, Nat.lt_succ_self m, hN⟩,
        hb.run W G H0 ρc σc H1 s1 _ r k _ R Ex _ tk rl1 h1 ⟨fun ρ3 σ3 H3 s3 r3 w3 => ⟨s3, ρ3, r3, w3⟩, wy.rt, fun ρ3 σ3 H3 s3 r3 w3 => wy.nx ρ3 σ3 H3 s3 r3 w3, fun ρ3 σ3 H3 s3 r3 w3 => ⟨s3, ρ3, r3, w3⟩⟩ px⟩
    | false =>
      rw [if_neg (by decide)] at h1 ⊢
      exact wy.nx ρc σc H1 s1 rl1 h1
end
end Say

namespace Say
open L2 PyProof.Rows PySem.Spec PySem

/-! ### a def keeps its promise -/
def startE (N : List Str) (ds : List D) : Env := ds.map Sl.dat ++ List.replicate (N.length - ds.length) .no
def runS (N : List Str) (f : S) (ds : List D) : M D := f (fun _ => pure .non) pure (fun _ => bad) (fun _ => bad) (startE N ds)
theorem startE_get {N : List Str} {ds : List D} {i : Nat} {x : Sl} (h : (startE N ds)[i]? = some x) : (∃ d, ds[i]? = some d ∧ x = .dat d) ∨ x = .no := by
  unfold startE at h
  by_cases hi : i < (ds.map Sl.dat).length
  · rw [List.getElem?_append_left hi, List.getElem?_map] at h
    cases e : ds[i]? with
    | none => rw [e]
        at h; cases h
    | some d =>
      rw [e] at h
      cases h
      exact .inl ⟨d, rfl, rfl⟩
  · rw [List.getElem?_append_right (by omega)] at h
    exact .inr (List.eq_of_mem_replicate (List.mem_of_getElem? h))
theorem rel_start {K : PySem.W.Frag} {p : PL} {G : Addr → Prop} {H : Hp} {N : List Str} {vs : List V} {ds : List D} {s : Pen} (gpa : ∀ a, p.no a → G a) (gca : G p.ca) (gex : ∀ a, G a → ∃ o, H a = some o) (pn : PenAt H p s) (r : RepL K p H G vs ds) : Rel K p G H (startE N ds) (L2.start N vs) H s := by
  have no : ∀ (i : Nat) (x : Sl), (startE N ds)[i]? = some x → x.held = true → False := fun i x h hx => by
    rcases startE_get h with ⟨d, _, e⟩ | e
    · rw [e] at hx; cases hx
    · rw [e] at hx; cases hx
  refine ⟨by unfold startE L2.start; simp [r.length], fun i d e => ?_, fun i x h hx => (no i x h hx).elim, fun i j x y a h hx => (no i x h hx).elim, .refl, pn, gpa, gca, gex, fun i x a h hx => (no i x h hx).elim⟩
  rcases startE_get e with ⟨d', h1, h2⟩ | h
  · cases h2
    obtain ⟨v, q1, q2⟩ := r.get h1
    refine ⟨v, ?_, q2.mono (fun _ _ z _ => z) fun a z => ?_⟩
    · unfold L2.start
      have hl : i < vs.length := (List.getElem?_eq_some_iff.mp q1).1
      rw [List.getElem?_append_left (by rw [List.length_map]; exact hl), List.getElem?_map, q1]
      rfl
    · rcases z with z | ⟨j, x, e1, hx, _⟩
      · exact z
      · exact (no j x e1 hx).elim
  · cases h
section
variable {P : Program} {w : World} {K :
    PySem.W.Frag} {mg : Str → Option Value} {base : Heap}
theorem def_has {x : Str} {st : Stmt} {f : Addr} {fd : FuncData} {N ps : List Str} {k : Nat} {fS : S} (F : FunD K x x (defArgs st) (defBody st) (defScope st) [] [] f fd) (Sc : FnScope N ps (defScope st)) (gm : mg x = some (.ref f)) (hb : Binds K fd ps [])
    (body : ∀ (cdv : Value) (A : Around) (outer : List PySem.Env) (s : Shared) (H : Hp) (E : XK) (p : PL), RoomG k (A.deeper (envOfC x (defScope st) s.heap.objs.size f cdv)) →
      DSs (cxOf (L2.CX P w) P w K mg base N x (defScope st) f cdv A outer s H E) p (defBody st) fS) : Has P w K mg base (k + 1) x ps.length (runS N fS) := by
  refine ⟨⟨f, fd, ps, gm, F.kp, hb, rfl, okG (pr := fun _ => True) F (fun _ _ _ _ => trivial) Sc (fun vs H Q E h => ?_) fun cdv A outer s H vs Q E _ hr h => ⟨_, pss_self, ?_⟩⟩⟩
  · obtain ⟨p, G, ds, s, _, _, _, _, hl, _⟩ := h
    exact hl
  · obtain ⟨p, G, ds, sp, gpa, gca, gex, pn, hl, r, hw⟩ := h
    refine (body cdv A outer s H E p hr).run (fun cls d _ H' => E cls d H') G H (startE N ds) (L2.start N vs) H sp _ _ _ _ _ _ _ (takes_of rfl rfl rfl rfl) (rel_start gpa gca gex pn r) hw
      ⟨fun ρ σ H' s' rl h1 => ?_, fun d s' v H' st pn' rp h1 => h1 v H' ⟨st, pn'⟩ rp, fun ρ σ H' s' rl h1 => h1.elim, fun ρ σ H' s' rl h1 => h1.elim⟩ fun c fs s' σ dx vfs H' he st pn' xd rf => he dx vfs H' ⟨st, pn'⟩ xd rf
    exact h1 .non H' ⟨rl.old, rl.pen⟩ .non
end

/-! ### chains -/
section
variable {X : Cx} {p : PL} {a b c e : Expr} {f g h : Env → M D} {pos pos' : Pos} {fs : List (Env → M D)}
def chainM (g1 g2 : D → D → Option D) (x : M D) (y : M D) (z : M D) : M Bool := x >>= fun x => y >>= fun y => lift (g1 x y) >>= truB >>= fun k => if k = true then z >>= fun z => lift (g2 y z) >>= truB else pure false
theorem chain_run {op op' : CmpOp} {r r' : R2} {g1 g2 : D → D → Option D} (h1 : OpS X.K p r g1) (h2 : OpS X.K p r' g2) (ha : DE X p a f) (hb : DE X p b g) (hc : DE X p c h) {W : WX} {G : Addr → Prop} {H0 : Hp} {ρ : Env} {σ : L2.St} {H : Hp} {s : Pen} {R : Bool → Pen → Prop} {Ex : XR} {Q : VK} (tk : Takes X W) (rl : Rel X.K p G H0 ρ σ H s)
    (hw : wpM (chainM g1 g2 (f ρ) (g ρ) (h ρ)) s R Ex) (q : ∀ d s' H', R d s' → Af p H H' s' → Q (.bl d) H') (px : PX X p W G σ H Ex) : tChain r r' (tE X a) (tE X b) (tE X c) σ H Q := by
  unfold chainM at hw
  rw [wp_bind] at hw
  refine ha.run W G H0 ρ σ H s _ Ex _ tk rl hw (fun d1 s1 v1 H1 w1 a1 r1 => ?_) px
  rw [wp_bind] at w1
  have rl1 := rl.step a1.st a1.pen
  refine hb.run W G H0 ρ σ H1 s1 _ Ex _ tk rl1 w1 (fun d2 s2 v2 H2 w2 a2 r2 => ?_) (px.at a1)
  have rl2 := rl1.step a2.st a2.pen
  cases e1 : g1 d1 d2 with
  | none => rw [e1] at w2; exact w2.elim
  | some d =>
    rw [e1] at w2
    refine h1 _ H2 v1 v2 d1 d2 d _ rl.fpa (fun _ z => rl2.fresh z) (r1.mono (a2.st.toF rl.fpa) fun _ z => z) r2 e1 fun v H3 sm r3 => ?_
    cases d with
    | bl k =>
      have w2 : wpM (if k = true then h ρ >>= fun z => lift (g2 d2 z) >>= truB else pure false) s2 R Ex := w2
      have a3 : Af p H H3 s2 := (a1.trans a2).trans (.same a2.pen sm)
      refine ⟨k, bl_of r3, ?_⟩
      cases k with
      | false =>
        rw [if_neg (by decide)] at w2 ⊢
        exact q false s2 H3 w2 a3
      | true =>
        rw [if_pos rfl, wp_bind] at w2
        rw [if_pos rfl]
        have rl3 := rl.step a3.st a3.pen
        refine hc.run W G H0 ρ σ H3 s2 _ Ex _ tk rl3 w2 (fun d3 s3 v3 H4 w3 a4 r4 => ?_) (px.at a3)
        cases e2 : g2 d2 d3 with
        | none => rw [e2] at w3; exact w3.elim
        | some d' =>
          rw [e2] at w3
          refine h2 _ H4 v2 v3 d2 d3 d' _ rl.fpa (fun _ z => (rl3.step a4.st a4.pen).fresh z) ((r2.mono ((same_step (p := p) sm).toF rl.fpa) fun _ z => z).mono (a4.st.toF rl.fpa) fun _ z => z) r4 e2 fun v' H5 sm' r5 => ?_
          cases d' with
          | bl k' =>
            rw [bl_of r5]
            exact q k' s3 H5 w3 ((a3.trans a4).trans (.same a4.pen sm'))
          | _ => exact w3.elim
    | _ => exact w2.elim
theorem dt_chain {op op' : CmpOp} {g1 g2 : D → D → Option D} (h1 : BinS X p (compareOp op) g1) (h2 : BinS X p (compareOp op') g2) (ha : DE X p a f) (hb : DE X p b g) (hc : DE X p c h) (hm : lastMarks [op, op'] [b, c] = false := by with_unfolding_all rfl) :
    DT X p (.Compare a [op, op'] [b, c] pos) (fun ρ => chainM g1 g2 (f ρ) (g ρ) (h ρ)) := by
  obtain ⟨r, o1, s1⟩ := h1
  obtain ⟨r', o2, s2⟩ := h2
  exact ⟨fun W G H0 ρ σ H s R Ex Q tk rl hw q px => tT_of (pt_chain o1 o2 pe_self pe_self pe_self hm) (chain_run (op := op) (op' := op') s1 s2 ha hb hc tk rl hw (fun d s' H' hr a => ⟨d, rfl, q d s' H' hr a⟩) px)⟩
theorem de_chain {op op' : CmpOp} {g1 g2 : D → D → Option D} (h1 : BinS X p (compareOp op) g1) (h2 : BinS X p (compareOp op') g2) (ha : DE X p a f) (hb : DE X p b g) (hc : DE X p c h) (hm : lastMarks [op, op'] [b, c] = false := by with_unfolding_all rfl) :
    DE X p (.Compare a [op, op'] [b, c] pos) (fun ρ => chainM g1 g2 (f ρ) (g ρ) (h ρ) >>= fun k => pure (.bl k)) := by
  obtain ⟨r, o1, s1⟩ := h1
  obtain ⟨r', o2, s2⟩ := h2
  refine ⟨fun W G H0 ρ σ H s R Ex Q tk rl hw q px => tE_of (pe_chain o1 o2 pe_self pe_self pe_self hm) ?_⟩
  rw [wp_bind] at hw
  exact chain_run (op := op) (op' := op') s1 s2 ha hb hc tk rl hw (fun d s' H' hr a => q _ s' _ H' hr a (.bl d)) px
/-! ### list(range(..)) -/
theorem repL_rg {K : PySem.W.Frag} {H : Hp} {F : Addr → Prop} (i j : Int) : RepL K p H F (rgV i j) ((List.range (j - i).toNat).map fun (n : Nat) => D.int (i + (n : Int))) := by
  unfold rgV
  have : ∀ l : List Nat, RepL K p H F (l.map fun (n : Nat) => V.int (i + (n : Int))) (l.map fun (n : Nat) => D.int (i + (n : Int))) := fun l => by
    induction l with
    | nil => exact .nil
    | cons n l ih => exact .cons (.int _) ih
  exact this _
theorem dn_rng1 (hm : X.mg "range" = none) (hl : X.mg "list" = none) (ha : DE X p a f) (hc : X.calm = true := by rfl) (hg : Gl X "range" := by rfl) (hg2 : Gl X "list" := by rfl) {p2 : Pos}
    (n1 : starEach [a] X.env = (false, eval a X.env) :: starEach [] X.env := by rfl) (n2 : starEach [.Call (.Name "range" p2) [a] [] pos'] X.env = (false, eval (.Call (.Name "range" p2) [a] [] pos') X.env) :: starEach [] X.env := by rfl) {p3 : Pos} :
    DN X p (.Call (.Name "list" p3) [.Call (.Name "range" p2) [a] [] pos'] [] pos) (fun ρ => f ρ >>= fun j => rngM (.int 0) j) := by
  refine ⟨fun W G H0 ρ σ H s R Ex Q tk rl hw q px => tE_of (pe_listRg hc hg2 hl (prg_1 hg hm pe_self n1) n2) ?_⟩
  rw [wp_bind] at hw
  refine ha.run W G H0 ρ σ H s _ Ex _ tk rl hw (fun d s1 v H1 h1 a1 r1 => ?_) px
  cases d with
  | int j =>
    cases r1
    have h1 : wpM (if rngOk 0 j = true then pure ((List.range (j - 0).toNat).map fun (n : Nat) => D.int (0 + (n : Int))) else bad) s1 R Ex := h1
    by_cases hk : rngOk 0 j = true
    · have hcnd := rngOk_iff.mp hk
      rw [if_pos hk] at h1
      refine ⟨j, rfl, ⟨by omega, by omega, by omega, by omega, by omega⟩, fun l hq => ?_⟩
      exact q _ s1 l _ _ h1 (a1.trans (.same a1.pen (same_new hq))) (back_none a1 hq) upd_same (by rw [List.length_map, List.length_range]; exact hcnd.2.2.2.2) (repL_rg 0 j)
    · rw [if_neg hk] at h1
      exact h1.elim
  | _ => exact h1.elim
/-! ### isinstance -/
inductive Tc where
  | ty (T : String) | own (c : Str)
def Tc.v (K : PySem.W.Frag) : Tc → V
  | .ty T => .ty T
  | .own c => .ref (He.ga K c)
def Tc.u (K : PySem.W.Frag) : Tc → Value
  | .ty T => .type T
  | .own c => .ref (He.ga K c)
def subT (a T : String) : Bool := match kitB a T with
  | some b => b
  | none => false
def tyNames : List String := ["NoneType", "bool", "int", "str", "list", "tuple", "dict"]
def isTy : D → Option String
  | .non => some "NoneType"
  | .bl _ => some "bool"
  | .int _ => some "int"
  | .str _ => some "str"
  | .tup _ => some "tuple"
  | .itm _ => some "tuple"
  | .lst _ => some "list"
  | .dct _ => some "dict"
  | _ => none
/-- the facts of own classes that isinstance asks -/
structure Kit (K : PySem.W.Frag) (cs : List Str) (Ts : List String) : Prop where
  ins : ∀ c ∈ cs, Cls K (He.ga K c) ∧ PySem.W.findIn K (.ref (He.ga K c)) "__class__" = some (some (.builtin "object.__class__")) ∧ PySem.W.specialIn K (.builtin "object.__class__") "__get__" = some (some (.builtin "getset_descriptor.__get__")) ∧
    PySem.W.takesIn K (.builtin "object.__class__") = some true ∧ PySem.W.mroIn K (He.ga K c) (.type "object") = some true
  oo : ∀ c ∈ cs, ∀ c' ∈ cs, PySem.W.kitOne K (.ref (He.ga K c)) (.ref (He.ga K c')) = some (c == c')
  ot : ∀ c ∈ cs, ∀ T ∈ Ts, PySem.W.kitOne K (.ref (He.ga K c)) (.type T) = some false
  to : ∀ T ∈ tyNames, ∀ c ∈ cs, PySem.W.kitOne K (.type T) (.ref (He.ga K c)) = some false
  tt : ∀ T ∈ tyNames, ∀ T' ∈ Ts, kitB T T' = some (subT T T')
def isOne (cs : List Str) (Ts : List String) (t : Tc) (d : D) : Option Bool := match t, d with
  | .ty T, .ins c _ => if (cs.contains c && Ts.contains T) = true then some false else none
  | .own c', .ins c _ => if (cs.contains c && cs.contains c') = true then some (c == c') else none
  | .ty T, d => (isTy d).bind fun a => if Ts.contains T = true then some (subT a T) else none
  | .own c', d => (isTy d).bind fun _ => if cs.contains c' = true then some false else none
def isAny (cs : List Str) (Ts : List String) : List Tc → D → Option Bool
  | [], _ => some false
  | t :: ts, d => match isOne cs Ts t d with
    | some true => some true
    | some false => isAny cs Ts ts d
    | none => none
def isiD (cs : List Str) (Ts : List String) (ts : List Tc) (d : D) : M D := lift ((isAny cs Ts ts d).map D.bl)
theorem isTy_mem {d : D} {a : String} (h : isTy d = some a) : a ∈ tyNames := by
  cases d <;> first | (cases h; simp [tyNames]; done) | cases h
theorem isOne_ok {K : PySem.W.Frag} {H : Hp} {F : Addr → Prop} {cs : List Str} {Ts : List String} (kt : Kit K cs Ts) {v : V} {d : D} (r : Rep K p H F v d) : (∀ t, isOne cs Ts t d = none) ∨ ∃ ty, TyX K H v ty ∧ ∀ t b, isOne cs Ts t d = some b → PySem.W.kitOne K ty (t.u K) = some b := by
  have built : ∀ a, isTy d = some a → (∀ c fs, d ≠ .ins c fs) → ∀ t b, isOne cs Ts t d = some b → PySem.W.kitOne K (.type a) (t.u K) = some b := fun a ha hd t b h => by
    cases t with
    | ty T =>
      have h : ((isTy d).bind fun a => if Ts.contains T = true then some (subT a T) else none) = some b := by
        cases d <;> first | exact h | exact absurd rfl (hd _ _)
      rw [ha] at h
      obtain ⟨h1, h2⟩ := iteSome h
      rw [← h2]
      exact kit_ty (kt.tt a (isTy_mem ha) T (by simpa using h1))
    | own c =>
      have h : ((isTy d).bind fun _ => if cs.contains c = true then some false else none) = some b := by
        cases d <;> first | exact h | exact absurd rfl (hd _ _)
      rw [ha] at h
      obtain ⟨h1, h2⟩ := iteSome h
      rw [← h2]
      exact kt.to a (isTy_mem ha) c (by simpa using h1)
  cases r with
  | non => exact .inr ⟨_, .base .non, built _ rfl fun _ _ e => by cases e⟩
  | bl b => exact .inr ⟨_, .base (.bl b), built _ rfl fun _ _ e => by cases e⟩
  | int b => exact .inr ⟨_, .base (.int b), built _ rfl fun _ _ e => by cases e⟩
  | str b _ => exact .inr ⟨_, .base (.str b), built _ rfl fun _ _ e => by cases e⟩
  | tup h hz l => exact h.1.elim fun o e => .inr ⟨_, .fTuple e.1, built _ rfl fun _ _ e => by cases e⟩
  | itm h hz l => exact .inr ⟨_, .base (.tup h.1), built _ rfl fun _ _ e => by cases e⟩
  | lst h n hz l => exact .inr ⟨_, .base (.lst h), built _ rfl fun _ _ e => by cases e⟩
  | dct h n l => exact .inr ⟨_, .base (.dK h), built _ rfl fun _ _ e => by cases e⟩
  | ins h n l =>
    rename_i a dx c vfs fs
    by_cases hc : cs.contains c = true
    · obtain ⟨k1, k2, k3, k4, k5⟩ := kt.ins c (by simpa using hc)
      refine .inr ⟨_, .base (.ins h k1 k2 k3 k4 k5), fun t b hb => ?_⟩
      cases t with
      | ty T =>
        obtain ⟨h1, h2⟩ := iteSome (show (if (cs.contains c && Ts.contains T) = true then some false else none) = some b from hb)
        obtain ⟨_, h3⟩ := Bool.and_eq_true_iff.mp h1
        rw [← h2]
        exact kt.ot c (by simpa using hc) T (by simpa using h3)
      | own c' =>
        obtain ⟨h1, h2⟩ := iteSome (show (if (cs.contains c && cs.contains c') = true then some (c == c') else none) = some b from hb)
        obtain ⟨_, h3⟩ := Bool.and_eq_true_iff.mp h1
        rw [← h2]
        exact kt.oo c (by simpa using hc) c' (by simpa using h3)
    · refine .inl fun t => ?_
      cases t with
      | ty T => exact if_neg fun z => hc (Bool.and_eq_true_iff.mp z).1
      | own c' => exact if_neg fun z => hc (Bool.and_eq_true_iff.mp z).1
  | pen =>
    refine .inl fun t => ?_
    cases t <;> rfl
theorem isAny_ok {K : PySem.W.Frag} {cs : List Str} {Ts : List String} {d : D} {ty : Value} (h : ∀ t b, isOne cs Ts t d = some b → PySem.W.kitOne K ty (t.u K) = some b) : ∀ {ts : List Tc} {b : Bool}, isAny cs Ts ts d = some b → PySem.W.kitAny K ty (ts.map (Tc.u K)) = some b
  | [], b, e => e
  | t :: ts, b, e => by
    have e1 : (match isOne cs Ts t d with | some true => some true | some false => isAny cs Ts ts d | none => none) = some b := e
    show (match PySem.W.kitOne K ty (t.u K) with | some true => some true | some false => PySem.W.kitAny K ty (ts.map (Tc.u K)) | none => none) = some b
    cases q : isOne cs Ts t d with
    | none => rw [q] at e1; cases e1
    | some k =>
      rw [q] at e1
      rw [h t k q]
      cases k with
      | true => exact e1
      | false => exact isAny_ok h e1
theorem de_isi1 {cs : List Str} {Ts : List String} {t : Tc} (kt : Kit X.K cs Ts) (hm : X.mg "isinstance" = none) (ha : DE X p a f) (hb : PE X b (tC (t.v X.K))) (hg : Gl X "isinstance" := by rfl)
    (n1 : starEach (a :: [b]) X.env = (false, eval a X.env) :: starEach [b] X.env := by rfl) (n2 : starEach (b :: []) X.env = (false, eval b X.env) :: starEach [] X.env := by rfl) (hpl : (backTo pos (starEach [b] X.env)).any (·.1) = false := by rfl) :
    DE X p (.Call (.Name "isinstance" pos') [a, b] [] pos) (fun ρ => f ρ >>= isiD cs Ts [t]) := by
  refine ⟨fun W G H0 ρ σ H s R Ex Q tk rl hw q px => tE_of (pe_callB call_isi hg hm (by decide +kernel) (pa_cons pe_self (pa_cons hb pa_nil n2) n1) (by decide) (by decide) n1 hpl) ?_⟩
  rw [wp_bind] at hw
  refine ha.run W G H0 ρ σ H s _ Ex _ tk rl hw (fun d s1 v H1 h1 a1 r1 => ?_) px
  unfold isiD at h1
  cases e : isAny cs Ts [t] d with
  | none => rw [e] at h1; exact h1.elim
  | some k =>
    rw [e] at h1
    rcases isOne_ok kt r1 with z | ⟨ty, z1, z2⟩
    · have e1 : (match isOne cs Ts t d with | some true => some true | some false => isAny cs Ts [] d | none => none) = some k := e
      rw [z t] at e1
      cases e1
    · have e1 : (match isOne cs Ts t d with | some true => some true | some false => some false | none => none) = some k := e
      refine ⟨v, t.v X.K, ty, t.u X.K, k, rfl, ?_, z1, z2 t k ?_, q _ s1 _ H1 h1 a1 (.bl k)⟩
      · cases t with
        | ty T => exact .ty T
        | own c => exact .own _
      · cases q' : isOne cs Ts t d with
        | none => rw [q'] at e1; cases e1
        | some k' =>
          rw [q'] at e1
          cases k' <;> exact e1
theorem de_isi2 {cs : List Str} {Ts : List String} {t t2 : Tc} {b2 : Expr} {kk : Nat} {pt : Pos} (kt : Kit X.K cs Ts) (hm : X.mg "isinstance" = none) (ha : DE X p a f) (hb : PE X b (tC (t.v X.K))) (hb2 : PE X b2 (tC (t2.v X.K))) (hg : Gl X "isinstance" := by rfl)
    (n1 : starEach (a :: [.Tuple [b, b2] kk pt]) X.env = (false, eval a X.env) :: starEach [.Tuple [b, b2] kk pt] X.env := by rfl) (n2 : starEach (.Tuple [b, b2] kk pt :: []) X.env = (false, eval (.Tuple [b, b2] kk pt) X.env) :: starEach [] X.env := by rfl) (hpl : (backTo pos (starEach [.Tuple [b, b2] kk pt] X.env)).any (·.1) = false := by rfl)
    (m1 : starEach (b :: [b2]) X.env = (false, eval b X.env) :: starEach [b2] X.env := by rfl) (m2 : starEach (b2 :: []) X.env = (false, eval b2 X.env) :: starEach [] X.env := by rfl) :
    DE X p (.Call (.Name "isinstance" pos') [a, .Tuple [b, b2] kk pt] [] pos) (fun ρ => f ρ >>= isiD cs Ts [t, t2]) := by
  refine ⟨fun W G H0 ρ σ H s R Ex Q tk rl hw q px => tE_of (pe_callB call_isiT hg hm (by decide +kernel) (pa_cons pe_self (pa_cons (pe_tup (pa_cons hb (pa_cons hb2 pa_nil m2) m1)) pa_nil n2) n1) (by decide) (by decide) n1 hpl) ?_⟩
  rw [wp_bind] at hw
  refine ha.run W G H0 ρ σ H s _ Ex _ tk rl hw (fun d s1 v H1 h1 a1 r1 => ?_) px
  unfold isiD at h1
  refine ⟨by show 2 ≤ sizeLine; decide, fun T hT => ?_⟩
  cases e : isAny cs Ts [t, t2] d with
  | none => rw [e] at h1; exact h1.elim
  | some k =>
    rw [e] at h1
    have sm := same_new (o := .tup [t.v X.K, t2.v X.K]) hT
    have r2 := r1.mono ((same_step (p := p) sm).toF rl.fpa) fun _ z => z
    rcases isOne_ok kt r2 with z | ⟨ty, z1, z2⟩
    · have e1 : (match isOne cs Ts t d with | some true => some true | some false => isAny cs Ts [t2] d | none => none) = some k := e
      rw [z t] at e1
      cases e1
    · have cl : ∀ t : Tc, ClsV (t.v X.K) (t.u X.K) := fun t => by
        cases t with
        | ty T => exact .ty T
        | own c => exact .own _
      exact ⟨v, T, [t.v X.K, t2.v X.K], ty, [t, t2].map (Tc.u X.K), k, rfl, upd_same, .cons (cl t) (.cons (cl t2) .nil), z1, isAny_ok z2 e, q _ s1 _ _ h1 (a1.trans (.same a1.pen sm)) (.bl k)⟩
/-- the class names, as values -/
theorem pe_ty {T : String} {x : Str} (hm : X.mg x = none) (hv : bootBuiltins x = some (.type T)) (hg : Gl X x := by rfl) (hn : x ≠ "__name__" := by decide) (hd : (x == ("__debug__" : Str)) = false := by decide) : PE X (.Name x pos) (tC ((Tc.ty T).v X.K)) := pe_bltn hg hm hv rfl hn hd
theorem pe_own {x : Str} (hm : X.mg x = some (.ref (He.ga X.K x))) (hg : Gl X x := by rfl) (hd : (x == ("__debug__" : Str)) = false := by decide) : PE X (.Name x pos) (tC ((Tc.own x).v X.K)) := pe_glob hg hm rfl hd
end
end Say

namespace Say
open L2 PyProof.Rows PySem.Spec PySem

/-! ### the mirror's words -/
abbrev En := Env → M D
@[simp] def dVar (i : Nat) : En := fun ρ => slD ρ[i]?
@[simp] def dC (d : D) : En := fun _ => pure d
@[simp] def dBin (k : D → D → Option D) (f g : En) : En := fun ρ => f ρ >>= fun x => g ρ >>= fun y => lift (k x y)
@[simp] def dAnd (f g : En) : En := fun ρ => andV (f ρ) (g ρ)
@[simp] def dOr (f g : En) : En := fun ρ => orV (f ρ) (g ρ)
@[simp] def dNot (f : En) : En := fun ρ => notV (f ρ)
@[simp] def dIf (t : Env → M Bool) (f g : En) : En := fun ρ => t ρ >>= fun k => if k = true then f ρ else g ρ
@[simp] def dTup (fs : List En) : En := fun ρ => seqA fs ρ mkTup
@[simp] def dCall (m : List D → M D) (fs : List En) : En := fun ρ => seqA fs ρ m
@[simp] def dBlt (k : List D → Option D) (fs : List En) : En := fun ρ => seqA fs ρ fun xs => lift (k xs)
@[simp] def dAttr (cs : List Str) (x : Str) (f : En) : En := fun ρ => f ρ >>= attrD cs x
@[simp] def dSl (f : En) (lo hi : Env → M (Option Int)) : En := fun ρ => f ρ >>= fun x => lo ρ >>= fun l => hi ρ >>= fun h => sliceD x l h
@[simp] def oN : Env → M (Option Int) := fun _ => pure none
@[simp] def oS (f : En) : Env → M (Option Int) := fun ρ => f ρ >>= intM >>= fun i => pure (some i)
@[simp] def dNew (k : Env → M (List D)) : En := fun ρ => k ρ >>= fun xs => pure (.lst xs)
@[simp] def dThaw (f : En) : En := fun ρ => f (thaw ρ) >>= immD
@[simp] def dIsi (cs : List Str) (Ts : List String) (ts : List Tc) (f : En) : En := fun ρ => f ρ >>= isiD cs Ts ts
@[simp] def dChain (g1 g2 : D → D → Option D) (f g h : En) : En := fun ρ => chainM g1 g2 (f ρ) (g ρ) (h ρ) >>= fun k => pure (.bl k)
@[simp] def tVal (f : En) : Env → M Bool := fun ρ => f ρ >>= truB
@[simp] def tCmp (k : D → D → Option D) (f g : En) : Env → M Bool := fun ρ => f ρ >>= fun x => g ρ >>= fun y => lift (k x y) >>= truB
@[simp] def tAnd (t u : Env → M Bool) : Env → M Bool := fun ρ => andB (t ρ) (u ρ)
@[simp] def tOr (t u : Env → M Bool) : Env → M Bool := fun ρ => orB (t ρ) (u ρ)
@[simp] def tNot (t : Env → M Bool) : Env → M Bool := fun ρ => notB (t ρ)
@[simp] def tChn (g1 g2 : D → D → Option D) (f g h : En) : Env → M Bool := fun ρ => chainM g1 g2 (f ρ) (g ρ) (h ρ)
@[simp] def tYes : Env → M Bool := fun _ => pure true
@[simp] def tThaw (t : Env → M Bool) : Env → M Bool := fun ρ => t (thaw ρ)
@[simp] def nLst (fs : List En) : Env → M (List D) := fun ρ => seqA fs ρ mkLst
@[simp] def nList (fs : List En) : Env → M (List D) := fun ρ => seqA fs ρ listD
@[simp] def nCat (f g : En) : Env → M (List D) := fun ρ => f ρ >>= fun x => g ρ >>= fun y => catN x y
@[simp] noncomputable def nRng1 (f : En) : Env → M (List D) := fun ρ => f ρ >>= fun j => rngM (.int 0) j
@[simp] noncomputable def nRng2 (f g : En) : Env → M (List D) := fun ρ => f ρ >>= fun i => g ρ >>= fun j => rngM i j
@[simp] def nSeq (f : En) : Env → M (List D) := fun ρ => f ρ >>= seqM
@[simp] def nOwn (i : Nat) : Env → M (List D) := fun ρ => slOwn ρ[i]?
@[simp] def gNm (i : Nat) : D → Env → Option Env := fun d ρ => some (ρ.set i (.dat d))
@[simp] def sAsg (h : D → Env → Option Env) (f : En) : S := fun k _ _ _ ρ => f ρ >>= fun d => bindT (h d ρ) k
@[simp] def sPar (i j : Nat) (f g : En) : S := fun k _ _ _ ρ => f ρ >>= fun d => g ρ >>= fun d2 => k ((ρ.set i (.dat d)).set j (.dat d2))
@[simp] def sOwnS (i : Nat) (f : Env → M (List D)) : S := fun k _ _ _ ρ => if i < ρ.length then f ρ >>= fun ds => k (ρ.set i (.own (.lst ds))) else bad
section
variable {X : Cx} {p : PL} {a b c e : Expr} {f g h : Env → M D} {pos pos' : Pos} {fs : List (Env → M D)} {k : Env → M (List D)}
/-- what is owned, read for a new list -/
theorem dn_thaw (ha : DN X p e k) : DN X p e (fun ρ => k (thaw ρ) >>= fun xs => if immL xs = true then pure xs else bad) := by
  refine ⟨fun W G H0 ρ σ H s R Ex Q tk rl hw q px => ?_⟩
  rw [wp_bind] at hw
  refine ha.run W G H0 (thaw ρ) σ H s _ Ex _ tk rl.thaw hw (fun ds s1 a vs H1 h1 a1 n1 e1 hz r1 => ?_) px
  by_cases hi : immL ds = true
  · rw [if_pos hi] at h1
    have rl1 := rl.step a1.st a1.pen
    refine q ds s1 a vs H1 h1 a1 n1 e1 hz (r1.free (fun b o z1 z2 z3 => ?_) hi)
    rcases z1 with z1 | z1
    · exact rl1.mt b o z1 (fun z => z2 (.inl z)) z3
    · exact (z2 (.inr z1)).elim
  · rw [if_neg hi] at h1
    exact h1.elim
/-- -x -/
def negD : D → M D
  | .int i => pure (.int (-i))
  | _ => bad
theorem de_neg (ha : DE X p a f) : DE X p (.UnaryOp .USub a pos) (fun ρ => f ρ >>= negD) := by
  refine ⟨fun W G H0 ρ σ H s R Ex Q tk rl hw q px => tE_of (pe_un un_neg pe_self) ?_⟩
  rw [wp_bind] at hw
  refine ha.run W G H0 ρ σ H s _ Ex _ tk rl hw (fun d s1 v H1 h1 a1 r1 => ?_) px
  cases d with
  | int i =>
    cases r1
    exact ⟨i, rfl, q _ s1 _ H1 h1 a1 (.int _)⟩
  | _ => exact h1.elim
@[simp] def dNeg (f : En) : En := fun ρ => f ρ >>= negD
@[simp] def nThaw (k : Env → M (List D)) : Env → M (List D) := fun ρ => k (thaw ρ) >>= fun xs => if immL xs = true then pure xs else bad
end
end Say

namespace Say
open L2 PyProof.Rows PySem.Spec PySem

/-! ### comprehensions of two clauses -/
def compA (h : D → Option Env) (t : Env → M Bool) (e : Env → M D) : List D → List D → M (List D)
  | acc, [] => pure acc
  | acc, x :: xs => bindT (h x) fun ρ => nx (t ρ) >>= fun b => if b = true then nx (e ρ) >>= fun y => if acc.length < 16777216 then compA h t e (acc ++ [y]) xs else bad else compA h t e acc xs
def compO (vs1 : List Nat) (h : D → Option Env) (t : Env → M Bool) (g1 : Env → M (List D)) (h1 : D → Env → Option Env) (t1 : Env → M Bool) (e : Env → M D) : List D → List D → M (List D)
  | acc, [] => pure acc
  | acc, x :: xs => bindT (h x) fun ρ => nx (t ρ) >>= fun b => if b = true then nx (g1 ρ) >>= fun ys => if okW vs1 ρ = true then compA (fun y => h1 y (wipeE ρ vs1)) t1 e acc ys >>= fun acc' => compO vs1 h t g1 h1 t1 e acc' xs else bad else compO vs1 h t g1 h1 t1 e acc xs
def lc2M (vs vs1 : List Nat) (g : Env → M (List D)) (h : D → Env → Option Env) (t : Env → M Bool) (g1 : Env → M (List D)) (h1 : D → Env → Option Env) (t1 : Env → M Bool) (e : Env → M D) (ρ : Env) : M (List D) := g ρ >>= fun xs => if okW vs ρ = true then compO vs1 (fun x => h x (wipeE ρ vs)) t g1 h1 t1 e [] xs else bad
def bI (X : Cx) (scope : Scope) (tg iter : Expr) : TI := fun σ H R => ∀ s H0 C cl fp, tI (Blk X s H0 scope C cl fp) tg iter σ H R
/-- an object L that is new joins what is not to be touched -/
theorem Rel.guard {K : PySem.W.Frag} {p : PL} {G : Addr → Prop} {H0 H1 : Hp} {ρ : Env} {σ : L2.St} {s1 : Pen} {L : Addr} (rl1 : Rel K p G H0 ρ σ H1 s1) (hL : H1 L = none) (o : HO) : Rel K p (fun a => G a ∨ a = L) H0 ρ σ (upd H1 L o) s1 := by
  have sm := same_new (o := o) hL
  have rn := rl1.step (same_step (p := p) sm) (rl1.pen.same sm)
  have fo : ∀ a, Fo (fun a => G a ∨ a = L) ρ σ a → Fo G ρ σ a ∨ a = L := fun a z => by
    rcases z with (z | z) | z
    · exact .inl (.inl z)
    · exact .inr z
    · exact .inl (.inr z)
  have hq : ∀ a, a = L → H1 a = none := fun a z => by rw [z]; exact hL
  have sf := (same_step (p := p) sm).toF (F := fun a => Fo G ρ σ a ∨ a = L) (fun a z => .inl (rl1.fpa a z))
  refine ⟨rn.len, fun i d e => ?_, fun i x e hx => ?_, rn.inj, rn.old, rn.pen, (fun a z => .inl (rn.gpa a z)), .inl rn.gca, fun a ha => ?_, fun i x a e hx e2 => ?_⟩
  · obtain ⟨v, q1, q2⟩ := rl1.dat i d e
    exact ⟨v, q1, ((q2.more (N := fun a => a = L) hq).mono sf fo)⟩
  · obtain ⟨a, q1, q2, q3⟩ := rl1.own i x e hx
    refine ⟨a, q1, q2, ?_⟩
    have old : ∀ u, H1 a = some u → upd H1 L o a = some u := fun u z => sm a u z
    cases x with
    | no => exact q3.elim
    | dat d => exact q3.elim
    | self c fs =>
      obtain ⟨hx, dx, ws, z1, z0, z2⟩ := q3
      exact ⟨hx, dx, ws, old _ z1, z0, (z2.more (N := fun a => a = L) hq).mono sf fo⟩
    | own d =>
      cases d with
      | lst ds =>
        obtain ⟨ws, z1, z0, z2⟩ := q3
        exact ⟨ws, old _ z1, z0, (z2.more (N := fun a => a = L) hq).mono sf fo⟩
      | dct ds =>
        obtain ⟨ws, z1, z2⟩ := q3
        exact ⟨ws, old _ z1, (z2.more (N := fun a => a = L) hq).mono sf fo⟩
      | _ => exact q3.elim
  · rcases ha with ha | ha
    · exact rn.gex a ha
    · rw [ha]
      exact ⟨_, upd_same⟩
  · rintro (z | z)
    · exact rn.gne i x a e hx e2 z
    · subst z
      obtain ⟨b, q1, q2, q3⟩ := rl1.own i x e hx
      rw [e2] at q1
      cases q1
      obtain ⟨o, ho, _⟩ := q3.there
      rw [hL] at ho
      cases ho
section
variable {X : Cx} {p : PL} {elt tg iter tg1 iter1 : Expr} {ifs ifs1 : List Expr} {scope : Scope} {own : List (Str × Nat)} {pos : Pos} {g g1 : Env → M (List D)} {h h1 : D → Env → Option Env} {ts ts1 : List Nat} {t t1 : Env → M Bool} {e : Env → M D}
theorem fo_sub {G : Addr → Prop} {ρ ρ' : Env} {σ σ' : L2.St} {vs ts : List Nat} (hk : okW vs ρ = true) (hv : ∀ i ∈ ts, i ∈ vs) (sb : SameBut ts (wipeE ρ vs) ρ' (L2.wipe σ vs) σ') {a : Addr} (z : Fo G ρ σ a) : Fo G ρ' σ' a := by
  rcases z with z | ⟨j, y, z1, z2, z3⟩
  · exact .inl z
  · have hn : j ∉ vs := fun hm => by
      have := List.all_eq_true.mp hk j hm
      rw [z1] at this
      simp [z2] at this
    obtain ⟨e1, e2⟩ := sb.2 j fun hm => hn (hv j hm)
    exact .inr ⟨j, y, by rw [e1, wipeE_out hn]; exact z1, z2, by rw [e2, L2.wipe_out hn]; exact z3⟩
theorem lc2_run (hi : DI X p false tg iter g) (hg : ∀ s H C cl fp, DG (Blk X s H scope C cl fp) p tg ts h) (ht : ∀ s H C cl fp, DTs (Blk X s H scope C cl fp) p ifs t) (hi1 : ∀ s H C cl fp, DI (Blk X s H scope C cl fp) p false tg1 iter1 g1) (hg1 : ∀ s H C cl fp, DG (Blk X s H scope C cl fp) p tg1 ts1 h1) (ht1 : ∀ s H C cl fp, DTs (Blk X s H scope C cl fp) p ifs1 t1) (he : ∀ s H C cl fp, DE (Blk X s H scope C cl fp) p elt e)
    {vs vs1 : List Nat} (hv : ∀ i ∈ ts, i ∈ vs) (hv1 : ∀ i ∈ ts1, i ∈ vs1)
    {W : WX} {G : Addr → Prop} {H0 : Hp} {ρ : Env} {σ : L2.St} {H : Hp} {s : Pen} {R : List D → Pen → Prop} {Ex : XR} {Q : VK} (tk : Takes X W) (rl : Rel X.K p G H0 ρ σ H s) (hw : wpM (lc2M vs vs1 g h t g1 h1 t1 e ρ) s R Ex)
    (q : ∀ ds s' a ws H', R ds s' → Af p H H' s' → H a = none → H' a = some (.lst ws) → ds.length ≤ 16777216 → RepL X.K p H' (fun b => Fo G ρ σ b ∨ b = a) ws ds → Q (.ref a) H') (px : PX X p W G σ H Ex) :
    tLc2 (tI X tg iter) (bG X scope tg) (bT X scope ifs) (bI X scope tg1 iter1) (bG X scope tg1) (bT X scope ifs1) (bE X scope elt) vs vs1 σ H Q := by
  unfold lc2M at hw
  rw [wp_bind] at hw
  refine hi.run W G H0 ρ σ H s _ Ex _ tk rl hw (fun ds s1 H1 J w1 a1 ok => ?_) px
  by_cases hk : okW vs ρ = true
  case neg => rw [if_neg hk] at w1; exact w1.elim
  rw [if_pos hk] at w1
  intro L hL
  have rl1 := rl.step a1.st a1.pen
  have start := rl1.guard hL (.lst [])
  have szl : sizeLine = 16777216 := sizeLine_eq
  have h0L : H0 L = none := back_none (s1 := s1) ⟨rl1.old, rl1.pen⟩ hL
  have nLp : ¬ p.no L := a1.pen.notNo hL
  have nLc : L ≠ p.ca := fun z => by
    rw [z, a1.pen.cells] at hL
    cases hL
  have toFo : ∀ a, (Fo G ρ σ a ∨ a = L) → Fo (fun a => G a ∨ a = L) ρ σ a := fun a z => by
    rcases z with (z | z) | z
    · exact .inl (.inl z)
    · exact .inr z
    · exact .inl (.inr z)
  have ofFo : ∀ a, Fo (fun a => G a ∨ a = L) ρ σ a → Fo G ρ σ a ∨ a = L := fun a z => by
    rcases z with (z | z) | z
    · exact .inl (.inl z)
    · exact .inr z
    · exact .inl (.inr z)
  refine ⟨fun i m Hc => m = ds.length - i ∧ i ≤ ds.length ∧ ∃ sc acc dacc, Step p H1 Hc ∧ Rel X.K p (fun a => G a ∨ a = L) H0 ρ σ Hc sc ∧ Hc L = some (.lst acc) ∧ RepL X.K p Hc (fun a => Fo G ρ σ a ∨ a = L) acc dacc ∧ dacc.length ≤ 16777216 ∧
    wpM (compO vs1 (fun x => h x (wipeE ρ vs)) t g1 h1 t1 e dacc (ds.drop i)) sc R Ex, ⟨ds.length, rfl, Nat.zero_le _, s1, [], [], same_step (same_new hL), start, upd_same, .nil, Nat.zero_le _, w1⟩, ?_⟩
  rintro i m Hc ⟨rfl, hi', sc, acc, dacc, st, rc, hacc, racc, hlen, hwp⟩
  have stF : StepF (Fs false G (Fo G ρ σ)) H1 Hc := fun a o e n => st a o e fun z => n (rl.gpa _ z)
  by_cases hlt : i < ds.length
  · obtain ⟨go, yl⟩ := ok.go i ds[i] Hc stF (List.getElem?_eq_getElem hlt)
    refine .inr ⟨go, fun H' => ∃ sc acc dacc, Step p H1 H' ∧ Rel X.K p (fun a => G a ∨ a = L) H0 ρ σ H' sc ∧ H' L = some (.lst acc) ∧ RepL X.K p H' (fun a => Fo G ρ σ a ∨ a = L) acc dacc ∧ dacc.length ≤ 16777216 ∧
      wpM (compO vs1 (fun x => h x (wipeE ρ vs)) t g1 h1 t1 e dacc (ds.drop (i + 1))) sc R Ex, fun H' hN => ⟨_, by omega, rfl, hlt, hN⟩, fun x Hy y => ?_⟩
    have stF' : StepF (fun a => Fo G ρ σ a ∨ a = L) H1 Hc := fun a o e n => st a o e fun z => n (.inl (rl.fpa _ z))
    obtain ⟨sm, rx⟩ := yld_rep ((yl x Hy y).more (N := fun a => a = L) fun a z => by rw [z]; exact hL) (fun a z => .inl (rl.fpa a z)) stF' fun a ha z => rc.fresh ha (toFo a z)
    have ry := rc.step (same_step (p := p) sm) (rc.pen.same sm)
    rw [List.drop_eq_getElem_cons hlt] at hwp
    have hwp : wpM (bindT (h ds[i] (wipeE ρ vs)) fun ρ' => nx (t ρ') >>= fun b => if b = true then nx (g1 ρ') >>= fun ys => if okW vs1 ρ' = true then compA (fun y => h1 y (wipeE ρ' vs1)) t1 e dacc ys >>= fun acc' => compO vs1 (fun x => h x (wipeE ρ vs)) t g1 h1 t1 e acc' (ds.drop (i + 1)) else bad else compO vs1 (fun x => h x (wipeE ρ vs)) t g1 h1 t1 e dacc (ds.drop (i + 1))) sc R Ex := hwp
    cases eh : h ds[i] (wipeE ρ vs) with
    | none => rw [eh] at hwp; exact hwp.elim
    | some ρ' =>
    rw [eh] at hwp
    have hwp : wpM (nx (t ρ') >>= fun b => if b = true then nx (g1 ρ') >>= fun ys => if okW vs1 ρ' = true then compA (fun y => h1 y (wipeE ρ' vs1)) t1 e dacc ys >>= fun acc' => compO vs1 (fun x => h x (wipeE ρ vs)) t g1 h1 t1 e acc' (ds.drop (i + 1)) else bad else compO vs1 (fun x => h x (wipeE ρ vs)) t g1 h1 t1 e dacc (ds.drop (i + 1))) sc R Ex := hwp
    rw [wp_bind] at hwp
    have hacc' := sm _ _ hacc
    have racc' := racc.mono ((same_step (p := p) sm).toF (fun a z => .inl (rl.fpa a z))) fun _ z => z
    intro sB HB CB clB fpB
    refine (hg sB HB CB clB fpB).run (fun a => G a ∨ a = L) H0 (wipeE ρ vs) ρ' (L2.wipe σ vs) Hy sc x ds[i] _ (ry.wipe vs) (rx.mono (fun _ _ z _ => z) fun a z => ofFo a (fo_wipe' z)) eh fun σ2 r2 sb => ⟨by rw [sb.1 vs hv, wipe_wipe], ?_⟩
    intro sC HC CC clC fpC
    refine (ht sC HC CC clC fpC).run takesN r2 (wp_nx hwp) (fun b s3 H3 hb a3 => ?_) fun _ _ _ _ _ _ z => z.elim
    have r3 := r2.step a3.st a3.pen
    have rc3 := ry.step a3.st a3.pen
    have st3 : Step p H1 H3 := (st.trans (same_step sm)).trans a3.st
    have hacc3 : H3 L = some (.lst acc) := a3.st L _ hacc' nLp
    have racc3 := racc'.mono (a3.st.toF (fun a z => .inl (rl.fpa a z))) fun _ z => z
    cases b with
    | false =>
      rw [if_neg (by decide)] at hb ⊢
      exact ⟨s3, acc, dacc, st3, rc3, hacc3, racc3, hlen, hb⟩
    | true =>
      rw [if_pos rfl] at hb ⊢
      rw [wp_bind] at hb
      intro sD HD CD clD fpD
      refine (hi1 sD HD CD clD fpD).run _ _ _ _ _ _ _ _ _ _ takesN r3 (wp_nx hb) (fun ys s4 H4 J1 h4 a4 ok1 => ?_) fun _ _ _ _ _ _ z => z.elim
      by_cases hk1 : okW vs1 ρ' = true
      case neg => rw [if_neg hk1] at h4; exact h4.elim
      rw [if_pos hk1, wp_bind] at h4
      have r4 := r3.step a4.st a4.pen
      have rc4 := rc3.step a4.st a4.pen
      have st4 := st3.trans a4.st
      have hacc4 : H4 L = some (.lst acc) := a4.st L _ hacc3 nLp
      have racc4 := racc3.mono (a4.st.toF (fun a z => .inl (rl.fpa a z))) fun _ z => z
      -- the inner loop: all but the pen and L is as at H4
      have keepL : ∀ {Ha Hb : Hp}, (∀ a o, Ha a = some o → ¬ p.no a → a ≠ L → Hb a = some o) → ∀ a o, Ha a = some o → ¬ (G a ∨ a = L) → Hb a = some o := fun k a o z n => k a o z (fun y => n (.inl (rl.gpa _ y))) fun y => n (.inr y)
      refine ⟨fun j k Hk => k = ys.length - j ∧ j ≤ ys.length ∧ ∃ sk acc dacc, Step p H1 Hk ∧ (∀ a o, H4 a = some o → ¬ p.no a → a ≠ L → Hk a = some o) ∧ Rel X.K p (fun a => G a ∨ a = L) H0 ρ σ Hk sk ∧ Rel X.K p (fun a => G a ∨ a = L) H0 ρ' σ2 Hk sk ∧ Hk L = some (.lst acc) ∧ RepL X.K p Hk (fun a => Fo G ρ σ a ∨ a = L) acc dacc ∧ dacc.length ≤ 16777216 ∧
        wpM (compA (fun y => h1 y (wipeE ρ' vs1)) t1 e dacc (ys.drop j)) sk (fun acc' s' => wpM (compO vs1 (fun x => h x (wipeE ρ vs)) t g1 h1 t1 e acc' (ds.drop (i + 1))) s' R Ex) Ex, ⟨ys.length, rfl, Nat.zero_le _, s4, acc, dacc, st4, fun a o z _ _ => z, rc4, r4, hacc4, racc4, hlen, h4⟩, ?_⟩
      rintro j k Hk ⟨rfl, hj', sk, acc, dacc, stk, keep, rk, rk', hak, rak, hlk, hwk⟩
      have stK : StepF (Fs false (fun a => G a ∨ a = L) (Fo (fun a => G a ∨ a = L) ρ' σ2)) H4 Hk := fun a o z n => keepL keep a o z n
      by_cases hjt : j < ys.length
      · obtain ⟨go1, yl1⟩ := ok1.go j ys[j] Hk stK (List.getElem?_eq_getElem hjt)
        refine .inr ⟨go1, fun H' => ∃ sk acc dacc, Step p H1 H' ∧ (∀ a o, H4 a = some o → ¬ p.no a → a ≠ L → H' a = some o) ∧ Rel X.K p (fun a => G a ∨ a = L) H0 ρ σ H' sk ∧ Rel X.K p (fun a => G a ∨ a = L) H0 ρ' σ2 H' sk ∧ H' L = some (.lst acc) ∧ RepL X.K p H' (fun a => Fo G ρ σ a ∨ a = L) acc dacc ∧ dacc.length ≤ 16777216 ∧
          wpM (compA (fun y => h1 y (wipeE ρ' vs1)) t1 e dacc (ys.drop (j + 1))) sk (fun acc' s' => wpM (compO vs1 (fun x => h x (wipeE ρ vs)) t g1 h1 t1 e acc' (ds.drop (i + 1))) s' R Ex) Ex, fun H' hN => ⟨_, by omega, rfl, hjt, hN⟩, fun x1 Hz y1 => ?_⟩
        have stK' : StepF (Fo (fun a => G a ∨ a = L) ρ' σ2) H4 Hk := fun a o z n => keepL keep a o z fun y => n (.inl y)
        obtain ⟨smz, rxz⟩ := yld_rep (yl1 x1 Hz y1) r4.fpa stK' fun a ha z => rk'.fresh ha z
        have rz := rk.step (same_step (p := p) smz) (rk.pen.same smz)
        have rz' := rk'.step (same_step (p := p) smz) (rk.pen.same smz)
        rw [List.drop_eq_getElem_cons hjt] at hwk
        have hwk : wpM (bindT (h1 ys[j] (wipeE ρ' vs1)) fun ρ5 => nx (t1 ρ5) >>= fun b => if b = true then nx (e ρ5) >>= fun y => if dacc.length < 16777216 then compA (fun y => h1 y (wipeE ρ' vs1)) t1 e (dacc ++ [y]) (ys.drop (j + 1)) else bad else compA (fun y => h1 y (wipeE ρ' vs1)) t1 e dacc (ys.drop (j + 1))) sk (fun acc' s' => wpM (compO vs1 (fun x => h x (wipeE ρ vs)) t g1 h1 t1 e acc' (ds.drop (i + 1))) s' R Ex) Ex := hwk
        cases eh1 : h1 ys[j] (wipeE ρ' vs1) with
        | none => rw [eh1] at hwk; exact hwk.elim
        | some ρ5 =>
        rw [eh1] at hwk
        have hwk : wpM (nx (t1 ρ5) >>= fun b => if b = true then nx (e ρ5) >>= fun y => if dacc.length < 16777216 then compA (fun y => h1 y (wipeE ρ' vs1)) t1 e (dacc ++ [y]) (ys.drop (j + 1)) else bad else compA (fun y => h1 y (wipeE ρ' vs1)) t1 e dacc (ys.drop (j + 1))) sk (fun acc' s' => wpM (compO vs1 (fun x => h x (wipeE ρ vs)) t g1 h1 t1 e acc' (ds.drop (i + 1))) s' R Ex) Ex := hwk
        rw [wp_bind] at hwk
        have haz := smz _ _ hak
        have raz := rak.mono ((same_step (p := p) smz).toF (fun a z => .inl (rl.fpa a z))) fun _ z => z
        intro sE HE CE clE fpE
        refine (hg1 sE HE CE clE fpE).run (fun a => G a ∨ a = L) H0 (wipeE ρ' vs1) ρ5 (L2.wipe σ2 vs1) Hz sk x1 ys[j] _ (rz'.wipe vs1) (rxz.mono (fun _ _ z _ => z) fun a z => fo_wipe' z) eh1 fun σ5 r5 sb5 => ⟨by rw [sb5.1 vs1 hv1, wipe_wipe], ?_⟩
        intro sF HF CF clF fpF
        refine (ht1 sF HF CF clF fpF).run takesN r5 (wp_nx hwk) (fun b s6 H6 hb6 a6 => ?_) fun _ _ _ _ _ _ z => z.elim
        have r6 := r5.step a6.st a6.pen
        have rc6 := rz.step a6.st a6.pen
        have rc6' := rz'.step a6.st a6.pen
        have st6 : Step p H1 H6 := (stk.trans (same_step smz)).trans a6.st
        have keep6 : ∀ a o, H4 a = some o → ¬ p.no a → a ≠ L → H6 a = some o := fun a o z n1 n2 => a6.st a o (smz a o (keep a o z n1 n2)) n1
        have ha6 : H6 L = some (.lst acc) := a6.st L _ haz nLp
        have ra6 := raz.mono (a6.st.toF (fun a z => .inl (rl.fpa a z))) fun _ z => z
        cases b with
        | false =>
          rw [if_neg (by decide)] at hb6 ⊢
          exact ⟨s6, acc, dacc, st6, keep6, rc6, rc6', ha6, ra6, hlk, hb6⟩
        | true =>
          rw [if_pos rfl] at hb6 ⊢
          rw [wp_bind] at hb6
          intro sG HG CG clG fpG
          refine (he sG HG CG clG fpG).run _ _ _ _ _ _ _ _ _ _ takesN r6 (wp_nx hb6) (fun d s7 v H7 hd7 a7 r7 => ?_) fun _ _ _ _ _ _ z => z.elim
          by_cases hz : dacc.length < 16777216
          case neg => rw [if_neg hz] at hd7; exact hd7.elim
          rw [if_pos hz] at hd7
          have ha7 : H7 L = some (.lst acc) := a7.st L _ ha6 nLp
          have ra7 := ra6.mono (a7.st.toF (fun a z => .inl (rl.fpa a z))) fun _ z => z
          have rc7 := rc6.step a7.st a7.pen
          have rc7' := rc6'.step a7.st a7.pen
          have hl : acc.length = dacc.length := ra7.length
          refine ⟨acc, ha7, by omega, s7, acc ++ [v], dacc ++ [d], fun a o e n => ?_, fun a o z n1 n2 => ?_, rc7.updG (.inr rfl) h0L nLp nLc ⟨_, ha7, pln_lst⟩, rc7'.updG (.inr rfl) h0L nLp nLc ⟨_, ha7, pln_lst⟩, upd_same, ?_, by rw [List.length_append]; exact hz, hd7⟩
          · rw [upd_ne fun z => by rw [z, hL] at e; cases e]
            exact (st6.trans a7.st) a o e n
          · rw [upd_ne n2]
            exact a7.st a o (keep6 a o z n1 n2) n1
          · have rv : Rep X.K p H7 (fun a => Fo G ρ σ a ∨ a = L) v d := r7.mono (fun _ _ z _ => z) fun a z => fo_sub hk1 hv1 sb5 (fo_sub hk hv sb (toFo a z))
            refine (ra7.append (.cons rv .nil)).mono (fun a o e n => ?_) fun _ z => z
            rw [upd_ne fun z => n (.inr z)]
            exact e
      · have e1 : j = ys.length := by omega
        subst e1
        rw [List.drop_length] at hwk
        exact .inl ⟨ok1.stop Hk stK, sk, acc, dacc, stk, rk, hak, rak, hlk, hwk⟩
  · have e : i = ds.length := by omega
    subst e
    rw [List.drop_length] at hwp
    exact .inl ⟨ok.stop Hc stF, q dacc sc L acc Hc hwp (a1.trans ⟨st, rc.pen⟩) (back_none a1 hL) hacc hlen racc⟩
theorem dn_lc2 (own : List (Str × Nat)) {vs1 : List Nat} (hN : X.N.Nodup) (hi : DI X p false tg iter g) (hg : ∀ s H C cl fp, DG (Blk X s H scope C cl fp) p tg ts h) (ht : ∀ s H C cl fp, DTs (Blk X s H scope C cl fp) p ifs t) (hi1 : ∀ s H C cl fp, DI (Blk X s H scope C cl fp) p false tg1 iter1 g1) (hg1 : ∀ s H C cl fp, DG (Blk X s H scope C cl fp) p tg1 ts1 h1) (ht1 : ∀ s H C cl fp, DTs (Blk X s H scope C cl fp) p ifs1 t1) (he : ∀ s H C cl fp, DE (Blk X s H scope C cl fp) p elt e)
    (ok : blkC X.N X.env.scope scope own = true := by first | kernel_rfl | rfl) (hv : ∀ i ∈ ts, i ∈ own.map (·.2) := by decide) (hv1 : ∀ i ∈ ts1, i ∈ vs1 := by decide) (hvs : ∀ i ∈ vs1, i ∈ own.map (·.2) := by decide) (hc : X.calm = true := by rfl) (hs : ∀ x, foldedSetIterable iter X.env x = pure x := by intro _; rfl) (hs1 : ∀ env x, foldedSetIterable iter1 env x = pure x := by intro _ _; rfl) :
    DN X p (.ListComp elt [⟨tg, iter, ifs, 0⟩, ⟨tg1, iter1, ifs1, 0⟩] scope pos) (lc2M (own.map (·.2)) vs1 g h t g1 h1 t1 e) := by
  refine ⟨fun W G H0 ρ σ H s R Ex Q tk rl hw q px => tE_of (pe_lc2 (wi := tI X tg iter) (g := bG X scope tg) (tt := bT X scope ifs) (wi1 := bI X scope tg1 iter1) (g1 := bG X scope tg1) (tt1 := bT X scope ifs1) (te := bE X scope elt) hc hN pi_self (blkOk_by ok) hvs
    (fun s H C cl fp => ⟨fun pins sh σ H v u Q I r h => pg_self.run pins sh σ H v u Q I r (h s _ C cl fp)⟩) (fun s H C cl fp => ⟨fun pins sh σ H Q I h => pts_self.run pins sh σ H Q I (h s _ C cl fp)⟩) (fun s H C cl fp => ⟨fun pins sh σ H Q I h => pi_self.run pins sh σ H Q I (h s _ C cl fp)⟩)
    (fun s H C cl fp => ⟨fun pins sh σ H v u Q I r h => pg_self.run pins sh σ H v u Q I r (h s _ C cl fp)⟩) (fun s H C cl fp => ⟨fun pins sh σ H Q I h => pts_self.run pins sh σ H Q I (h s _ C cl fp)⟩) (fun s H C cl fp => ⟨fun pins sh σ H Q I h => pe_self.run pins sh σ H Q I (h s _ C cl fp)⟩) hs hs1) ?_⟩
  exact lc2_run hi hg ht hi1 hg1 ht1 he hv hv1 tk rl hw q px
end
end Say

namespace Say
open L2 PyProof.Rows PySem.Spec PySem

/-! ### sorted -/
def leP (a b : Int × Int) : Bool := decide (a.1 < b.1) || (decide (a.1 = b.1) && decide (a.2 ≤ b.2))
def leI (a b : Int) : Bool := decide (a ≤ b)
def pairsOf : List D → Option (List (Int × Int))
  | [] => some []
  | .tup [.int i, .int j] :: ds => (pairsOf ds).map ((i, j) :: ·)
  | _ :: _ => none
def prD (x : Int × Int) : D := .tup [.int x.1, .int x.2]
theorem pairsOf_ok : ∀ {xs : List D} {ns : List (Int × Int)}, pairsOf xs = some ns → xs = ns.map prD
  | [], ns, h => by cases h; rfl
  | x :: ds, ns, h => by
    unfold pairsOf at h
    split at h
    · rename_i e
      cases e
    · rename_i i j ds' e
      cases e
      cases e1 : pairsOf ds with
      | none => rw [e1] at h; cases h
      | some z =>
        rw [e1] at h
        cases h
        rw [pairsOf_ok e1]
        rfl
    · cases h
theorem pairsOf_map : ∀ ns : List (Int × Int), pairsOf (ns.map prD) = some ns
  | [] => rfl
  | (i, j) :: ns => by
    show (pairsOf (ns.map prD)).map ((i, j) :: ·) = _
    rw [pairsOf_map ns]
    rfl
theorem intsOf_map : ∀ ns : List Int, intsOf (ns.map D.int) = some ns
  | [] => rfl
  | i :: ns => by
    show (intsOf (ns.map D.int)).map (i :: ·) = _
    rw [intsOf_map ns]
    rfl
def sortI (ns : List Int) : List Int := ns.mergeSort leI
def sortP (ns : List (Int × Int)) : List (Int × Int) := ns.mergeSort leP
def sortD (xs : List D) : Option (List D) := match intsOf xs with
  | some ns => some ((sortI ns).map D.int)
  | none => (pairsOf xs).map fun ns => (sortP ns).map prD
theorem leI_trans (a b c : Int) (h : leI a b = true) (h' : leI b c = true) : leI a c = true := by
  unfold leI at *
  simp at *
  omega
theorem leI_total (a b : Int) : (leI a b || leI b a) = true := by
  unfold leI
  simp
  omega
theorem leP_trans (a b c : Int × Int) (h : leP a b = true) (h' : leP b c = true) : leP a c = true := by
  unfold leP at *
  simp at *
  omega
theorem leP_total (a b : Int × Int) : (leP a b || leP b a) = true := by
  unfold leP
  simp
  omega
theorem leP_anti (a b : Int × Int) (h : leP a b = true) (h' : leP b a = true) : a = b := by
  unfold leP at *
  simp at *
  exact Prod.ext (by omega) (by omega)
theorem sortI_perm (ns : List Int) : (sortI ns).Perm ns := List.mergeSort_perm ns _
theorem sortP_perm (ns : List (Int × Int)) : (sortP ns).Perm ns := List.mergeSort_perm ns _
theorem sortI_pw (ns : List Int) : (sortI ns).Pairwise (· ≤ ·) := (List.pairwise_mergeSort leI_trans leI_total ns).imp fun h => of_decide_eq_true h
theorem sortP_pw (ns : List (Int × Int)) : (sortP ns).Pairwise fun a b => leP a b = true := List.pairwise_mergeSort leP_trans leP_total ns
theorem sorted_eq {α : Type} {r : α → α → Prop} (anti : ∀ a b, r a b → r b a → a = b) : ∀ {xs ys : List α}, xs.Perm ys → xs.Pairwise r → ys.Pairwise r → xs = ys
  | [], ys, p, _, _ => (List.Perm.eq_nil p.symm).symm
  | x :: xs, [], p, _, _ => absurd p.length_eq (by simp)
  | x :: xs, y :: ys, p, hx, hy => by
    have e : x = y := by
      rcases List.mem_cons.mp (p.mem_iff.mp (List.mem_cons_self (a := x) (l := xs))) with e | h1
      · exact e
      · rcases List.mem_cons.mp (p.mem_iff.mpr (List.mem_cons_self (a := y) (l := ys))) with e | h2
        · exact e.symm
        · exact anti _ _ ((List.pairwise_cons.mp hx).1 y h2) ((List.pairwise_cons.mp hy).1 x h1)
    subst e
    rw [sorted_eq anti p.cons_inv (List.pairwise_cons.mp hx).2 (List.pairwise_cons.mp hy).2]
theorem sortI_uniq {xs ns : List Int} (p : xs.Perm ns) (h : xs.Pairwise (· ≤ ·)) : xs = sortI ns := sorted_eq (fun a b h1 h2 => Int.le_antisymm h1 h2) (p.trans (sortI_perm ns).symm) h (sortI_pw ns)
theorem sortP_uniq {xs ns : List (Int × Int)} (p : xs.Perm ns) (h : xs.Pairwise fun a b => leP a b = true) : xs = sortP ns := sorted_eq leP_anti (p.trans (sortP_perm ns).symm) h (sortP_pw ns)
section
variable {K : PySem.W.Frag} {p : PL} {H : Hp} {F : Addr → Prop}
/-- values of pairs, by the heap -/
def kvP (H : Hp) : V → Int × Int
  | .ref a => match H a with
    | some (.frz _ (.tup [.int i, .int j])) => (i, j)
    | _ => (0, 0)
  | _ => (0, 0)
theorem repL_pairs : ∀ {vs : List V} {ns : List (Int × Int)}, RepL K p H F vs (ns.map prD) → vs.map (kvP H) = ns ∧ ∀ x ∈ vs, ∃ t, x = V.ref t ∧ Tp H t [.int (kvP H x).1, .int (kvP H x).2] ∧ ¬ F t
  | _, [], .nil => ⟨rfl, fun x h => by cases h⟩
  | v :: vs, (i, j) :: ns, .cons h r => by
    obtain ⟨e1, e2⟩ := repL_pairs r
    cases h with
    | tup ho hz l =>
      cases l with
      | cons l1 l2 =>
        cases l2 with
        | cons l3 l4 =>
          cases l4
          cases l1
          cases l3
          rename_i a
          have e : kvP H (.ref a) = (i, j) := by
            show (match H a with | some (.frz _ (.tup [.int i, .int j])) => (i, j) | _ => (0, 0)) = (i, j)
            obtain ⟨o, e, _⟩ := ho.1
            rw [e]
          refine ⟨by rw [List.map_cons, e, e1], fun x hx => ?_⟩
          rcases List.mem_cons.mp
              hx with rfl | hx
          · exact ⟨_, rfl, by rw [e]; exact ho.1, ho.2⟩
          · exact e2 x hx
theorem pairs_repL : ∀ {vs : List V}, (∀ x ∈ vs, ∃ t, x = V.ref t ∧ Tp H t [.int (kvP H x).1, .int (kvP H x).2] ∧ ¬ F t) → RepL K p H F vs ((vs.map (kvP H)).map prD)
  | [], _ => .nil
  | v :: vs, h => by
    obtain ⟨t, rfl, e, n⟩ := h v List.mem_cons_self
    exact .cons (.tup ⟨e, n⟩ (by simp) (.cons (.int _) (.cons (.int _) .nil))) (pairs_repL fun x hx => h x (List.mem_cons_of_mem _ hx))
theorem repL_ints' : ∀ {vs : List V} {ns : List Int}, RepL K p H F vs (ns.map D.int) → vs = ns.map V.int
  | _, [], .nil => rfl
  | _, i :: ns, .cons h r => by
    cases h
    rw [repL_ints' r]
    rfl
end
end Say
namespace SayS
open SrtO Srt PyProof.Rows PySem
section
variable {prog : Program} {w : World} {A :
    Around} {E : Value → Shared → Prop} {s : Shared}
/-- the items of a tuple, collected -/
theorem collectT {l : Addr} {us : List Value} {Q : List Value → Shared → Prop} (tp : IsTup s.heap l us.toArray) (sz : us.length ≤ sizeLine)
    (q : Q us { s with heap := (s.heap.push (seqObj "list" #[] 0)).update s.heap.objs.size (Obj.mapSeq (· ++ us.toArray)) }) : wpAny (model prog w) A (collect (.ref l)) Q E s := by
  obtain ⟨ob, g1, g2, e, g3⟩ := tp
  unfold collect
  have made : (s.heap.push (seqObj "list" #[] 0)).get? l = some ob := Heap.get?_push_of_some _ g1
  refine wpAny_bind (wpAny_runValue (codeAny_builtin entry_proto_collect' (?_ : wpAny _ _ (do again (.builtin "list.__iadd__" ⟨[← newList [], .ref l], []⟩)) _ _ s)))
  refine wpAny_bind (wpAny_newList (wpAny_pure ⟨Code.quiet_builtin _ (by decide +kernel), codeAny_builtin entry_list_iadd' (?_ : wpAny _ _ (Builtin.List.listExtendWith (.ref s.heap.objs.size) (.ref l) (.ref s.heap.objs.size)) _ _ { s with heap := s.heap.push (seqObj "list" #[] 0) })⟩))
  unfold
      Builtin.List.listExtendWith
  refine wpAny_bind (wpAny_typeOf (T := "tuple") ⟨ob, made, g2⟩ ?_)
  have same : (Value.type "tuple" == Value.type "tuple") = true := by rfl
  rw [if_pos (by rw [same]; simp)]
  refine wpAny_bind (listItems_at made g3 (wpAny_bind (listItems_at (xs := #[]) (n := 0) (Heap.get?_push_size _ rfl) rfl ?_)))
  rw [if_neg (by simp)]
  refine wpAny_bind (listUpdate_at (n := 0) (xs := #[]) (Heap.get?_push_size _ rfl) rfl (wpAny_pure ?_) (Nat.zero_le _) (by show (#[] ++ us.toArray).size ≤ sizeLine + 1; simp only [List.length_nil, Array.size_append, List.size_toArray]; omega))
  show wpAny (model
      prog w) A (do
      let o ← load s.heap.objs.size; match o.data with
        | .seq xs _ => pure xs.toList
        | _ => unsupported "internal:collect") Q E { s with heap := (s.heap.push (seqObj "list" #[] 0)).update s.heap.objs.size (Obj.mapSeq (· ++ us.toArray)) }
  refine wpAny_bind (wpAny_load (get?_update_seq (Heap.get?_push_size _ rfl) _) (?_ : wpAny _ _ (pure ((#[] : Array Value) ++ us.toArray).toList) Q E _))
  have flat : ((#[] : Array Value) ++ us.toArray).toList = us := by simp
  rw [flat]
  exact wpAny_pure q
/-- sorted(t), t a tuple -/
theorem sortedT {l : Addr} {us : List Value} {lt : Value → Value → Bool} {Q : Value → Shared → Prop} (O : Swo lt) (tp : IsTup s.heap l us.toArray) (sz : us.length ≤ sizeLine)
    (can : 2 ≤ us.length → ∀ (h1 : Heap) (a : Addr), h1.get? a = some (seqObj "list" us.toArray 0) → (∀ b o, s.heap.get? b = some o → b ≠ a ∧ h1.get? b = some o) → SortableO prog w A.in1.in1 { s with heap := h1 } a us lt)
    (q : ∀ out : List Value, Srtd lt out → Stb lt out us → Q (.ref (s.heap.objs.size + 1)) { s with heap := sortedAll s.heap us out.toArray }) :
    wpAny (model prog w) A (call (.builtin
        "sorted") [.ref l]) Q E s := by
  refine Calls.call_function_entry kind_sorted plain_sorted entry_sorted (args_sorted1 _) (?_ : wpAny _ _ (Builtin.«sorted» _) _ _ _)
  unfold Builtin.«sorted»
  refine wpAny_bind (m := checkCount "sorted" 1 1 _) (wpAny_pure (wpAny_bind (collectT tp sz (wpAny_bind (wpAny_newList ?_ sz)))))
  let h0 : Heap := (s.heap.push (seqObj "list" #[] 0)).update s.heap.objs.size (Obj.mapSeq (· ++ us.toArray))
  have n0 : h0.objs.size = s.heap.objs.size + 1 := by show (((s.heap.push (seqObj "list" #[] 0)).update s.heap.objs.size (Obj.mapSeq (· ++ us.toArray)))).objs.size = _; rw [Heap.size_update, size_push']
  have at1 : (h0.push (seqObj "list" us.toArray 0)).get? (s.heap.objs.size + 1) = some (seqObj "list" us.toArray 0) := by rw [← n0]; exact Heap.get?_push_size _ rfl
  have kept : ∀ b o, s.heap.get? b = some o → b ≠ s.heap.objs.size + 1 ∧ (h0.push (seqObj "list" us.toArray 0)).get? b = some o := fun b o g => by
    have lt : b < s.heap.objs.size := Heap.lt_size g
    refine ⟨Nat.ne_of_lt (Nat.lt_succ_of_lt lt), Heap.get?_push_of_some _ ((Heap.get?_update_ne _ _ _ _ (Nat.ne_of_lt lt)).trans (Heap.get?_push_of_some _ g))⟩
  show wpAny _ _ _ _ _ { s with heap := h0.push (seqObj "list" us.toArray 0) }
  rw [n0]
  exact wpAny_bind (wpAny_holding (wpAny_call_entry slot_list_sort ⟨_, at1, rfl⟩ entry_list_sort (list_sort_ord O at1 sz (fun two => can two _ _ at1 kept) fun out hs hb => ⟨_, rfl, wpAny_pure ⟨_, rfl, q out hs hb⟩⟩) (args_list_sort _)))
end
end SayS
namespace Say
open L2 PyProof.Rows PySem.Spec PySem
section
variable {X : Cx}
/-- sorted(xs), a list of pairs of ints -/
def rSortedPF (K : PySem.W.Frag) : List V → Hp → VK → Prop := fun vs H Q => ∃ (a : Addr) (xs : List V) (k : V → Int × Int), vs = [V.ref a] ∧ SqL K H a xs ∧ (∀ x ∈ xs, ∃ t, x = V.ref t ∧ Tp H t [.int (k x).1, .int (k x).2]) ∧
  ∀ ys q, SrtO.Srtd (ltP k) ys → SrtO.Stb (ltP k) ys xs → H q = none → Q (.ref q) (upd H q (.lst ys))
theorem cr_sortedPF : CallR X (.builtin "sorted") (rSortedPF X.K) := by
  intro pins s σ
      H vs us Q I r h
  obtain ⟨a, xs, k, rfl, sq, each, q⟩ := h
  obtain ⟨its, rv, pl, sz⟩ := I.list sq
  obtain ⟨u, rfl,
      ru⟩ := vals1 r
  obtain rfl : u =
      Value.ref a := ru
  have refs : ∀ x ∈ xs, ∃ t, x = V.ref t := fun x m => (each x m).elim fun t e => ⟨t, e.1⟩
  obtain ⟨e1, e2⟩ := refs_back rv refs
  refine SrtO.sorted_pairsO (k := fun u => k (backV u)) pl.isList (by rw [← rv.length]; exact sz) (fun v mv => ?_) fun h' d out h1 h2 kp hd hn => ?_
  · obtain ⟨t, rfl⟩ := e2 v mv
    have m : V.ref t ∈ xs := by rw [e1]; exact List.mem_map.mpr ⟨_, mv, rfl⟩
    obtain ⟨t', e, ob, ht, nd⟩ := each _ m
    cases e
    obtain ⟨_, _, us, r2, o, ho, hc, n, hd⟩ := (show s.heap.get? t = some ob ∧ ObjOk X.prog X.w H s.heap t (.tup _) from I.hok _ _ ht)
    obtain ⟨u1, u2, rfl, ⟨t1, rfl⟩, ⟨t2, rfl⟩⟩ := vals2 r2
    exact ⟨t, o, t1, t2,
        n, rfl, ho, hc, hd⟩
  · have all : ∀ u ∈ out, ∃ a, u = Value.ref a := fun u hu => e2 u (h2.perm.mem_iff.mp hu)
    obtain ⟨n, hn⟩ := hn
    have st : SrtO.Stb (ltP k) (out.map backV) xs := e1 ▸ SrtO.Stb.map (ltP_swo k) backV h2
    exact ⟨.ref d, upd H d (.lst (out.map backV)), I.laid (t' := s.toks) kp hd ⟨by rw [st.len]; exact sz, out, n, vals_back all, hn⟩, rfl, q _ d (SrtO.srtd_map h1) st (I.hok.fresh hd)⟩
/-- sorted(t), a tuple of ints -/
def rSortedTI (K : PySem.W.Frag) : List V → Hp → VK → Prop := fun vs H Q => ∃ (a : Addr) (ns : List Int), vs = [V.ref a] ∧ SqT K H a (ns.map V.int) ∧
  ∀ (l : Addr), H l = none → Q (.ref l) (upd H l (.lst ((sortI ns).map V.int)))
theorem cr_sortedTI : CallR X (.builtin "sorted") (rSortedTI X.K) := by
  intro pins s σ
      H vs us Q I r h
  obtain ⟨a, ns, rfl, tp, q⟩ := h
  obtain ⟨its, rv, it, sz⟩ := I.tuple tp
  rw [Vals.ref1 r]
  have hi := rv.ints
  refine SayS.sortedT SrtO.swo_int it (by rw [← rv.length]; exact sz) (fun two _ _ _ _ => SrtO.ints_sortable hi two) fun out h1 h2 => ?_
  obtain ⟨k1, k2, k3⟩ :=
      SrtO.ints_out hi h1 h2
  obtain ⟨ep, he⟩ := PyProof.Rows.sortedAll_at s.heap its out.toArray
  rw [sortI_uniq k2 k3] at k1
  have len : ((sortI ns).map V.int).length ≤ sizeLine := by
    rw [List.length_map, (sortI_perm ns).length_eq, ← List.length_map (f := V.int)]
    exact sz
  exact ⟨.ref _, upd H (s.heap.objs.size + 1) (.lst ((sortI ns).map V.int)), I.laid (t' := s.toks) (fun _ _ => PyProof.Rows.sortedAll_old) (Nat.le_succ _) ⟨len, out, ep, vals_of_ints k1, he⟩, rfl, q _ (I.hok.fresh (Nat.le_succ _))⟩
end
section
variable {X : Cx} {p : PL} {e a b : Expr} {f g : Env → M D} {pos pos' : Pos} {es : List Expr} {fs : List (Env → M D)}
theorem sortD_len {xs ys : List D} (h : sortD xs = some ys) : ys.length = xs.length := by
  unfold sortD at h
  split at h
  · rename_i ns e
    cases h
    rw [List.length_map, (sortI_perm ns).length_eq, intsOf_ok e, List.length_map]
  · cases e : pairsOf xs with
    | none => rw [e]
        at h; cases h
    | some ns =>
      rw [e] at h
      cases h
      rw [List.length_map, (sortP_perm ns).length_eq, pairsOf_ok e, List.length_map]
def sortedM : List D → M (List D)
  | [.lst xs] => lift (sortD xs)
  | [.tup xs] => lift ((intsOf xs).map fun ns => (sortI ns).map D.int)
  | _ => bad
theorem srtd_leP {k : V → Int × Int} {ys : List V} (h : SrtO.Srtd (ltP k) ys) : (ys.map k).Pairwise fun a b => leP a b = true := by
  refine List.pairwise_map.mpr (List.Pairwise.imp ?_ h)
  intro a b h
  have := SrtO.lexB_no.mp h
  unfold leP
  simp
  omega
theorem dn_sorted (hm : X.mg "sorted" = none) (ha : DA X p [e] fs) (hg : Gl X "sorted" := by rfl) (he : starEach (e :: []) X.env = (false, eval e X.env) :: starEach [] X.env := by rfl) (hpl : (backTo pos (starEach [] X.env)).any (·.1) = false := by rfl) :
    DN X p (.Call (.Name "sorted" pos') [e] [] pos) (fun ρ => seqA fs ρ sortedM) := by
  refine ⟨fun W G H0 ρ σ H s R Ex Q tk rl hw q px => tE_of (pe_callB ((cr_sortedI.or cr_sortedPF).or cr_sortedTI) hg hm boot_sorted pa_self (by decide) (by decide) he hpl) ?_⟩
  refine ha.run _ sortedM W G H0 ρ σ H s R Ex _ tk rl hw (fun ds s1 vs H1 h1 a1 r1 _ => ?_) px
  have fin : ∀ (vs : List V) (xs : List D), xs.length ≤ 16777216 → RepL X.K p H1 (Fo G ρ σ) vs xs → R xs s1 → ∀ l, H1 l = none → Q (.ref l) (upd H1 l (.lst vs)) := fun vs xs hz lr hR l hl =>
    q xs s1 l vs _ hR (a1.trans (.same a1.pen (same_new hl))) (back_none a1 hl) upd_same hz ((lr.more (N := fun a => a = l) fun a z => by rw [z]; exact hl).mono ((same_step (p := p) (same_new hl)).toF (fun a z => .inl (rl.fpa a z))) fun _ z => z)
  have main : ∀ (a : Addr) (xs : List D) (ws : List V), SqL X.K H1 a ws → xs.length ≤ 16777216 → RepL X.K p H1 (Fo G ρ σ) ws xs → wpM (lift (sortD xs)) s1 R Ex → (rSortedI X.K [.ref a] H1 Q ∨ rSortedPF X.K [.ref a] H1 Q) := fun a xs ws sq hz lr hw => by
    cases es : sortD xs with
    | none => rw [es] at hw; exact hw.elim
    | some ys =>
      rw [es] at hw
      have hz' : ys.length ≤ 16777216 := by rw [sortD_len es]; exact hz
      unfold sortD at es
      split at es
      · rename_i ns en
        cases es
        rw [intsOf_ok en] at lr
        have ew := repL_ints' lr
        subst ew
        refine .inl ⟨a, ns, rfl, sq, fun ns' l pm pw hl => ?_⟩
        rw [sortI_uniq pm pw]
        exact fin _ _ hz' (.ints _) hw l hl
      · cases ep : pairsOf xs with
        | none => rw [ep] at es; cases es
        | some ns =>
          rw [ep] at es
          cases es
          rw [pairsOf_ok ep] at lr
          obtain ⟨e1, e2⟩ := repL_pairs lr
          refine .inr ⟨a, ws, kvP H1, rfl, sq, fun x hx => ?_, fun ys l sd sb hl => ?_⟩
          · obtain ⟨t, h1, h2, _⟩ := e2 x hx
            exact ⟨t, h1, h2⟩
          · have pm := sb.perm
            have ey : ys.map (kvP H1) = sortP ns := sortP_uniq (by rw [← e1]; exact pm.map _) (srtd_leP sd)
            refine fin _ _ hz' ?_ hw l hl
            show RepL X.K p H1 (Fo G ρ σ) ys ((sortP ns).map prD)
            rw [← ey]
            exact pairs_repL fun x hx => e2 x (pm.mem_iff.mp hx)
  unfold sortedM at h1
  split at h1
  · cases r1 with
    | cons r1 r2 =>
      cases r2
      cases r1 with
      | lst ho n1 hz l1 => exact .inl (main _ _ _ (.inl (.inl ho)) hz l1 h1)
  · rename_i xs0 _
    cases r1 with
    | cons r1 r2 =>
      cases r2
      cases r1 with
      | tup ho hz l1 =>
        cases en : intsOf xs0 with
        | none => rw [en] at h1; exact h1.elim
        | some ns =>
          rw [en] at h1
          have hz' : ((sortI ns).map D.int).length ≤ 16777216 := by
            rw [List.length_map, (sortI_perm ns).length_eq, ← List.length_map (f := D.int), ← intsOf_ok en]
            exact hz
          rw [intsOf_ok en] at l1
          have ew := repL_ints' l1
          subst ew
          exact .inr ⟨_, ns, rfl, tupSq ho, fun l hl => fin _ _ hz' (.ints _) h1 l hl⟩
  · exact h1.elim
@[simp] def nSorted (fs : List En) : Env → M (List D) := fun ρ => seqA fs ρ sortedM
end

/-! ### t.index(i), a tuple of ints -/
def rTupI (K : PySem.W.Frag) : V → List V → Hp → VK → Prop := fun x xs H Q => ∃ p, ∃ ys : List Int, ∃ z j, x = .ref p ∧ xs = [.int z] ∧ SqT K H p (ys.map V.int) ∧ ys[j]? = some z ∧ (∀ m, m < j → ys[m]? ≠ some z) ∧ Q (.int (j : Nat)) H
section
variable {X : Cx}
theorem mt_tup_indexI : MtR X "tuple.index" (rTupI X.K) := by
  rintro pins s σ H _ _ v us Q I rx rs ⟨p, ys, z, j, rfl, rfl, hq, at_j, before, q⟩
  cases rx
  obtain ⟨_, rfl, t, rfl⟩ := id (vals1 rs)
  obtain ⟨its, r, tp, _⟩ := id (I.tuple hq)
  obtain ⟨⟨cls, dd, dt, sl⟩, ob, isT, n, data⟩ := tp
  cases (show cls = _ from isT)
  cases (show dt = _ from data)
  have size : its.toArray.size = ys.length := by
    have := r.length
    simp_all
  have flat : (ys.map V.int).all flatV = true := by simp [List.all_eq_true, flatV]
  have item : ∀ (m : Nat) (lt : m < its.toArray.size), ∃ y u, ys[m]? = some y ∧ its.toArray[m] = Value.int y u := fun m lt => by
    have lt2 : m < ys.length := size ▸ lt
    obtain ⟨w, e1, u, e2⟩ := r.get (i := m) (x := .int ys[m]) (by simp [lt2])
    exact ⟨ys[m], u, List.getElem?_eq_getElem lt2, by rw [← e2, ← (List.getElem?_eq_some_iff.mp e1).2]; simp⟩
  have inside : j < its.toArray.size := size ▸ (List.getElem?_eq_some_iff.mp at_j).1
  refine call_meets PySem.F.slot_tuple_index ⟨_, ob, rfl⟩ PySem.F.entry_tuple_index (PySem.F.args_tuple_index_2 _ _) (TI.tuple_indexAt p its.toArray n dd sl (.int z t) (eqU (.int z)) j inside ?_ fun m lt mj => ?_)
    ⟨ob, fun w hw => mem_eqAt (x := .int z) ⟨t, rfl⟩ rfl r flat w (by simpa using hw), ⟨.int (j : Nat), H, I.tok _, ⟨_, rfl⟩, q⟩⟩
  · obtain ⟨y, u, e1, e2⟩ := item j inside
    cases at_j.symm.trans e1
    rw [e2]
    exact decide_eq_true (rfl : z = z)
  · obtain ⟨y, u, e1, e2⟩ := item m lt
    rw [e2]
    exact decide_eq_false fun e : y = z => before m mj (e ▸ e1)
end
/-- where z stands first -/
def idxI (z : Int) : List Int → Option Nat
  | [] => none
  | y :: ys => if y = z then some 0 else (idxI z ys).map (· + 1)
theorem idxI_ok {z : Int} : ∀ {ys : List Int} {j : Nat}, idxI z ys = some j → ys[j]? = some z ∧ ∀ m, m < j → ys[m]? ≠ some z
  | [], j, h => by cases h
  | y :: ys, j, h => by
    unfold idxI at h
    by_cases e : y = z
    · rw [if_pos e] at h
      cases h
      exact ⟨by rw [e]; rfl, fun m h => absurd h (Nat.not_lt_zero m)⟩
    · rw [if_neg e] at h
      cases e2 : idxI z ys with
      | none => rw [e2] at h; cases h
      | some i =>
        rw [e2] at h
        cases h
        obtain ⟨h1, h2⟩ := idxI_ok e2
        refine ⟨h1, fun m hm => ?_⟩
        cases m with
        | zero => exact fun q => e (Option.some.inj q)
        | succ m => exact h2 m (Nat.lt_of_succ_lt_succ hm)
def tupI : D → M (List Int)
  | .tup xs => lift (intsOf xs)
  | _ => bad
def indexM (ns : List Int) : D → M D
  | .int z => lift ((idxI z ns).map fun j => .int (j : Int))
  | _ => bad
section
variable {X : Cx} {p : PL} {e a b : Expr} {f g : Env → M D} {pos pos' : Pos}
theorem de_indexT (ha : DE X p a f) (hb : DE X p b g)
    (hp : PE X (.Call (.Attribute a "index" pos') [b] [] pos) (fun σ H Q => tE X a σ H fun x H1 => (∃ a vs, x = .ref a ∧ Tp H1 a vs) ∧ tCons (tE X b) tNil σ H1 fun xs H2 => rTupI X.K x xs H2 Q) := by exact pe_tm PySem.F.slot_tuple_index PySem.F.type_tuple_index mt_tup_indexI pe_self (pa_cons pe_self pa_nil)) :
    DE X p (.Call (.Attribute a "index" pos') [b] [] pos) (fun ρ => f ρ >>= tupI >>= fun ns => g ρ >>= indexM ns) := by
  refine ⟨fun W G H0 ρ σ H s R Ex Q tk rl hw q px => tE_of hp ?_⟩
  rw [bind_assoc, wp_bind] at hw
  refine ha.run W G H0 ρ σ H s _ Ex _ tk rl hw (fun d1 s1 v H1 h1 a1 r1 => ?_) px
  cases d1 with
  | tup xs =>
    cases r1 with
    | tup ho hz l1 =>
      refine ⟨⟨_, _, rfl, ho.1⟩, ?_⟩
      cases en : intsOf xs with
      | none =>
        have h1 : wpM (lift (intsOf xs) >>= fun ns => g ρ >>= indexM ns) s1 R Ex := h1
        rw [en] at h1
        exact h1.elim
      | some ns =>
        have h1 : wpM (lift (intsOf xs) >>= fun ns => g ρ >>= indexM ns) s1 R Ex := h1
        rw [en] at h1
        have h1 : wpM (g ρ >>= indexM ns) s1 R Ex := h1
        rw [wp_bind] at h1
        refine hb.run W G H0 ρ σ H1 s1 _ Ex _ tk (rl.step a1.st a1.pen) h1 (fun d2 s2 v2 H2 h2 a2 r2 => ?_) (px.at a1)
        cases d2 with
        | int z =>
          cases r2
          have h2 : wpM (lift ((idxI z ns).map fun j => D.int (j : Int))) s2 R Ex := h2
          cases ej : idxI z ns with
          | none => rw [ej] at h2; exact h2.elim
          | some j =>
            rw [ej] at h2
            obtain ⟨q1, q2⟩ := idxI_ok ej
            have l2 := l1.mono (a2.st.toF rl.fpa) fun _ z => z
            rw [intsOf_ok en] at l2
            have ew := repL_ints' l2
            subst ew
            refine ⟨_, ns, z, j, rfl, rfl, ho.1.elim fun o w => Tp.sq ⟨o, a2.st _ _ w.1 fun e => ho.2 (rl.fpa _ e), w.2⟩, q1, q2, q _ s2 _ H2 h2 (a1.trans a2) (.int _)⟩
        | _ => exact h2.elim
  | _ => exact h1.elim
@[simp] def dIndexT (f g : En) : En := fun ρ => f ρ >>= tupI >>= fun ns => g ρ >>= indexM ns
end
end Say

namespace Say
open L2 PyProof.Rows PySem.Spec PySem

/-! ### x = [.. for .. for ..] on one line -/
section
variable {X : Cx} {p : PL} {elt tg iter tg1 iter1 : Expr} {ifs ifs1 : List Expr} {scope : Scope} {pos pos' : Pos} {g g1 : Env → M (List D)} {h h1 : D → Env → Option Env} {ts ts1 : List Nat} {t t1 : Env → M Bool} {e : Env → M D}
theorem ds_lcD2 (i : Nat) {x : Str} {py : Pos} (own : List (Str × Nat)) {vs1 : List Nat} (hN : X.N.Nodup) (hi : DI X p false tg iter g) (hg : ∀ s H C cl fp, DG (Blk X s H scope C cl fp) p tg ts h) (ht : ∀ s H C cl fp, DTs (Blk X s H scope C cl fp) p ifs t) (hi1 : ∀ s H C cl fp, DI (Blk X s H scope C cl fp) p false tg1 iter1 g1) (hg1 : ∀ s H C cl fp, DG (Blk X s H scope C cl fp) p tg1 ts1 h1) (ht1 : ∀ s H C cl fp, DTs (Blk X s H scope C cl fp) p ifs1 t1) (he : ∀ s H C cl fp, DE (Blk X s H scope C cl fp) p elt e)
    (hy : X.N[i]? = some x := by rfl) (hyl : X.env.scope.names.lookup x = some .local := by rfl) (hl : (py.line == pos.line) = true := by rfl) (ha : (scope.names.any fun (n, k) => n == x && (k == .local || k == .cell)) = false := by decide +kernel) (hk : X.env.scope.kind = .function := by rfl)
    (ok : blkC X.N X.env.scope scope own = true := by first | kernel_rfl | rfl) (hv : ∀ i ∈ ts, i ∈ own.map (·.2) := by decide) (hv1 : ∀ i ∈ ts1, i ∈ vs1 := by decide) (hvs : ∀ i ∈ vs1, i ∈ own.map (·.2) := by decide) (hc : X.calm = true := by rfl) (hs : ∀ x, foldedSetIterable iter X.env x = pure x := by intro _; rfl) (hs1 : ∀ env x, foldedSetIterable iter1 env x = pure x := by intro _ _; rfl) :
    DS X p (.Assign [.Name x py] (.ListComp elt [⟨tg, iter, ifs, 0⟩, ⟨tg1, iter1, ifs1, 0⟩] scope pos) pos') (sSet i fun ρ => lc2M (own.map (·.2)) vs1 g h t g1 h1 t1 e ρ >>= fun xs => pure (.lst xs)) := by
  refine ⟨fun W G H0 ρ σ H s k r b c R Ex Dn tk rl hw wy px => tS_of (ps_setLc2 (wi := tI X tg iter) (g := bG X scope tg) (tt := bT X scope ifs) (wi1 := bI X scope tg1 iter1) (g1 := bG X scope tg1) (tt1 := bT X scope ifs1) (te := bE X scope elt) hc hN hy hyl (sw_true hk hyl hl ha) pi_self (blkOk_by ok) hvs
    (fun s H C cl fp => ⟨fun pins sh σ H v u Q I r h => pg_self.run pins sh σ H v u Q I r (h s _ C cl fp)⟩) (fun s H C cl fp => ⟨fun pins sh σ H Q I h => pts_self.run pins sh σ H Q I (h s _ C cl fp)⟩) (fun s H C cl fp => ⟨fun pins sh σ H Q I h => pi_self.run pins sh σ H Q I (h s _ C cl fp)⟩)
    (fun s H C cl fp => ⟨fun pins sh σ H v u Q I r h => pg_self.run pins sh σ H v u Q I r (h s _ C cl fp)⟩) (fun s H C cl fp => ⟨fun pins sh σ H Q I h => pts_self.run pins sh σ H Q I (h s _ C cl fp)⟩) (fun s H C cl fp => ⟨fun pins sh σ H Q I h => pe_self.run pins sh σ H Q I (h s _ C cl fp)⟩) hs hs1) ?_⟩
  have hw : wpM ((lc2M (own.map (·.2)) vs1 g h t g1 h1 t1 e ρ >>= fun xs => pure (.lst xs)) >>= fun d => k (ρ.set i (.dat d))) s R Ex := hw
  rw [bind_assoc, wp_bind] at hw
  exact lc2_run hi hg ht hi1 hg1 ht1 he hv hv1 tk rl hw (fun ds s1 q vs H1 h1 a1 n1 e1 hz r1 => wy.nx _ _ H1 s1 ((rl.step a1.st a1.pen).put rfl fun d' e => by
    cases e
    exact ⟨_, rfl, .lst e1 (rl.fresh n1) hz (r1.mono (fun _ _ z _ => z) fun _ z => .inl z)⟩) h1) (px.px rl.old)
end

/-! ### several at once -/
section
variable {K : PySem.W.Frag} {p : PL} {G : Addr → Prop} {H0 H H' : Hp} {ρ : Env} {σ : L2.St} {s s' : Pen}
def GN (G : Addr → Prop) (N : List Addr) : Addr → Prop := fun a => G a ∨ a ∈ N
/-- values that wait for their slots; N: the new lists among them -/
inductive Pend (K : PySem.W.Frag) (p : PL) (H0 H : Hp) (F : Addr → Prop) : List V → List Sl → List Addr → Prop
  | nil : Pend K p H0 H F [] [] []
  | dat {v : V} {d : D} {vs : List V} {xs : List Sl} {N : List Addr} (h : Rep K p H F v d) (r : Pend K p H0 H F vs xs N) : Pend K p H0 H F (v :: vs) (.dat d :: xs) N
  | own {q : Addr} {ws : List V} {ds : List D} {vs : List V} {xs : List Sl} {N : List Addr} (e : H q = some (.lst ws)) (h0 : H0 q = none) (hz : ds.length ≤ 16777216) (l : RepL K p H F ws ds) (r : Pend K p H0 H F vs xs N) : Pend K p H0 H F (.ref q :: vs) (.own (.lst ds) :: xs) (q :: N)
theorem Pend.mono {F F' : Addr → Prop} (sub : ∀ a, F' a → F a) : ∀ {vs : List V} {xs : List Sl} {N : List Addr}, Pend K p H0 H F vs xs N → Pend K p H0 H F' vs xs N
  | _, _, _, .nil => .nil
  | _, _, _, .dat h r => .dat (h.mono (fun _ _ z _ => z) sub) (r.mono sub)
  | _, _, _, .own e h0 hz l r => .own e h0 hz (l.mono (fun _ _ z _ => z) sub) (r.mono sub)
/-- a waiting list gets its slot -/
theorem Rel.take {q : Addr} {i : Nat} {ws : List V} {ds : List D} (r : Rel K p (fun a => G a ∨ a = q) H0 ρ σ H s) (hl : i < ρ.length) (e : H q = some (.lst ws)) (h0 : H0 q = none) (ng : ¬ G q) (gpa : ∀ a, p.no a → G a) (gca : G p.ca) (hz : ds.length ≤ 16777216) (l : RepL K p H (Fo (fun a => G a ∨ a = q) ρ σ) ws ds) :
    Rel K p G H0 (ρ.set i (.own (.lst ds))) (σ.set i (some (.ref q))) H s ∧ ∀ a, Fo G (ρ.set i (.own (.lst ds))) (σ.set i (some (.ref q))) a → Fo (fun a => G a ∨ a = q) ρ σ a := by
  have sub : ∀ a, Fo G (ρ.set i (.own (.lst ds))) (σ.set i (some (.ref q))) a → Fo (fun a => G a ∨ a = q) ρ σ a := fun a z => by
    rcases z with z | ⟨j, y, e1, hy, e2⟩
    · exact .inl (.inl z)
    · rcases get_set e1 with ⟨rfl, rfl, _⟩ | ⟨ne, e1⟩
      · rw [List.getElem?_set_self (by rw [← r.len]; exact hl)] at e2
        cases e2
        exact .inl (.inr rfl)
      · rw [List.getElem?_set_ne ne] at e2
        exact .inr ⟨j, y, e1, hy, e2⟩
  refine ⟨⟨by rw [List.length_set, List.length_set]; exact r.len, fun j d e1 => ?_, fun j y e1 hy => ?_, fun j k y z a e1 hy e2 hz e3 e4 => ?_, r.old, r.pen, gpa, gca, fun a ha => r.gex a (.inl ha), fun j y a e1 hy e2 => ?_⟩, sub⟩
  · rcases get_set e1 with ⟨rfl, w, _⟩ | ⟨ne, e1⟩
    · cases w
    · obtain ⟨v, q1, q2⟩ := r.dat j d e1
      exact ⟨v, by rw [List.getElem?_set_ne ne]; exact q1, q2.mono (fun _ _ z _ => z) sub⟩
  · rcases get_set e1 with ⟨rfl, rfl, _⟩ | ⟨ne, e1⟩
    · exact ⟨q, List.getElem?_set_self (by rw [← r.len]; exact hl), h0, ws, e, hz, l.mono (fun _ _ z _ => z) sub⟩
    · obtain ⟨a, q1, q2, q3⟩ := r.own j y e1 hy
      exact ⟨a, by rw [List.getElem?_set_ne ne]; exact q1, q2, q3.mono (fun _ z => z) (fun _ _ z _ => z) sub⟩
  · have other : ∀ (j : Nat) (y : Sl), i ≠ j → ρ[j]? = some y → y.held = true → (σ.set i (some (.ref q)))[j]? = some (some (.ref q)) → False := fun j y ne w hy w2 => by
      rw [List.getElem?_set_ne ne] at w2
      exact r.gne j y q w hy w2 (.inr rfl)
    rcases get_set e1 with ⟨rfl, _, _⟩ | ⟨ne, e1⟩
    · rcases get_set e2 with ⟨rfl, _, _⟩ | ⟨ne2, e2⟩
      · rfl
      · rw [List.getElem?_set_self (by rw [← r.len]; exact hl)] at e3
        cases e3
        exact (other k z ne2 e2 hz e4).elim
    · rcases get_set e2 with ⟨rfl, _, _⟩ | ⟨ne2, e2⟩
      · rw [List.getElem?_set_self (by rw [← r.len]; exact hl)] at e4
        cases e4
        exact (other j y ne e1 hy e3).elim
      · rw [List.getElem?_set_ne ne] at e3
        rw [List.getElem?_set_ne ne2] at e4
        exact r.inj j k y z a e1 hy e2 hz e3 e4
  · rcases get_set e1 with ⟨rfl, _, _⟩ | ⟨ne, e1⟩
    · rw [List.getElem?_set_self (by rw [← r.len]; exact hl)] at e2
      cases e2
      exact ng
    · rw [List.getElem?_set_ne ne] at e2
      exact fun z => r.gne j y a e1 hy e2 (.inl z)
end
def setE : Env → List Nat → List Sl → Env
  | ρ, i :: is, x :: xs => setE (ρ.set i x) is xs
  | ρ, _, _ => ρ
def setS : L2.St → List Nat → List V → L2.St
  | σ, i :: is, v :: vs => setS (σ.set i (some v)) is vs
  | σ, _, _ => σ
section
variable {K : PySem.W.Frag} {p : PL} {G : Addr → Prop} {H0 H H' : Hp} {s s' : Pen}
theorem Rel.pend (gpa : ∀ a, p.no a → G a) (gca : G p.ca) : ∀ {is : List Nat} {vs : List V} {xs : List Sl} {N : List Addr} {ρ : Env} {σ : L2.St}, Pend K p H0 H (Fo (GN G N) ρ σ) vs xs N → Rel K p (GN G N) H0 ρ σ H s → N.Nodup → (∀ q ∈ N, ¬ G q) → is.length = xs.length → (∀ i ∈ is, i < ρ.length) → Rel K p G H0 (setE ρ is xs) (setS σ is vs) H s
  | [], _, _, N, ρ, σ, pd, r, nd, ng, hl, hi => by
    cases pd with
    | nil =>
      have e : GN G [] = G := funext fun a => propext ⟨fun z => z.resolve_right (by simp), .inl⟩
      rw [e] at r
      exact r
    | dat => cases hl
    | own => cases hl
  | i :: is, _, _, N, ρ, σ, pd, r, nd, ng, hl, hi => by
    cases pd with
    | nil => cases hl
    | dat h t =>
      have r1 := r.put (i := i) (x := .dat _) (o := some _) rfl fun d' e => by cases e; exact ⟨_, rfl, h⟩
      exact Rel.pend (is := is) gpa gca (t.mono fun a z => fo_set rfl z) r1 nd ng (Nat.succ.inj (show is.length.succ = _ from hl)) fun j hj => by rw [List.length_set]; exact hi j (List.mem_cons_of_mem _ hj)
    | own e h0 hz l t =>
      rename_i q ws ds vs xs N
      have eg : GN G (q :: N) = fun a => GN G N a ∨ a = q := funext fun a => propext ⟨fun z => by
        rcases z with z | z
        · exact .inl (.inl z)
        · rcases List.mem_cons.mp
              z with z | z
          · exact .inr z
          · exact .inl (.inr z), fun z => by
        rcases z with (z | z) | z
        · exact .inl z
        · exact .inr (List.mem_cons_of_mem _ z)
        · exact .inr (by rw [z]; exact List.mem_cons_self)⟩
      rw [eg] at r l t
      obtain ⟨n1, n2⟩ :=
          List.nodup_cons.mp nd
      obtain ⟨r1, sub⟩ := r.take (hi i List.mem_cons_self) e h0 (fun z => z.elim (ng q List.mem_cons_self) n1) (fun a z => .inl (gpa a z)) (.inl gca) hz l
      exact Rel.pend (is := is) gpa gca (t.mono sub) r1 n2 (fun a ha => ng a (List.mem_cons_of_mem _ ha)) (Nat.succ.inj (show is.length.succ = _ from hl)) fun j hj => by rw [List.length_set]; exact hi j (List.mem_cons_of_mem _ hj)
end
/-- one after another, data or new lists -/
def seqV {β : Type} : List (Env → M Sl) → Env → (List Sl → M β) → M β
  | [], _, k => k []
  | f :: fs, ρ, k => f ρ >>= fun x => seqV fs ρ fun xs => k (x :: xs)
@[simp] def vD (f : En) : Env → M Sl := fun ρ => f ρ >>= fun d => pure (.dat d)
@[simp] def vN (f : Env → M (List D)) : Env → M Sl := fun ρ => f ρ >>= fun ds => pure (.own (.lst ds))
structure DVs (X : Cx) (p : PL) (es : List Expr) (fs : List (Env → M Sl)) : Prop where
  run : ∀ (β : Type) (k : List Sl → M β) (W : WX) (G : Addr → Prop) (H0 : Hp) (ρ : Env) (σ : L2.St) (H : Hp) (s : Pen) (R : β → Pen → Prop) (Ex : XR) (Q : List V → Hp → Prop), Takes X W → Rel X.K p G H0 ρ σ H s → wpM (seqV fs ρ k) s R Ex →
    (∀ xs s' vs H' N, wpM (k xs) s' R Ex → Af p H H' s' → Rel X.K p (GN G N) H0 ρ σ H' s' → Pend X.K p H0 H' (Fo (GN G N) ρ σ) vs xs N → N.Nodup → (∀ q ∈ N, H q = none) → xs.length = fs.length → Q vs H') → PX X p W G σ H Ex → tA X es σ H Q
section
variable {X : Cx} {p : PL} {e a b : Expr} {es : List Expr} {f : Env → M D} {fl : Env → M (List D)} {fs : List (Env → M Sl)} {pos pos' : Pos}
theorem gn_nil {G : Addr → Prop} : GN G [] = G := funext fun a => propext ⟨fun z => z.resolve_right (by simp), .inl⟩
theorem dv_nil : DVs X p [] [] := ⟨fun β k W G H0 ρ σ H s R Ex Q tk rl hw q px => tA_of pa_nil (show Q [] H from q [] s [] H [] hw (.refl rl.pen) (by rw [gn_nil]; exact rl) .nil .nil (fun _ h => by cases h) rfl)⟩
theorem dv_dat (ha : DE X p e f) (hr : DVs X p es fs) (hs : starEach (e :: es) X.env = (false, eval e X.env) :: starEach es X.env := by rfl) : DVs X p (e :: es) (vD f :: fs) := by
  refine ⟨fun β k W G H0 ρ σ H s R Ex Q tk rl hw q px => tA_of (pa_cons pe_self pa_self hs) ?_⟩
  have hw : wpM ((f ρ >>= fun d => pure (Sl.dat d)) >>= fun x => seqV fs ρ fun xs => k (x :: xs)) s R Ex := hw
  rw [bind_assoc, wp_bind] at hw
  refine ha.run W G H0 ρ σ H s _ Ex _ tk rl hw (fun d s1 v H1 h1 a1 r1 => ?_) px
  refine hr.run β (fun xs => k (.dat d :: xs)) W G H0 ρ σ H1 s1 R Ex _ tk (rl.step a1.st a1.pen) h1 (fun xs s2 vs H2 N h2 a2 rl2 pd nd hn el => ?_) (px.at a1)
  have hn' : ∀ q ∈ N, H q = none := fun q hq => back_none a1 (hn q hq)
  refine q (.dat d :: xs) s2 (v :: vs) H2 N h2 (a1.trans a2) rl2 (.dat ?_ pd) nd hn' (congrArg (· + 1) el)
  refine (r1.more (N := fun a => a ∈ N) hn).mono (a2.st.toF (fun a z => .inl (rl.fpa a z))) fun a z => ?_
  rcases z with (z | z) | z
  · exact .inl (.inl z)
  · exact .inr z
  · exact .inl (.inr z)
theorem PX.moreG {W : WX} {G G' : Addr → Prop} {σ : L2.St} {H : Hp} {Ex : XR} (h : PX X p W G σ H Ex) (sub : ∀ a, G a → G' a) : PX X p W G' σ H Ex := fun c fs s' dx vfs H' e a x r => h c fs s' dx vfs H' e a x (r.mono (fun _ _ z _ => z) sub)
theorem Rel.moreG {q : Addr} {K : PySem.W.Frag} {G : Addr → Prop} {H0 Hb H : Hp} {ρ : Env} {σ : L2.St} {s s' : Pen} (rb : Rel K p G H0 ρ σ Hb s') (r : Rel K p G H0 ρ σ H s) (hq : Hb q = none) (ex : ∃ o, H q = some o) (st : Step p Hb H) : Rel K p (fun a => G a ∨ a = q) H0 ρ σ H s where
  len := r.len
  dat := fun j d e => by
    obtain ⟨v, q1, q2⟩ := rb.dat j d e
    refine ⟨v, q1, (q2.more (N := fun a => a = q) fun a z => by rw [z]; exact hq).mono (st.toF (fun a z => .inl (r.fpa a z))) fun a z => ?_⟩
    rcases z with (z | z) | z
    · exact .inl (.inl z)
    · exact .inr z
    · exact .inl (.inr z)
  own := fun j y e hy => by
    obtain ⟨a, q1, q2, q3⟩ := rb.own j y e hy
    have nq : a ≠ q := fun z => by
      obtain ⟨u, hu, _⟩ := q3.there
      rw [z, hq] at hu
      cases hu
    have np : ¬ p.no a := fun z => rb.gne j y a e hy q1 (rb.gpa _ z)
    refine ⟨a, q1, q2, ?_⟩
    have up : ∀ {vs : List V} {ds : List D}, RepL K p Hb (Fo G ρ σ) vs ds → RepL K p H (Fo (fun a => G a ∨ a = q) ρ σ) vs ds := fun l => (l.more (N := fun a => a = q) fun a z => by rw [z]; exact hq).mono (st.toF (fun a z => .inl (r.fpa a z))) fun a z => by
      rcases z with (z | z) | z
      · exact .inl (.inl z)
      · exact .inr z
      · exact .inl (.inr z)
    have upF : ∀ {vs : List (Str × V)} {ds : List (Str × D)}, RepF K p Hb (Fo G ρ σ) vs ds → RepF K p H (Fo (fun a => G a ∨ a = q) ρ σ) vs ds := fun l => (l.more (N := fun a => a = q) fun a z => by rw [z]; exact hq).mono (st.toF (fun a z => .inl (r.fpa a z))) fun a z => by
      rcases z with (z | z) | z
      · exact .inl (.inl z)
      · exact .inr z
      · exact .inl (.inr z)
    have upK : ∀ {vs : List (Key × V)} {ds : List (D × D)}, RepK K p Hb (Fo G ρ σ) vs ds → RepK K p H (Fo (fun a => G a ∨ a = q) ρ σ) vs ds := fun l => (l.more (N := fun a => a = q) fun a z => by rw [z]; exact hq).mono (st.toF (fun a z => .inl (r.fpa a z))) fun a z => by
      rcases z with (z | z) | z
      · exact .inl (.inl z)
      · exact .inr z
      · exact .inl (.inr z)
    cases y with
    | no => exact q3.elim
    | dat d => exact q3.elim
    | self c fs =>
      obtain ⟨hx, dx, ws, z1, z0, z2⟩ := q3
      exact ⟨hx, dx, ws, st _ _ z1 np, z0, upF z2⟩
    | own d =>
      cases d with
      | lst ds =>
        obtain ⟨ws, z1, z0, z2⟩ := q3
        exact ⟨ws, st _ _ z1 np, z0, up z2⟩
      | dct ds =>
        obtain ⟨ws, z1, z2⟩ := q3
        exact ⟨ws, st _ _ z1 np, upK z2⟩
      | _ => exact q3.elim
  inj := r.inj
  old := r.old
  pen := r.pen
  gpa := fun a z => .inl (r.gpa a z)
  gca := .inl r.gca
  gex := fun a ha => by
    rcases ha with ha | rfl
    · exact r.gex a ha
    · exact ex
  gne := fun j y a e hy e2 z => by
    rcases z with z | rfl
    · exact r.gne j y a e hy e2 z
    · exact rb.fresh hq (.inr ⟨j, y, e, hy, e2⟩)
theorem dv_new (ha : DN X p e fl) (hr : DVs X p es fs) (hs : starEach (e :: es) X.env = (false, eval e X.env) :: starEach es X.env := by rfl) : DVs X p (e :: es) (vN fl :: fs) := by
  refine ⟨fun β k W G H0 ρ σ H s R Ex Q tk rl hw q px => tA_of (pa_cons pe_self pa_self hs) ?_⟩
  have hw : wpM ((fl ρ >>= fun ds => pure (Sl.own (.lst ds))) >>= fun x => seqV fs ρ fun xs => k (x :: xs)) s R Ex := hw
  rw [bind_assoc, wp_bind] at hw
  refine ha.run W G H0 ρ σ H s _ Ex _ tk rl hw (fun ds s1 l ws H1 h1 a1 n1 e1 hz r1 => ?_) px
  have rl1 := rl.step a1.st a1.pen
  have rg : Rel X.K p (fun a => G a ∨ a = l) H0 ρ σ H1 s1 := rl.moreG rl1 n1 ⟨_, e1⟩ a1.st
  refine hr.run β (fun xs => k (.own (.lst ds) :: xs)) W _ H0 ρ σ H1 s1 R Ex _ tk rg h1 (fun xs s2 vs H2 N h2 a2 rl2 pd nd hn el => ?_) ((px.at a1).moreG fun a z => .inl z)
  have hn' : ∀ q ∈ l :: N, H q = none := fun q hq => by
    rcases List.mem_cons.mp
        hq with rfl | hq
    · exact n1
    · exact back_none a1 (hn q hq)
  have eg : GN (fun a => G a ∨ a = l) N = GN G (l :: N) := funext fun a => propext ⟨fun z => by
    rcases z with (z | z) | z
    · exact .inl z
    · exact .inr (by rw [z]; exact List.mem_cons_self)
    · exact .inr (List.mem_cons_of_mem _ z), fun z => by
    rcases z with z | z
    · exact .inl (.inl z)
    · rcases List.mem_cons.mp
          z with z | z
      · exact .inl (.inr z)
      · exact .inr z⟩
  rw [eg] at rl2 pd
  have nl : l ∉ N := fun z => by
    have := hn l z
    rw [e1] at this
    cases this
  have np : ¬ p.no l := fun z => rl.fresh n1 ((.inl (rl.gpa _ z)))
  have h0 : H0 l = none := by
    cases z : H0 l with
    | none => rfl
    | some o => rw [rl.old l o z np] at n1; cases n1
  refine q (.own (.lst ds) :: xs) s2 (.ref l :: vs) H2 (l :: N) h2 (a1.trans a2) rl2 (.own (a2.st l _ e1 np) h0 hz ?_ pd) (List.nodup_cons.mpr ⟨nl, nd⟩) hn' (congrArg (· + 1) el)
  refine (r1.more (N := fun a => a ∈ N) hn).mono (a2.st.toF (fun a z => .inl (.inl (rl.fpa a z)))) fun a z => ?_
  rcases z with (z | z) | z
  · exact .inl (.inl (.inl z))
  · rcases List.mem_cons.mp
        z with z | z
    · exact .inl (.inr z)
    · exact .inr z
  · exact .inl (.inl (.inr z))
def sParV (is : List Nat) (fs : List (Env → M Sl)) : S := fun k _ _ _ ρ => if is.all (fun i => decide (i < ρ.length)) = true then seqV fs ρ fun xs => k (setE ρ is xs) else bad
theorem parV_run {is : List Nat} {W : WX} {G : Addr → Prop} {H0 : Hp} {ρ : Env} {σ : L2.St} {H : Hp} {s : Pen} {k : Env → M D} {r : D → M D} {b c : Env → M D} {R : D → Pen → Prop} {Ex : XR} {Dn : Ends} (h1 : DVs X p es fs) (tk : Takes X W) (rl : Rel X.K p G H0 ρ σ H s) (hw : wpM (sParV is fs k r b c ρ) s R Ex) (wy : Way X.K p G H0 k r b c R Ex Dn) (px : PXs X.K p W G H0 Ex) (hl : is.length = fs.length) :
    tA X es σ H (fun vs H1 => vs.length = fs.length ∧ Dn.nx (setS σ is vs) H1) := by
  have hw : wpM (if is.all (fun i => decide (i < ρ.length)) = true then seqV fs ρ fun xs => k (setE ρ is xs) else bad) s R Ex := hw
  by_cases hi : is.all (fun i => decide (i < ρ.length)) = true
  case neg => rw [if_neg hi] at hw; exact hw.elim
  rw [if_pos hi] at hw
  refine h1.run D _ W G H0 ρ σ H s R Ex _ tk rl hw (fun xs s1 vs H1 N w1 a1 r1 pd nd hn el => ?_) (px.px rl.old)
  have ng : ∀ q ∈ N, ¬ G q := fun q hq z => rl.fresh (hn q hq) (.inl z)
  refine ⟨?_, wy.nx _ _ H1 s1 (Rel.pend rl.gpa rl.gca pd r1 nd ng (by rw [hl, el]) fun i hi' => of_decide_eq_true (List.all_eq_true.mp hi i hi')) w1⟩
  rw [← el]
  clear w1 el
  generalize hF : Fo (GN G N) ρ σ = F at pd
  clear hF r1 nd ng hn
  induction pd with
  | nil => rfl
  | dat _ _ ih => exact congrArg (· + 1) ih
  | own _ _ _ _ _ ih => exact congrArg (· + 1) ih
theorem ds_par2 {i j : Nat} {x y : Str} {e2 : Expr} {px' py pt pt2 : Pos} {kt k2 : Nat} {f1 f2 : Env → M Sl} (hN : X.N.Nodup) (h1 : DVs X p [e, e2] [f1, f2]) (hi : X.N[i]? = some x := by rfl) (hj : X.N[j]? = some y := by rfl) (hij : i ≠ j := by decide)
    (hx : X.env.scope.names.lookup x = some .local := by rfl) (hy : X.env.scope.names.lookup y = some .local := by rfl) (hc : X.calm = true := by rfl)
    (hw : swappedStores [.Tuple [.Name x px', .Name y py] kt pt] (.Tuple [e, e2] k2 pt2) X.env = pure (some [x, y]) := by rfl)
    (hs : swapsWithSole [.Tuple [.Name x px', .Name y py] kt pt] (.Tuple [e, e2] k2 pt2) pos.line X.env = pure false := by rfl) :
    DS X p (.Assign [.Tuple [.Name x px', .Name y py] kt pt] (.Tuple [e, e2] k2 pt2) pos) (sParV [i, j] [f1, f2]) := by
  refine ⟨fun W G H0 ρ σ H s k r b c R Ex Dn tk rl hww wy px => tS_of (ps_par hc hN hi hj hij hx hy pa_self hw hs) ?_⟩
  refine fun pos pins sh I => thn (parV_run h1 tk rl hww wy px rfl pos pins sh I) fun us s1 ⟨vs, H1, I1, r1, hl, q1⟩ => ⟨vs, H1, I1, r1, ?_⟩
  match vs, hl, q1 with
  | [v, w], _, q1 => exact ⟨v, w, rfl, q1⟩
theorem ds_par3 {i j l : Nat} {x y z : Str} {e2 e3 : Expr} {px' py pz pt pt2 : Pos} {kt k2 : Nat} {f1 f2 f3 : Env → M Sl} (hN : X.N.Nodup) (h1 : DVs X p [e, e2, e3] [f1, f2, f3]) (hi : X.N[i]? = some x := by rfl) (hj : X.N[j]? = some y := by rfl) (hl : X.N[l]? = some z := by rfl) (hij : i ≠ j := by decide) (hil : i ≠ l := by decide) (hjl : j ≠ l := by decide)
    (hx : X.env.scope.names.lookup x = some .local := by rfl) (hy : X.env.scope.names.lookup y = some .local := by rfl) (hz : X.env.scope.names.lookup z = some .local := by rfl) (hc : X.calm = true := by rfl)
    (hw : swappedStores [.Tuple [.Name x px', .Name y py, .Name z pz] kt pt] (.Tuple [e, e2, e3] k2 pt2) X.env = pure (some [x, y, z]) := by rfl)
    (hs : swapsWithSole [.Tuple [.Name x px', .Name y py, .Name z pz] kt pt] (.Tuple [e, e2, e3] k2 pt2) pos.line X.env = pure false := by rfl) :
    DS X p (.Assign [.Tuple [.Name x px', .Name y py, .Name z pz] kt pt] (.Tuple [e, e2, e3] k2 pt2) pos) (sParV [i, j, l] [f1, f2, f3]) := by
  refine ⟨fun W G H0 ρ σ H s k r b c R Ex Dn tk rl hww wy px => tS_of (ps_par3 hc hN hi hj hl hij hil hjl hx hy hz pa_self hw hs) ?_⟩
  refine fun pos pins sh I => thn (parV_run h1 tk rl hww wy px rfl pos pins sh I) fun us s1 ⟨vs, H1, I1, r1, hl, q1⟩ => ⟨vs, H1, I1, r1, ?_⟩
  match vs, hl, q1 with
  | [v, w, u], _, q1 => exact ⟨v, w, u, rfl, q1⟩
end
end Say

namespace Say
open L2 PyProof.Rows PySem.Spec PySem

/-! ### xs.append(ys.pop(e)) -/
def popD (ys : List D) (i : D) : M (D × List D) := match i with
  | .int k => if -1073741824 ≤ k ∧ k < 1073741824 then (match seqIndex? k ys.length with
    | some n => (match ys[n]? with
      | some y => pure (y, ys.eraseIdx n)
      | none => bad)
    | none => bad) else bad
  | _ => bad
def sAppPop (i j : Nat) (f : En) : S := fun k _ _ _ ρ => ownL ρ[i]? >>= fun xs => ownL ρ[j]? >>= fun ys => f ρ >>= fun d => popD ys d >>= fun r => pushD xs r.1 >>= fun zs => k ((ρ.set j (.own (.lst r.2))).set i (.own (.lst zs)))
section
variable {X : Cx} {p : PL} {e a b : Expr} {es : List Expr} {f g fe : Env → M D} {fs : List (Env → M D)} {pos pos' : Pos}
theorem ownL_ok {K : PySem.W.Frag} {G : Addr → Prop} {H0 H : Hp} {ρ : Env} {σ : L2.St} {s : Pen} {α : Type} {i : Nat} {k : List D → M α} {R : α → Pen → Prop} {Ex : XR} (rl : Rel K p G H0 ρ σ H s) (h : wpM (ownL ρ[i]? >>= k) s R Ex) :
    ∃ (xs : List D) (q : Addr) (vs : List V), ρ[i]? = some (.own (.lst xs)) ∧ σ[i]? = some (some (.ref q)) ∧ H0 q = none ∧ ¬ p.no q ∧ H q = some (.lst vs) ∧ xs.length ≤ 16777216 ∧ RepL K p H (Fo G ρ σ) vs xs ∧ wpM (k xs) s R Ex := by
  cases eo : ρ[i]? with
  | none => rw [eo] at h; exact h.elim
  | some y =>
    rw [eo] at h
    cases y with
    | own d =>
      cases d with
      | lst xs =>
        obtain ⟨q, h1, h2, vs, h3, hz, h4⟩ := rl.own i _ eo rfl
        exact ⟨xs, q, vs, rfl, h1, h2, fun z => rl.gne i _ q eo rfl h1 (rl.gpa _ z), h3, hz, h4, h⟩
      | _ => exact h.elim
    | _ => exact h.elim
theorem pushD_ok {α : Type} {xs : List D} {d : D} {k : List D → M α} {s : Pen} {R : α → Pen → Prop} {Ex : XR} (h : wpM (pushD xs d >>= k) s R Ex) : xs.length < 16777216 ∧ wpM (k (xs ++ [d])) s R Ex := by
  unfold pushD at h
  by_cases hl : xs.length < 16777216
  · rw [if_pos hl] at h
    exact ⟨hl, h⟩
  · rw [if_neg hl] at h
    exact h.elim
theorem popD_ok {α : Type} {ys : List D} {d : D} {k : D × List D → M α} {s : Pen} {R : α → Pen → Prop} {Ex : XR} (h : wpM (popD ys d >>= k) s R Ex) : ∃ (i : Int) (n : Nat) (y : D), d = .int i ∧ -1073741824 ≤ i ∧ i < 1073741824 ∧ seqIndex? i ys.length = some n ∧ ys[n]? = some y ∧ wpM (k (y, ys.eraseIdx n)) s R Ex := by
  cases d with
  | int i =>
    have h : wpM ((if -1073741824 ≤ i ∧ i < 1073741824 then (match seqIndex? i ys.length with | some n => (match ys[n]? with | some y => pure (y, ys.eraseIdx n) | none => bad) | none => bad) else bad) >>= k) s R Ex := h
    by_cases hc : -1073741824 ≤ i ∧ i < 1073741824
    · rw [if_pos hc] at h
      cases e1 : seqIndex? i ys.length with
      | none => rw [e1] at h; exact h.elim
      | some n =>
        rw [e1] at h
        have h : wpM ((match ys[n]? with | some y => pure (y, ys.eraseIdx n) | none => bad) >>= k) s R Ex := h
        cases e2 : ys[n]? with
        | none => rw [e2] at h; exact h.elim
        | some y =>
          rw [e2] at h
          exact ⟨i, n, y, rfl, hc.1, hc.2, e1, e2, h⟩
    · rw [if_neg hc] at h
      exact h.elim
  | _ => exact h.elim
theorem ds_appPop (i j : Nat) {x y : Str} {p1 p2 p3 p4 p5 : Pos} (hij : i ≠ j := by decide) (he : DE X p e fe)
    (hp : PE X (.Call (.Attribute (.Name x p1) "append" p2) [.Call (.Attribute (.Name y p3) "pop" p4) [e] [] p5] [] pos') (tBM X.K "list" rAppend (tVar i) (tCons (tBM X.K "list" rPopAt (tVar j) (tCons (tE X e) tNil)) tNil)))
    (hs : swapsWith (.Call (.Attribute (.Name x p1) "append" p2) [.Call (.Attribute (.Name y p3) "pop" p4) [e] [] p5] [] pos') none pos.line X.env = pure false := by rfl) :
    DS X p (.Expr (.Call (.Attribute (.Name x p1) "append" p2) [.Call (.Attribute (.Name y p3) "pop" p4) [e] [] p5] [] pos') pos) (sAppPop i j fe) := by
  refine ⟨fun W G H0 ρ σ H s k r b c R Ex Dn tk rl hw wy px => tS_of (ps_expr hp hs) ?_⟩
  obtain ⟨xs, q, vs, ei, h1, h2, np, h3, hz, h4, hw⟩ := ownL_ok rl (show wpM (ownL ρ[i]? >>= fun xs => ownL ρ[j]? >>= fun ys => fe ρ >>= fun d => popD ys d >>= fun r => pushD xs r.1 >>= fun zs => k ((ρ.set j (.own (.lst r.2))).set i (.own (.lst zs)))) s R Ex from hw)
  obtain ⟨ys, l, ws, ej, g1, g2, lp, g3, gz, g4, hw⟩ := ownL_ok rl hw
  have nq : q ≠ l := fun z => hij (rl.inj i j _ _ q ei rfl ej rfl h1 (by rw [g1, z]))
  refine ⟨_, h1, .inl ⟨rfl, vs, .inl (.inl h3)⟩, ?_⟩
  refine ⟨_, g1, .inl ⟨rfl, ws, .inl (.inl g3)⟩, ?_⟩
  rw [wp_bind] at hw
  refine he.run W G H0 ρ σ H s _ Ex _ tk rl hw (fun d s1 v H1 w1 a1 r1 => ?_) (px.px rl.old)
  obtain ⟨m, n, d2, ed, b1, b2, e1, e2, w2⟩ := popD_ok w1
  subst ed
  cases r1
  obtain ⟨hl, w3⟩ := pushD_ok w2
  have rl1 := rl.step a1.st a1.pen
  have l4 := g4.mono (a1.st.toF rl.fpa) fun _ z => z
  have m4 := h4.mono (a1.st.toF rl.fpa) fun _ z => z
  obtain ⟨v, q1, q2⟩ := l4.get e2
  refine ⟨l, ws, m, n, v, rfl, rfl, a1.st l _ g3 lp, by omega, by omega, by rw [l4.length]; exact e1, q1, ?_⟩
  have fl : Fo G ρ σ l := .inr ⟨j, _, ej, rfl, g1⟩
  have fq : Fo G ρ σ q := .inr ⟨i, _, ei, rfl, h1⟩
  have st1 : StepF (Fo G ρ σ) H1 (upd H1 l (.lst (ws.eraseIdx n))) := fun a u z w => by
    rw [upd_ne fun y => w (by rw [y]; exact fl)]
    exact z
  have r2 := rl1.updOwn (y := .own (.lst (ys.eraseIdx n))) ej rfl rfl g1 ⟨ws.eraseIdx n, upd_same, Nat.le_trans (List.length_eraseIdx_le _ _) gz, (l4.eraseIdx n).mono st1 fun _ z => z⟩
  have fo2 : ∀ a, Fo G (ρ.set j (.own (.lst (ys.eraseIdx n)))) σ a → Fo G ρ σ a := fun a z => by
    rcases z with z | ⟨t, y, t1, ty, t2⟩
    · exact .inl z
    · rcases get_set t1 with ⟨rfl, rfl, _⟩ | ⟨ne, t1⟩
      · exact .inr ⟨_, _, ej, rfl, t2⟩
      · exact .inr ⟨t, y, t1, ty, t2⟩
  have ei2 : (ρ.set j (.own (.lst (ys.eraseIdx n))))[i]? = some (.own (.lst xs)) := by rw [List.getElem?_set_ne (Ne.symm hij)]; exact ei
  have at2 : upd H1 l (.lst (ws.eraseIdx n)) q = some (.lst vs) := by rw [upd_ne nq]; exact a1.st q _ h3 np
  refine ⟨q, vs, v, rfl, rfl, at2, by rw [m4.length, sizeLine_eq]; exact hl, wy.nx _ σ _ s1 (r2.updOwn (y := .own (.lst (xs ++ [d2]))) ei2 rfl rfl h1 ⟨vs ++ [v], upd_same, by rw [List.length_append]; exact hl, ?_⟩) w3⟩
  refine ((m4.append (.cons q2 .nil)).mono st1 fun _ z => z).mono (fun a u z w => ?_) fo2
  rw [upd_ne fun y => w (by rw [y]; exact fq)]
  exact z
/-! ### xs[i], xs[j] = a, b -/
def putAt (xs : List D) (i d : D) : M (List D) := match i with
  | .int k => (match ixN xs.length k with
    | some n => pure (xs.set n d)
    | none => bad)
  | _ => bad
theorem putAt_ok {α : Type} {xs : List D} {i d : D} {k : List D → M α} {s : Pen} {R : α → Pen → Prop} {Ex : XR} (h : wpM (putAt xs i d >>= k) s R Ex) : ∃ (m : Int) (n : Nat), i = .int m ∧ ixN xs.length m = some n ∧ wpM (k (xs.set n d)) s R Ex := by
  cases i with
  | int m =>
    have h : wpM ((match ixN xs.length m with | some n => pure (xs.set n d) | none => bad) >>= k) s R Ex := h
    cases e : ixN xs.length m with
    | none => rw [e] at h; exact h.elim
    | some n =>
      rw [e] at h
      exact ⟨m, n, rfl, e, h⟩
  | _ => exact h.elim
/-- the store of d, represented by v, at xs[e] -/
def sPut (i : Nat) (f : En) (d : D) (k : Env → M D) (ρ : Env) : M D := ownL ρ[i]? >>= fun xs => f ρ >>= fun x => putAt xs x d >>= fun ys => k (ρ.set i (.own (.lst ys)))
theorem put_run {i : Nat} {W : WX} {G : Addr → Prop} {H0 : Hp} {ρ : Env} {σ : L2.St} {H : Hp} {s : Pen} {k : Env → M D} {v : V} {d : D} {R : D → Pen → Prop} {Ex : XR} {Q : L2.St → Hp → Prop} (he : DE X p e fe) (tk : Takes X W) (rl : Rel X.K p G H0 ρ σ H s) (rv : Rep X.K p H (Fo G ρ σ) v d) (hw : wpM (sPut i fe d k ρ) s R Ex) (px : PXs X.K p W G H0 Ex)
    (q : ∀ ρ' H' s', Rel X.K p G H0 ρ' σ H' s' → wpM (k ρ') s' R Ex → (∀ v d, Rep X.K p H (Fo G ρ σ) v d → Rep X.K p H' (Fo G ρ' σ) v d) → Q σ H') : gSub (tVar i) (tE X e) rSetL v σ H Q := by
  obtain ⟨xs, l, vs, e1, es, h2, np, h3, hz, h4, hw⟩ := ownL_ok rl (show wpM (ownL ρ[i]? >>= fun xs => fe ρ >>= fun x => putAt xs x d >>= fun ys => k (ρ.set i (.own (.lst ys)))) s R Ex from hw)
  refine ⟨_, es, ?_⟩
  rw [wp_bind] at hw
  refine he.run W G H0 ρ σ H s _ Ex _ tk rl hw (fun x s1 u H1 w1 a1 r1 => ?_) (px.px rl.old)
  have rl1 := rl.step a1.st a1.pen
  obtain ⟨m, n, ex, en, w3⟩ := putAt_ok w1
  subst ex
  cases r1
  have fl : Fo G ρ σ l := .inr ⟨i, _, e1, rfl, es⟩
  have st : StepF (Fo G ρ σ) H1 (upd H1 l (.lst (vs.set n v))) := fun a o z w => by
    rw [upd_ne fun y => w (by rw [y]; exact fl)]
    exact z
  have fo2 : ∀ a, Fo G (ρ.set i (.own (.lst (xs.set n d)))) σ a → Fo G ρ σ a := fun a z => by
    rcases z with z | ⟨t, y, t1, ty, t2⟩
    · exact .inl z
    · rcases get_set t1 with ⟨rfl, rfl, _⟩ | ⟨ne, t1⟩
      · exact .inr ⟨_, _, e1, rfl, t2⟩
      · exact .inr ⟨t, y, t1, ty, t2⟩
  have l4 := h4.mono (a1.st.toF rl.fpa) fun _ z => z
  refine ⟨l, vs, m, n, rfl, rfl, a1.st l _ h3 np, by rw [h4.length]; exact en, ?_⟩
  exact q _ _ s1 (rl1.updOwn (y := .own (.lst (xs.set n d))) e1 rfl rfl es ⟨vs.set n v, upd_same, by rw [List.length_set]; exact hz, (l4.set (rv.mono (a1.st.toF rl.fpa) fun _ z => z) n).mono st fun _ z => z⟩) w3 fun v' d' r' => (r'.mono (a1.st.toF rl.fpa) fun _ z => z).mono st fo2
def sStore (i : Nat) (f fv : En) : S := fun k _ _ _ ρ => fv ρ >>= fun d => sPut i f d k ρ
theorem ds_store (i : Nat) {x : Str} {p1 p2 : Pos} (hv : DE X p b g) (he : DE X p e fe) (hp : PG X (.Subscript (.Name x p1) e p2) (gSub (tVar i) (tE X e) rSetL)) (hs : swapsWithSole [.Subscript (.Name x p1) e p2] b pos.line X.env = pure false := by rfl) (hsw : swappedStores [.Subscript (.Name x p1) e p2] b X.env = pure none := by rfl)
    (h1 : (assignEach [.Subscript (.Name x p1) e p2] X.env).map (·.2) = [assign (.Subscript (.Name x p1) e p2) X.env] := by rfl) : DS X p (.Assign [.Subscript (.Name x p1) e p2] b pos) (sStore i fe g) := by
  refine ⟨fun W G H0 ρ σ H s k r bb c R Ex Dn tk rl hw wy px => tS_of (ps_asg pe_self hp hs hsw h1) ?_⟩
  have hw : wpM (g ρ >>= fun d => sPut i fe d k ρ) s R Ex := hw
  rw [wp_bind] at hw
  refine hv.run W G H0 ρ σ H s _ Ex _ tk rl hw (fun d s1 v H1 w1 a1 r1 => ?_) (px.px rl.old)
  exact put_run he tk (rl.step a1.st a1.pen) r1 w1 px fun ρ' H' s' r' w' _ => wy.nx ρ' σ H' s' r' w'
def sStore2 (i : Nat) (f f2 fv fv2 : En) : S := fun k _ _ _ ρ => fv ρ >>= fun d => fv2 ρ >>= fun d2 => sPut i f d (sPut i f2 d2 k) ρ
theorem ds_store2 (i : Nat) {x : Str} {p1 p2 p3 p4 pt pt2 : Pos} {kt k2 : Nat} {e2 b2 : Expr} {fe2 g2 : En} (hv : DE X p b g) (hv2 : DE X p b2 g2) (he : DE X p e fe) (he2 : DE X p e2 fe2)
    (hp : PG X (.Tuple [.Subscript (.Name x p1) e p2, .Subscript (.Name x p3) e2 p4] kt pt) (gTup X.K 2 (gCons (gSub (tVar i) (tE X e) rSetL) (gCons (gSub (tVar i) (tE X e2) rSetL) gNil))))
    (hse : starEach (b :: [b2]) X.env = (false, eval b X.env) :: starEach [b2] X.env := by rfl) (hse2 : starEach (b2 :: []) X.env = (false, eval b2 X.env) :: starEach [] X.env := by rfl)
    (hs : swapsWithSole [.Tuple [.Subscript (.Name x p1) e p2, .Subscript (.Name x p3) e2 p4] kt pt] (.Tuple [b, b2] k2 pt2) pos.line X.env = pure false := by rfl) (hsw : swappedStores [.Tuple [.Subscript (.Name x p1) e p2, .Subscript (.Name x p3) e2 p4] kt pt] (.Tuple [b, b2] k2 pt2) X.env = pure none := by rfl)
    (h1 : (assignEach [.Tuple [.Subscript (.Name x p1) e p2, .Subscript (.Name x p3) e2 p4] kt pt] X.env).map (·.2) = [assign (.Tuple [.Subscript (.Name x p1) e p2, .Subscript (.Name x p3) e2 p4] kt pt) X.env] := by rfl) :
    DS X p (.Assign [.Tuple [.Subscript (.Name x p1) e p2, .Subscript (.Name x p3) e2 p4] kt pt] (.Tuple [b, b2] k2 pt2) pos) (sStore2 i fe fe2 g g2) := by
  refine ⟨fun W G H0 ρ σ H s k r bb c R Ex Dn tk rl hw wy px => tS_of (ps_asg (pe_tup (pa_cons pe_self (pa_cons pe_self pa_nil hse2) hse)) hp hs hsw h1) ?_⟩
  have hw : wpM (g ρ >>= fun d => g2 ρ >>= fun d2 => sPut i fe d (sPut i fe2 d2 k) ρ) s R Ex := hw
  rw [wp_bind] at hw
  refine hv.run W G H0 ρ σ H s _ Ex _ tk rl hw (fun d s1 v H1 w1 a1 r1 => ?_) (px.px rl.old)
  rw [wp_bind] at w1
  have rl1 := rl.step a1.st a1.pen
  refine hv2.run W G H0 ρ σ H1 s1 _ Ex _ tk rl1 w1 (fun d2 s2 v2 H2 w2 a2 r2 => ?_) (px.px rl1.old)
  have rl2 := rl1.step a2.st a2.pen
  refine ⟨by show 2 ≤ sizeLine; decide, fun t ht => ?_⟩
  have sm := same_new (o := .tup [v, v2]) ht
  have st3 := same_step (p := p) sm
  have rl3 := rl2.step st3 (rl2.pen.same sm)
  refine ⟨t, [v, v2], rfl, .inl (.inl upd_same), rfl, v, [v2], rfl, ?_⟩
  refine put_run he tk rl3 ((r1.mono (a2.st.toF rl.fpa) fun _ z => z).mono (st3.toF rl.fpa) fun _ z => z) w2 px fun ρ' H' s' r' w' up => ⟨v2, [], rfl, ?_⟩
  refine put_run he2 tk r' (up _ _ (r2.mono (st3.toF rl.fpa) fun _ z => z)) w' px fun ρ3 H3 s3 r3 w3 _ => ⟨rfl, wy.nx ρ3 σ H3 s3 r3 w3⟩
end
end Say

namespace Say
open L2 PyProof.Rows PySem.Spec PySem

/-! ### making an instance -/
def SpI (K : PySem.W.Frag) (c : Str) (n : Nat) (m : List D → M D) : Sp := fun vs H Q E => ∃ (p : PL) (G : Addr → Prop) (ds : List D) (s : Pen) (x dx : Addr) (H0 : Hp) (ws : List V), vs = .ref x :: ws ∧ H0 x = none ∧ H0 dx = none ∧ dx ≠ x ∧ H = upd (upd H0 dx (.own x)) x (.ins (He.ga K c) dx []) ∧
  (∀ a, p.no a → G a) ∧ G p.ca ∧ (∀ a, G a → ∃ o, H0 a = some o) ∧ PenAt H0 p s ∧ ws.length = n ∧ RepL K p H0 G ws ds ∧
  wpM (m ds) s (fun d s' => ∀ H', Af p H0 H' s' → Rep K p H' G (.ref x) d → Q .non H') (fun c' fs s' => ∀ dx vfs H', Af p H0 H' s' → ExD H' dx vfs → RepF K p H' G vfs fs → E (.ref (He.ga K c')) (some dx) H')
def startI (N : List Str) (c : Str) (ds : List D) : Env := .self c [] :: (ds.map Sl.dat ++ List.replicate (N.length - (ds.length + 1)) .no)
def slSelf : Option Sl → M D
  | some (.self c fs) => pure (.ins c fs)
  | _ => bad
def kSelf (ρ : Env) : M D := slSelf ρ[0]?
def runI (N : List Str) (c : Str) (f : S) (ds : List D) : M D := f kSelf (fun _ => bad) (fun _ => bad) (fun _ => bad) (startI N c ds)
theorem startI_get {N : List Str} {c : Str} {ds : List D} {i : Nat} {x : Sl} (h : (startI N c ds)[i]? = some x) : (i = 0 ∧ x = .self c []) ∨ (∃ j d, i = j + 1 ∧ ds[j]? = some d ∧ x = .dat d) ∨ x = .no := by
  cases i with
  | zero => cases h; exact .inl ⟨rfl, rfl⟩
  | succ j =>
    have h : (ds.map Sl.dat ++ List.replicate (N.length - (ds.length + 1)) Sl.no)[j]? = some x := h
    by_cases hj : j < (ds.map Sl.dat).length
    · rw [List.getElem?_append_left hj, List.getElem?_map] at h
      cases e : ds[j]? with
      | none => rw [e]
          at h; cases h
      | some d => rw [e] at h; cases h; exact .inr (.inl ⟨j, d, rfl, e, rfl⟩)
    · rw [List.getElem?_append_right (by omega)] at h
      exact .inr (.inr (List.eq_of_mem_replicate (List.mem_of_getElem? h)))
section
variable {K : PySem.W.Frag} {p : PL} {G : Addr → Prop} {H0 H : Hp} {s : Pen}
theorem PenAt.swap {p' : PL} (h : PenAt H p s) (e1 : p.pa = p'.pa) (e2 : p.ca = p'.ca) (e3 : p.T = p'.T) : PenAt H p' s := by
  obtain ⟨a, b, d, t⟩ := p
  obtain ⟨a', b', d', t'⟩ := p'
  cases e1
  cases e2
  cases e3
  exact ⟨h.dict, h.cells, h.ok, h.tabs⟩
theorem rel_startI {N : List Str} {c : Str} {ws : List V} {ds : List D} {x dx : Addr} (h1 : H0 x = none) (h2 : H0 dx = none) (h3 : dx ≠ x) (gpa : ∀ a, p.no a → G a) (gca : G p.ca) (gex : ∀ a, G a → ∃ o, H0 a = some o) (pn : PenAt H0 p s) (r : RepL K p H0 G ws ds) :
    Rel K { p with sx := x } G H0 (startI N c ds) (L2.start N (.ref x :: ws)) (upd (upd H0 dx (.own x)) x (.ins (He.ga K c) dx [])) s := by
  have keep : ∀ a o, H0 a = some o → upd (upd H0 dx (.own x)) x (.ins (He.ga K c) dx []) a = some o := fun a o e => by
    rw [upd_ne (ne_of_none e h1), upd_ne (ne_of_none e h2)]
    exact e
  have ng : ¬ G x := fun z => by
    obtain ⟨o, e⟩ := gex x z
    rw [h1] at e
    cases e
  have only : ∀ (i : Nat) (y : Sl), (startI N c ds)[i]? = some y → y.held = true → i = 0 ∧ y = .self c [] := fun i y e hy => by
    rcases startI_get e with z | ⟨j, d, _, _, z⟩ | z
    · exact z
    · rw [z] at hy; cases hy
    · rw [z] at hy; cases hy
  have fo : ∀ a, Fo G (startI N c ds) (L2.start N (.ref x :: ws)) a → G a ∨ a = x := fun a z => by
    rcases z with z | ⟨i, y, e, hy, e2⟩
    · exact .inl z
    · obtain ⟨rfl, rfl⟩ := only i y e hy
      cases e2
      exact .inr rfl
  refine ⟨by unfold startI L2.start; simp [r.length], fun i d e => ?_, fun i y e hy => ?_, fun i j y z a e hy e2 hz _ _ => ?_, fun a o e _ => keep a o e, ⟨keep _ _ pn.dict, keep _ _ pn.cells, pn.ok, pn.tabs.ext keep⟩, gpa, gca, fun a ha => (gex a ha).elim fun o e => ⟨o, keep a o e⟩, fun i y a e hy e2 => ?_⟩
  · rcases startI_get e with ⟨_, z⟩ | ⟨j, d', rfl, e1, z⟩ | z
    · cases z
    · cases z
      obtain ⟨v, q1, q2⟩ := r.get e1
      refine ⟨v, ?_, ((Rep.swap (p := p) (p' := { p with sx := x }) rfl q2).more (N := fun a => a = x) fun a z => by rw [z]; exact h1).mono (fun a o e _ => keep a o e) fo⟩
      have hl : j < ws.length := (List.getElem?_eq_some_iff.mp q1).1
      show ((V.ref x :: ws).map some ++ List.replicate (N.length - (V.ref x :: ws).length) none)[j + 1]? = _
      rw [List.getElem?_append_left (by rw [List.length_map]; exact Nat.succ_lt_succ hl), List.getElem?_map, List.getElem?_cons_succ, q1]
      rfl
    · cases z
  · obtain ⟨rfl, rfl⟩ := only i y e hy
    exact ⟨x, rfl, h1, rfl, dx, [], upd_same, Nat.zero_le _, .nil⟩
  · rw [(only i y e hy).1, (only j z e2 hz).1]
  · obtain ⟨rfl, rfl⟩ := only i y e hy
    cases e2
    exact ng
end
structure HasI (P : Program) (w : World) (K : PySem.W.Frag) (mg : Str → Option Value) (base : Heap) (k : Nat) (x : Str) (n : Nat) (m : List D → M D) : Prop where
  ex : ∃ (f : Addr) (fd : FuncData) (ps : List Str), Mk K (He.ga K x) f ∧ mg x = some (.ref (He.ga K x)) ∧ Binds K fd ps [] ∧ ps.length = n + 1 ∧ FnG P w K mg base (L2.CX P w) k f fd ps (SpI K x n m)
section
variable {P : Program} {w : World} {K :
    PySem.W.Frag} {mg : Str → Option Value} {base : Heap}
theorem init_has {x : Str} {qual : Str} {st : Stmt} {f : Addr} {fd : FuncData} {N ps : List Str} {k n : Nat} {fS : S} (F : FunD K "__init__" qual (defArgs st) (defBody st) (defScope st) [] [] f fd) (Sc : FnScope N ps (defScope st)) (mk : Mk K (He.ga K x) f) (gm : mg x = some (.ref (He.ga K x))) (hb : Binds K fd ps []) (hn : ps.length = n + 1)
    (body : ∀ (cdv : Value) (A : Around) (outer : List PySem.Env) (s : Shared) (H : Hp) (E : XK) (p : PL), RoomG k (A.deeper (envOfC qual (defScope st) s.heap.objs.size f cdv)) →
      DSs (cxOf (L2.CX P w) P w K mg base N qual (defScope st) f cdv A outer s H E) p (defBody st) fS) : HasI P w K mg base (k + 1) x n (runI N x fS) := by
  refine ⟨⟨f, fd, ps, mk, gm, hb, hn, okG (pr := fun _ => True) F (fun _ _ _ _ => trivial) Sc (fun vs H Q E h => ?_) fun cdv A outer s H vs Q E _ hr h => ⟨_, pss_self, ?_⟩⟩⟩
  · obtain ⟨p, G, ds, s, x', dx, H0, ws, e, _, _, _, _, _, _, _, _, hl, _⟩ := h
    rw [e, List.length_cons, hl, hn]
  · obtain ⟨p, G, ds, sp, x', dx, H0, ws, rfl, h1, h2, h3, rfl, gpa, gca, gex, pn, hl, r, hw⟩ := h
    refine (body cdv A outer s _ E { p with sx := x' } hr).run (fun cls d _ H' => E cls d H') G H0 (startI N x ds) (L2.start N (.ref x' :: ws)) _ sp _ _ _ _ _ _ _ (takes_of rfl rfl rfl rfl) (rel_startI h1 h2 h3 gpa gca gex pn r) hw
      ⟨fun ρ σ H' s' rl w1 => ?_, fun d s' v H' st pn' rp w1 => w1.elim, fun ρ σ H' s' rl w1 => w1.elim, fun ρ σ H' s' rl w1 => w1.elim⟩ fun c fs s' σ dx vfs H' he st pn' xd rf => he dx vfs H' ⟨st, pn'.swap rfl rfl rfl⟩ xd (RepF.swap (K := K) (p := { p with sx := x' }) (p' := p) rfl rf)
    have w1 : wpM (slSelf ρ[0]?) s' (fun d s' => ∀ H', Af p H0 H' s' → Rep K p H' G (.ref x') d → Q .non H') _ := w1
    cases e0 : ρ[0]? with
    | none => rw [e0] at w1; exact w1.elim
    | some y =>
      rw [e0] at w1
      cases y with
      | self c fs =>
        obtain ⟨a, q1, q2, q3, dx', vfs, q4, q5, q6⟩ := rl.own 0 _ e0 rfl
        cases q3
        exact w1 H' ⟨rl.old, rl.pen.swap rfl rfl rfl⟩ (.ins q4 (rl.gne 0 _ _ e0 rfl q1) ((RepF.swap (K := K) (p := { p with sx := x' }) (p' := p) rfl q6).mono (fun _ _ z _ => z) fun _ z => .inl z))
      | _ => exact w1.elim
end
section
variable {X : Cx} {p : PL} {e a b : Expr} {es : List Expr} {f g fe : Env → M D} {fs : List (Env → M D)} {pos pos' : Pos} {k n : Nat} {x : Str} {m : List D → M D}
theorem run_makeS {CX : CXT} {C f : Addr} {fd : FuncData} {ps : List Str} {sp : Sp} {E : XK} {pins : List (Addr × Obj)} {σ : L2.St} {H : Hp} {s : Shared} {Q : VK} {us : List Value} {vs : List V} (mk : Mk X.K C f) (F : FnG X.prog X.w X.K X.mg X.base CX k f fd ps sp) (hr : RoomG (k + 1) X.A) (hb : Binds X.K fd ps []) (hx : PassesAt CX X σ E)
    (I : Inv X pins σ H s) (r : Vals vs us) (h : ∀ x dx, H x = none → H dx = none → dx ≠ x → sp (.ref x :: vs) (upd (upd H dx (.own x)) x (.ins C dx [])) (fun v H2 => v = .non ∧ Q (.ref x) H2) E) : wpAny (model X.prog X.w) X.A (call (.ref C) us) (EP X pins σ Q) X.xe s := by
  let q := s.heap.objs.size
  have wish := h (q + 1) q (I.hok.fresh (Nat.le_succ q)) (I.hok.fresh (Nat.le_refl q)) (Nat.ne_of_lt (Nat.lt_succ_self q))
  have J := Inv.made (C := C) I
  have rr : Vals (V.ref (q + 1) :: vs) (Value.ref (q + 1) :: us) := .cons rfl r
  have len : (Value.ref (q + 1) :: us).length = ps.length := rr.length.symm.trans (F.len _ _ _ _ wish)
  have bnd := hb _ (Value.ref (q + 1) :: us) J.kIn (by rw [List.append_nil]; exact len)
  rw [List.append_nil] at bnd
  refine wpAny_call (make_map (f := f) I.kIn mk.makes mk.init (beq_iff_eq.mp mk.fn) (codeAny_mono (F.run _ X.stack _ _ ⟨Value.ref (q + 1) :: us, []⟩ (Value.ref (q + 1) :: us) _ _ E (hr.make C us []) (J.env0.make C us []) bnd rr wish) fun res s' got => ?_))
  match res, got with
  | .error e, got => exact hx pins _ _ e s' J got
  | .ok (.ret u), got =>
    obtain ⟨v, H', J', rv, ev, fin⟩ := J.after got
    subst ev
    exact ⟨rv, ⟨V.ref (q + 1), H', J', rfl, fin⟩⟩
  | .ok .next, got => exact False.elim got
  | .ok .brk, got => exact False.elim got
  | .ok .cont, got => exact False.elim got
theorem de_make (h : HasI X.prog X.w X.K X.mg X.base k x n m) (hr : RoomG (k + 1) X.A) (ha : DA X p (e :: es) fs) (hn : fs.length = n := by rfl) (hg : Gl X x := by rfl) (hdb : (x == ("__debug__" : Str)) = false := by decide)
    (he : starEach (e :: es) X.env = (false, eval e X.env) :: starEach es X.env := by rfl) (hpl : (backTo pos (starEach es X.env)).any (·.1) = false := by rfl) : DE X p (.Call (.Name x pos') (e :: es) [] pos) (fun ρ => seqA fs ρ m) := by
  obtain ⟨f, fd, ps, mk, gm, hb, hl, F⟩ := h.ex
  refine ⟨fun W G H0 ρ σ H s R Ex Q tk rl hw q px => ?_⟩
  refine fun pins sh I => wpAny_Call_Name_kw (ld_glob I hg gm ?_ hdb)
  have args := ha.run D m W G H0 ρ σ H s R Ex (fun vs H1 => ∀ x' dx, H1 x' = none → H1 dx = none → dx ≠ x' → SpI X.K x n m (.ref x' :: vs) (upd (upd H1 dx (.own x')) x' (.ins (He.ga X.K x) dx [])) (fun v H2 => v = .non ∧ Q (.ref x') H2) (fun c d H' => W c d σ H')) tk rl hw (fun ds s1 vs H1 h1 a1 r1 en x' dx n1 n2 n3 => ?_) px
  · refine PySem.W.callWith_K (h₀ := X.base) I.ok.mod.kin mk.kp (thn (args pos pins sh I) fun us s1 ⟨vs, H1, I1, r, q⟩ => ⟨I1.kIn, ?_⟩) he hpl
    exact run_makeS mk F hr hb (passAt tk σ) I1 r q
  · have rl1 := rl.step a1.st a1.pen
    refine ⟨p, Fo G ρ σ, ds, s1, x', dx, H1, vs, rfl, n1, n2, n3, rfl, rl.fpa, .inl rl.gca, fun a ha => ?_, a1.pen, by rw [r1.length, en, hn], r1, ?_⟩
    · cases z : H1 a with
      | some o => exact ⟨o, rfl⟩
      | none => exact (rl1.fresh z ha).elim
    · refine wp_mono (R := R) (Ex := Ex) ?_ (fun d s2 hR => ?_) fun c fs s2 hE dx' vfs H2 a2 x2 r2 => px c fs s2 dx' vfs H2 hE (a1.trans a2) x2 (r2.mono (fun _ _ z _ => z) fun _ z => .inl z)
      · exact h1
      · exact fun H2 a2 r2 => ⟨rfl, q d s2 _ H2 hR (a1.trans a2) r2⟩
/-! ### self.f = e -/
def selfPut (cs : List Str) (f : Str) (d : D) (k : Env → M D) (ρ : Env) : Option Sl → M D
  | some (.self c vs) => if cs.contains c = true ∧ vs.length < 900 then k (ρ.set 0 (.self c (putD f d vs))) else bad
  | _ => bad
def sFldS (cs : List Str) (f : Str) (fe : En) : S := fun k _ _ _ ρ => fe ρ >>= fun d => selfPut cs f d k ρ ρ[0]?
theorem putF_len (f : Str) (v : V) : ∀ vs : List (Str × V), (putF f v vs).length ≤ vs.length + 1
  | [] => Nat.le_refl _
  | (g, x) :: r => by
    show (if g = f then (g, v) :: r else (g, x) :: putF f v r).length ≤ _
    by_cases e : g = f
    · rw [if_pos e]
      exact Nat.le_succ _
    · rw [if_neg e]
      exact Nat.succ_le_succ (putF_len f v r)
theorem ds_fld {cs fsn : List Str} {f : Str} {y : Str} {p1 p2 : Pos} (kl : Kls X.K cs fsn) (he : DE X p e fe) (hx : fsn.contains f = true := by decide +kernel) (hp : PE X (.Name y p1) (tVar 0) := by exact pv _) (hs : swapsWith e (some (.Attribute (.Name y p1) f p2)) pos.line X.env = pure false := by rfl) :
    DS X p (.Assign [.Attribute (.Name y p1) f p2] e pos) (sFldS cs f fe) := by
  refine ⟨fun W G H0 ρ σ H s k r b c R Ex Dn tk rl hw wy px => tS_of (ps_fld hp pe_self hs) ?_⟩
  have hw : wpM (fe ρ >>= fun d => selfPut cs f d k ρ ρ[0]?) s R Ex := hw
  rw [wp_bind] at hw
  refine he.run W G H0 ρ σ H s _ Ex _ tk rl hw (fun d s1 v H1 h1 a1 r1 => ?_) (px.px rl.old)
  have rl1 := rl.step a1.st a1.pen
  cases e0 : ρ[0]? with
  | none => rw [e0] at h1; exact h1.elim
  | some z =>
    rw [e0] at h1
    cases z with
    | self c vs =>
      have h1 : wpM (if cs.contains c = true ∧ vs.length < 900 then k (ρ.set 0 (.self c (putD f d vs))) else bad) s1 R Ex := h1
      by_cases hc : cs.contains c = true ∧ vs.length < 900
      case neg => rw [if_neg hc] at h1; exact h1.elim
      rw [if_pos hc] at h1
      obtain ⟨hcl, hno⟩ := kl c (by simpa using hc.1)
      obtain ⟨a, q1, q2, q3, dx, ws, q4, q5, q6⟩ := rl1.own 0 _ e0 rfl
      refine ⟨_, q1, a, _, dx, ws, rfl, q4, hcl, hno f (by simpa using hx), by omega, ?_⟩
      have fa : Fo G ρ σ a := .inr ⟨0, _, e0, rfl, q1⟩
      refine wy.nx _ σ _ s1 (rl1.updOwn (y := .self c (putD f d vs)) e0 rfl rfl q1 ⟨q3, dx, putF f v ws, upd_same, ?_, ?_⟩) h1
      · have := putF_len f v ws
        have := q6.length
        omega
      · refine (q6.put r1).mono (fun b o w n => ?_) fun _ z => z
        rw [upd_ne fun z => n (by rw [z]; exact fa)]
        exact w
    | _ => exact h1.elim
end
end Say

namespace Say
open L2 PyProof.Rows PySem.Spec PySem

/-! ### the pen, by its fields -/
inductive PF where
  | at | dig | cnt | fld
def PF.key : PF → Str
  | .at => "at"
  | .dig => "digits"
  | .cnt => "count"
  | .fld => "fold"
def PF.get : PF → Pen → Int
  | .at, s => (s.pos : Int)
  | .dig, s => s.digits
  | .cnt, s => s.count
  | .fld, s => s.fold
def PF.put : PF → Int → Pen → Pen
  | .at, i, s => { s with pos := i.toNat }
  | .dig, i, s => { s with digits := i }
  | .cnt, i, s => { s with count := i }
  | .fld, i, s => { s with fold := i }
def PF.may : PF → Int → Bool
  | .fld, i => decide (0 ≤ i ∧ i < 2147483563)
  | _, i => decide (0 ≤ i)
def getP (f : PF) : M D := fun s => .ok (.int (f.get s)) s
def putP (f : PF) (i : Int) : M Unit := fun s => .ok () (f.put i s)
def setP (f : PF) : D → M Unit
  | .int i => if f.may i = true then putP f i else bad
  | _ => bad
def isPen : Option Sl → M Unit
  | some (.dat .pen) => pure ()
  | _ => bad
section
variable {X : Cx} {p : PL} {e a b : Expr} {es : List Expr} {f g fe : Env → M D} {pos pos' : Pos} {k : Nat}
theorem isPen_ok {K : PySem.W.Frag} {G : Addr → Prop} {H0 H : Hp} {ρ : Env} {σ : L2.St} {s : Pen} {α : Type} {i : Nat} {k : M α} {R : α → Pen → Prop} {Ex : XR} (rl : Rel K p G H0 ρ σ H s) (h : wpM (isPen ρ[i]? >>= fun _ => k) s R Ex) : σ[i]? = some (some (.ref p.pa)) ∧ wpM k s R Ex := by
  cases e : ρ[i]? with
  | none => rw [e] at h; exact h.elim
  | some y =>
    rw [e] at h
    cases y with
    | dat d =>
      cases d with
      | pen =>
        obtain ⟨v, h1, h2⟩ := rl.dat i _ e
        cases h2
        exact ⟨h1, h⟩
      | _ => exact h.elim
    | _ => exact h.elim
theorem penV (f : PF) (s : Pen) : valV (penKV p s) (.inr f.key) = some (.int (f.get s)) := by
  cases f <;> rfl
theorem penC (s : Pen) : valV (penKV p s) (.inr ("cells" : Str)) = some (.ref p.ca) := rfl
theorem penPut (f : PF) {i : Int} (s : Pen) (h : f.may i = true) : putK (penKV p s) (.inr f.key) (.int i) = penKV p (f.put i s) := by
  cases f with
  | «at» =>
    have h0 : 0 ≤ i := of_decide_eq_true (p := 0 ≤ i) h
    have e : ((i.toNat : Nat) : Int)
        = i := Int.toNat_of_nonneg h0
    show _ = ([(.inr "cells", V.ref p.ca), (.inr "at", .int ((i.toNat : Nat) : Int)), (.inr "digits", .int s.digits), (.inr "count", .int s.count), (.inr "fold", .int s.fold)] : List (Key × V))
    rw [e]
    rfl
  | _ => rfl
def dPen (i : Nat) (f : PF) : En := fun ρ => isPen ρ[i]? >>= fun _ => getP f
def lenP : M D := fun s => .ok (.int (s.cells.length : Int)) s
def dPenLen (i : Nat) : En := fun ρ => isPen ρ[i]? >>= fun _ => lenP
def getCells : M (List Int) := fun s => .ok s.cells s
def cellM : D → M D
  | .int k => getCells >>= fun cs => lift ((L2.atI cs k).map D.int)
  | _ => bad
def dPenCell (i : Nat) (f : En) : En := fun ρ => isPen ρ[i]? >>= fun _ => f ρ >>= cellM
theorem de_pen (i : Nat) {y : Str} {j : Nat} {p1 p2 : Pos} {f : PF} (hr : Room k X.A) (hp : PE X (.Name y p1) (tVar i) := by exact pv _) (hs : NoSl (.Constant (.str f.key) j p2) := by exact fun _ _ => rfl) : DE X p (.Subscript (.Name y p1) (.Constant (.str f.key) j p2) pos) (dPen i f) := by
  refine ⟨fun W G H0 ρ σ H s R Ex Q tk rl hw q px => tE_of (pe_dget (hu_of hr) hp pe_str hs) ?_⟩
  obtain ⟨h1, h2⟩ := isPen_ok rl hw
  refine ⟨_, h1, p.pa, .int (f.get s), rfl, ?_, q (.int (f.get s)) s _ H h2 (.refl rl.pen) (.int _)⟩
  rw [← penV (p := p) f s]
  exact DGet.k (k := .inr f.key) rl.pen.dict
theorem de_penLen (i : Nat) {y : Str} {j : Nat} {p1 p2 p3 p4 : Pos} (hr : Room k X.A) (hm : X.mg "len" = none) (hp : PE X (.Name y p1) (tVar i) := by exact pv _) (hs : NoSl (.Constant (.str "cells") j p2) := by exact fun _ _ => rfl) (hg : Gl X "len" := by rfl)
    (he : starEach [.Subscript (.Name y p1) (.Constant (.str "cells") j p2) p3] X.env = (false, eval (.Subscript (.Name y p1) (.Constant (.str "cells") j p2) p3) X.env) :: starEach [] X.env := by rfl) (hpl : (backTo pos (starEach [] X.env)).any (·.1) = false := by rfl) :
    DE X p (.Call (.Name "len" p4) [.Subscript (.Name y p1) (.Constant (.str "cells") j p2) p3] [] pos) (dPenLen i) := by
  refine ⟨fun W G H0 ρ σ H s R Ex Q tk rl hw q px => tE_of (pe_callB (call_len_seq.or call_len_str) hg hm boot_len (pa_cons (pe_dget (hu_of hr) hp pe_str hs) pa_nil he) (by decide) (by decide) he hpl) ?_⟩
  obtain ⟨h1, h2⟩ := isPen_ok rl hw
  refine ⟨_, h1, p.pa, .ref p.ca, rfl, ?_, ?_⟩
  · rw [← penC (p := p) s]
    exact DGet.k (k := .inr "cells") rl.pen.dict
  · have := q (.int (s.cells.length : Int)) s (.int (s.cells.length : Int)) H h2 (.refl rl.pen) (.int _)
    exact .inl ⟨_, _, rfl, .inl (.inl (.inl rl.pen.cells)), by rw [List.length_map]; exact this⟩
theorem de_penCell (i : Nat) {y : Str} {j : Nat} {p1 p2 p3 : Pos} (hr : Room k X.A) (he : DE X p e f) (hp : PE X (.Name y p1) (tVar i) := by exact pv _) (hs : NoSl (.Constant (.str "cells") j p2) := by exact fun _ _ => rfl) (hs2 : PlainIx e := by exact fun _ _ => rfl) :
    DE X p (.Subscript (.Subscript (.Name y p1) (.Constant (.str "cells") j p2) p3) e pos) (dPenCell i f) := by
  refine ⟨fun W G H0 ρ σ H s R Ex Q tk rl hw q px => tE_of (pe_ix ix_list (pe_dget (hu_of hr) hp pe_str hs) pe_self hs2) ?_⟩
  obtain ⟨h1, h2⟩ := isPen_ok rl hw
  refine ⟨_, h1, p.pa, .ref p.ca, rfl, ?_, ?_⟩
  · rw [← penC (p := p) s]
    exact DGet.k (k := .inr "cells") rl.pen.dict
  · rw [wp_bind] at h2
    refine he.run W G H0 ρ σ H s _ Ex _ tk rl h2 (fun d s1 v H1 w1 a1 r1 => ?_) px
    cases d with
    | int m =>
      cases r1
      have w1 : wpM (lift ((L2.atI s1.cells m).map D.int)) s1 R Ex := w1
      cases ec : L2.atI s1.cells m with
      | none => rw [ec] at w1; exact w1.elim
      | some c =>
        rw [ec] at w1
        refine ⟨p.ca, s1.cells.map V.int, m, .int c, rfl, rfl, .inl (.inl a1.pen.cells), ?_, q (.int c) s1 _ H1 w1 a1 (.int _)⟩
        unfold L2.atI at ec ⊢
        rw [List.length_map]
        cases en : ixN s1.cells.length m with
        | none => rw [en] at ec; cases ec
        | some n =>
          rw [en] at ec
          have ec : s1.cells[n]? = some c := ec
          show (s1.cells.map V.int)[n]? = _
          rw [List.getElem?_map, ec]
          rfl
    | _ => exact w1.elim
def sPenSet (i : Nat) (f : PF) (fe : En) : S := fun k _ _ _ ρ => fe ρ >>= fun d => isPen ρ[i]? >>= fun _ => setP f d >>= fun _ => k ρ
theorem ds_penSet (i : Nat) {y : Str} {j : Nat} {p1 p2 p3 : Pos} {f : PF} (hr : Room k X.A) (he : DE X p e fe) (hp : PE X (.Name y p1) (tVar i) := by exact pv _) (hs : swapsWith e (some (.Subscript (.Name y p1) (.Constant (.str f.key) j p2) p3)) pos.line X.env = pure false := by rfl) :
    DS X p (.Assign [.Subscript (.Name y p1) (.Constant (.str f.key) j p2) p3] e pos) (sPenSet i f fe) := by
  refine ⟨fun W G H0 ρ σ H s k r b c R Ex Dn tk rl hw wy px => tS_of (ps_dput (hu_of hr) hp pe_str pe_self hs) ?_⟩
  have hw : wpM (fe ρ >>= fun d => isPen ρ[i]? >>= fun _ => setP f d >>= fun _ => k ρ) s R Ex := hw
  rw [wp_bind] at hw
  refine he.run W G H0 ρ σ H s _ Ex _ tk rl hw (fun d s1 v H1 w1 a1 r1 => ?_) (px.px rl.old)
  have rl1 := rl.step a1.st a1.pen
  obtain ⟨h1, w2⟩ := isPen_ok rl1 w1
  refine ⟨_, h1, ?_⟩
  cases d with
  | int m =>
    cases r1
    have w2 : wpM ((if f.may m = true then putP f m else bad) >>= fun _ => k ρ) s1 R Ex := w2
    by_cases hm : f.may m = true
    · rw [if_pos hm] at w2
      have w2 : wpM (k ρ) (f.put m s1) R Ex := w2
      refine ⟨p.pa, _, rfl, DPut.k (k := .inr f.key) rl1.pen.dict (by show 5 < sizeLine; decide), ?_⟩
      rw [penPut (p := p) f s1 hm]
      have pn : PenAt (upd H1 p.pa (.dK (penKV p (f.put m s1)))) p (f.put m s1) := by
        refine ⟨upd_same, ?_, ?_, tabs_upd rl1.pen.tabs rl1.pen.dict pln_dK⟩
        · rw [upd_ne rl1.pen.ne]
          have := rl1.pen.cells
          cases f <;> exact this
        · obtain ⟨o1, o2, o3, o4, o5⟩ := rl1.pen.ok
          cases f with
          | «at» => exact ⟨o1, o2, o3, o4, o5⟩
          | dig => exact ⟨o1, of_decide_eq_true (p := 0 ≤ m) hm, o3, o4, o5⟩
          | cnt => exact ⟨o1, o2, of_decide_eq_true (p := 0 ≤ m) hm, o4, o5⟩
          | fld =>
            have q := of_decide_eq_true (p := 0 ≤ m ∧ m < 2147483563) hm
            exact ⟨o1, o2, o3, q.1, q.2⟩
      exact wy.nx ρ σ _ _ (rl1.step (fun a o z n => by rw [upd_ne fun z => n (.inl z)]; exact z) pn) w2
    · rw [if_neg hm] at w2
      exact w2.elim
  | _ => exact w2.elim
/-! ### int(n) -/
def intD : List D → Option D
  | [.int i] => some (.int i)
  | _ => none
theorem de_toInt {fs : List (Env → M D)} (hm : X.mg "int" = none) (ha : DA X p [e] fs) (hg : Gl X "int" := by rfl) (he : starEach (e :: []) X.env = (false, eval e X.env) :: starEach [] X.env := by rfl) (hpl : (backTo pos (starEach [] X.env)).any (·.1) = false := by rfl) :
    DE X p (.Call (.Name "int" pos') [e] [] pos) (fun ρ => seqA fs ρ fun xs => lift (intD xs)) := by
  refine de_callTy call_int1 (fun F H vs ds d Q hp hf r e q => ?_) hm (by decide +kernel) ha hg (by decide) (by decide) he hpl
  unfold intD at e
  split at e
  · cases e
    cases r with
    | cons r1 r2 =>
      cases r2
      cases r1
      exact .inl ⟨_, rfl, q _ H (Same.refl H) (.int _)⟩
  · cases e
end
end Say

namespace Say
open L2 PyProof.Rows PySem.Spec PySem

/-! ### the law's pen is made -/
def foldP (fold cell : Int) : Int := (fold * 59 + cell) % 1000000009
def pen0 (ns : List Int) : Pen := ⟨ns, 0, 0, 0, ns.foldl foldP 0⟩
theorem foldP_range (ns : List Int) : ∀ f : Int, 0 ≤ f ∧ f < 1000000009 → 0 ≤ ns.foldl foldP f ∧ ns.foldl foldP f < 1000000009 := by
  induction ns with
  | nil => exact fun f h => h
  | cons n ns ih => exact fun f h => ih _ ⟨Int.emod_nonneg _ (by decide), Int.emod_lt_of_pos _ (by decide)⟩
theorem pen0_ok {ns : List Int} (h : ns.length ≤ 63) : (pen0 ns).Ok := by
  obtain ⟨h1, h2⟩ := foldP_range ns 0 (by decide)
  exact ⟨h, Int.le_refl _, Int.le_refl _, h1, Int.lt_trans h2 (by decide)⟩
def spPen (K : PySem.W.Frag) : Sp := fun vs H Q _ => ∃ (a : Addr) (ns : List Int), vs = [.ref a] ∧ SqL K H a (ns.map V.int) ∧ ∀ (pa ca : Addr) (H' : Hp), H pa = none → H ca = none → (∀ b o, H b = some o → H' b = some o) → H' pa = some (.dK (penKV ⟨pa, ca, 0, []⟩ (pen0 ns))) → H' ca = some (.lst (ns.map V.int)) → Q (.ref pa) H'
section
variable {X : Cx} {p1 p2 p3 p4 p5 p6 p7 p8 p9 p10 p11 p12 p13 p14 p15 p16 p17 p18 p19 p20 p21 p22 p23 p24 p25 p26 p27 p28 p29 p30 : Pos} {j1 j2 j3 j4 j5 j6 j7 j8 j9 j10 j11 j12 j13 : Nat}
abbrev penBody (p1 p2 p3 p4 p5 p6 p7 p8 p9 p10 p11 p12 p13 p14 p15 p16 p17 p18 p19 p20 p21 p22 p23 p24 p25 p26 p27 p28 p29 p30 p31 : Pos) (j1 j2 j3 j4 j5 j6 j7 j8 j9 j10 j11 j12 : Nat) : List Stmt :=
  [.Assign [.Name "fold" p1] (.Constant (.int 0) j1 p2) p3,
   .For (.Name "cell" p4) (.Name "script" p5) [.Assign [.Name "fold" p6] (.BinOp (.Call (.Name "int" p7) [.BinOp (.BinOp (.Name "fold" p8) .Mult (.Constant (.int 59) j2 p9) p10) .Add (.Name "cell" p11) p12] [] p13) .Mod (.Constant (.int 1000000009) j3 p14) p15) p16] [] p17,
   .Return (some (.Dict [some (.Constant (.str "cells") j4 p18), some (.Constant (.str "at") j5 p19), some (.Constant (.str "digits") j6 p20), some (.Constant (.str "count") j7 p21), some (.Constant (.str "fold") j8 p22)] [.Call (.Name "list" p23) [.Name "script" p24] [] p25, .Constant (.int 0) j9 p26, .Constant (.int 0) j10 p27, .Constant (.int 0) j11 p28, .Name "fold" p29] p30)) p31]
theorem pen_run {H : Hp} {vs : List V} {Dn : Ends} {E : XK} (hN : X.N = (["script", "fold", "cell"] : List Str)) (v0 : Vis X.env.scope "script") (l1 : X.env.scope.names.lookup ("fold" : Str) = some .local) (l2 : X.env.scope.names.lookup ("cell" : Str) = some .local) (g1 : Gl X "int") (g2 : Gl X "list") (m1 : X.mg "int" = none) (m2 : X.mg "list" = none) (hc : X.calm = true) (ps : PassesOwn (model X.prog X.w) X.A X.env X.xe)
    (h : spPen X.K vs H Dn.rt E) {p31 : Pos} {P : List Stmt} (hP : P = penBody p1 p2 p3 p4 p5 p6 p7 p8 p9 p10 p11 p12 p13 p14 p15 p16 p17 p18 p19 p20 p21 p22 p23 p24 p25 p26 p27 p28 p29 p30 p31 j1 j2 j3 j4 j5 j6 j7 j8 j9 j10 j11 j12) : tSs X P Dn (L2.start ["script", "fold", "cell"] vs) H := by
  obtain ⟨a, ns, rfl, sq, q⟩ := h
  have nd : X.N.Nodup := by rw [hN]; decide
  have i0 : X.N[0]? = some ("script" : Str) := by rw [hN]; rfl
  have i1 : X.N[1]? = some ("fold" : Str) := by rw [hN]; rfl
  have i2 : X.N[2]? = some ("cell" : Str) := by rw [hN]; rfl
  have e1 : PE X (.Name "fold" p8) (tVar 1) := pe_var i1 (.inl l1)
  rw [hP]
  refine tSs_of (pss_cons ps_self (pss_cons ps_self (pss_one ps_self))) ?_
  refine tS_of (ps_set (i := 1) nd i1 (.inl l1) pe_int rfl (.inr l1)) ?_
  show tS X _ _ [some (.ref a), some (.int 0), none] H
  refine tS_of (ps_for ps hc pi_self pg_self pss_self (by intro _; rfl)) (tI_of pi_seq (tE_of (pe_var i0 v0) ⟨_, rfl, .inl ⟨a, _, rfl, sq, ?_⟩⟩))
  refine ⟨fun i m σ Hc => m = ns.length - i ∧ i ≤ ns.length ∧ Hc = H ∧ ∃ o, σ = [some (.ref a), some (.int ((ns.take i).foldl foldP 0)), o], ⟨ns.length, rfl, Nat.zero_le _, rfl, none, rfl⟩, ?_⟩
  rintro i m σ Hc ⟨rfl, hi, eH, o, rfl⟩
  subst eH
  by_cases hlt : i < ns.length
  · have ei : (ns.map V.int)[i]? = some (.int ns[i]) := by rw [List.getElem?_map, List.getElem?_eq_getElem hlt]; rfl
    refine .inr ⟨⟨_, _, sq, ei⟩, fun σ' H' => H' = Hc ∧ ∃ o, σ' = [some (.ref a), some (.int ((ns.take (i + 1)).foldl foldP 0)), o], fun σ' H' ⟨e1, o, e2⟩ => ⟨_, by omega, rfl, hlt, e1, o, e2⟩, fun x Hy y => ?_⟩
    obtain ⟨rfl, y2⟩ := y
    have := y2 _ sq
    rw [ei] at this
    cases this
    refine tG_of (pg_name (i := 2) nd i2 (.inl l2) (.inr l2)) ?_
    show tSs X _ _ [some (.ref a), some (.int ((ns.take i).foldl foldP 0)), some (.int ns[i])] _
    refine tSs_of (pss_one (ps_set (i := 1) nd i1 (.inl l1) (pe_op op_mod (pe_callTy call_int1 g1 m1 (by decide +kernel) (pa_cons (pe_op op_add (pe_op op_mul e1 pe_int) (pe_var i2 (.inl l2))) pa_nil)) pe_int) rfl (.inr l1))) ?_
    have step : (ns.take (i + 1)).foldl foldP 0 = foldP ((ns.take i).foldl foldP 0) ns[i] := by
      rw [List.take_succ_eq_append_getElem hlt, List.foldl_append]
      rfl
    refine ⟨_, rfl, _, _, rfl, rfl, .inr ⟨by decide, by decide⟩, _, rfl, _, _, rfl, rfl, .inl ⟨_, rfl, _, _, rfl, rfl, (by decide : (0 : Int) < 1000000009), ?_⟩⟩
    refine ⟨rfl, some (.int ns[i]), ?_⟩
    rw [step]
    rfl
  · have ei : i = ns.length := by omega
    subst ei
    rw [List.take_length]
    refine .inl ⟨⟨_, sq, by rw [List.length_map]; exact Nat.le_refl _⟩, ?_⟩
    refine tS_of (ps_ret (pe_disp (pps_cons pe_str (pe_callTy call_list_of g2 m2 (by decide +kernel) (pa_cons (pe_var i0 v0) pa_nil)) (pps_cons pe_str pe_int (pps_cons pe_str pe_int (pps_cons pe_str pe_int (pps_cons pe_str (pe_var i1 (.inl l1)) pps_nil))))) rfl rfl (fun z => by cases z) (by show 5 ≤ 15; decide))) ?_
    intro pa n1
    have up : ∀ b o, Hc b = some o → upd Hc pa (.dK []) b = some o := fun b o e => by rw [upd_ne (ne_of_none e n1)]; exact e
    have sq2 : SqL X.K (upd Hc pa (.dK [])) a (ns.map V.int) := by
      rcases sq with (e | ⟨o, e⟩) | z
      · exact .inl (.inl (up _ _ e))
      · exact .inl (.inr ⟨o, up _ _ e⟩)
      · exact .inr z
    refine ⟨_, rfl, a, _, rfl, .inl sq2, fun ca n2 => ?_⟩
    have ne : pa ≠ ca := fun z => by rw [← z, upd_same] at n2; cases n2
    have n3 : Hc ca = none := by rw [upd_ne (Ne.symm ne)] at n2; exact n2
    refine ⟨_, rfl, ?_⟩
    refine ⟨by rw [upd_ne ne]; exact upd_same, penKV ⟨pa, ca, 0, []⟩ (pen0 ns), rfl, by show 5 ≤ 15; decide, ?_⟩
    refine q pa ca _ n1 n3 (fun b o e => ?_) upd_same ?_
    · rw [upd_ne (ne_of_none e n1), upd_ne (ne_of_none e n3)]
      exact up b o e
    · rw [upd_ne (Ne.symm ne)]
      exact upd_same
end
end Say

namespace Say
open L2 PyProof.Rows PySem.Spec PySem

/-! ### the law from its pen on -/
def envL (N : List Str) : Env := .no :: .dat .pen :: List.replicate (N.length - 2) .no
def runL (N : List Str) (f : S) : M D := f (fun _ => pure .non) pure (fun _ => bad) (fun _ => bad) (envL N)
def spLawT (K : PySem.W.Frag) (T : List (Addr × Str)) : Sp := fun vs H Q _ => ∃ (a : Addr) (ns : List Int), vs = [.ref a] ∧ SqL K H a (ns.map V.int) ∧ ns.length ≤ 63 ∧ LamX.Tabs T H ∧ ∀ v H', v = .bl true → Q v H'
abbrev spLaw (K : PySem.W.Frag) : Sp := spLawT K []
section
variable {P : Program} {w : World} {K :
    PySem.W.Frag} {mg : Str → Option Value} {base : Heap}
theorem pen_has {st : Stmt} {f : Addr} {fd : FuncData} {CX : CXT} (F : FunD K "_law_pen" "_law_pen" (defArgs st) (defBody st) (defScope st) [] [] f fd) (Sc : FnScope ["script", "fold", "cell"] ["script"] (defScope st))
    (run : ∀ (cdv : Value) (A : Around) (outer : List PySem.Env) (s : Shared) (H : Hp) (E : XK) (vs : List V) (Dn : Ends), spPen K vs H Dn.rt E → tSs (cxOf CX P w K mg base ["script", "fold", "cell"] "_law_pen" (defScope st) f cdv A outer s H E) (defBody st) Dn (L2.start ["script", "fold", "cell"] vs) H) : FnOk P w K mg base CX 1 f fd ["script"] (spPen K) := by
  refine F.ok Sc (fun vs H Q E h => ?_) fun cdv A outer s H vs Q E hr h => ⟨_, pss_self, run cdv A outer s H E vs _ h⟩
  obtain ⟨a, ns, rfl, _⟩ := h
  rfl
theorem law_has {st : Stmt} {f fp : Addr} {fd fdp : FuncData} {N more : List Str} {k : Nat} {fS : S} {rest : List Stmt} {p1 p2 p3 p4 p5 : Pos} {T : List (Addr × Str)} (pr : Value → Prop) (F : FunD K "law" "law" (defArgs st) (defBody st) (defScope st) [] [] f fd) (Sc : FnScope N ["script"] (defScope st)) (hp : ∀ oc od osl, K.lookup f = some ⟨oc, od, .func fd, osl⟩ → pr fd.code) (eN : N = ("script" : Str) :: ("pen" : Str) :: more)
    (FP : FnOk P w K mg base (L2.CX P w) 1 fp fdp ["script"] (spPen K)) (gP : mg "_law_pen" = some (.ref fp)) (kP : PySem.W.keepIn K (.ref fp) = true) (bP : Binds K fdp ["script"] [])
    (split : defBody st = .Assign [.Name "pen" p1] (.Call (.Name "_law_pen" p2) [.Name "script" p3] [] p4) p5 :: rest)
    (fact : ∀ (cdv : Value) (A : Around) (outer : List PySem.Env) (s : Shared) (H : Hp) (E : XK), let X := cxOf (L2.CX P w) P w K mg base N "law" (defScope st) f cdv A outer s H E
      Vis X.env.scope "script" ∧ L2.Loc X.env.scope "pen" ∧ (X.fn "pen" = true ∨ X.env.scope.names.lookup ("pen" : Str) = some .local) ∧ Gl X "_law_pen")
    (body : ∀ (cdv : Value) (A : Around) (outer : List PySem.Env) (s : Shared) (H : Hp) (E : XK) (p : PL), pr cdv → p.T = T → RoomG (k + 1) (A.deeper (envOfC "law" (defScope st) s.heap.objs.size f cdv)) →
      DSs (cxOf (L2.CX P w) P w K mg base N "law" (defScope st) f cdv A outer s H E) p rest fS)
    (main : ∀ ns : List Int, ns.length ≤ 63 → wpM (runL N fS) (pen0 ns) (fun d _ => d = .bl true) fun _ _ _ => False) : FnG P w K mg base (L2.CX P w) (k + 2) f fd ["script"] (spLawT K T) := by
  refine okG (pr := pr) F hp Sc (fun vs H Q E h => ?_) fun cdv A outer s H vs Q E hpr hr h => ⟨_, pss_self, ?_⟩
  · obtain ⟨a, ns, rfl, _⟩ := h
    rfl
  · obtain ⟨a, ns, rfl, sq, hl, hTb, q⟩ := h
    obtain ⟨f1, f2, f2', f3⟩ := fact cdv A outer s H E
    have nd : (cxOf (L2.CX P w) P w K mg base N "law" (defScope st) f cdv A outer s H E).N.Nodup := Sc.nd
    have i0 : (cxOf (L2.CX P w) P w K mg base N "law" (defScope st) f cdv A outer s H E).N[0]? = some ("script" : Str) := by show N[0]? = _; rw [eN]; rfl
    have i1 : (cxOf (L2.CX P w) P w K mg base N "law" (defScope st) f cdv A outer s H E).N[1]? = some ("pen" : Str) := by show N[1]? = _; rw [eN]; rfl
    have tk : Takes (cxOf (L2.CX P w) P w K mg base N "law" (defScope st) f cdv A outer s H E) (fun cls d _ H' => E cls d H') := takes_of rfl rfl rfl rfl
    rw [split]
    refine tSs_of (pss_cons ps_self pss_self) ?_
    refine tS_of (ps_set (i := 1) nd i1 f2 (pe_callS FP (hr.toRoom.mono (by omega)) f3 gP kP bP (fun σ => passAt tk σ) (pa_cons (pe_var i0 f1) pa_nil)) rfl f2') ?_
    refine ⟨_, by rw [eN]; rfl, a, ns, rfl, sq, fun pa ca H' n1 n2 old e1 e2 => ?_⟩
    have pn : PenAt H' ⟨pa, ca, 0, T⟩ (pen0 ns) := ⟨e1, e2, pen0_ok hl, hTb.ext old⟩
    have no : ∀ (i : Nat) (x : Sl), (envL N)[i]? = some x → (i = 1 ∧ x = .dat .pen) ∨ x = .no := fun i x e => by
      match i, e with
      | 0, e => cases e; exact .inr rfl
      | 1, e => cases e; exact .inl ⟨rfl, rfl⟩
      | i + 2, e => exact .inr (List.eq_of_mem_replicate (List.mem_of_getElem? (show (List.replicate (N.length - 2) Sl.no)[i]? = some x from e)))
    have noh : ∀ (i : Nat) (x : Sl), (envL N)[i]? = some x → x.held = true → False := fun i x e hx => by
      rcases no i x e with ⟨_, z⟩ | z
      · rw [z] at hx; cases hx
      · rw [z] at hx; cases hx
    have rl : Rel K ⟨pa, ca, 0, T⟩ (fun b => b = pa ∨ b = ca ∨ b ∈ T.map (·.1)) H' (envL N) ((L2.start N [.ref a]).set 1 (some (.ref pa))) H' (pen0 ns) := by
      refine ⟨?_, fun i d e => ?_, fun i x e hx => (noh i x e hx).elim, fun i j x y b e hx => (noh i x e hx).elim, .refl, pn, fun b z => z.elim .inl fun m => .inr (.inr m), .inr (.inl rfl), fun b hb => ?_, fun i x b e hx => (noh i x e hx).elim⟩
      · rw [List.length_set, eN]
        unfold envL L2.start
        simp
      · rcases no i _ e with ⟨rfl, z⟩ | z
        · cases z
          refine ⟨.ref pa, ?_, .pen (p := ⟨pa, ca, 0, T⟩)⟩
          rw [eN]
          rfl
        · cases z
      · rcases hb with rfl | rfl | hb
        · exact ⟨_, e1⟩
        · exact ⟨_, e2⟩
        · exact pn.noEx (.inr hb)
    refine (body cdv A outer s H E ⟨pa, ca, 0, T⟩ hpr rfl hr).run (fun cls d _ H' => E cls d H') _ H' (envL N) _ H' (pen0 ns) _ _ _ _ _ _ _ tk rl (main ns hl) ⟨fun ρ σ H2 s2 r2 w2 => ?_, fun d s2 v H2 st pn2 rp w2 => ?_, fun ρ σ H2 s2 r2 w2 => w2.elim, fun ρ σ H2 s2 r2 w2 => w2.elim⟩ fun c fs s2 σ dx vfs H2 z => z.elim
    · cases (show D.non = .bl true from w2)
    · have e : d = .bl true := w2
      subst e
      exact q v H2 (bl_of rp)
end
/-! ### what the head tells -/
def kitChk (cs : List Str) (Ts : List String) (K : PySem.W.Frag) : Bool :=
  (cs.all fun c => He.eqO (PySem.W.findIn K (.ref (He.ga K c)) "__class__") (some (some (.builtin "object.__class__"))) && (decide (PySem.W.takesIn K (.builtin "object.__class__") = some true) && decide (PySem.W.mroIn K (He.ga K c) (.type "object") = some true))) &&
  (He.eqO (PySem.W.specialIn K (.builtin "object.__class__") "__get__") (some (some (.builtin "getset_descriptor.__get__"))) &&
  ((cs.all fun c => cs.all fun c' => decide (PySem.W.kitOne K (.ref (He.ga K c)) (.ref (He.ga K c')) = some (c == c'))) &&
  ((cs.all fun c => Ts.all fun T => decide (PySem.W.kitOne K (.ref (He.ga K c)) (.type T) = some false)) &&
  ((tyNames.all fun T => cs.all fun c => decide (PySem.W.kitOne K (.type T) (.ref (He.ga K c)) = some false)) &&
  (tyNames.all fun T => Ts.all fun T' => decide (kitB T T' = some (subT T T')))))))
theorem kit_of_chk {cs : List Str} {Ts : List String} {K : PySem.W.Frag} (h : kitChk cs Ts K = true) (hc : ∀ c ∈ cs, Cls K (He.ga K c)) : Kit K cs Ts := by
  obtain ⟨h1, h⟩ := He.ba h
  obtain ⟨h2, h⟩ := He.ba h
  obtain ⟨h3, h⟩ := He.ba h
  obtain ⟨h4, h⟩ := He.ba h
  obtain ⟨h5, h6⟩ := He.ba h
  refine ⟨fun c m => ?_, fun c m c' m' => ?_, fun c m T mT => ?_, fun T mT c m => ?_, fun T mT T' mT' => ?_⟩
  · obtain ⟨q1, q2⟩ := He.ba (List.all_eq_true.mp h1 c m)
    obtain ⟨q3, q4⟩ := He.ba q2
    exact ⟨hc c m, He.eqO_ok q1, He.eqO_ok h2, of_decide_eq_true q3, of_decide_eq_true q4⟩
  · exact of_decide_eq_true (List.all_eq_true.mp (List.all_eq_true.mp h3 c m) c' m')
  · exact of_decide_eq_true (List.all_eq_true.mp (List.all_eq_true.mp h4 c m) T mT)
  · exact of_decide_eq_true (List.all_eq_true.mp (List.all_eq_true.mp h5 T mT) c m)
  · exact of_decide_eq_true (List.all_eq_true.mp (List.all_eq_true.mp h6 T mT) T' mT')
abbrev ObE : Type := Bool × He.AlD
def obsE (n : Nat) (chk : PySem.W.Frag → Bool) (fa : List He.Fa) (fn : List He.DefD) (g : Addr → Option Obj) : ObE := (chk (He.frG g (He.asD g n)), He.obsD fa fn (He.frG g (He.asD g n)))
def SaysE (chk : PySem.W.Frag → Bool) (fa : List He.Fa) (fn : List He.DefD) (K : PySem.W.Frag) : Prop := chk K = true ∧ He.SaysD fa fn K
def hookE (n : Nat) (chk : PySem.W.Frag → Bool) (fa : List He.Fa) (fn : List He.DefD) : PySem.W.Hook where
  α := ObE
  obs := fun s => obsE n chk fa fn s.heap.get?
  val := fun _ => (true, He.valD fn)
  says := fun _ h => ∃ K : PySem.W.Frag, K.In h ∧ SaysE chk fa fn K
  of := fun _ _ e => ⟨_, He.frG_in, congrArg (fun z : ObE => z.1) e, congrArg (fun z : ObE => z.2) e⟩
  keeps := fun _ _ _ ⟨K, inK, c⟩ k => ⟨K, PySem.W.Frag.In.keeps inK k, c⟩
theorem obsE_eq {n : Nat} {chk : PySem.W.Frag → Bool} {fa : List He.Fa} {fn : List He.DefD} {g : Addr → Option Obj} {s : Shared} (h : ∀ a, g a = s.heap.get? a) : obsE n chk fa fn g = (hookE n chk fa fn).obs s := by
  have e : g =
      s.heap.get? := funext h
  subst e
  rfl
/-! ### the end -/
theorem cx_never {P : Program} {w : World} (H : Hp) (s : Shared) (e : Value) (s' : Shared) (h : L2.CX P w [] H s (fun _ _ _ => False) e s') : False := by
  obtain ⟨_, _, _, _, _, _,
      _, _, _, _, _, _, z⟩ := h
  exact z
theorem walkE {l : PySem.W.OpenLaw} {n k : Nat} {q : Program} {loose : List Str} {XP : (Str → Option Value) → Heap → Prop} {YP : World → Heap → Prop} {d : DefRec} {x : Str}
    (hn : l.most = some n) (hn2 : n ≤ sizeLine) (hdf
        : d.params.defaults = []) (hr : Room k callerA)
    (F : ∀ (w : World) (mg : Str → Option Value) (fa : Addr) (h :
        Heap), YP w h → h.Ns mainGlobals mg → mg d.name = some (.ref fa) →
      ∃ (K : PySem.W.Frag) (fd : FuncData) (sp : Sp), K.In h ∧ (∀ (s : Shared) (u : Value), BindsTo s fd ⟨[u], []⟩ [(x, u)]) ∧ (∀ (H : Hp) (a : Addr) (ns : List Int), ns.length ≤ n → Only H → SqL K H a (ns.map V.int) → sp [.ref a] H (fun v _ => v = .bl true) fun _ _ _ => False) ∧
        ∀ base : Heap, K.In base → base.Ns mainGlobals mg → FnOk l.prog w K mg base (L2.CX l.prog w) k fa fd [x] sp) : PySem.W.WalkO q loose XP YP l.row.toRowW d [] (fun f vs => PySem.call f vs) := by
  refine Att.attach_call hn hdf fun w s0 s1 mg mb fa o pm cd doc a vs ns G Y ho hd hcd hmg hobj hints hlen hg => ?_
  obtain ⟨K, fd, sp, inK, bnd, hsp, hF⟩ := F w mg fa _ Y G.T.g hmg
  exact law_call inK G.T.g G.T.b G.T.builtins G.T.nolimit hg hobj hints (Nat.le_trans hlen hn2) hr hF bnd (fun H hO hS => hsp H a ns hlen hO hS) fun H e s' => cx_never H s1 e s'
end Say

namespace Say
open L2 PyProof.Rows PySem.Spec PySem

/-! ### plain facts of the mirrors -/
def ti (xs : List Int) : D := .tup (xs.map D.int)
theorem toPyL_map {α : Type} (f : α → D) : ∀ xs : List α, toPyL (xs.map f) = xs.map fun a => (f a).toPy
  | [] => rfl
  | x :: xs => by
    show (f x).toPy :: toPyL (xs.map f) = _
    rw [toPyL_map f xs]
    rfl
theorem eqV_int (i j : Int) : eqV (.int i) (.int j) = decide (i = j) := by
  show PyData.eqv (.int i) (.int j) = _
  simp [PyData.eqv]
  rfl
def eqL : List D → List D → Bool
  | [], [] => true
  | x :: xs, y :: ys => eqV x y && eqL xs ys
  | _, _ => false
theorem eqvAll_eqL : ∀ xs ys : List D, PyData.eqvAll (toPyL xs) (toPyL ys) = eqL xs ys
  | [], [] => rfl
  | x :: xs, y :: ys => by
    show PyData.eqvAll (x.toPy :: toPyL xs) (y.toPy :: toPyL ys) = (eqV x y && eqL xs ys)
    rw [PyData.eqvAll, eqvAll_eqL xs ys]
    rfl
  | [], _ :: _ => rfl
  | _ :: _, [] => rfl
theorem eqV_tup (xs ys : List D) : eqV (.tup xs) (.tup ys) = eqL xs ys := by
  show PyData.eqv (.tuple (toPyL xs)) (.tuple (toPyL ys)) = _
  rw [PyData.eqv, eqvAll_eqL]
theorem eqV_lst (xs ys : List D) : eqV (.lst xs) (.lst ys) = eqL xs ys := by
  show PyData.eqv (.list (toPyL xs)) (.list (toPyL ys)) = _
  rw [PyData.eqv, eqvAll_eqL]
theorem eqL_map {α : Type} (f : α → D) (inj : ∀ a b, eqV (f a) (f b) = true ↔ a = b) : ∀ xs ys : List α, eqL (xs.map f) (ys.map f) = true ↔ xs = ys
  | [], [] => by simp [eqL]
  | x :: xs, y :: ys => by
    show (eqV (f x) (f y) && eqL (xs.map f) (ys.map f)) = true ↔ _
    rw [Bool.and_eq_true, inj, eqL_map f inj xs ys, List.cons.injEq]
  | [], _ :: _ => by simp [eqL]
  | _ :: _, [] => by simp [eqL]
theorem eqV_ti (xs ys : List Int) : eqV (ti xs) (ti ys) = true ↔ xs = ys := by
  unfold ti
  rw [eqV_tup]
  exact eqL_map D.int (fun a b => by rw [eqV_int]; exact decide_eq_true_iff) xs ys
theorem plainL_map {α : Type} {n : Nat} (f : α → D) (h : ∀ a, (f a).plainN n = true) : ∀ xs : List α, plainL n (xs.map f) = true
  | [] => by simp [plainL]
  | x :: xs => by simp [plainL, h x, plainL_map f h xs]
theorem plain_int (n : Nat) (i : Int) : (D.int i).plainN n = true := by simp [D.plainN]
theorem plain_ti (n : Nat) (xs : List Int) : (ti xs).plainN (n + 1) = true := by
  simp only [ti, D.plainN]
  exact plainL_map D.int (plain_int n) xs
theorem plain_prD (n : Nat) (x : Int × Int) : (prD x).plainN (n + 1) = true := plain_ti n [x.1, x.2]
theorem eqV_prD (x y : Int × Int) : eqV (prD x) (prD y) = true ↔ x = y := by
  rw [show prD x = ti [x.1, x.2] from rfl, show prD y = ti [y.1, y.2] from rfl, eqV_ti]
  constructor
  · intro h
    simp at h
    exact Prod.ext h.1 h.2
  · rintro rfl
    rfl
theorem any_eq {α : Type} (f : α → D) (inj : ∀ a b, eqV (f a) (f b) = true ↔ a = b) [DecidableEq α] (x : α) (xs : List α) : ((xs.map f).any fun y => eqV y (f x)) = decide (x ∈ xs) := by
  rw [Bool.eq_iff_iff, List.any_eq_true, decide_eq_true_iff]
  constructor
  · rintro ⟨y, hy, e⟩
    obtain ⟨z, hz, rfl⟩ := List.mem_map.mp hy
    rw [← (inj z x).mp e]
    exact hz
  · intro h
    exact ⟨f x, List.mem_map.mpr ⟨x, h, rfl⟩, (inj x x).mpr rfl⟩
theorem in_ints (x : Int) (xs : List Int) : inD (.int x) (ti xs) = some (.bl (decide (x ∈ xs))) := by
  have h : ((D.int x).plain && plainL 59 (xs.map D.int)) = true := by
    rw [Bool.and_eq_true]
    exact ⟨plain_int _ _, plainL_map D.int (plain_int 59) xs⟩
  show (if ((D.int x).plain && plainL 59 (xs.map D.int)) = true then some (D.bl ((xs.map D.int).any fun y => eqV y (.int x))) else none) = _
  rw [if_pos h, any_eq D.int fun a b => by rw [eqV_int]; exact decide_eq_true_iff]
theorem in_intsL (x : Int) (xs : List Int) : inD (.int x) (.lst (xs.map D.int)) = some (.bl (decide (x ∈ xs))) := in_ints x xs
theorem nin_ints (x : Int) (xs : List Int) : ninD (.int x) (ti xs) = some (.bl (!decide (x ∈ xs))) := by
  have h : ((D.int x).plain && plainL 59 (xs.map D.int)) = true := by
    rw [Bool.and_eq_true]
    exact ⟨plain_int _ _, plainL_map D.int (plain_int 59) xs⟩
  show (if ((D.int x).plain && plainL 59 (xs.map D.int)) = true then some (D.bl (!(xs.map D.int).any fun y => eqV y (.int x))) else none) = _
  rw [if_pos h, any_eq D.int fun a b => by rw [eqV_int]; exact decide_eq_true_iff]
theorem nin_intsL (x : Int) (xs : List Int) : ninD (.int x) (.lst (xs.map D.int)) = some (.bl (!decide (x ∈ xs))) := nin_ints x xs
theorem in_prs (x : Int × Int) (xs : List (Int × Int)) : inD (prD x) (.tup (xs.map prD)) = some (.bl (decide (x ∈ xs))) := by
  have h : ((prD x).plain && plainL 59 (xs.map prD)) = true := by
    rw [Bool.and_eq_true]
    exact ⟨plain_prD _ _, plainL_map prD (plain_prD 58) xs⟩
  show (if ((prD x).plain && plainL 59 (xs.map prD)) = true then some (D.bl ((xs.map prD).any fun y => eqV y (prD x))) else none) = _
  rw [if_pos h, any_eq prD eqV_prD]
  exact congrArg some (congrArg D.bl (decide_eq_decide.mpr Iff.rfl))
theorem in_prs' (a b : Int) (xs : List (Int × Int)) : inD (.tup [.int a, .int b]) (.tup (xs.map prD)) = some (.bl (decide ((a, b) ∈ xs))) := in_prs (a, b) xs
theorem eq_int (i j : Int) : eqD (.int i) (.int j) = some (.bl (decide (i = j))) := by
  show (if ((D.int i).plain && (D.int j).plain) = true then some (D.bl (eqV (.int i) (.int j))) else none) = _
  rw [if_pos (by rw [Bool.and_eq_true]; exact ⟨plain_int _ _, plain_int _ _⟩), eqV_int]
theorem ne_int (i j : Int) : neD (.int i) (.int j) = some (.bl (!decide (i = j))) := by
  show (if ((D.int i).plain && (D.int j).plain) = true then some (D.bl (!eqV (.int i) (.int j))) else none) = _
  rw [if_pos (by rw [Bool.and_eq_true]; exact ⟨plain_int _ _, plain_int _ _⟩), eqV_int]
theorem blsOf_map : ∀ bs : List Bool, blsOf (bs.map D.bl) = some bs
  | [] => rfl
  | b :: bs => by
    show (blsOf (bs.map D.bl)).map (b :: ·) = _
    rw [blsOf_map bs]
    rfl
theorem all_bls (bs : List Bool) : allD [.lst (bs.map D.bl)] = some (.bl (bs.all id)) := by
  show (blsOf (bs.map D.bl)).map (fun bs => D.bl (bs.all id)) = _
  rw [blsOf_map]
  rfl
theorem any_bls (bs : List Bool) : anyD [.lst (bs.map D.bl)] = some (.bl (bs.any id)) := by
  show (blsOf (bs.map D.bl)).map (fun bs => D.bl (bs.any id)) = _
  rw [blsOf_map]
  rfl
theorem all_map {α : Type} (f : α → Bool) (xs : List α) : allD [.lst (xs.map fun a => D.bl (f a))] = some (.bl (xs.all f)) := by
  have := all_bls (xs.map f)
  rw [List.map_map] at this
  rw [show (xs.map fun a => D.bl (f a)) = xs.map (D.bl ∘ f) from rfl, this, List.all_map]
  rfl
theorem any_map {α : Type} (f : α → Bool) (xs : List α) : anyD [.lst (xs.map fun a => D.bl (f a))] = some (.bl (xs.any f)) := by
  have := any_bls (xs.map f)
  rw [List.map_map] at this
  rw [show (xs.map fun a => D.bl (f a)) = xs.map (D.bl ∘ f) from rfl, this, List.any_map]
  rfl
/-! ### comprehensions -/
theorem compL_map {α : Type} {h : D → Option Env} {t : Env → M Bool} {e : Env → M D} (f : α → D) (b : α → Bool) (y : α → D) : ∀ {l : List α}, (∀ a ∈ l, ∃ ρ, h (f a) = some ρ ∧ t ρ = pure (b a) ∧ (b a = true → e ρ = pure (y a))) → compL h t e (l.map f) = pure ((l.filter b).map y)
  | [], _ => rfl
  | a :: l, H => by
    obtain ⟨ρ, h1, h2, h3⟩ := H a List.mem_cons_self
    have ih := compL_map f b y (l := l) fun x hx => H x (List.mem_cons_of_mem _ hx)
    show (bindT (h (f a)) fun ρ => nx (t ρ) >>= fun b => if b = true then nx (e ρ) >>= fun y => compL h t e (l.map f) >>= fun ys => pure (y :: ys) else compL h t e (l.map f)) = _
    rw [h1]
    show (nx (t ρ) >>= fun b => if b = true then nx (e ρ) >>= fun y => compL h t e (l.map f) >>= fun ys => pure (y :: ys) else compL h t e (l.map f)) = _
    rw [h2, nx_pure, pure_bind, List.filter_cons]
    cases q : b a with
    | true =>
      rw [if_pos rfl, if_pos rfl, h3 q, nx_pure, pure_bind, ih, pure_bind]
      rfl
    | false =>
      rw [if_neg (by decide), if_neg (by decide)]
      exact ih
theorem compA_map {α : Type} {h : D → Option Env} {t : Env → M Bool} {e : Env → M D} (f : α → D) (b : α → Bool) (y : α → D) : ∀ {l : List α} {acc : List D}, acc.length + l.length ≤ 16777216 → (∀ a ∈ l, ∃ ρ, h (f a) = some ρ ∧ t ρ = pure (b a) ∧ (b a = true → e ρ = pure (y a))) → compA h t e acc (l.map f) = pure (acc ++ (l.filter b).map y)
  | [], acc, _, _ => by
    show pure acc = _
    simp
  | a :: l, acc, hl, H => by
    obtain ⟨ρ, h1, h2, h3⟩ := H a List.mem_cons_self
    have H' := fun x hx => H x (List.mem_cons_of_mem a hx)
    rw [List.length_cons] at hl
    show (bindT (h (f a)) fun ρ => nx (t ρ) >>= fun b => if b = true then nx (e ρ) >>= fun y => if acc.length < 16777216 then compA h t e (acc ++ [y]) (l.map f) else bad else compA h t e acc (l.map f)) = _
    rw [h1]
    show (nx (t ρ) >>= fun b => if b = true then nx (e ρ) >>= fun y => if acc.length < 16777216 then compA h t e (acc ++ [y]) (l.map f) else bad else compA h t e acc (l.map f)) = _
    rw [h2, nx_pure, pure_bind, List.filter_cons]
    cases q : b a with
    | true =>
      rw [if_pos rfl, if_pos rfl, h3 q, nx_pure, pure_bind, if_pos (by omega), compA_map f b y (by rw [List.length_append]; simp only [List.length_cons, List.length_nil]; omega) H']
      simp
    | false =>
      rw [if_neg (by decide), if_neg (by decide)]
      exact compA_map f b y (by omega) H'
/-- two clauses; g a: what the inner walks, B a: which of them stay -/
theorem compO_map {α β : Type} {vs1 : List Nat} {h : D → Option Env} {g1 : Env → M (List D)} {h1 : D → Env → Option Env} {t1 : Env → M Bool} {e : Env → M D} (f : α → D) (u : β → D) (g : α → List β) (B : α → β → Bool) (y : α → β → D) (n : Nat) : ∀ {l : List α} {acc : List D}, acc.length + n * l.length ≤ 16777216 → (∀ a ∈ l, (g a).length ≤ n) →
    (∀ a ∈ l, ∃ ρ, h (f a) = some ρ ∧ okW vs1 ρ = true ∧ g1 ρ = pure ((g a).map u) ∧ ∀ b ∈ g a, ∃ ρ', h1 (u b) (wipeE ρ vs1) = some ρ' ∧ t1 ρ' = pure (B a b) ∧ (B a b = true → e ρ' = pure (y a b))) →
    compO vs1 h tYes g1 h1 t1 e acc (l.map f) = pure (acc ++ l.flatMap fun a => ((g a).filter (B a)).map (y a))
  | [], acc, _, _, _ => by
    show pure acc = _
    simp
  | a :: l, acc, hl, hn, H => by
    obtain ⟨ρ, q1, q2, q3, q4⟩ := H a List.mem_cons_self
    have hna := hn a List.mem_cons_self
    rw [List.length_cons, Nat.mul_add] at hl
    show (bindT (h (f a)) fun ρ => nx (pure true : M Bool) >>= fun b => if b = true then nx (g1 ρ) >>= fun ys => if okW vs1 ρ = true then compA (fun y => h1 y (wipeE ρ vs1)) t1 e acc ys >>= fun acc' => compO vs1 h tYes g1 h1 t1 e acc' (l.map f) else bad else compO vs1 h tYes g1 h1 t1 e acc (l.map f)) = _
    rw [q1]
    show (nx (pure true) >>= fun b => if b = true then nx (g1 ρ) >>= fun ys => if okW vs1 ρ = true then compA (fun y => h1 y (wipeE ρ vs1)) t1 e acc ys >>= fun acc' => compO vs1 h tYes g1 h1 t1 e acc' (l.map f) else bad else compO vs1 h tYes g1 h1 t1 e acc (l.map f)) = _
    rw [nx_pure, pure_bind, if_pos rfl, q3, nx_pure, pure_bind, if_pos q2, compA_map u (B a) (y a) (by omega) q4, pure_bind, compO_map f u g B y n (l := l) ?_ (fun x hx => hn x (List.mem_cons_of_mem _ hx)) fun x hx => H x (List.mem_cons_of_mem _ hx)]
    · simp
    · have := List.length_filter_le (B a) (g a)
      rw [List.length_append, List.length_map]
      omega
theorem lc_nm {α : Type} {vs : List Nat} {i : Nat} {g : Env → M (List D)} {t : Env → M Bool} {e : Env → M D} {ρ : Env} {l : List α} (f : α → D) (b : α → Bool) (y : α → D) (hg : g ρ = pure (l.map f)) (ok : okW vs ρ = true) (H : ∀ a ∈ l, t ((wipeE ρ vs).set i (.dat (f a))) = pure (b a) ∧ (b a = true → e ((wipeE ρ vs).set i (.dat (f a))) = pure (y a))) :
    lcM vs g (gNm i) t e ρ = pure ((l.filter b).map y) := by
  unfold lcM
  rw [hg, pure_bind, if_pos ok]
  exact compL_map f b y fun a ha => ⟨_, rfl, H a ha⟩
theorem lc_yes {α : Type} {vs : List Nat} {i : Nat} {g : Env → M (List D)} {e : Env → M D} {ρ : Env} {l : List α} (f : α → D) (y : α → D) (hg : g ρ = pure (l.map f)) (ok : okW vs ρ = true) (H : ∀ a ∈ l, e ((wipeE ρ vs).set i (.dat (f a))) = pure (y a)) :
    lcM vs g (gNm i) tYes e ρ = pure (l.map y) := by
  rw [lc_nm (t := tYes) f (fun _ => true) y hg ok fun a ha => ⟨rfl, fun _ => H a ha⟩, List.filter_eq_self.mpr fun _ _ => rfl]
/-- for one, other in pairs -/
theorem lc_two {vs : List Nat} {i j : Nat} {g : Env → M (List D)} {e : Env → M D} {ρ : Env} {l : List (Int × Int)} (y : Int × Int → D) (hg : g ρ = pure (l.map prD)) (ok : okW vs ρ = true) (H : ∀ a ∈ l, e (((wipeE ρ vs).set i (.dat (.int a.1))).set j (.dat (.int a.2))) = pure (y a)) :
    lcM vs g (unpackD [gNm i, gNm j]) tYes e ρ = pure (l.map y) := by
  unfold lcM
  rw [hg, pure_bind, if_pos ok]
  have := compL_map (h := fun x => unpackD [gNm i, gNm j] x (wipeE ρ vs)) (t := tYes) (e := e) (l := l) prD (fun _ => true) y fun a ha => ⟨_, rfl, rfl, fun _ => H a ha⟩
  rw [this, List.filter_eq_self.mpr fun _ _ => rfl]
theorem rngM_int {i j : Int} (h : -1073741824 ≤ i ∧ i < 1073741824 ∧ -1073741824 ≤ j ∧ j < 1073741824 ∧ (j - i).toNat ≤ 16777216) : rngM (.int i) (.int j) = pure ((List.range (j - i).toNat).map fun (m : Nat) => D.int (i + (m : Int))) := by
  show (if rngOk i j = true then pure ((List.range (j - i).toNat).map fun (m : Nat) => D.int (i + (m : Int))) else bad) = _
  rw [if_pos (rngOk_iff.mpr h)]
theorem rngM_nat (n : Nat) (h : n ≤ 16777216) : rngM (.int 0) (.int (n : Int)) = pure ((List.range n).map fun (k : Nat) => D.int (k : Int)) := by
  rw [rngM_int (by omega)]
  simp
theorem rngM_two (a n : Nat) (h : n ≤ 16777216) (ha : a < 1073741824) : rngM (.int (a : Int)) (.int (n : Int)) = pure ((List.range (n - a)).map fun (k : Nat) => D.int ((a + k : Nat) : Int)) := by
  rw [rngM_int (by omega)]
  have e : ((n : Int) - (a : Int)).toNat = n - a := by omega
  rw [e]
  simp
theorem rngM_pred (m : Nat) (h : m ≤ 16777216) : rngM (.int 0) (.int ((m : Int) - 1)) = pure ((List.range (m - 1)).map fun (k : Nat) => D.int (k : Int)) := by
  rw [rngM_int (by omega)]
  have e : ((m : Int) - 1 - 0).toNat = m - 1 := by omega
  rw [e]
  simp
/-- a loop that is left at its end alone -/
theorem forS_fold {α : Type} {h : D → Env → Option Env} {body : S} {r : D → M D} (f : α → D) (I : List α → Env → Prop) : ∀ (l done : List α) (ρ : Env), I done ρ →
    (∀ done' a rest ρ, done ++ l = done' ++ a :: rest → I done' ρ → ∃ ρ', I (done' ++ [a]) ρ' ∧ ∀ k k' : Env → M D, bindT (h (f a) ρ) (fun ρ1 => body k' r k k' ρ1) = k' ρ') → ∃ ρ', I (done ++ l) ρ' ∧ ∀ k : Env → M D, forS h body k r (l.map f) ρ = k ρ'
  | [], done, ρ, i, _ => ⟨ρ, by rw [List.append_nil]; exact i, fun _ => rfl⟩
  | a :: l, done, ρ, i, H => by
    obtain ⟨ρ1, i1, e1⟩ := H done a l ρ rfl i
    obtain ⟨ρ2, i2, e2⟩ := forS_fold (h := h) (body := body) (r := r) f I l (done ++ [a]) ρ1 i1 (by rw [List.append_assoc]; exact H)
    refine ⟨ρ2, by rw [List.append_assoc] at i2; exact i2, fun k => ?_⟩
    show bindT (h (f a) ρ) (fun ρ' => body (forS h body k r (l.map f)) r k (forS h body k r (l.map f)) ρ') = _
    rw [e1, e2]
theorem whileS_succ {t : Env → M Bool} {body : S} {k : Env → M D} {r : D → M D} {n : Nat} {ρ : Env} : whileS t body k r (n + 1) ρ = t ρ >>= fun x => if x = true then body (whileS t body k r n) r k (whileS t body k r n) ρ else k ρ := rfl
theorem od_prD (o : Od) (x y : Int × Int) : odD o (prD x) (prD y) = some (.bl (odL o [x.1, x.2] [y.1, y.2])) := rfl
theorem ge_prD {x y : Int × Int} (h : x.1 < y.1 ∨ (x.1 = y.1 ∧ x.2 < y.2)) : odD .ge (prD x) (prD y) = some (.bl false) := by
  rw [od_prD]
  refine congrArg some (congrArg D.bl ?_)
  show (if x.1 = y.1 then (if x.2 = y.2 then Od.i .ge (0 : Nat) (0 : Nat) else Od.i .ge x.2 y.2) else Od.i .ge x.1 y.1) = false
  by_cases e : x.1 = y.1
  · have e2 : x.2 ≠ y.2 := by omega
    rw [if_pos e, if_neg e2]
    exact decide_eq_false (p := y.2 ≤ x.2) (by omega)
  · rw [if_neg e]
    exact decide_eq_false (p := y.1 ≤ x.1) (by omega)
theorem ix_lst {α : Type} (f : α → D) {xs : List α} {r : Nat} (h : r < xs.length) : ixD (.lst (xs.map f)) (.int (r : Int)) = some (f xs[r]) := by
  show L2.atI (xs.map f) (r : Int) = _
  unfold L2.atI L2.ixN
  rw [List.length_map, if_pos (by omega), if_pos (by omega)]
  show (xs.map f)[(r : Int).toNat]? = _
  rw [Int.toNat_natCast, List.getElem?_map, List.getElem?_eq_getElem h]
  rfl
theorem in_prsL (a b : Int) (xs : List (Int × Int)) : inD (.tup [.int a, .int b]) (.lst (xs.map prD)) = some (.bl (decide ((a, b) ∈ xs))) := in_prs (a, b) xs
/-! ### budgets of draws -/
def Tr {α : Type} (C : Nat) (m : M α) (P : α → Prop) : Prop := ∀ s : Pen, s.Ok → s.count + (C : Int) ≤ 1000000000 → wpM m s (fun a s' => P a ∧ s'.Ok ∧ s'.count ≤ s.count + (C : Int)) fun _ _ _ => False
theorem Tr.pure {α : Type} {a : α} {P : α → Prop} (h : P a) {C : Nat} : Tr C (pure a) P := fun s ok _ => ⟨h, ok, by omega⟩
theorem Tr.bind {α β : Type} {C1 C2 C : Nat} {m : M α} {f : α → M β} {P : α → Prop} {Q : β → Prop} (h1 : Tr C1 m P) (h2 : ∀ a, P a → Tr C2 (f a) Q) (hC : C1 + C2 ≤ C := by omega) : Tr C (m >>= f) Q := by
  intro s ok hs
  rw [wp_bind]
  refine wp_mono (h1 s ok (by omega)) (fun a s' ⟨p, ok', c⟩ => ?_) fun _ _ _ z => z
  exact wp_mono (h2 a p s' ok' (by omega)) (fun b s2 ⟨q, ok2, c2⟩ => ⟨q, ok2, by omega⟩) fun _ _ _ z => z
theorem Tr.mono {α : Type} {C C' : Nat} {m : M α} {P Q : α → Prop} (h : Tr C m P) (hP : ∀ a, P a → Q a) (hC : C ≤ C' := by omega) : Tr C' m Q := fun s ok hs => wp_mono (h s ok (by omega)) (fun a s' ⟨p, ok', c⟩ => ⟨hP a p, ok', by omega⟩) fun _ _ _ z => z
theorem Tr.eq {α : Type} {C : Nat} {m m' : M α} {P : α → Prop} (e : m = m') (h : Tr C m' P) : Tr C m P := e ▸ h
/-- a loop, each turn of at most C draws -/
theorem Tr.for {h : D → Env → Option Env} {body : S} {k : Env → M D} {r : D → M D} {P : D → Prop} {C : Nat} (I : List D → Env → Prop) {C0 : Nat} (fin : ∀ ρ, I [] ρ → Tr C0 (k ρ) P)
    (step : ∀ x xs ρ, I (x :: xs) ρ → ∀ (n : Nat) (k' : Env → M D), (∀ ρ', I xs ρ' → Tr n (k' ρ') P) → Tr (C + n) (bindT (h x ρ) fun ρ' => body k' r k k' ρ') P) : ∀ (xs : List D) (ρ : Env), I xs ρ → Tr (C * xs.length + C0) (forS h body k r xs ρ) P
  | [], ρ, i => (fin ρ i).mono (fun _ z => z) (by simp)
  | x :: xs, ρ, i => (step x xs ρ i _ _ (Tr.for I fin step xs)).mono (fun _ z => z) (by rw [List.length_cons, Nat.mul_add]; omega)
/-! ### words of the mirrors, on ints -/
theorem szL_of {xs : List D} (h : xs.length ≤ 1000000) : szL xs = true := decide_eq_true (Nat.le_trans h (by decide))
theorem mkLst_ok {xs : List D} (h : xs.length ≤ 1000000) : mkLst xs = pure xs := by
  unfold mkLst
  rw [szL_of h]
  rfl
theorem mkTup_ok {xs : List D} (h : xs.length ≤ 1000000) : mkTup xs = pure (.tup xs) := by
  unfold mkTup
  rw [szL_of h]
  rfl
theorem mkTup2 (a b : D) : mkTup [a, b] = pure (.tup [a, b]) := mkTup_ok (by show 2 ≤ 1000000; decide)
theorem mkTup1 (a : D) : mkTup [a] = pure (.tup [a]) := mkTup_ok (by show 1 ≤ 1000000; decide)
theorem mkTup0 : mkTup [] = pure (.tup []) := mkTup_ok (by show 0 ≤ 1000000; decide)
theorem mkLst0 : mkLst [] = pure [] := mkLst_ok (by show 0 ≤ 1000000; decide)
theorem mkLst1 (a : D) : mkLst [a] = pure [a] := mkLst_ok (by show 1 ≤ 1000000; decide)
theorem mkLst4 (a b c d : D) : mkLst [a, b, c, d] = pure [a, b, c, d] := mkLst_ok (by show 4 ≤ 1000000; decide)
theorem mkLst5 (a b c d e : D) : mkLst [a, b, c, d, e] = pure [a, b, c, d, e] := mkLst_ok (by show 5 ≤ 1000000; decide)
theorem mkLst8 (a b c d e f g h : D) : mkLst [a, b, c, d, e, f, g, h] = pure [a, b, c, d, e, f, g, h] := mkLst_ok (by show 8 ≤ 1000000; decide)
theorem add_int (i j : Int) : addD (.int i) (.int j) = some (.int (i + j)) := rfl
theorem add_ti (xs ys : List Int) (h : xs.length + ys.length ≤ 16777216) : addD (ti xs) (ti ys) = some (ti (xs ++ ys)) := by
  show (if (xs.map D.int).length + (ys.map D.int).length ≤ 16777216 then some (D.tup (xs.map D.int ++ ys.map D.int)) else none) = _
  rw [if_pos (by rw [List.length_map, List.length_map]; exact h), ← List.map_append]
  rfl
theorem ii_int (g : Int → Int → D) (i j : Int) : iiD g (.int i) (.int j) = some (g i j) := rfl
theorem iic_int {c : Int → Int → Bool} (g : Int → Int → D) {i j : Int} (h : c i j = true) : iicD c g (.int i) (.int j) = some (g i j) := by
  show (if c i j = true then some (g i j) else none) = _
  rw [if_pos h]
theorem od_int (o : Od) (i j : Int) : odD o (.int i) (.int j) = some (.bl (o.i i j)) := rfl
theorem toInt_int (i : Int) : Say.intD [.int i] = some (.int i) := rfl
theorem wp_getP {f : PF} {s : Pen} {R : D → Pen → Prop} {Ex : XR} : wpM (getP f) s R Ex = R (.int (f.get s)) s := rfl
theorem wp_lenP {s : Pen} {R : D → Pen → Prop} {Ex : XR} : wpM lenP s R Ex = R (.int (s.cells.length : Int)) s := rfl
theorem wp_cells {s : Pen} {R : List Int → Pen → Prop} {Ex : XR} : wpM getCells s R Ex = R s.cells s := rfl
theorem wp_setP {f : PF} {i : Int} (h : f.may i = true) {s : Pen} {R : Unit → Pen → Prop} {Ex : XR} : wpM (setP f (.int i)) s R Ex = R () (f.put i s) := by
  show wpM (if f.may i = true then putP f i else bad) s R Ex = _
  rw [if_pos h]
  rfl
theorem wp_if {α : Type} {c : Prop} [Decidable c] {a b : M α} {s : Pen} {R : α → Pen → Prop} {Ex : XR} : wpM (if c then a else b) s R Ex = if c then wpM a s R Ex else wpM b s R Ex := by
  by_cases h : c
  · rw [if_pos h, if_pos h]
  · rw [if_neg h, if_neg h]
@[simp] theorem truB_bl (b : Bool) : truB (.bl b) = pure b := rfl
theorem fld_in (i : Int) : PF.fld.may (i % 2147483563) = true := decide_eq_true (p := 0 ≤ i % 2147483563 ∧ i % 2147483563 < 2147483563) ⟨Int.emod_nonneg _ (by decide), Int.emod_lt_of_pos _ (by decide)⟩
end Say

namespace Say
open L2 PyProof.Rows PySem.Spec PySem

/-! ### dicts, keys ints -/
def isI (k : Int) : D → Bool
  | .int j => decide (j = k)
  | _ => false
def getI (k : Int) : List (D × D) → Option D
  | [] => none
  | x :: r => if isI k x.1 = true then some x.2 else getI k r
def putI (kvs : List (D × D)) (k : Int) (d : D) : List (D × D) := if (kvs.any fun x => isI k x.1) = true then kvs.map (fun x => if isI k x.1 = true then (x.1, d) else x) else kvs ++ [(.int k, d)]
theorem length_putI (kvs : List (D × D)) (k : Int) (d : D) : (putI kvs k d).length ≤ kvs.length + 1 := by
  unfold putI
  split
  · rw [List.length_map]; omega
  · rw [List.length_append,
        List.length_cons, List.length_nil]; omega
section
variable {K : PySem.W.Frag} {p : PL} {H : Hp} {F : Addr → Prop}
theorem RepK.length : ∀ {vs : List (Key × V)} {ds : List (D × D)}, RepK K p H F vs ds → vs.length = ds.length
  | _, _, .nil => rfl
  | _, _, .int _ r => by rw [List.length_cons, List.length_cons, RepK.length r]
  | _, _, .str _ r => by rw [List.length_cons, List.length_cons, RepK.length r]
theorem RepK.get (k : Int) : ∀ {vs : List (Key × V)} {ds : List (D × D)}, RepK K p H F vs ds → (getI k ds = none ∧ valV vs (.inl k) = none) ∨ ∃ d v, getI k ds = some d ∧ valV vs (.inl k) = some v ∧ Rep K p H F v d
  | _, _, .nil =>
      .inl ⟨rfl, rfl⟩
  | _, _, .int (i := i) (v := v) (d := d) (vs := vs) (ds := ds) h r => by
    by_cases e : i = k
    · subst e
      exact .inr ⟨d, v, if_pos (decide_eq_true rfl), valV_pos rfl, h⟩
    · have e1 : getI k ((D.int i, d) :: ds) = getI k ds := if_neg (by show ¬ decide (i = k) = true; simp [e])
      have e2 : valV ((Sum.inl i, v) :: vs) (Sum.inl k : Key) = valV vs (Sum.inl k : Key) := valV_neg fun z => e (by injection z)
      rw [e1, e2]
      exact RepK.get k r
  | _, _, .str (x := x) (v := v) (d := d) (vs := vs) (ds := ds) h r => by
    have e1 : getI k ((D.str x, d) :: ds) = getI k ds := if_neg (by show ¬ false = true; simp)
    have e2 : valV ((Sum.inr x, v) :: vs) (Sum.inl k : Key) = valV vs (Sum.inl k : Key) := valV_neg fun z => by injection z
    rw [e1, e2]
    exact RepK.get k r
theorem RepK.any (k : Int) : ∀ {vs : List (Key × V)} {ds : List (D × D)}, RepK K p H F vs ds → (vs.any fun kv => decide (kv.1 = (Sum.inl k : Key))) = ds.any fun x => isI k x.1
  | _, _, .nil => rfl
  | _, _, .int (i := i) h r => by
    rw [List.any_cons, List.any_cons, RepK.any k r]
    congr 1
    show decide ((Sum.inl i : Key) = Sum.inl k) = decide (i = k)
    by_cases e : i = k
    · simp [e]
    · rw [decide_eq_false e, decide_eq_false fun z => e (by injection z)]
  | _, _, .str h r => by
    rw [List.any_cons, List.any_cons, RepK.any k r]
    congr 1
theorem RepK.snoc {k : Int} {v : V} {d : D} (h : Rep K p H F v d) : ∀ {vs : List (Key × V)} {ds : List (D × D)}, RepK K p H F vs ds → RepK K p H F (vs ++ [(.inl k, v)]) (ds ++ [(.int k, d)])
  | _, _, .nil => .int h .nil
  | _, _, .int q r => .int q (RepK.snoc h r)
  | _, _, .str q r => .str q (RepK.snoc h r)
theorem RepK.repl {k : Int} {v : V} {d : D} (h : Rep K p H F v d) : ∀ {vs : List (Key × V)} {ds : List (D × D)}, RepK K p H F vs ds → RepK K p H F (vs.map fun kv => if kv.1 = (.inl k : Key) then (kv.1, v) else kv) (ds.map fun x => if isI k x.1 = true then (x.1, d) else x)
  | _, _, .nil => .nil
  | _, _, .int (i := i) q r => by
    rw [List.map_cons,
        List.map_cons]
    by_cases e : i = k
    · subst e
      rw [if_pos rfl, if_pos (show isI i (D.int i) = true from decide_eq_true rfl)]
      exact .int h (RepK.repl h r)
    · rw [if_neg fun z => e (by injection z), if_neg (by show ¬ decide (i = k) = true; simp [e])]
      exact .int q (RepK.repl h r)
  | _, _, .str q r => by
    rw [List.map_cons, List.map_cons, if_neg fun z => by injection z, if_neg (by show ¬ false = true; simp)]
    exact .str q (RepK.repl h r)
theorem RepK.put {k : Int} {v : V} {d : D} (h : Rep K p H F v d) {vs : List (Key × V)} {ds : List (D × D)} (r : RepK K p H F vs ds) : RepK K p H F (putK vs (.inl k) v) (putI ds k d) := by
  unfold putK putI
  rw [r.any k]
  by_cases e : (ds.any fun x => isI k x.1) = true
  · rw [if_pos e, if_pos e]; exact r.repl h
  · rw [if_neg e, if_neg e]; exact r.snoc h
theorem RepK.keys : ∀ {vs : List (Key × V)} {ds : List (D × D)}, RepK K p H F vs ds → RepL K p H F (vs.map fun kv => kV kv.1) (ds.map (·.1)) ∨ ∃ x ∈ ds, ∃ s, x.1 = .str s
  | _, _, .nil => .inl .nil
  | _, _, .int (i := i) h r => (RepK.keys r).imp (fun q => .cons (.int i) q) fun ⟨x, m, e⟩ => ⟨x, List.mem_cons_of_mem _ m, e⟩
  | _, _, .str (x := x) (d := d) h r => .inr ⟨(.str x, d), List.mem_cons_self, x, rfl⟩
end
/-! d[y], y in d -/
def dgetM : D → D → M D
  | .dct kvs, .int i => (match getI i kvs with
    | some d => pure d
    | none => bad)
  | _, _ => bad
def dinM (neg : Bool) : D → D → M Bool
  | .int i, .dct kvs => pure (if neg = true then !(getI i kvs).isSome else (getI i kvs).isSome)
  | _, _ => bad
section
variable {X : Cx} {p : PL} {e a b : Expr} {es : List Expr} {f g fe : En} {fs : List En} {pos pos' : Pos} {k : Nat}
theorem de_dget (hr : Room k X.A) (ha : DE X p a f) (hb : DE X p b g) (hs : NoSl b := by exact fun _ _ => rfl) : DE X p (.Subscript a b pos) (fun ρ => f ρ >>= fun x => g ρ >>= fun y => dgetM x y) := by
  refine ⟨fun W G H0 ρ σ H s R Ex Q tk rl hw q px => tE_of (pe_dget (by have := hr.un; omega) pe_self pe_self hs) ?_⟩
  rw [wp_bind] at hw
  refine ha.run W G H0 ρ σ H s _ Ex _ tk rl hw (fun d s1 v H1 h1 a1 r1 => ?_) px
  rw [wp_bind] at h1
  refine hb.run W G H0 ρ σ H1 s1 _ Ex _ tk (rl.step a1.st a1.pen) h1 (fun d2 s2 v2 H2 h2 a2 r2 => ?_) (px.at a1)
  have r1' := r1.mono (a2.st.toF rl.fpa) fun _ z => z
  unfold dgetM at h2
  split at h2
  · rename_i kvs i
    cases r2
    cases r1' with
    | dct h1 n1 l1 =>
      rename_i a0 vs
      rcases l1.get i with ⟨e1, e2⟩ | ⟨d, v, e1, e2, e3⟩
      · rw [e1] at h2
        exact h2.elim
      · rw [e1] at h2
        exact ⟨a0, v, rfl, by rw [← e2]; exact DGet.k (k := .inl i) h1, q d s2 v H2 h2 (a1.trans a2) e3⟩
  · exact h2.elim
theorem din_run (neg : Bool) (ha : DE X p a f) (hb : DE X p b g) {W : WX} {G : Addr → Prop} {H0 : Hp} {ρ : Env} {σ : L2.St} {H : Hp} {s : Pen} {R : Bool → Pen → Prop} {Ex : XR} {Q : VK} (tk : Takes X W) (rl : Rel X.K p G H0 ρ σ H s)
    (hw : wpM (f ρ >>= fun x => g ρ >>= fun y => dinM neg x y) s R Ex) (q : ∀ d s' H', R d s' → Af p H H' s' → Q (.bl d) H') (px : PX X p W G σ H Ex) :
    tE X a σ H fun y H1 => tE X b σ H1 fun x H2 => ∃ c o, x = .ref c ∧ DGet H2 c y o ∧ Q (.bl (if neg = true then !o.isSome else o.isSome)) H2 := by
  rw [wp_bind] at hw
  refine ha.run W G H0 ρ σ H s _ Ex _ tk rl hw (fun d s1 v H1 h1 a1 r1 => ?_) px
  rw [wp_bind] at h1
  refine hb.run W G H0 ρ σ H1 s1 _ Ex _ tk (rl.step a1.st a1.pen) h1 (fun d2 s2 v2 H2 h2 a2 r2 => ?_) (px.at a1)
  unfold dinM at h2
  split at h2
  · rename_i i kvs
    cases r1
    cases r2 with
    | dct h1 n1 l1 =>
      rename_i a0 vs
      refine ⟨a0, _, rfl, DGet.k (k := .inl i) h1, ?_⟩
      rcases l1.get i with ⟨e1, e2⟩ | ⟨d, v, e1, e2, e3⟩
      · rw [e2]
        rw [e1] at h2
        exact q _ s2 H2 h2 (a1.trans a2)
      · rw [e2]
        rw [e1] at h2
        exact q _ s2 H2 h2 (a1.trans a2)
  · exact h2.elim
theorem din_wp {neg : Bool} {ρ : Env} {s : Pen} {R : D → Pen → Prop} {Ex : XR} (h : wpM (f ρ >>= fun x => g ρ >>= fun y => dinM neg x y >>= fun c => (pure (.bl c) : M D)) s R Ex) : wpM (f ρ >>= fun x => g ρ >>= fun y => dinM neg x y) s (fun c s' => R (.bl c) s') Ex := by
  simp only [wp_bind] at h ⊢
  exact h
theorem dt_din (hr : Room k X.A) (ha : DE X p a f) (hb : DE X p b g) (hm : behindInMarks .In b = false := by first | exact nomark _ | rfl) : DT X p (.Compare a [.In] [b] pos) (fun ρ => f ρ >>= fun x => g ρ >>= fun y => dinM false x y) :=
  ⟨fun W G H0 ρ σ H s R Ex Q tk rl hw q px => tT_of (pt_cmp (pc_din (by have := hr.un; omega) pe_self pe_self) hm) (din_run (Q := fun x H1 => ∃ c, x = .bl c ∧ Q c H1) false ha hb tk rl hw (fun d s' H' h a => ⟨d, rfl, q d s' H' h a⟩) px)⟩
theorem dt_dnotin (hr : Room k X.A) (ha : DE X p a f) (hb : DE X p b g) (hm : behindInMarks .NotIn b = false := by first | exact nomark _ | rfl) : DT X p (.Compare a [.NotIn] [b] pos) (fun ρ => f ρ >>= fun x => g ρ >>= fun y => dinM true x y) :=
  ⟨fun W G H0 ρ σ H s R Ex Q tk rl hw q px => tT_of (pt_cmp (pc_dnotin (by have := hr.un; omega) pe_self pe_self) hm) (din_run (Q := fun x H1 => ∃ c, x = .bl c ∧ Q c H1) true ha hb tk rl hw (fun d s' H' h a => ⟨d, rfl, q d s' H' h a⟩) px)⟩
theorem de_din (hr : Room k X.A) (ha : DE X p a f) (hb : DE X p b g) (hm : behindInMarks .In b = false := by first | exact nomark _ | rfl) : DE X p (.Compare a [.In] [b] pos) (fun ρ => f ρ >>= fun x => g ρ >>= fun y => dinM false x y >>= fun c => pure (.bl c)) :=
  ⟨fun W G H0 ρ σ H s R Ex Q tk rl hw q px => tE_of (pe_cmp (pc_din (by have := hr.un; omega) pe_self pe_self) hm) (din_run (R := fun c s' => R (.bl c) s') false ha hb tk rl (din_wp hw) (fun d s' H' h a => q _ s' _ H' h a (.bl d)) px)⟩
theorem de_dnotin (hr : Room k X.A) (ha : DE X p a f) (hb : DE X p b g) (hm : behindInMarks .NotIn b = false := by first | exact nomark _ | rfl) : DE X p (.Compare a [.NotIn] [b] pos) (fun ρ => f ρ >>= fun x => g ρ >>= fun y => dinM true x y >>= fun c => pure (.bl c)) :=
  ⟨fun W G H0 ρ σ H s R Ex Q tk rl hw q px => tE_of (pe_cmp (pc_dnotin (by have := hr.un; omega) pe_self pe_self) hm) (din_run (R := fun c s' => R (.bl c) s') true ha hb tk rl (din_wp hw) (fun d s' H' h a => q _ s' _ H' h a (.bl d)) px)⟩
/-! list(d) -/
def listKM : List D → M (List D)
  | [.dct kvs] => if kvs.length ≤ 16777216 ∧ (kvs.all fun x => match x.1 with | .int _ => true | _ => false) = true then pure (kvs.map (·.1)) else bad
  | _ => bad
theorem dn_listK (hm : X.mg "list" = none) (ha : DA X p [e] fs) (hc : X.calm = true := by rfl) (hg : Gl X "list" := by rfl) (he : starEach (e :: []) X.env = (false, eval e X.env) :: starEach [] X.env := by rfl) (hpl : (backTo pos (starEach [] X.env)).any (·.1) = false := by rfl) :
    DN X p (.Call (.Name "list" pos') [e] [] pos) (fun ρ => seqA fs ρ listKM) := by
  refine ⟨fun W G H0 ρ σ H s R Ex Q tk rl hw q px => tE_of (pe_callTy (call_list_dK hc) hg hm (by decide +kernel) pa_self (by decide) (by decide) he hpl) ?_⟩
  refine ha.run _ listKM W G H0 ρ σ H s R Ex _ tk rl hw (fun ds s1 vs H1 h1 a1 r1 _ => ?_) px
  unfold listKM at h1
  split at h1
  · rename_i kvs _
    by_cases hk : kvs.length ≤ 16777216 ∧ (kvs.all fun x => match x.1 with | .int _ => true | _ => false) = true
    · rw [if_pos hk] at h1
      cases r1 with
      | cons r1 r2 =>
        cases r2
        cases r1 with
        | dct ho n1 l1 =>
          refine ⟨_, _, rfl, ho, fun l hl => ?_⟩
          have lr : RepL X.K p H1 (Fo G ρ σ) _ (kvs.map (·.1)) := l1.keys.resolve_right fun ⟨x, m, t, e⟩ => by
            have := List.all_eq_true.mp hk.2 x m
            rw [e] at this
            cases this
          have h1 : R (kvs.map Prod.fst) s1 := h1
          exact q (kvs.map Prod.fst) s1 l _ _ h1 (a1.trans (.same a1.pen (same_new hl))) (back_none a1 hl) upd_same (by rw [List.length_map]; exact hk.1) ((lr.more (N := fun a => a = l) fun a z => by rw [z]; exact hl).mono ((same_step (p := p) (same_new hl)).toF (fun a z => .inl (rl.fpa a z))) fun _ z => z)
    · rw [if_neg hk] at h1
      exact h1.elim
  · exact h1.elim
end
/-! ### d[y] = v -/
def ownK : Option Sl → M (List (D × D))
  | some (.own (.dct xs)) => pure xs
  | _ => bad
def putM (kvs : List (D × D)) (k d : D) : M (List (D × D)) := match k with
  | .int i => if kvs.length < 16777216 then pure (putI kvs i d) else bad
  | _ => bad
def sDput (i : Nat) (fk fv : En) : S := fun k _ _ _ ρ => fv ρ >>= fun d => ownK ρ[i]? >>= fun kvs => fk ρ >>= fun x => putM kvs x d >>= fun ys => k (ρ.set i (.own (.dct ys)))
section
variable {X : Cx} {p : PL} {e a b : Expr} {es : List Expr} {f g fe : En} {fs : List En} {pos pos' : Pos} {k : Nat}
theorem ownK_ok {K : PySem.W.Frag} {G : Addr → Prop} {H0 H : Hp} {ρ : Env} {σ : L2.St} {s : Pen} {α : Type} {i : Nat} {k : List (D × D) → M α} {R : α → Pen → Prop} {Ex : XR} (rl : Rel K p G H0 ρ σ H s) (h : wpM (ownK ρ[i]? >>= k) s R Ex) :
    ∃ (xs : List (D × D)) (q : Addr) (vs : List (Key × V)), ρ[i]? = some (.own (.dct xs)) ∧ σ[i]? = some (some (.ref q)) ∧ H0 q = none ∧ ¬ p.no q ∧ H q = some (.dK vs) ∧ RepK K p H (Fo G ρ σ) vs xs ∧ wpM (k xs) s R Ex := by
  cases eo : ρ[i]? with
  | none => rw [eo] at h; exact h.elim
  | some y =>
    rw [eo] at h
    cases y with
    | own d =>
      cases d with
      | dct xs =>
        obtain ⟨q, h1, h2, vs, h3, h4⟩ := rl.own i _ eo rfl
        exact ⟨xs, q, vs, rfl, h1, h2, fun z => rl.gne i _ q eo rfl h1 (rl.gpa _ z), h3, h4, h⟩
      | _ => exact h.elim
    | _ => exact h.elim
theorem putM_ok {α : Type} {xs : List (D × D)} {y d : D} {k : List (D × D) → M α} {s : Pen} {R : α → Pen → Prop} {Ex : XR} (h : wpM (putM xs y d >>= k) s R Ex) : ∃ i, y = .int i ∧ xs.length < 16777216 ∧ wpM (k (putI xs i d)) s R Ex := by
  cases y with
  | int i =>
    have h : wpM ((if xs.length < 16777216 then pure (putI xs i d) else bad) >>= k) s R Ex := h
    by_cases hl : xs.length < 16777216
    · rw [if_pos hl] at h
      exact ⟨i, rfl, hl, h⟩
    · rw [if_neg hl] at h
      exact h.elim
  | _ => exact h.elim
theorem ds_dput (i : Nat) {x : Str} {p1 p2 : Pos} (hr : Room k X.A) (hv : DE X p b g) (he : DE X p e fe) (hN : X.N[i]? = some x := by rfl) (hvs : Vis X.env.scope x := by first | exact Or.inl rfl | exact Or.inr (Or.inl rfl) | exact Or.inr (Or.inr rfl)) (hd : (x == ("__debug__" : Str)) = false := by decide)
    (hcd : (x == ("__classdict__" : Str)) = false := by decide) (hs : swapsWith b (some (.Subscript (.Name x p1) e p2)) pos.line X.env = pure false := by rfl) : DS X p (.Assign [.Subscript (.Name x p1) e p2] b pos) (sDput i fe g) := by
  refine ⟨fun W G H0 ρ σ H s kk r bb c R Ex Dn tk rl hw wy px => tS_of (ps_dput (by have := hr.un; omega) (pv i hN hvs hd hcd) pe_self pe_self hs) ?_⟩
  have hw : wpM (g ρ >>= fun d => ownK ρ[i]? >>= fun kvs => fe ρ >>= fun x => putM kvs x d >>= fun ys => kk (ρ.set i (.own (.dct ys)))) s R Ex := hw
  rw [wp_bind] at hw
  refine hv.run W G H0 ρ σ H s _ Ex _ tk rl hw (fun d s1 v H1 w1 a1 r1 => ?_) (px.px rl.old)
  have rl1 := rl.step a1.st a1.pen
  obtain ⟨xs, q, vs, e1, es, h2, np, h3, h4, w1⟩ := ownK_ok rl1 w1
  refine ⟨_, es, ?_⟩
  rw [wp_bind] at w1
  refine he.run W G H0 ρ σ H1 s1 _ Ex _ tk rl1 w1 (fun y s2 u H2 w2 a2 r2 => ?_) (px.px rl1.old)
  obtain ⟨n, ey, hl, w3⟩ := putM_ok w2
  subst ey
  cases r2
  have rl2 := rl1.step a2.st a2.pen
  have fq : Fo G ρ σ q := .inr ⟨i, _, e1, rfl, es⟩
  have l4 := h4.mono (a2.st.toF rl.fpa) fun _ z => z
  refine ⟨q, _, rfl, DPut.k (k := .inl n) (a2.st q _ h3 np) (by rw [h4.length, sizeLine_eq]; exact hl), ?_⟩
  refine wy.nx _ σ _ s2 (rl2.updOwn (y := .own (.dct (putI xs n d))) e1 rfl rfl es ⟨_, upd_same, ?_⟩) w3
  refine (l4.put (r1.mono (a2.st.toF rl.fpa) fun _ z => z)).mono (fun a o z w => ?_) fun _ z => z
  rw [upd_ne fun y => w (by rw [y]; exact fq)]
  exact z
end
end Say

namespace Say
open L2 PyProof.Rows PySem.Spec PySem

/-! ### dict comprehensions -/
def compK (h : D → Option Env) (t : Env → M Bool) (ek e : Env → M D) : List (D × D) → List D → M (List (D × D))
  | acc, [] => pure acc
  | acc, x :: xs => bindT (h x) fun ρ => nx (t ρ) >>= fun b => if b = true then nx (ek ρ) >>= fun k => nx (e ρ) >>= fun v => putM acc k v >>= fun acc' => compK h t ek e acc' xs else compK h t ek e acc xs
def dcM (vs : List Nat) (g : Env → M (List D)) (h : D → Env → Option Env) (t : Env → M Bool) (ek e : Env → M D) (ρ : Env) : M (List (D × D)) := g ρ >>= fun xs => if okW vs ρ = true then compK (fun x => h x (wipeE ρ vs)) t ek e [] xs else bad
section
variable {X : Cx} {p : PL} {elt kx tg iter : Expr} {ifs : List Expr} {scope : Scope} {own : List (Str × Nat)} {pos pos' : Pos} {g : Env → M (List D)} {h : D → Env → Option Env} {ts : List Nat} {t : Env → M Bool} {e ek : Env → M D}
theorem dc_run (hi : DI X p false tg iter g) (hg : ∀ s H C cl fp, DG (Blk X s H scope C cl fp) p tg ts h) (ht : ∀ s H C cl fp, DTs (Blk X s H scope C cl fp) p ifs t) (hkx : ∀ s H C cl fp, DE (Blk X s H scope C cl fp) p kx ek) (he : ∀ s H C cl fp, DE (Blk X s H scope C cl fp) p elt e) {vs : List Nat} (hv : ∀ i ∈ ts, i ∈ vs)
    {W : WX} {G : Addr → Prop} {H0 : Hp} {ρ : Env} {σ : L2.St} {H : Hp} {s : Pen} {R : List (D × D) → Pen → Prop} {Ex : XR} {Q : VK} (tk : Takes X W) (rl : Rel X.K p G H0 ρ σ H s) (hw : wpM (dcM vs g h t ek e ρ) s R Ex)
    (q : ∀ ds s' a ws H', R ds s' → Af p H H' s' → H a = none → H' a = some (.dK ws) → ds.length ≤ 16777216 → RepK X.K p H' (fun b => Fo G ρ σ b ∨ b = a) ws ds → Q (.ref a) H') (px : PX X p W G σ H Ex) :
    tDc (tI X tg iter) (bG X scope tg) (bT X scope ifs) (bE X scope kx) (bE X scope elt) vs σ H Q := by
  unfold dcM at hw
  rw [wp_bind] at hw
  refine hi.run W G H0 ρ σ H s _ Ex _ tk rl hw (fun ds s1 H1 J h1 a1 ok => ?_) px
  by_cases hk : okW vs ρ = true
  case neg => rw [if_neg hk] at h1; exact h1.elim
  rw [if_pos hk] at h1
  intro L hL
  have rl1 := rl.step a1.st a1.pen
  -- within: the new list is not to be touched by what is carried
  have start : Rel X.K p (fun a => G a ∨ a = L) H0 ρ σ (upd H1 L (.dK [])) s1 := by
    have sm := same_new (o := .dK []) hL
    have rn := rl1.step (same_step (p := p) sm) (a1.pen.same sm)
    have fo : ∀ a, Fo (fun a => G a ∨ a = L) ρ σ a → Fo G ρ σ a ∨ a = L := fun a z => by
      rcases z with (z | z) | z
      · exact .inl (.inl z)
      · exact .inr z
      · exact .inl (.inr z)
    refine ⟨rn.len, fun i d e => ?_, fun i x e hx => ?_, rn.inj, rn.old, rn.pen, (fun a z => .inl (rn.gpa a z)), .inl rn.gca, fun a ha => ?_, fun i x a e hx e2 => ?_⟩
    · obtain ⟨v, q1, q2⟩ := rl1.dat i d e
      exact ⟨v, q1, ((q2.more (N := fun a => a = L) fun a z => by rw [z]; exact hL).mono ((same_step (p := p) sm).toF (fun a z => .inl (rl1.fpa a z))) fo)⟩
    · obtain ⟨a, q1, q2, q3⟩ := rl1.own i x e hx
      refine ⟨a, q1, q2, ?_⟩
      have old : ∀ o, H1 a = some o → upd H1 L (.dK []) a = some o := fun o z => sm a o z
      cases x with
      | no => exact q3.elim
      | dat d => exact q3.elim
      | self c fs =>
        obtain ⟨hx, dx, ws, z1, z0, z2⟩ := q3
        exact ⟨hx, dx, ws, old _ z1, z0, (z2.more (N := fun a => a = L) fun a z => by rw [z]; exact hL).mono ((same_step (p := p) sm).toF (fun a z => .inl (rl1.fpa a z))) fo⟩
      | own d =>
        cases d with
        | lst ds =>
          obtain ⟨ws, z1, z0, z2⟩ := q3
          exact ⟨ws, old _ z1, z0, (z2.more (N := fun a => a = L) fun a z => by rw [z]; exact hL).mono ((same_step (p := p) sm).toF (fun a z => .inl (rl1.fpa a z))) fo⟩
        | dct ds =>
          obtain ⟨ws, z1, z2⟩ := q3
          exact ⟨ws, old _ z1, (z2.more (N := fun a => a = L) fun a z => by rw [z]; exact hL).mono ((same_step (p := p) sm).toF (fun a z => .inl (rl1.fpa a z))) fo⟩
        | _ => exact q3.elim
    · rcases ha with ha | ha
      · exact rn.gex a ha
      · rw [ha]
        exact ⟨_, upd_same⟩
    · rintro (z | z)
      · exact rn.gne i x a e hx e2 z
      · subst z
        obtain ⟨b, q1, q2, q3⟩ := rl1.own i x e hx
        rw [e2] at q1
        cases q1
        obtain ⟨o, ho, _⟩ := q3.there
        rw [hL] at ho
        cases ho
  have szl : sizeLine = 16777216 := sizeLine_eq
  have h0L : H0 L = none := back_none (s1 := s1) ⟨rl1.old, rl1.pen⟩ hL
  have nLp : ¬ p.no L := a1.pen.notNo hL
  have nLc : L ≠ p.ca := fun z => by
    rw [z, a1.pen.cells] at hL
    cases hL
  have toFo : ∀ a, (Fo G ρ σ a ∨ a = L) → Fo (fun a => G a ∨ a = L) ρ σ a := fun a z => by
    rcases z with (z | z) | z
    · exact .inl (.inl z)
    · exact .inr z
    · exact .inl (.inr z)
  refine ⟨fun i m Hc => m = ds.length - i ∧ i ≤ ds.length ∧ ∃ sc acc dacc, Step p H1 Hc ∧ Rel X.K p (fun a => G a ∨ a = L) H0 ρ σ Hc sc ∧ Hc L = some (.dK acc) ∧ RepK X.K p Hc (fun a => Fo G ρ σ a ∨ a = L) acc dacc ∧ dacc.length ≤ i ∧
    wpM (compK (fun x => h x (wipeE ρ vs)) t ek e dacc (ds.drop i)) sc R Ex, ⟨ds.length, rfl, Nat.zero_le _, s1, [], [], same_step (same_new hL), start, upd_same, .nil, Nat.zero_le _, h1⟩, ?_⟩
  rintro i m Hc ⟨rfl, hi', sc, acc, dacc, st, rc, hacc, racc, hlen, hwp⟩
  have stF : StepF (Fs false G (Fo G ρ σ)) H1 Hc := fun a o e n => st a o e fun z => n (rl.gpa _ z)
  by_cases hlt : i < ds.length
  · obtain ⟨go, yl⟩ := ok.go i ds[i] Hc stF (List.getElem?_eq_getElem hlt)
    refine .inr ⟨go, fun H' => ∃ sc acc dacc, Step p H1 H' ∧ Rel X.K p (fun a => G a ∨ a = L) H0 ρ σ H' sc ∧ H' L = some (.dK acc) ∧ RepK X.K p H' (fun a => Fo G ρ σ a ∨ a = L) acc dacc ∧ dacc.length ≤ i + 1 ∧
      wpM (compK (fun x => h x (wipeE ρ vs)) t ek e dacc (ds.drop (i + 1))) sc R Ex, fun H' hN => ⟨_, by omega, rfl, hlt, hN⟩, fun x Hy y => ?_⟩
    have stF' : StepF (fun a => Fo G ρ σ a ∨ a = L) H1 Hc := fun a o e n => st a o e fun z => n (.inl (rl.fpa _ z))
    obtain ⟨sm, rx⟩ := yld_rep ((yl x Hy y).more (N := fun a => a = L) fun a z => by rw [z]; exact hL) (fun a z => .inl (rl.fpa a z)) stF' fun a ha z => rc.fresh ha (toFo a z)
    have ry := rc.step (same_step (p := p) sm) (rc.pen.same sm)
    rw [List.drop_eq_getElem_cons hlt] at hwp
    have hwp : wpM (bindT (h ds[i] (wipeE ρ vs)) fun ρ' => nx (t ρ') >>= fun b => if b = true then nx (ek ρ') >>= fun k => nx (e ρ') >>= fun v => putM dacc k v >>= fun acc' => compK (fun x => h x (wipeE ρ vs)) t ek e acc' (ds.drop (i + 1)) else compK (fun x => h x (wipeE ρ vs)) t ek e dacc (ds.drop (i + 1))) sc R Ex := hwp
    cases eh : h ds[i] (wipeE ρ vs) with
    | none => rw [eh] at hwp; exact hwp.elim
    | some ρ' =>
    rw [eh] at hwp
    have hwp : wpM (nx (t ρ') >>= fun b => if b = true then nx (ek ρ') >>= fun k => nx (e ρ') >>= fun v => putM dacc k v >>= fun acc' => compK (fun x => h x (wipeE ρ vs)) t ek e acc' (ds.drop (i + 1)) else compK (fun x => h x (wipeE ρ vs)) t ek e dacc (ds.drop (i + 1))) sc R Ex := hwp
    rw [wp_bind] at hwp
    have hacc' := sm _ _ hacc
    have racc' := racc.mono ((same_step (p := p) sm).toF (fun a z => .inl (rl.fpa a z))) fun _ z => z
    intro sB HB CB clB fpB
    refine (hg sB HB CB clB fpB).run (fun a => G a ∨ a = L) H0 (wipeE ρ vs) ρ' (L2.wipe σ vs) Hy sc x ds[i] _ (ry.wipe vs) (rx.mono (fun _ _ z _ => z) fun a z => ?_) eh fun σ2 r2 sb => ⟨by rw [sb.1 vs hv, wipe_wipe], ?_⟩
    · have := fo_wipe' z
      rcases this with (z | z) | z
      · exact .inl (.inl z)
      · exact .inr z
      · exact .inl (.inr z)
    intro sC HC CC clC fpC
    refine (ht sC HC CC clC fpC).run takesN r2 (wp_nx hwp) (fun b s3 H3 hb a3 => ?_) fun _ _ _ _ _ _ z => z.elim
    have r3 := r2.step a3.st a3.pen
    have rc3 := ry.step a3.st a3.pen
    have st3 : Step p H1 H3 := (st.trans (same_step sm)).trans a3.st
    have hacc3 : H3 L = some (.dK acc) := a3.st L _ hacc' nLp
    have racc3 := racc'.mono (a3.st.toF (fun a z => .inl (rl.fpa a z))) fun _ z => z
    cases b with
    | false =>
      rw [if_neg (by decide)] at hb ⊢
      exact ⟨s3, acc, dacc, st3, rc3, hacc3, racc3, by omega, hb⟩
    | true =>
      rw [if_pos rfl] at hb ⊢
      rw [wp_bind] at hb
      intro sD HD CD clD fpD
      refine (hkx sD HD CD clD fpD).run _ _ _ _ _ _ _ _ _ _ takesN r3 (wp_nx hb) (fun dk s4 u H4 hd a4 r4 => ?_) fun _ _ _ _ _ _ z => z.elim
      have r4' := r3.step a4.st a4.pen
      rw [wp_bind] at hd
      intro sF HF CF clF fpF
      refine (he sF HF CF clF fpF).run _ _ _ _ _ _ _ _ _ _ takesN r4' (wp_nx hd) (fun d s5 v H5 hd5 a5 r5 => ?_) fun _ _ _ _ _ _ z => z.elim
      obtain ⟨nk, ey, hl16, w5⟩ := putM_ok hd5
      subst ey
      cases r4
      have a45 := a4.trans a5
      have hacc4 : H5 L = some (.dK acc) := a45.st L _ hacc3 nLp
      have racc4 := racc3.mono (a45.st.toF (fun a z => .inl (rl.fpa a z))) fun _ z => z
      have rc4 := rc3.step a45.st a45.pen
      have hl : acc.length = dacc.length := racc4.length
      refine ⟨acc, .inl nk, rfl, hacc4, by rw [hl, szl]; exact hl16, s5, putK acc (.inl nk) v, putI dacc nk d, fun a o e n => ?_, rc4.updG (.inr rfl) h0L nLp nLc ⟨_, hacc4, pln_dK⟩, upd_same, ?_, by have := length_putI dacc nk d; omega, w5⟩
      · rw [upd_ne fun z => by rw [z, hL] at e; cases e]
        exact (st3.trans a45.st) a o e n
      · have rv : Rep X.K p H5 (fun a => Fo G ρ σ a ∨ a = L) v d := r5.mono (fun _ _ z _ => z) fun a z => by
          rcases z with (z | ⟨j, y, z1, z2, z3⟩) | z
          · exact .inl (.inl z)
          · have hn : j ∉ vs := fun hm => by
              have := List.all_eq_true.mp hk j hm
              rw [z1] at this
              simp [z2] at this
            have ht' : j ∉ ts := fun hm => hn (hv j hm)
            obtain ⟨e1, e2⟩ := sb.2 j ht'
            exact .inr ⟨j, y, by rw [e1, wipeE_out hn]; exact z1, z2, by rw [e2, L2.wipe_out hn]; exact z3⟩
          · exact .inl (.inr z)
        refine (racc4.put rv).mono (fun a o e n => ?_) fun _ z => z
        rw [upd_ne fun z => n (.inr z)]
        exact e
  · have e : i = ds.length := by omega
    subst e
    rw [List.drop_length] at hwp
    have hwp : R dacc sc := hwp
    exact .inl ⟨ok.stop Hc stF, q dacc sc L acc Hc hwp (a1.trans ⟨st, rc.pen⟩) (back_none a1 hL) hacc (Nat.le_trans hlen ok.sz) racc⟩

/-- name = {..} on one line, the name a local -/
theorem ps_setDcS {i : Nat} {y : Str} {py : Pos} {spos : Pos} {wi : TI} {gg : TG} {tt : TT} {tk te : TE} (hc : X.calm = true) (hN : X.N.Nodup) (hy : X.N[i]? = some y) (hyl : X.env.scope.names.lookup y = some .local)
    (hsw : swapsWith (.DictComp kx elt [⟨tg, iter, ifs, 0⟩] scope pos) (some (.Name y py)) spos.line X.env = pure true) (hi : PI X tg iter wi) (ok : BlkOk X.N X.env.scope scope own)
    (hg : ∀ s H C cl fp, PG (Blk X s H scope C cl fp) tg gg) (ht : ∀ s H C cl fp, PTs (Blk X s H scope C cl fp) ifs tt)
    (hk : ∀ s H C cl fp, PE (Blk X s H scope C cl fp) kx tk) (he : ∀ s H C cl fp, PE (Blk X s H scope C cl fp) elt te) (hs : ∀ x, foldedSetIterable iter X.env x = pure x) :
    PS X (.Assign [.Name y py] (.DictComp kx elt [⟨tg, iter, ifs, 0⟩] scope pos) spos) (tAsg (tDc wi gg tt tk te (own.map (·.2))) (gName i)) := by
  constructor
  intro pins s σ H Dn I h
  have told : tDc wi gg tt tk te (own.map (·.2)) σ H (fun x H1 => gName i x σ H1 Dn.nx) := h
  rw [(exec_Assign_Name_used _ _ _ _ hsw)]
  apply wpAny_bind
  refine wpAny_standAt (wpAny_bind (wpAny_bind (thn (dc_core (Qf := fun _ t => SP X pins Dn .next t) hc hN I hi ok hg ht hk he hs told fun L C t m H' I' q hn f => ?_) fun _ _ z => wpAny_pure (wpAny_pure z))))
  obtain ⟨g0, g1, _, g3, g4, g5⟩ := f
  refine wpAny_assign_Name (store_ok2 (v := V.ref L) I' hN hy (.inl hyl) rfl (fun t2 J ⟨a, same, at_⟩ => ?_) (.inr hyl))
  have off : C ≠ a := at_.elim (fun z e => g1 (e.trans z)) fun z e => g4 y a z e.symm
  exact ⟨m, hn.sameBut same off, fun _ same3 => ⟨_, H', J.turned (t' := t2.toks) (fun b o hb e => (same3.2 b hb).trans e) g0 g1 g3 g4 g5, q⟩⟩
theorem swK_true {gs : List Comprehension} {py : Pos} {y : Str} {l : Nat} {env : PySem.Env} (hk : env.scope.kind = .function) (hy : env.scope.names.lookup y = some .local) (hl : (py.line == pos.line) = true)
    (ha : (scope.names.any fun (n, k) => n == y && (k == .local || k == .cell)) = false) : swapsWith (.DictComp kx elt gs scope pos) (some (.Name y py)) l env = pure true := by
  have blk : env.blockKind = .function := by unfold PySem.Env.blockKind; rw [hk]; rfl
  have loc : env.kindOf y = some .local := hy
  unfold swapsWith
  simp only [blk, loc, Expr.pos, hl, ha]
  rfl
theorem ds_dcO (i : Nat) {x : Str} {py : Pos} (own : List (Str × Nat)) (hN : X.N.Nodup) (hi : DI X p false tg iter g) (hg : ∀ s H C cl fp, DG (Blk X s H scope C cl fp) p tg ts h) (ht : ∀ s H C cl fp, DTs (Blk X s H scope C cl fp) p ifs t) (hkx : ∀ s H C cl fp, DE (Blk X s H scope C cl fp) p kx ek) (he : ∀ s H C cl fp, DE (Blk X s H scope C cl fp) p elt e)
    (hy : X.N[i]? = some x := by rfl) (hyl : X.env.scope.names.lookup x = some .local := by rfl) (hl : (py.line == pos.line) = true := by rfl) (ha : (scope.names.any fun (n, k) => n == x && (k == .local || k == .cell)) = false := by decide +kernel) (hk : X.env.scope.kind = .function := by rfl)
    (ok : blkC X.N X.env.scope scope own = true := by first | kernel_rfl | rfl) (hv : ∀ i ∈ ts, i ∈ own.map (·.2) := by decide) (hc : X.calm = true := by rfl) (hs : ∀ x, foldedSetIterable iter X.env x = pure x := by intro _; rfl) :
    DS X p (.Assign [.Name x py] (.DictComp kx elt [⟨tg, iter, ifs, 0⟩] scope pos) pos') (fun k _ _ _ ρ => if i < ρ.length then dcM (own.map (·.2)) g h t ek e ρ >>= fun ds => k (ρ.set i (.own (.dct ds))) else bad) := by
  refine ⟨fun W G H0 ρ σ H s k r b c R Ex Dn tk rl hw wy px => tS_of (ps_setDcS (wi := tI X tg iter) (gg := bG X scope tg) (tt := bT X scope ifs) (tk := bE X scope kx) (te := bE X scope elt) hc hN hy hyl (swK_true hk hyl hl ha) pi_self (blkOk_by ok)
    (fun s H C cl fp => ⟨fun pins sh σ H v u Q I r h => pg_self.run pins sh σ H v u Q I r (h s _ C cl fp)⟩) (fun s H C cl fp => ⟨fun pins sh σ H Q I h => pts_self.run pins sh σ H Q I (h s _ C cl fp)⟩) (fun s H C cl fp => ⟨fun pins sh σ H Q I h => pe_self.run pins sh σ H Q I (h s _ C cl fp)⟩) (fun s H C cl fp => ⟨fun pins sh σ H Q I h => pe_self.run pins sh σ H Q I (h s _ C cl fp)⟩) hs) ?_⟩
  have hw : wpM (if i < ρ.length then dcM (own.map (·.2)) g h t ek e ρ >>= fun ds => k (ρ.set i (.own (.dct ds))) else bad) s R Ex := hw
  by_cases hil : i < ρ.length
  case neg => rw [if_neg hil] at hw; exact hw.elim
  rw [if_pos hil, wp_bind] at hw
  exact dc_run hi hg ht hkx he hv tk rl hw (fun ds s1 q vs H1 h1 a1 n1 e1 hz r1 => wy.nx _ _ H1 s1 ((rl.step a1.st a1.pen).putOwn (x := .own (.dct ds)) rl n1 hil ⟨vs, e1, r1⟩ a1.st) h1) (px.px rl.old)
/-- kept as data -/
theorem ds_dcD (i : Nat) {x : Str} {py : Pos} (own : List (Str × Nat)) (hN : X.N.Nodup) (hi : DI X p false tg iter g) (hg : ∀ s H C cl fp, DG (Blk X s H scope C cl fp) p tg ts h) (ht : ∀ s H C cl fp, DTs (Blk X s H scope C cl fp) p ifs t) (hkx : ∀ s H C cl fp, DE (Blk X s H scope C cl fp) p kx ek) (he : ∀ s H C cl fp, DE (Blk X s H scope C cl fp) p elt e)
    (hy : X.N[i]? = some x := by rfl) (hyl : X.env.scope.names.lookup x = some .local := by rfl) (hl : (py.line == pos.line) = true := by rfl) (ha : (scope.names.any fun (n, k) => n == x && (k == .local || k == .cell)) = false := by decide +kernel) (hk : X.env.scope.kind = .function := by rfl)
    (ok : blkC X.N X.env.scope scope own = true := by first | kernel_rfl | rfl) (hv : ∀ i ∈ ts, i ∈ own.map (·.2) := by decide) (hc : X.calm = true := by rfl) (hs : ∀ x, foldedSetIterable iter X.env x = pure x := by intro _; rfl) :
    DS X p (.Assign [.Name x py] (.DictComp kx elt [⟨tg, iter, ifs, 0⟩] scope pos) pos') (sSet i fun ρ => dcM (own.map (·.2)) g h t ek e ρ >>= fun xs => pure (.dct xs)) := by
  refine ⟨fun W G H0 ρ σ H s k r b c R Ex Dn tk rl hw wy px => tS_of (ps_setDcS (wi := tI X tg iter) (gg := bG X scope tg) (tt := bT X scope ifs) (tk := bE X scope kx) (te := bE X scope elt) hc hN hy hyl (swK_true hk hyl hl ha) pi_self (blkOk_by ok)
    (fun s H C cl fp => ⟨fun pins sh σ H v u Q I r h => pg_self.run pins sh σ H v u Q I r (h s _ C cl fp)⟩) (fun s H C cl fp => ⟨fun pins sh σ H Q I h => pts_self.run pins sh σ H Q I (h s _ C cl fp)⟩) (fun s H C cl fp => ⟨fun pins sh σ H Q I h => pe_self.run pins sh σ H Q I (h s _ C cl fp)⟩) (fun s H C cl fp => ⟨fun pins sh σ H Q I h => pe_self.run pins sh σ H Q I (h s _ C cl fp)⟩) hs) ?_⟩
  have hw : wpM ((dcM (own.map (·.2)) g h t ek e ρ >>= fun xs => pure (.dct xs)) >>= fun d => k (ρ.set i (.dat d))) s R Ex := hw
  rw [bind_assoc, wp_bind] at hw
  exact dc_run hi hg ht hkx he hv tk rl hw (fun ds s1 q vs H1 h1 a1 n1 e1 hz r1 => wy.nx _ _ H1 s1 ((rl.step a1.st a1.pen).put rfl fun d' e => by
    cases e
    exact ⟨_, rfl, .dct e1 (rl.fresh n1) (r1.mono (fun _ _ z _ => z) fun _ z => .inl z)⟩) h1) (px.px rl.old)
end
end Say

namespace Say
open L2 PyProof.Rows PySem.Spec PySem

/-! ### sorted(set(t)) -/
section
variable {X : Cx} {p : PL} {e a b : Expr} {es : List Expr} {f g fe : En} {fs : List En} {pos pos' : Pos} {k : Nat}
theorem cr_setI (hc : X.calm = true) : CallR X (.type "set") (fun xs H Q => ∃ (l : Addr) (ns : List Int), xs = [.ref l] ∧ SqT X.K H l (ns.map V.int) ∧ ns.length ≤ 60 ∧ ∀ a c, H a = none → c ≤ ns.length → Q (.ref a) (upd H a (SetO X.w a (fun j => decide (j ∈ ns)) c))) := by
  intro pins s σ
      H xs us Q I r h
  obtain ⟨l, ns, rfl, hq, hl, q⟩ := h
  rw [Vals.ref1 r]
  obtain ⟨its, rv, pt, hz⟩ := I.tuple hq
  have hi : IntsAre its.toArray.toList
      ns := ints_of_vals rv
  refine call_set_tupI ns (I.ok.hd hc) (show s.heap.IsTuple l its.toArray from pt) hi (by unfold scanBound; omega) fun h' tk c R1 hcn kk => ?_
  exact ⟨.ref _, upd H s.heap.objs.size (SetO X.w s.heap.objs.size (fun j => decide (j ∈ ns)) c), I.laid (t' := tk) kk (Nat.le_refl _) (setO_new R1), rfl, q _ c (I.hok.fresh (Nat.le_refl _)) hcn⟩
/-- ascending, each once -/
def insI (i : Int) : List Int → List Int
  | [] => [i]
  | j :: r => if i < j then i :: j :: r else if i = j then j :: r else j :: insI i r
def setI : List Int → List Int
  | [] => []
  | i :: r => insI i (setI r)
theorem mem_insI {i k : Int} : ∀ {l : List Int}, k ∈ insI i l ↔ k = i ∨ k ∈ l
  | [] => by simp [insI]
  | j :: r => by
    unfold insI
    split
    · simp
    · split
      · rename_i h; subst h; simp
      · simp only [List.mem_cons, mem_insI (l := r)]
        constructor
        · rintro (h | h | h) <;> simp [h]
        · rintro (h | h | h) <;> simp [h]
theorem mem_setI {k : Int} : ∀ {l : List Int}, k ∈ setI l ↔ k ∈ l
  | [] => by simp [setI]
  | i :: r => by
    show k ∈ insI i (setI r) ↔ _
    rw [mem_insI, mem_setI (l := r), List.mem_cons]
theorem asc_insI {i : Int} : ∀ {l : List Int}, l.Pairwise (· < ·) → (insI i l).Pairwise (· < ·)
  | [], _ => by simp [insI]
  | j :: r, h => by
    obtain ⟨h1, h2⟩ :=
        List.pairwise_cons.mp h
    unfold insI
    split
    · rename_i q
      refine List.pairwise_cons.mpr ⟨fun x hx => ?_, h⟩
      rcases List.mem_cons.mp hx with z | z
      · rw [z]; exact q
      · have := h1 x z; omega
    · split
      · exact h
      · refine List.pairwise_cons.mpr ⟨fun x hx => ?_, asc_insI h2⟩
        rcases mem_insI.mp hx with z | z
        · rw [z]; omega
        · exact h1 x z
theorem asc_setI : ∀ {l : List Int}, (setI l).Pairwise (· < ·)
  | [] => .nil
  | i :: r => asc_insI (asc_setI (l := r))
theorem asc_ext : ∀ {l m : List Int}, l.Pairwise (· < ·) → m.Pairwise (· < ·) → (∀ k, k ∈ l ↔ k ∈ m) → l = m
  | [], [], _, _, _ => rfl
  | [], j :: m, _, _, h => by have := (h j).mpr List.mem_cons_self; cases this
  | i :: l, [], _, _, h => by have := (h i).mp List.mem_cons_self; cases this
  | i :: l, j :: m, h1, h2, h => by
    obtain ⟨a1, a2⟩ := List.pairwise_cons.mp h1
    obtain ⟨b1, b2⟩ := List.pairwise_cons.mp h2
    have e : i = j := by
      have q1 := (h i).mp List.mem_cons_self
      have q2 := (h j).mpr List.mem_cons_self
      rcases List.mem_cons.mp q1 with z | z
      · exact z
      · rcases List.mem_cons.mp q2 with y | y
        · exact y.symm
        · have := b1 i z
          have := a1 j y
          omega
    subst e
    rw [asc_ext a2 b2 fun k => ?_]
    have := h k
    rw [List.mem_cons, List.mem_cons] at this
    constructor
    · intro hk
      exact (this.mp (.inr hk)).resolve_left fun z => by have := a1 k hk; omega
    · intro hk
      exact (this.mpr (.inr hk)).resolve_left fun z => by have := b1 k hk; omega
def setM : D → M (List D)
  | .tup xs => (match intsOf xs with
    | some ns => if ns.length ≤ 60 then pure ((setI ns).map D.int) else bad
    | none => bad)
  | _ => bad
theorem setI_len : ∀ (l : List Int), (setI l).length ≤ l.length
  | [] => Nat.le_refl _
  | i :: r => by
    have h1 : ∀ l : List Int, (insI i l).length ≤ l.length + 1 := fun l => by
      induction l with
      | nil => exact Nat.le_refl _
      | cons j r ih =>
        unfold insI
        split
        · exact Nat.le_refl _
        · split
          · simp
          · simp only
                [List.length_cons]; omega
    have := h1 (setI r)
    have := setI_len r
    show (insI i (setI r)).length ≤ r.length + 1
    omega
theorem dn_sortedSet {p2 p3 : Pos} (hm : X.mg "sorted" = none) (hms : X.mg "set" = none) (ha : DE X p e f) (hc : X.calm = true := by rfl) (hg : Gl X "sorted" := by rfl) (hgs : Gl X "set" := by rfl)
    (he : starEach (e :: []) X.env = (false, eval e X.env) :: starEach [] X.env := by rfl)
    (he2 : starEach (Expr.Call (.Name "set" p2) [e] [] p3 :: []) X.env = (false, eval (Expr.Call (.Name "set" p2) [e] [] p3) X.env) :: starEach [] X.env := by rfl) (hpl : (backTo p3 (starEach [] X.env)).any (·.1) = false := by rfl) (hpl2 : (backTo pos (starEach [] X.env)).any (·.1) = false := by rfl) :
    DN X p (.Call (.Name "sorted" pos') [.Call (.Name "set" p2) [e] [] p3] [] pos) (fun ρ => f ρ >>= setM) := by
  refine ⟨fun W G H0 ρ σ H s R Ex Q tk rl hw q px => tE_of (pe_callB (cr_sortedSet hc) hg hm boot_sorted (pa_cons (pe_callTy (cr_setI hc) hgs hms (by decide +kernel) (pa_cons pe_self pa_nil he) (by decide) (by decide) he hpl) pa_nil he2) (by decide) (by decide) he2 hpl2) ?_⟩
  rw [wp_bind] at hw
  refine ha.run W G H0 ρ σ H s _ Ex _ tk rl hw (fun d s1 v H1 h1 a1 r1 => ?_) px
  unfold setM at h1
  split at h1
  · rename_i xs
    split at h1
    · rename_i ns en
      by_cases h60 : ns.length ≤ 60
      · rw [if_pos h60] at h1
        have exs := intsOf_ok en
        subst exs
        cases r1 with
        | tup ho hz l1 =>
          rename_i vs
          have ev : vs = ns.map V.int := repL_ints l1
          subst ev
          refine ⟨_, ns, rfl, tupSq ho, h60, fun a c ha hcn => ?_⟩
          refine ⟨a, _, c, rfl, upd_same, by omega, fun ms l hasc hmem hlen hl => ?_⟩
          have em : ms = setI ns := asc_ext hasc asc_setI fun k => by rw [hmem k, mem_setI]; simp
          subst em
          have hla : l ≠ a := fun z => by rw [z, upd_same] at hl; cases hl
          have hl1 : H1 l = none := by rw [upd_ne hla] at hl; exact hl
          have sm : Same H1 (upd (upd H1 a (SetO X.w a (fun j => decide (j ∈ ns)) c)) l (.lst ((setI ns).map V.int))) := fun b o z => by
            rw [upd_ne (ne_of_none z hl1), upd_ne (ne_of_none z ha)]
            exact z
          refine q _ s1 l _ _ h1 (a1.trans (.same a1.pen sm)) (back_none a1 hl1) upd_same ?_ (RepL.ints _)
          have := setI_len ns
          rw [List.length_map]
          omega
      · rw [if_neg h60] at h1
        exact h1.elim
    · exact h1.elim
  · exact h1.elim
/-! ### xs.extend([..]) -/
def sExt (i : Nat) (f : Env → M (List D)) : S := fun k _ _ _ ρ => ownL ρ[i]? >>= fun xs => f ρ >>= fun ys => if xs.length + ys.length ≤ 16777216 then k (ρ.set i (.own (.lst (xs ++ ys)))) else bad
theorem ds_ext (i : Nat) {x : Str} {p1 p2 : Pos} {fl : Env → M (List D)} (he : DN X p e fl) (hN : X.N[i]? = some x := by rfl) (hv : Vis X.env.scope x := by first | exact Or.inl rfl | exact Or.inr (Or.inl rfl) | exact Or.inr (Or.inr rfl)) (hd : (x == ("__debug__" : Str)) = false := by decide)
    (hcd : (x == ("__classdict__" : Str)) = false := by decide) (hs : swapsWith (.Call (.Attribute (.Name x p1) "extend" p2) [e] [] pos') none pos.line X.env = pure false := by rfl)
    (hp : PE X (.Call (.Attribute (.Name x p1) "extend" p2) [e] [] pos') (tBM X.K "list" rExtend (tVar i) (tCons (tE X e) tNil)) := by exact pe_bm PySem.F.plainAttrs_list PySem.F.slot_list_extend PySem.F.type_list_extend mt_extend (pv _) (pa_cons pe_self pa_nil)) :
    DS X p (.Expr (.Call (.Attribute (.Name x p1) "extend" p2) [e] [] pos') pos) (sExt i fl) := by
  refine ⟨fun W G H0 ρ σ H s k r b c R Ex Dn tk rl hw wy px => tS_of (ps_expr hp hs) ?_⟩
  obtain ⟨xs, q, vs, eo, h1, h2, nq, h3, hz, h4, hw⟩ := ownL_ok rl (show wpM (ownL ρ[i]? >>= fun xs => fl ρ >>= fun ys => if xs.length + ys.length ≤ 16777216 then k (ρ.set i (.own (.lst (xs ++ ys)))) else bad) s R Ex from hw)
  refine ⟨_, h1, .inl ⟨rfl, vs, .inl (.inl h3)⟩, ?_⟩
  rw [wp_bind] at hw
  refine he.run W G H0 ρ σ H s _ Ex _ tk rl hw (fun ds s1 a ws H1 w1 a1 n1 e1 hz1 r1 => ?_) (px.px rl.old)
  by_cases hl : xs.length + ds.length ≤ 16777216
  case neg => rw [if_neg hl] at w1; exact w1.elim
  rw [if_pos hl] at w1
  have rl1 := rl.step a1.st a1.pen
  have l4 := h4.mono (a1.st.toF rl.fpa) fun _ z => z
  have fq : Fo G ρ σ q := .inr ⟨i, _, eo, rfl, h1⟩
  have r1' : RepL X.K p H1 (Fo G ρ σ) ws ds := r1.mono (fun _ _ z _ => z) fun _ z => .inl z
  refine ⟨q, a, vs, ws, rfl, rfl, a1.st q _ h3 nq, e1, by rw [l4.length, r1.length, sizeLine_eq]; exact hl, wy.nx _ σ _ s1 (rl1.updOwn (y := .own (.lst (xs ++ ds))) eo rfl rfl h1 ⟨vs ++ ws, upd_same, by rw [List.length_append]; exact hl, ?_⟩) w1⟩
  refine (l4.append r1').mono (fun a u z n => ?_) fun _ z => z
  rw [upd_ne fun z => n (by rw [z]; exact fq)]
  exact z
end
end Say

namespace Say
open L2 PyProof.Rows PySem.Spec PySem

/-! ### a dict of lists of ints, all of its own -/
abbrev KV := List (Int × List Int)
inductive NL (H : Hp) : List (Key × V) → List Addr → KV → Prop
  | nil : NL H [] [] []
  | cons {k : Int} {q : Addr} {ns : List Int} {vs : List (Key × V)} {qs : List Addr} {kvs : KV} (h : H q = some (.lst (ns.map V.int))) (hz : ns.length ≤ 16777216) (n : q ∉ qs) (r : NL H vs qs kvs) : NL H ((.inl k, .ref q) :: vs) (q :: qs) ((k, ns) :: kvs)
def getN (k : Int) : KV → Option (List Int)
  | [] => none
  | x :: r => if x.1 = k then some x.2 else getN k r
def setN (k : Int) (ms : List Int) : KV → KV
  | [] => []
  | x :: r => if x.1 = k then (x.1, ms) :: r else x :: setN k ms r
def kvD (kvs : KV) : D := .dct (kvs.map fun x => (.int x.1, .lst (x.2.map D.int)))
theorem NL.mono {H H' : Hp} : ∀ {vs : List (Key × V)} {qs : List Addr} {kvs : KV}, NL H vs qs kvs → (∀ q ∈ qs, ∀ o, H q = some o → H' q = some o) → NL H' vs qs kvs
  | _, _, _, .nil, _ => .nil
  | _, _, _, .cons h hz n r, e => .cons (e _ List.mem_cons_self _ h) hz n (r.mono fun q m => e q (List.mem_cons_of_mem _ m))
theorem NL.len {H : Hp} : ∀ {vs : List (Key × V)} {qs : List Addr} {kvs : KV}, NL H vs qs kvs → vs.length = kvs.length
  | _, _, _, .nil => rfl
  | _, _, _, .cons _ _ _ r => by rw [List.length_cons, List.length_cons, r.len]
theorem NL.there {H : Hp} : ∀ {vs : List (Key × V)} {qs : List Addr} {kvs : KV}, NL H vs qs kvs → ∀ q ∈ qs, ∃ o, H q = some o
  | _, _, _, .nil, _, m => nomatch m
  | _, _, _, .cons h _ _ r, q, m => by
    rcases List.mem_cons.mp
        m with e | e
    · rw [e]; exact ⟨_, h⟩
    · exact r.there q e
theorem NL.pln {H : Hp} : ∀ {vs : List (Key × V)} {qs : List Addr} {kvs : KV}, NL H vs qs kvs → ∀ q ∈ qs, ∃ o, H q = some o ∧ Pln o
  | _, _, _, .nil, _, m => nomatch m
  | _, _, _, .cons h _ _ r, q, m => by
    rcases List.mem_cons.mp
        m with e | e
    · rw [e]; exact ⟨_, h, pln_lst⟩
    · exact r.pln q e
theorem NL.get {H : Hp} {k : Int} {ns : List Int} : ∀ {vs : List (Key × V)} {qs : List Addr} {kvs : KV}, NL H vs qs kvs → getN k kvs = some ns →
    ∃ q, q ∈ qs ∧ valV vs (.inl k) = some (.ref q) ∧ H q = some (.lst (ns.map V.int)) ∧ ns.length ≤ 16777216 ∧ ∀ (H1 : Hp) (ms : List Int), ms.length ≤ 16777216 → (∀ q ∈ qs, ∀ o, H q = some o → H1 q = some o) → NL (upd H1 q (.lst (ms.map V.int))) vs qs (setN k ms kvs)
  | _, _, _, .nil, e => by cases e
  | _, _, _, .cons (k := j) (q := q) (ns := ms0) (vs := vs) (qs := qs) (kvs := kvs) h hz n r, e => by
    by_cases c : j = k
    · subst c
      have e1 : ms0 = ns := by
        have e0 : getN j ((j, ms0) :: kvs) = some ms0 := if_pos rfl
        rw [e0] at e
        exact Option.some.inj e
      subst e1
      refine ⟨q, List.mem_cons_self, valV_pos rfl, h, hz, fun H1 ms hl st => ?_⟩
      have e2 : ∀ ms0, setN j ms ((j, ms0) :: kvs) = (j, ms) :: kvs := fun _ => if_pos rfl
      rw [e2]
      refine .cons upd_same hl n (r.mono fun b m o z => ?_)
      rw [upd_ne fun y => n (by rw [← y]; exact m)]
      exact st b (List.mem_cons_of_mem _ m) o z
    · have e1 : getN k kvs = some ns := by
        have : getN k ((j, ms0) :: kvs) = getN k kvs := if_neg c
        rw [← this]; exact e
      obtain ⟨q', m', v', h', z', up⟩ := r.get e1
      have hne : q ≠ q' := fun y => n (by rw [y]; exact m')
      refine ⟨q', List.mem_cons_of_mem _ m', ?_, h', z', fun H1 ms hl st => ?_⟩
      · rw [valV_neg (p := (Sum.inl j, V.ref q)) fun y => c (by injection y)]
        exact v'
      · have e2 : setN k ms ((j, ms0) :: kvs) = (j, ms0) :: setN k ms kvs := if_neg c
        rw [e2]
        refine .cons ?_ hz n (up H1 ms hl fun b m o z => st b (List.mem_cons_of_mem _ m) o z)
        rw [upd_ne hne]
        exact st q List.mem_cons_self _ h
theorem NL.rep {K : PySem.W.Frag} {p : PL} {H : Hp} {F : Addr → Prop} : ∀ {vs : List (Key × V)} {qs : List Addr} {kvs : KV}, NL H vs qs kvs → (∀ q ∈ qs, ¬ F q) → RepK K p H F vs (kvs.map fun x => (.int x.1, .lst (x.2.map D.int)))
  | _, _, _, .nil, _ => .nil
  | _, _, _, .cons h hz n r, e => .int (.lst h (e _ List.mem_cons_self) (by rw [List.length_map]; exact hz) (RepL.ints _)) (r.rep fun q m => e q (List.mem_cons_of_mem _ m))
theorem NL.keys {H : Hp} {k : Int} : ∀ {vs : List (Key × V)} {qs : List Addr} {kvs : KV}, NL H vs qs kvs → k ∉ kvs.map (·.1) → valV vs (.inl k) = none
  | _, _, _, .nil, _ => rfl
  | _, _, _, .cons (k := j) (q := q) h hz n r, e => by
    rw [List.map_cons, List.mem_cons, not_or] at e
    rw [valV_neg (p := (Sum.inl j, V.ref q)) fun y => e.1 (by injection y with y; exact y.symm)]
    exact r.keys e.2
theorem NL.snoc {H : Hp} {k : Int} {q : Addr} {ns : List Int} (h : H q = some (.lst (ns.map V.int))) (hz : ns.length ≤ 16777216) : ∀ {vs : List (Key × V)} {qs : List Addr} {kvs : KV}, NL H vs qs kvs → q ∉ qs → NL H (vs ++ [(.inl k, .ref q)]) (qs ++ [q]) (kvs ++ [(k, ns)])
  | _, _, _, .nil, _ => .cons h hz (by simp) .nil
  | _, _, _, .cons h' hz' n r, e => by
    rw [List.mem_cons, not_or] at e
    refine .cons h' hz' ?_ (r.snoc h hz e.2)
    show ¬ _ ∈ _ ++ [q]
    rw [List.mem_append, not_or]
    exact ⟨n, fun z => e.1 (List.mem_singleton.mp z).symm⟩
section
variable {K : PySem.W.Frag} {p : PL} {G N : Addr → Prop} {H0 H1 Hc : Hp} {ρ : Env} {σ : L2.St} {s s' : Pen}
/-- what is new is not to be touched by what is carried -/
theorem Rel.grow (rl : Rel K p G H0 ρ σ H1 s) (a : Af p H1 Hc s') (hN : ∀ b, N b → H1 b = none) (hc : ∀ b, N b → ∃ o, Hc b = some o) : Rel K p (fun b => G b ∨ N b) H0 ρ σ Hc s' := by
  have rn := rl.step a.st a.pen
  have fo : ∀ b, Fo (fun b => G b ∨ N b) ρ σ b → Fo G ρ σ b ∨ N b := fun b z => by
    rcases z with (z | z) | z
    · exact .inl (.inl z)
    · exact .inr z
    · exact .inl (.inr z)
  have st : StepF (fun b => Fo G ρ σ b ∨ N b) H1 Hc := a.st.toF (fun a z => .inl (rl.fpa a z))
  refine ⟨rn.len, fun i d e => ?_, fun i x e hx => ?_, rn.inj, rn.old, rn.pen, (fun a z => .inl (rn.gpa a z)), .inl rn.gca, fun b hb => ?_, fun i x b e hx e2 => ?_⟩
  · obtain ⟨v, q1, q2⟩ := rl.dat i d e
    exact ⟨v, q1, (q2.more hN).mono st fo⟩
  · obtain ⟨b, q1, q2, q3⟩ := rl.own i x e hx
    have npa : ¬ p.no b := fun z => rl.gne i x b e hx q1 (rl.gpa _ z)
    have old : ∀ o, H1 b = some o → Hc b = some o := fun o z => a.st b o z npa
    refine ⟨b, q1, q2, ?_⟩
    cases x with
    | no => exact q3.elim
    | dat d => exact q3.elim
    | self c fs =>
      obtain ⟨hx, dx, ws, z1, z0, z2⟩ := q3
      exact ⟨hx, dx, ws, old _ z1, z0, (z2.more hN).mono st fo⟩
    | own d =>
      cases d with
      | lst ds =>
        obtain ⟨ws, z1, z0, z2⟩ := q3
        exact ⟨ws, old _ z1, z0, (z2.more hN).mono st fo⟩
      | dct ds =>
        obtain ⟨ws, z1, z2⟩ := q3
        exact ⟨ws, old _ z1, (z2.more hN).mono st fo⟩
      | _ => exact q3.elim
  · rcases hb with hb | hb
    · exact rn.gex b hb
    · exact hc b hb
  · rintro (z | z)
    · exact rn.gne i x b e hx e2 z
    · obtain ⟨c, q1, q2, q3⟩ := rl.own i x e hx
      rw [e2] at q1
      cases q1
      obtain ⟨o, ho, _⟩ := q3.there
      rw [hN _ z] at ho
      cases ho
end
def unh (ρ : Env) : Bool := ρ.all fun x => !x.held
theorem unh_get {ρ : Env} (h : unh ρ = true) {i : Nat} {x : Sl} (e : ρ[i]? = some x) : x.held = false := by
  have := List.all_eq_true.mp h x (List.mem_of_getElem? e)
  simpa using this
/-- the state while a dict of lists stands at slot n -/
structure NS (K : PySem.W.Frag) (p : PL) (G : Addr → Prop) (n : Nat) (a : Addr) (qs : List Addr) (vs : List (Key × V)) (H0 : Hp) (ρ : Env) (σ : L2.St) (H : Hp) (s : Pen) (kvs : KV) : Prop where
  rel : Rel K p (fun b => G b ∨ b = a ∨ b ∈ qs) H0 ρ σ H s
  at_ : σ[n]? = some (some (.ref a))
  dict : H a = some (.dK vs)
  nl : NL H vs qs kvs
  na : a ∉ qs
  no : ∀ b, b = a ∨ b ∈ qs → ¬ G b ∧ H0 b = none
  gpa : ∀ a, p.no a → G a
  gca : G p.ca
  un : ∀ (i : Nat) (x : Sl), ρ[i]? = some x → x.held = false
section
variable {K : PySem.W.Frag} {p : PL} {G : Addr → Prop} {n : Nat} {a : Addr} {qs : List Addr} {vs : List (Key × V)} {H0 H H' : Hp} {ρ : Env} {σ : L2.St} {s s' : Pen} {kvs : KV}
theorem fo_un {G : Addr → Prop} {ρ : Env} {σ : L2.St} (un : ∀ (i : Nat) (x : Sl), ρ[i]? = some x → x.held = false) {b : Addr} (h : Fo G ρ σ b) : G b := by
  rcases h with h | ⟨i, x, e, hx, _⟩
  · exact h
  · rw [un i x e] at hx
    cases hx
theorem NS.ne (h : NS K p G n a qs vs H0 ρ σ H s kvs) {b : Addr} (m : b = a ∨ b ∈ qs) : ¬ p.no b := fun z => (h.no b m).1 (h.gpa _ z)
theorem NS.nec (h : NS K p G n a qs vs H0 ρ σ H s kvs) {b : Addr} (m : b = a ∨ b ∈ qs) : b ≠ p.ca := fun z => (h.no b m).1 (by rw [z]; exact h.gca)
theorem un_set {ρ : Env} (un : ∀ (i : Nat) (x : Sl), ρ[i]? = some x → x.held = false) {i : Nat} {y : Sl} (hy : y.held = false) : ∀ (j : Nat) (x : Sl), (ρ.set i y)[j]? = some x → x.held = false := fun j x e => by
  rcases get_set e with ⟨_, q, _⟩ | ⟨_, e⟩
  · rw [q]; exact hy
  · exact un j x e
/-- read as data -/
theorem NS.view (h : NS K p G n a qs vs H0 ρ σ H s kvs) : Rel K p G H (ρ.set n (.dat (kvD kvs))) σ H s := by
  have un := un_set (i := n) (y := .dat (kvD kvs)) h.un rfl
  refine ⟨by rw [List.length_set]; exact h.rel.len, fun i d e => ?_, fun i x e hx => ?_, fun i j x y b e hx => ?_, Step.refl, h.rel.pen, h.gpa, h.gca, fun b hb => h.rel.gex b (.inl hb), fun i x b e hx => ?_⟩
  · rcases get_set e with ⟨rfl, q, hl⟩ | ⟨ne, e⟩
    · cases q
      exact ⟨_, h.at_, .dct h.dict (fun z => (h.no a (.inl rfl)).1 (fo_un un z)) (h.nl.rep fun q m z => (h.no q (.inr m)).1 (fo_un un z))⟩
    · obtain ⟨v, q1, q2⟩ := h.rel.dat i d e
      exact ⟨v, q1, q2.mono (fun _ _ z _ => z) fun b z => .inl (.inl (fo_un un z))⟩
  · rw [un i x e] at hx; cases hx
  · rw [un i x e] at hx; cases hx
  · rw [un i x e] at hx; cases hx
theorem NS.step (h : NS K p G n a qs vs H0 ρ σ H s kvs) (st : Step p H H') (pn : PenAt H' p s') : NS K p G n a qs vs H0 ρ σ H' s' kvs where
  rel := h.rel.step st pn
  at_ := h.at_
  dict := st _ _ h.dict (h.ne (.inl rfl))
  nl := h.nl.mono fun q m o z => st _ _ z (h.ne (.inr m))
  na := h.na
  no := h.no
  gpa := h.gpa
  gca := h.gca
  un := h.un
theorem NS.put (h : NS K p G n a qs vs H0 ρ σ H s kvs) {i : Nat} {d : D} {v : V} (hi : i ≠ n) (r : Rep K p H (Fo (fun b => G b ∨ b = a ∨ b ∈ qs) ρ σ) v d) : NS K p G n a qs vs H0 (ρ.set i (.dat d)) (σ.set i (some v)) H s kvs where
  rel := h.rel.put rfl fun d' e => by cases e; exact ⟨v, rfl, r⟩
  at_ := by rw [List.getElem?_set_ne hi]; exact h.at_
  dict := h.dict
  nl := h.nl
  na := h.na
  no := h.no
  gpa := h.gpa
  gca := h.gca
  un := un_set h.un rfl
/-- one of the lists is changed -/
theorem NS.upd (h : NS K p G n a qs vs H0 ρ σ H s kvs) {q : Addr} (m : q ∈ qs) {o : HO} {kvs' : KV} (nl : NL (upd H q o) vs qs kvs') : NS K p G n a qs vs H0 ρ σ (upd H q o) s kvs' where
  rel := h.rel.updG (.inr (.inr m)) (h.no q (.inr m)).2 (h.ne (.inr m)) (h.nec (.inr m)) (h.nl.pln q m)
  at_ := h.at_
  dict := by rw [upd_ne fun z => h.na (by rw [z]; exact m)]; exact h.dict
  nl := nl
  na := h.na
  no := h.no
  gpa := h.gpa
  gca := h.gca
  un := h.un
end
abbrev SN := (Env → KV → M D) → Env → KV → M D
structure DSN (X : Cx) (p : PL) (n : Nat) (st : Stmt) (f : SN) : Prop where
  run : ∀ (G : Addr → Prop) (a : Addr) (qs : List Addr) (vs : List (Key × V)) (H0 : Hp) (ρ : Env) (σ : L2.St) (H : Hp) (s : Pen) (kvs : KV) (k : Env → KV → M D) (R : D → Pen → Prop) (Ex : XR) (Dn : Ends), NS X.K p G n a qs vs H0 ρ σ H s kvs → wpM (f k ρ kvs) s R Ex →
    (∀ ρ σ H s kvs, NS X.K p G n a qs vs H0 ρ σ H s kvs → wpM (k ρ kvs) s R Ex → Dn.nx σ H) → tS X st Dn σ H
structure DSNs (X : Cx) (p : PL) (n : Nat) (st : List Stmt) (f : SN) : Prop where
  run : ∀ (G : Addr → Prop) (a : Addr) (qs : List Addr) (vs : List (Key × V)) (H0 : Hp) (ρ : Env) (σ : L2.St) (H : Hp) (s : Pen) (kvs : KV) (k : Env → KV → M D) (R : D → Pen → Prop) (Ex : XR) (Dn : Ends), NS X.K p G n a qs vs H0 ρ σ H s kvs → wpM (f k ρ kvs) s R Ex →
    (∀ ρ σ H s kvs, NS X.K p G n a qs vs H0 ρ σ H s kvs → wpM (k ρ kvs) s R Ex → Dn.nx σ H) → tSs X st Dn σ H
theorem tyL {K : PySem.W.Frag} {H : Hp} {l : Addr} {xs : List V} (h : H l = some (.lst xs)) : tyV K "list" (.ref l) H := .inl ⟨rfl, xs, .inl (.inl h)⟩
def snSeq (f g : SN) : SN := fun k ρ kvs => f (g k) ρ kvs
section
variable {X : Cx} {p : PL} {n : Nat} {st : Stmt} {sts body : List Stmt} {f g : SN} {e1 e2 tg iter elt : Expr} {f1 f2 : En} {fl : Env → M (List D)} {pos pos' : Pos} {scope : Scope} {h : D → Env → Option Env} {t : Env → M Bool} {ee : En} {ts : List Nat} {ifs : List Expr} {kk : Nat}
theorem dsn_one (h : DSN X p n st f) : DSNs X p n [st] f := ⟨fun G a qs vs H0 ρ σ H s kvs k R Ex Dn ns hw q => tSs_of (pss_one ps_self) (h.run G a qs vs H0 ρ σ H s kvs k R Ex Dn ns hw q)⟩
theorem dsn_cons (h : DSN X p n st f) (h2 : DSNs X p n sts g) : DSNs X p n (st :: sts) (snSeq f g) :=
  ⟨fun G a qs vs H0 ρ σ H s kvs k R Ex Dn ns hw q => tSs_of (pss_cons ps_self pss_self) (h.run G a qs vs H0 ρ σ H s kvs (g k) R Ex _ ns hw fun ρ' σ' H' s' kvs' ns' hw' => h2.run G a qs vs H0 ρ' σ' H' s' kvs' k R Ex Dn ns' hw' q)⟩
def intL (xs : List D) : M (List Int) := match intsOf xs with
  | some ns => pure ns
  | none => bad
theorem intL_ok {α : Type} {xs : List D} {k : List Int → M α} {s : Pen} {R : α → Pen → Prop} {Ex : XR} (h : wpM (intL xs >>= k) s R Ex) : ∃ ns, xs = ns.map D.int ∧ wpM (k ns) s R Ex := by
  unfold intL at h
  cases e : intsOf xs with
  | none => rw [e] at h; exact h.elim
  | some ns => rw [e] at h; exact ⟨ns, intsOf_ok e, h⟩
def intE (d : D) : M Int := match d with
  | .int i => pure i
  | _ => bad
theorem intE_ok {α : Type} {x : D} {k : Int → M α} {s : Pen} {R : α → Pen → Prop} {Ex : XR} (h : wpM (intE x >>= k) s R Ex) : ∃ i, x = .int i ∧ wpM (k i) s R Ex := by
  cases x with
  | int i => exact ⟨i, rfl, h⟩
  | _ => exact h.elim
def getNM (i : Int) (kvs : KV) : M (List Int) := match getN i kvs with
  | some ns => pure ns
  | none => bad
theorem getNM_ok {α : Type} {i : Int} {kvs : KV} {k : List Int → M α} {s : Pen} {R : α → Pen → Prop} {Ex : XR} (h : wpM (getNM i kvs >>= k) s R Ex) : ∃ ns, getN i kvs = some ns ∧ wpM (k ns) s R Ex := by
  unfold getNM at h
  cases e : getN i kvs with
  | none => rw [e] at h; exact h.elim
  | some ns => rw [e] at h; exact ⟨ns, rfl, h⟩
/-- x = [..], the dict read within -/
def snLc (n i : Nat) (k0 : Env → M (List D)) : SN := fun k ρ kvs => nx (k0 (ρ.set n (.dat (kvD kvs)))) >>= fun ds => intL ds >>= fun ns => k (ρ.set i (.dat (.lst (ns.map D.int)))) kvs
theorem dsn_lc (i : Nat) {x : Str} {py : Pos} (own : List (Str × Nat)) (hN : X.N.Nodup) (hi : DI X p false tg iter fl) (hg : ∀ s H C cl fp, DG (Blk X s H scope C cl fp) p tg ts h) (ht : ∀ s H C cl fp, DTs (Blk X s H scope C cl fp) p ifs t) (he : ∀ s H C cl fp, DE (Blk X s H scope C cl fp) p elt ee)
    (hin : i ≠ n := by decide) (hy : X.N[i]? = some x := by rfl) (hyl : X.env.scope.names.lookup x = some .local := by rfl) (hl : (py.line == pos.line) = true := by rfl) (ha : (scope.names.any fun (n, k) => n == x && (k == .local || k == .cell)) = false := by decide +kernel) (hk : X.env.scope.kind = .function := by rfl)
    (ok : blkC X.N X.env.scope scope own = true := by first | kernel_rfl | rfl) (hv : ∀ i ∈ ts, i ∈ own.map (·.2) := by decide) (hc : X.calm = true := by rfl) (hs : ∀ x, foldedSetIterable iter X.env x = pure x := by intro _; rfl) :
    DSN X p n (.Assign [.Name x py] (.ListComp elt [⟨tg, iter, ifs, 0⟩] scope pos) pos') (snLc n i (lcM (own.map (·.2)) fl h t ee)) := by
  refine ⟨fun G a qs vs H0 ρ σ H s kvs k R Ex Dn ns hw q => tS_of (ps_setLc (wi := tI X tg iter) (g := bG X scope tg) (tt := bT X scope ifs) (te := bE X scope elt) hc hN hy hyl (sw_true hk hyl hl ha) pi_self (blkOk_by ok)
    (fun s H C cl fp => ⟨fun pins sh σ H v u Q I r h => pg_self.run pins sh σ H v u Q I r (h s _ C cl fp)⟩) (fun s H C cl fp => ⟨fun pins sh σ H Q I h => pts_self.run pins sh σ H Q I (h s _ C cl fp)⟩) (fun s H C cl fp => ⟨fun pins sh σ H Q I h => pe_self.run pins sh σ H Q I (h s _ C cl fp)⟩) hs) ?_⟩
  have hw : wpM (nx (lcM (own.map (·.2)) fl h t ee (ρ.set n (.dat (kvD kvs)))) >>= fun ds => intL ds >>= fun ns => k (ρ.set i (.dat (.lst (ns.map D.int)))) kvs) s R Ex := hw
  rw [wp_bind] at hw
  refine lc_run hi hg ht he hv takesN ns.view (wp_nx hw) (fun ds s1 l ws H1 h1 a1 n1 e1 hz r1 => ?_) fun _ _ _ _ _ _ z => z.elim
  obtain ⟨ms, em, h2⟩ := intL_ok h1
  subst em
  have ev := repL_ints r1
  subst ev
  exact q _ _ H1 s1 kvs ((ns.step a1.st a1.pen).put hin (.lst e1 (ns.rel.fresh n1) hz (RepL.ints _))) h2
/-- near[e1].append(e2) -/
def snApp (f1 f2 : En) : SN := fun k ρ kvs => nx (f1 ρ) >>= fun d1 => intE d1 >>= fun i => getNM i kvs >>= fun ns => nx (f2 ρ) >>= fun d2 => intE d2 >>= fun j => if ns.length < 16777216 then k ρ (setN i (ns ++ [j]) kvs) else bad
theorem dsn_app {x : Str} {p1 p2 p3 : Pos} (hr : Room kk X.A) (h1 : DE X p e1 f1) (h2 : DE X p e2 f2) (hN : X.N[n]? = some x := by rfl) (hvs : Vis X.env.scope x := by first | exact Or.inl rfl | exact Or.inr (Or.inl rfl) | exact Or.inr (Or.inr rfl)) (hd : (x == ("__debug__" : Str)) = false := by decide)
    (hcd : (x == ("__classdict__" : Str)) = false := by decide) (hsl : NoSl e1 := by exact fun _ _ => rfl) (hs : swapsWith (.Call (.Attribute (.Subscript (.Name x p1) e1 p2) "append" p3) [e2] [] pos') none pos.line X.env = pure false := by rfl)
    (hp : ∀ {to : TE}, PE X (.Subscript (.Name x p1) e1 p2) to → PE X (.Call (.Attribute (.Subscript (.Name x p1) e1 p2) "append" p3) [e2] [] pos') (tBM X.K "list" rAppend to (tCons (tE X e2) tNil)) := by exact fun ho => pe_bm PySem.F.plainAttrs_list PySem.F.slot_list_append PySem.F.type_list_append mt_append ho (pa_cons pe_self pa_nil)) :
    DSN X p n (.Expr (.Call (.Attribute (.Subscript (.Name x p1) e1 p2) "append" p3) [e2] [] pos') pos) (snApp f1 f2) := by
  refine ⟨fun G a qs vs H0 ρ σ H s kvs k R Ex Dn ns hw q => tS_of (ps_expr (hp (pe_dget (by have := hr.un; omega) (pv n hN hvs hd hcd) pe_self hsl)) hs) ?_⟩
  have hw : wpM (nx (f1 ρ) >>= fun d1 => intE d1 >>= fun i => getNM i kvs >>= fun ns => nx (f2 ρ) >>= fun d2 => intE d2 >>= fun j => if ns.length < 16777216 then k ρ (setN i (ns ++ [j]) kvs) else bad) s R Ex := hw
  refine ⟨_, ns.at_, ?_⟩
  rw [wp_bind] at hw
  refine h1.run _ _ _ _ _ _ _ _ _ _ takesN ns.rel (wp_nx hw) (fun d1 s1 v1 H1 w1 a1 r1 => ?_) fun _ _ _ _ _ _ z => z.elim
  obtain ⟨i, ei, w1⟩ := intE_ok w1
  subst ei
  cases r1
  obtain ⟨ms, eg, w1⟩ := getNM_ok w1
  have n1 := ns.step a1.st a1.pen
  obtain ⟨l, ml, ev, hl, hz, up⟩ := n1.nl.get eg
  refine ⟨a, _, rfl, by rw [← ev]; exact DGet.k (k := .inl i) n1.dict, (show tyV X.K "list" (.ref l) H1 from tyL hl), ?_⟩
  rw [wp_bind] at w1
  refine h2.run _ _ _ _ _ _ _ _ _ _ takesN n1.rel (wp_nx w1) (fun d2 s2 v2 H2 w2 a2 r2 => ?_) fun _ _ _ _ _ _ z => z.elim
  obtain ⟨j, ej, w3⟩ := intE_ok w2
  subst ej
  cases r2
  by_cases c : ms.length < 16777216
  case neg => rw [if_neg c] at w3; exact w3.elim
  rw [if_pos c] at w3
  have n2 := n1.step a2.st a2.pen
  refine ⟨l, _, _, rfl, rfl, a2.st l _ hl (n1.ne (.inr ml)), by rw [List.length_map, sizeLine_eq]; exact c, ?_⟩
  have e : (ms.map V.int ++ [V.int j]) = (ms ++ [j]).map V.int := by rw [List.map_append]; rfl
  rw [e]
  exact q _ _ _ s2 _ (n2.upd ml (up H2 (ms ++ [j]) (by rw [List.length_append]; exact c) fun b m o z => a2.st b o z (n1.ne (.inr m)))) w3
/-- near[e1].extend([..]) -/
def snExt (f1 : En) (f2 : Env → M (List D)) : SN := fun k ρ kvs => nx (f1 ρ) >>= fun d1 => intE d1 >>= fun i => getNM i kvs >>= fun ns => nx (f2 ρ) >>= fun ds => intL ds >>= fun ms => if ns.length + ms.length ≤ 16777216 then k ρ (setN i (ns ++ ms) kvs) else bad
theorem dsn_ext {x : Str} {p1 p2 p3 : Pos} (hr : Room kk X.A) (h1 : DE X p e1 f1) (h2 : DN X p e2 fl) (hN : X.N[n]? = some x := by rfl) (hvs : Vis X.env.scope x := by first | exact Or.inl rfl | exact Or.inr (Or.inl rfl) | exact Or.inr (Or.inr rfl)) (hd : (x == ("__debug__" : Str)) = false := by decide)
    (hcd : (x == ("__classdict__" : Str)) = false := by decide) (hsl : NoSl e1 := by exact fun _ _ => rfl) (hs : swapsWith (.Call (.Attribute (.Subscript (.Name x p1) e1 p2) "extend" p3) [e2] [] pos') none pos.line X.env = pure false := by rfl)
    (hp : ∀ {to : TE}, PE X (.Subscript (.Name x p1) e1 p2) to → PE X (.Call (.Attribute (.Subscript (.Name x p1) e1 p2) "extend" p3) [e2] [] pos') (tBM X.K "list" rExtend to (tCons (tE X e2) tNil)) := by exact fun ho => pe_bm PySem.F.plainAttrs_list PySem.F.slot_list_extend PySem.F.type_list_extend mt_extend ho (pa_cons pe_self pa_nil)) :
    DSN X p n (.Expr (.Call (.Attribute (.Subscript (.Name x p1) e1 p2) "extend" p3) [e2] [] pos') pos) (snExt f1 fl) := by
  refine ⟨fun G a qs vs H0 ρ σ H s kvs k R Ex Dn ns hw q => tS_of (ps_expr (hp (pe_dget (by have := hr.un; omega) (pv n hN hvs hd hcd) pe_self hsl)) hs) ?_⟩
  have hw : wpM (nx (f1 ρ) >>= fun d1 => intE d1 >>= fun i => getNM i kvs >>= fun ns => nx (fl ρ) >>= fun ds => intL ds >>= fun ms => if ns.length + ms.length ≤ 16777216 then k ρ (setN i (ns ++ ms) kvs) else bad) s R Ex := hw
  refine ⟨_, ns.at_, ?_⟩
  rw [wp_bind] at hw
  refine h1.run _ _ _ _ _ _ _ _ _ _ takesN ns.rel (wp_nx hw) (fun d1 s1 v1 H1 w1 a1 r1 => ?_) fun _ _ _ _ _ _ z => z.elim
  obtain ⟨i, ei, w1⟩ := intE_ok w1
  subst ei
  cases r1
  obtain ⟨ms, eg, w1⟩ := getNM_ok w1
  have n1 := ns.step a1.st a1.pen
  obtain ⟨l, ml, ev, hl, hz, up⟩ := n1.nl.get eg
  refine ⟨a, _, rfl, by rw [← ev]; exact DGet.k (k := .inl i) n1.dict, (show tyV X.K "list" (.ref l) H1 from tyL hl), ?_⟩
  rw [wp_bind] at w1
  refine h2.run _ _ _ _ _ _ _ _ _ _ takesN n1.rel (wp_nx w1) (fun ds s2 b ws H2 w2 a2 nb eb hzb r2 => ?_) fun _ _ _ _ _ _ z => z.elim
  obtain ⟨js, ej, w3⟩ := intL_ok w2
  subst ej
  have ew := repL_ints r2
  subst ew
  by_cases c : ms.length + js.length ≤ 16777216
  case neg => rw [if_neg c] at w3; exact w3.elim
  rw [if_pos c] at w3
  have n2 := n1.step a2.st a2.pen
  refine ⟨l, b, _, _, rfl, rfl, a2.st l _ hl (n1.ne (.inr ml)), eb, by rw [List.length_map, List.length_map, sizeLine_eq]; exact c, ?_⟩
  rw [← List.map_append]
  exact q _ _ _ s2 _ (n2.upd ml (up H2 (ms ++ js) (by rw [List.length_append]; exact c) fun b m o z => a2.st b o z (n1.ne (.inr m)))) w3

/-- for x in .., the things walked ints -/
def forNn (i : Nat) (f : SN) (k : Env → KV → M D) : List Int → Env → KV → M D
  | [], ρ, kv => k ρ kv
  | m :: ms, ρ, kv => f (forNn i f k ms) (ρ.set i (.dat (.int m))) kv
def snFor (i : Nat) (g : Env → M (List D)) (f : SN) : SN := fun k ρ kvs => nx (g ρ) >>= fun xs => intL xs >>= fun ns => forNn i f k ns ρ kvs
theorem dsn_for (i : Nat) {x : Str} {px' : Pos} (hNd : X.N.Nodup) (hi : DI X p true (.Name x px') iter fl) (hb : DSNs X p n body f) (hp : PassesOwn (model X.prog X.w) X.A X.env X.xe) (hin : i ≠ n := by decide) (hix : X.N[i]? = some x := by rfl) (hx : Loc X.env.scope x := by first | exact Or.inl rfl | exact Or.inr rfl) (hf : X.fn x = true ∨ X.env.scope.names.lookup x = some .local := by first | exact .inl rfl | exact .inr rfl) (hc : X.calm = true := by rfl) (hs : ∀ x, foldedSetIterable iter X.env x = pure x := by intro _; rfl) :
    DSN X p n (.For (.Name x px') iter body [] pos) (snFor i fl f) := by
  refine ⟨fun G a qs vs H0 ρ σ H s kvs k R Ex Dn ns hw q => tS_of (ps_for hp hc pi_self (pg_name hNd hix hx hf) pss_self hs) ?_⟩
  have hw : wpM (nx (fl ρ) >>= fun xs => intL xs >>= fun ms => forNn i f k ms ρ kvs) s R Ex := hw
  rw [wp_bind] at hw
  refine hi.run _ _ _ _ _ _ _ _ _ _ takesN ns.rel (wp_nx hw) (fun ds s1 H1 J h1 a1 ok => ?_) fun _ _ _ _ _ _ z => z.elim
  obtain ⟨ms, em, h2⟩ := intL_ok h1
  subst em
  have n1 := ns.step a1.st a1.pen
  have hlen : (ms.map D.int).length = ms.length := List.length_map _
  -- within: what stood at the start, but for the lists
  let Hb : Hp := fun b => @ite _ (b = a ∨ b ∈ qs) (Classical.propDecidable _) none (H1 b)
  have hb0 : ∀ b, b = a ∨ b ∈ qs → Hb b = none := fun b m => @if_pos _ (Classical.propDecidable _) m _ _ _
  have hb1 : ∀ b, ¬ (b = a ∨ b ∈ qs) → Hb b = H1 b := fun b m => @if_neg _ (Classical.propDecidable _) m _ _ _
  have back : ∀ {ρ' : Env} {σ' : L2.St} {H' : Hp} {s' : Pen} {kv : KV}, NS X.K p G n a qs vs Hb ρ' σ' H' s' kv → NS X.K p G n a qs vs H0 ρ' σ' H' s' kv := fun {ρ' σ' H' s' kv} r => by
    refine ⟨⟨r.rel.len, r.rel.dat, fun j y e hy => ?_, r.rel.inj, fun b o e np => ?_, r.rel.pen, r.rel.gpa, r.rel.gca, r.rel.gex, r.rel.gne⟩, r.at_, r.dict, r.nl, r.na, ns.no, r.gpa, r.gca, r.un⟩
    · rw [r.un j y e] at hy; cases hy
    · have nb : ¬ (b = a ∨ b ∈ qs) := fun m => by rw [(ns.no b m).2] at e; cases e
      refine r.rel.old b o ?_ np
      rw [hb1 b nb]
      exact n1.rel.old b o e np
  have start : NS X.K p G n a qs vs Hb ρ σ H1 s1 kvs := by
    refine ⟨⟨n1.rel.len, n1.rel.dat, fun j y e hy => ?_, n1.rel.inj, fun b o e np => ?_, n1.rel.pen, n1.rel.gpa, n1.rel.gca, n1.rel.gex, n1.rel.gne⟩, n1.at_, n1.dict, n1.nl, n1.na, fun b m => ⟨(n1.no b m).1, hb0 b m⟩, n1.gpa, n1.gca, n1.un⟩
    · rw [n1.un j y e] at hy; cases hy
    · by_cases nb : b = a ∨ b ∈ qs
      · rw [hb0 b nb] at e; cases e
      · rw [hb1 b nb] at e; exact e
  refine ⟨fun j m σc Hc => m = ms.length - j ∧ j ≤ ms.length ∧ ∃ sc ρc kc, NS X.K p G n a qs vs Hb ρc σc Hc sc kc ∧ wpM (forNn i f k (ms.drop j) ρc kc) sc R Ex, ⟨ms.length, rfl, Nat.zero_le _, s1, ρ, kvs, start, h2⟩, ?_⟩
  rintro j m σc Hc ⟨rfl, hj, sc, ρc, kc, rc, hwp⟩
  have stF : StepF (Fs true (fun b => G b ∨ b = a ∨ b ∈ qs) (Fo (fun b => G b ∨ b = a ∨ b ∈ qs) ρ σ)) H1 Hc := fun b o e n => by
    have n : ¬ Fo (fun b => G b ∨ b = a ∨ b ∈ qs) ρ σ b := n
    have nb : ¬ (b = a ∨ b ∈ qs) := fun z => n (.inl (.inr z))
    refine rc.rel.old b o ?_ fun z => n (.inl (.inl (rc.gpa _ z)))
    rw [hb1 b nb]
    exact e
  by_cases hlt : j < ms.length
  · obtain ⟨go, yl⟩ := ok.go j (.int ms[j]) Hc stF (by rw [List.getElem?_map, List.getElem?_eq_getElem hlt]; rfl)
    refine .inr ⟨go, fun σ' H' => ∃ sc ρc kc, NS X.K p G n a qs vs Hb ρc σ' H' sc kc ∧ wpM (forNn i f k (ms.drop (j + 1)) ρc kc) sc R Ex, fun σ' H' hN => ⟨_, by omega, rfl, hlt, hN⟩, fun x Hy y => ?_⟩
    obtain ⟨ey, rx⟩ : Hy = Hc ∧ x = .int ms[j] := by
      rcases yl x Hy y with ⟨e, rr⟩ | ⟨T, ws, es, e1, hT, e2, e3, hz, rr⟩
      · cases rr
        exact ⟨e, rfl⟩
      · cases e3
    subst ey
    subst rx
    rw [List.drop_eq_getElem_cons hlt] at hwp
    have hwp : wpM (f (forNn i f k (ms.drop (j + 1))) (ρc.set i (.dat (.int ms[j]))) kc) sc R Ex := hwp
    exact hb.run G a qs vs Hb _ _ _ sc kc _ R Ex _ (rc.put hin (.int _)) hwp fun ρ' σ' H' s' kv' r' w' => ⟨s', ρ', kv', r', w'⟩
  · have e : j = ms.length := by omega
    subst e
    rw [List.drop_length] at hwp
    refine .inl ⟨?_, q ρc σc Hc sc kc (back rc) hwp⟩
    have := ok.stop Hc stF
    rw [hlen] at this
    exact this

/-- near = {x: [] for x in ..}; ..; return near -/
def sNear (n i : Nat) (g : Env → M (List D)) (f : SN) : S := fun _ r _ _ ρ => if unh ρ = true ∧ n < ρ.length ∧ i < ρ.length then nx (g ρ) >>= fun xs => intL xs >>= fun ns => if ns.Nodup then f (fun _ kvs => r (kvD kvs)) (ρ.set n .no) (ns.map fun k => (k, [])) else bad else bad
theorem dss_near (i : Nat) {x y : Str} {px' py p2 p3 p4 : Pos} {kx : Expr} (own : List (Str × Nat)) (hNd : X.N.Nodup) (hi : DI X p false (.Name y py) iter fl) (hg : ∀ s H C cl fp, DG (Blk X s H scope C cl fp) p (.Name y py) [i] (gNm i)) (hkx : ∀ s H C cl fp, DE (Blk X s H scope C cl fp) p kx (dVar i)) (he : ∀ s H C cl fp, DN (Blk X s H scope C cl fp) p elt (nLst []))
    (hb : DSN X p n st f) (hin : i ≠ n := by decide) (hN : X.N[n]? = some x := by rfl) (hx : Loc X.env.scope x := by first | exact Or.inl rfl | exact Or.inr rfl) (hvs : Vis X.env.scope x := by first | exact Or.inl rfl | exact Or.inr (Or.inl rfl) | exact Or.inr (Or.inr rfl)) (hd : (x == ("__debug__" : Str)) = false := by decide)
    (hcd : (x == ("__classdict__" : Str)) = false := by decide) (hsw : swapsWith (.DictComp kx elt [⟨.Name y py, iter, [], 0⟩] scope pos) (some (.Name x px')) p2.line X.env = pure false := by rfl) (hf : X.fn x = true ∨ X.env.scope.names.lookup x = some .local := by first | exact .inl rfl | exact .inr rfl)
    (ok : blkC X.N X.env.scope scope own = true := by first | kernel_rfl | rfl) (hiv : (own.map (·.2)) = [i] := by rfl) (hc : X.calm = true := by rfl) (hs : ∀ x, foldedSetIterable iter X.env x = pure x := by intro _; rfl) :
    DSs X p (.Assign [.Name x px'] (.DictComp kx elt [⟨.Name y py, iter, [], 0⟩] scope pos) p2 :: [st, .Return (some (.Name x p4)) p3]) (sNear n i fl f) := by
  refine ⟨fun W G H0 ρ σ H s k r b c R Ex Dn tk rl hw wy px => ?_⟩
  have hw : wpM (if unh ρ = true ∧ n < ρ.length ∧ i < ρ.length then nx (fl ρ) >>= fun xs => intL xs >>= fun ns => if ns.Nodup then f (fun _ kvs => r (kvD kvs)) (ρ.set n .no) (ns.map fun k => (k, [])) else bad else bad) s R Ex := hw
  by_cases hu : unh ρ = true ∧ n < ρ.length ∧ i < ρ.length
  case neg => rw [if_neg hu] at hw; exact hw.elim
  rw [if_pos hu, wp_bind] at hw
  have un : ∀ (i : Nat) (x : Sl), ρ[i]? = some x → x.held = false := fun i x e => unh_get hu.1 e
  refine tSs_of (pss_cons (ps_set hNd hN hx (pe_dc (wi := tI X (.Name y py) iter) (g := bG X scope (.Name y py)) (tt := bT X scope []) (tk := bE X scope kx) (tv := bE X scope elt) hc hNd pi_self (blkOk_by ok)
    (fun s H C cl fp => ⟨fun pins sh σ H v u Q I r h => pg_self.run pins sh σ H v u Q I r (h s _ C cl fp)⟩) (fun s H C cl fp => ⟨fun pins sh σ H Q I h => pts_self.run pins sh σ H Q I (h s _ C cl fp)⟩) (fun s H C cl fp => ⟨fun pins sh σ H Q I h => pe_self.run pins sh σ H Q I (h s _ C cl fp)⟩) (fun s H C cl fp => ⟨fun pins sh σ H Q I h => pe_self.run pins sh σ H Q I (h s _ C cl fp)⟩) hs) hsw hf) (pss_cons ps_self (pss_one (ps_ret (pv n hN hvs hd hcd))))) ?_
  refine hi.run _ _ _ _ _ _ _ _ _ _ takesN rl (wp_nx hw) (fun ds s1 H1 J h1 a1 it => ?_) fun _ _ _ _ _ _ z => z.elim
  obtain ⟨ns, en, h2⟩ := intL_ok h1
  subst en
  by_cases hnd : ns.Nodup
  case neg => rw [if_neg hnd] at h2; exact h2.elim
  rw [if_pos hnd] at h2
  have hlen : (ns.map D.int).length = ns.length := List.length_map _
  intro a ha
  rw [hiv]
  have rl1 := rl.step a1.st a1.pen
  have sm0 := same_new (o := .dK []) ha
  refine ⟨fun j m Hc => m = ns.length - j ∧ j ≤ ns.length ∧ ∃ sc qs vs, Af p H1 Hc sc ∧ wpM (f (fun _ kvs => r (kvD kvs)) (ρ.set n .no) (ns.map fun k => (k, []))) sc R Ex ∧ Hc a = some (.dK vs) ∧ NL Hc vs qs ((ns.take j).map fun k => (k, [])) ∧ ∀ q, q ∈ qs → H1 q = none ∧ q ≠ a,
    ⟨ns.length, rfl, Nat.zero_le _, s1, [], [], .same a1.pen sm0, h2, upd_same, .nil, fun q m => nomatch m⟩, ?_⟩
  rintro j m Hc ⟨rfl, hj, sc, qs, vs, ac, wc, hd2, nl, fr⟩
  have stF : StepF (Fs false G (Fo G ρ σ)) H1 Hc := fun b o e n => ac.st b o e fun z => n (rl.gpa _ z)
  have grow : Rel X.K p (fun b => G b ∨ b = a ∨ b ∈ qs) H0 ρ σ Hc sc := rl1.grow ac (fun b z => by
    rcases z with z | z
    · rw [z]; exact ha
    · exact (fr b z).1) fun b z => by
      rcases z with z | z
      · rw [z]; exact ⟨_, hd2⟩
      · exact nl.there b z
  have h0 : ∀ b, H1 b = none → ¬ G b ∧ H0 b = none := fun b z => ⟨fun g => (by
    obtain ⟨o, ho⟩ := rl1.gex b g
    rw [z] at ho
    cases ho), back_none (s1 := s1) ⟨rl1.old, rl1.pen⟩ z⟩
  by_cases hlt : j < ns.length
  · obtain ⟨go, yl⟩ := it.go j (.int ns[j]) Hc stF (by rw [List.getElem?_map, List.getElem?_eq_getElem hlt]; rfl)
    refine .inr ⟨go, fun H' => ∃ sc qs vs, Af p H1 H' sc ∧ wpM (f (fun _ kvs => r (kvD kvs)) (ρ.set n .no) (ns.map fun k => (k, []))) sc R Ex ∧ H' a = some (.dK vs) ∧ NL H' vs qs ((ns.take (j + 1)).map fun k => (k, [])) ∧ ∀ q, q ∈ qs → H1 q = none ∧ q ≠ a, fun H' hN => ⟨_, by omega, rfl, hlt, hN⟩, fun x Hy y => ?_⟩
    obtain ⟨ey, rx⟩ : Hy = Hc ∧ x = .int ns[j] := by
      rcases yl x Hy y with ⟨e, rr⟩ | ⟨T, ws, es, e1, hT, e2, e3, hz, rr⟩
      · cases rr
        exact ⟨e, rfl⟩
      · cases e3
    subst ey
    subst rx
    intro sB HB CB clB fpB
    refine (hg sB HB CB clB fpB).run _ H0 (wipeE ρ [i]) _ (L2.wipe σ [i]) Hy sc (.int ns[j]) (.int ns[j]) _ (grow.wipe [i]) (.int _) rfl fun σ2 r2 sb => ⟨by rw [sb.1 [i] fun i h => h, wipe_wipe], ?_⟩
    intro sC HC CC clC fpC
    refine ⟨_, pts_nil, ?_⟩
    unfold L2.tYes
    simp only [↓reduceIte]
    intro sD HD CD clD fpD
    refine (hkx sD HD CD clD fpD).run _ _ _ _ _ _ sc (fun d s' => d = .int ns[j] ∧ s' = sc) (fun _ _ _ => False) _ takesN r2 ?_ (fun dk s4 u H4 hd a4 r4 => ?_) fun _ _ _ _ _ _ z => z.elim
    · show wpM (slD ((wipeE ρ [i]).set i (.dat (.int ns[j])))[i]?) sc _ (fun _ _ _ => False)
      have el : (wipeE ρ [i]).length = ρ.length := List.length_set
      rw [List.getElem?_set_self (by rw [el]; exact hu.2.2)]
      exact ⟨rfl, rfl⟩
    obtain ⟨ed, es⟩ := hd
    subst ed
    subst es
    cases r4
    have r4' := r2.step a4.st a4.pen
    intro sF HF CF clF fpF
    refine (he sF HF CF clF fpF).run _ _ _ _ _ _ s4 (fun d s' => d = [] ∧ s' = s4) (fun _ _ _ => False) _ takesN r4' ?_ (fun dl s5 q ws H5 hd5 a5 n5 e5 hz5 r5 => ?_) fun _ _ _ _ _ _ z => z.elim
    · show wpM (mkLst []) s4 _ _
      rw [mkLst0]
      exact ⟨rfl, rfl⟩
    obtain ⟨ed, es⟩ := hd5
    subst ed
    subst es
    cases r5
    have a45 := a4.trans a5
    have npa : ∀ b, H1 b = none → ¬ p.no b := fun b z => a1.pen.notNo z
    have npc : ∀ b, H1 b = none → b ≠ p.ca := fun b z y => by rw [y, a1.pen.cells] at z; cases z
    have hd5 : H5 a = some (.dK vs) := a45.st a _ hd2 (npa a ha)
    have nq : q ∉ qs := fun m => by
      obtain ⟨o, ho⟩ := nl.there q m
      have := a4.st q o ho (npa q (fr q m).1)
      rw [n5] at this
      cases this
    have nqa : q ≠ a := fun z => by
      have := a4.st a _ hd2 (npa a ha)
      rw [← z, n5] at this
      cases this
    have h1q : H1 q = none := back_none (ac.trans a4) n5
    have hkv : valV vs (.inl ns[j]) = none := nl.keys fun m => by
      rw [List.map_map] at m
      obtain ⟨z, hz, ez⟩ := List.mem_map.mp m
      have ez : z = ns[j] := ez
      subst ez
      have := List.take_append_drop j ns
      rw [List.drop_eq_getElem_cons hlt] at this
      rw [← this] at hnd
      exact (List.nodup_append.mp hnd).2.2 _ hz _ List.mem_cons_self rfl
    have hvl : vs.length ≤ j := by
      have := nl.len
      rw [this, List.length_map, List.length_take]
      omega
    have h16 := it.sz
    rw [hlen] at h16
    refine ⟨vs, .inl ns[j], rfl, hd5, by rw [sizeLine_eq]; omega, s5, qs ++ [q], vs ++ [(.inl ns[j], .ref q)], ⟨fun b o e np => ?_, ?_, ?_, a5.pen.ok, tabs_upd a5.pen.tabs hd5 pln_dK⟩, wc, ?_, ?_, fun b m => ?_⟩
    · rw [upd_ne (ne_of_none e ha)]
      exact (ac.trans a45).st b o e np
    · rw [upd_ne fun z => npa a ha (.inl z.symm)]
      exact a5.pen.dict
    · rw [upd_ne (npc a ha).symm]
      exact a5.pen.cells
    · rw [putK_new _ hkv]
      exact upd_same
    · have ek : ((ns.take (j + 1)).map fun k => ((k, []) : Int × List Int)) = ((ns.take j).map fun k => (k, [])) ++ [(ns[j], [])] := by
        rw [List.take_succ_eq_append_getElem hlt, List.map_append]
        rfl
      rw [ek]
      refine NL.snoc (ns := []) ?_ (Nat.zero_le _) (nl.mono fun b m o z => ?_) nq
      · rw [upd_ne nqa]
        exact e5
      · rw [upd_ne (fr b m).2]
        exact a45.st b o z (npa b (fr b m).1)
    · rcases List.mem_append.mp m with m | m
      · exact fr b m
      · rw [List.mem_singleton.mp m]
        exact ⟨h1q, nqa⟩
  · have e : j = ns.length := by omega
    subst e
    refine .inl ⟨by have := it.stop Hc stF; rw [hlen] at this; exact this, ?_⟩
    rw [List.take_length] at nl
    have s0 : NS X.K p G n a qs vs H0 (ρ.set n .no) (σ.set n (some (.ref a))) Hc sc (ns.map fun k => (k, [])) := by
      refine ⟨grow.put rfl fun d e => (by cases e), ?_, hd2, nl, fun m => (fr a m).2 rfl, fun b z => ?_, rl.gpa, rl.gca, un_set un rfl⟩
      · exact List.getElem?_set_self (by rw [← rl.len]; exact hu.2.1)
      · rcases z with z | z
        · rw [z]; exact h0 a ha
        · exact h0 b (fr b z).1
    refine hb.run G a qs vs H0 _ _ Hc sc _ _ R Ex _ s0 wc fun ρ' σ' H' s' kvs' ns' w' => ⟨_, ns'.at_, wy.rt (kvD kvs') s' (.ref a) H' ns'.rel.old ns'.rel.pen ?_ w'⟩
    exact .dct ns'.dict (ns'.no a (.inl rfl)).1 (ns'.nl.rep fun q m => (ns'.no q (.inr m)).1)
end
end Say

namespace Say
open L2 PyProof.Rows PySem.Spec PySem

/-! ### the mirror's words for dicts -/
@[simp] def dDget (f g : En) : En := fun ρ => f ρ >>= fun x => g ρ >>= fun y => dgetM x y
@[simp] def tDin (neg : Bool) (f g : En) : Env → M Bool := fun ρ => f ρ >>= fun x => g ρ >>= fun y => dinM neg x y
@[simp] def dDin (neg : Bool) (f g : En) : En := fun ρ => f ρ >>= fun x => g ρ >>= fun y => dinM neg x y >>= fun c => pure (.bl c)
@[simp] def nListK (fs : List En) : Env → M (List D) := fun ρ => seqA fs ρ listKM
@[simp] def nSetS (f : En) : Env → M (List D) := fun ρ => f ρ >>= setM
@[simp] def dDc (k : Env → M (List (D × D))) : En := fun ρ => k ρ >>= fun xs => pure (.dct xs)
@[simp] def sOwnK (i : Nat) (f : Env → M (List (D × D))) : S := fun k _ _ _ ρ => if i < ρ.length then f ρ >>= fun ds => k (ρ.set i (.own (.dct ds))) else bad
section
variable {X : Cx} {p : PL} {elt kx tg iter : Expr} {ifs : List Expr} {scope : Scope} {pos pos' : Pos} {g : Env → M (List D)} {h : D → Env → Option Env} {ts : List Nat} {t : Env → M Bool} {e ek : Env → M D}
theorem de_dc (own : List (Str × Nat)) (hN : X.N.Nodup) (hi : DI X p false tg iter g) (hg : ∀ s H C cl fp, DG (Blk X s H scope C cl fp) p tg ts h) (ht : ∀ s H C cl fp, DTs (Blk X s H scope C cl fp) p ifs t) (hkx : ∀ s H C cl fp, DE (Blk X s H scope C cl fp) p kx ek) (he : ∀ s H C cl fp, DE (Blk X s H scope C cl fp) p elt e)
    (ok : blkC X.N X.env.scope scope own = true := by first | kernel_rfl | rfl) (hv : ∀ i ∈ ts, i ∈ own.map (·.2) := by decide) (hc : X.calm = true := by rfl) (hs : ∀ x, foldedSetIterable iter X.env x = pure x := by intro _; rfl) :
    DE X p (.DictComp kx elt [⟨tg, iter, ifs, 0⟩] scope pos) (dDc (dcM (own.map (·.2)) g h t ek e)) := by
  refine ⟨fun W G H0 ρ σ H s R Ex Q tk rl hw q px => tE_of (pe_dc (wi := tI X tg iter) (g := bG X scope tg) (tt := bT X scope ifs) (tk := bE X scope kx) (tv := bE X scope elt) hc hN pi_self (blkOk_by ok)
    (fun s H C cl fp => ⟨fun pins sh σ H v u Q I r h => pg_self.run pins sh σ H v u Q I r (h s _ C cl fp)⟩) (fun s H C cl fp => ⟨fun pins sh σ H Q I h => pts_self.run pins sh σ H Q I (h s _ C cl fp)⟩) (fun s H C cl fp => ⟨fun pins sh σ H Q I h => pe_self.run pins sh σ H Q I (h s _ C cl fp)⟩) (fun s H C cl fp => ⟨fun pins sh σ H Q I h => pe_self.run pins sh σ H Q I (h s _ C cl fp)⟩) hs) ?_⟩
  have hw : wpM (dcM (own.map (·.2)) g h t ek e ρ >>= fun xs => pure (.dct xs)) s R Ex := hw
  rw [wp_bind] at hw
  exact dc_run hi hg ht hkx he hv tk rl hw (fun ds s1 l vs H1 h1 a1 n1 e1 hz r1 => q _ s1 _ H1 h1 a1 (.dct e1 (rl.fresh n1) (r1.mono (fun _ _ z _ => z) fun _ z => .inl z))) px
end
/-! ### x = ys.pop() -/
def lastM (ys : List D) : M D := match ys[ys.length - 1]? with
  | some y => pure y
  | none => bad
def sPop (i j : Nat) : S := fun k _ _ _ ρ => ownL ρ[j]? >>= fun ys => lastM ys >>= fun y => k ((ρ.set j (.own (.lst ys.dropLast))).set i (.dat y))
section
variable {X : Cx} {p : PL} {pos pos' : Pos}
theorem RepL.dropLast {K : PySem.W.Frag} {H : Hp} {F : Addr → Prop} {vs : List V} {ds : List D} (r : RepL K p H F vs ds) : RepL K p H F vs.dropLast ds.dropLast := by
  rw [List.dropLast_eq_take, List.dropLast_eq_take, r.length]
  exact r.take _
theorem ds_pop (i j : Nat) {x y : Str} {p1 p2 p3 : Pos} (hN : X.N.Nodup) (hi : X.N[i]? = some x := by rfl) (hx : Loc X.env.scope x := by first | exact Or.inl rfl | exact Or.inr rfl) (hs : swapsWith (.Call (.Attribute (.Name y p1) "pop" p2) [] [] p3) (some (.Name x pos')) pos.line X.env = pure false := by rfl) (hf : X.fn x = true ∨ X.env.scope.names.lookup x = some .local := by first | exact .inl rfl | exact .inr rfl)
    (hp : PE X (.Call (.Attribute (.Name y p1) "pop" p2) [] [] p3) (tBM0 X.K "list" rPop (tVar j)) := by exact pe_bm0 PySem.F.plainAttrs_list PySem.F.slot_list_pop PySem.F.type_list_pop mt_pop (pv _)) :
    DS X p (.Assign [.Name x pos'] (.Call (.Attribute (.Name y p1) "pop" p2) [] [] p3) pos) (sPop i j) := by
  refine ⟨fun W G H0 ρ σ H s k r b c R Ex Dn tk rl hw wy px => tS_of (ps_set hN hi hx hp hs hf) ?_⟩
  obtain ⟨ys, l, ws, ej, g1, g2, lp, g3, gz, g4, hw⟩ := ownL_ok rl (show wpM (ownL ρ[j]? >>= fun ys => lastM ys >>= fun y => k ((ρ.set j (.own (.lst ys.dropLast))).set i (.dat y))) s R Ex from hw)
  unfold lastM at hw
  cases e : ys[ys.length - 1]? with
  | none => rw [e] at hw; exact hw.elim
  | some d =>
    rw [e] at hw
    have hw : wpM (k ((ρ.set j (.own (.lst ys.dropLast))).set i (.dat d))) s R Ex := hw
    obtain ⟨v, q1, q2⟩ := g4.get e
    refine ⟨_, g1, .inl ⟨rfl, ws, .inl (.inl g3)⟩, l, ws, v, rfl, rfl, g3, by rw [g4.length]; exact q1, ?_⟩
    have fl : Fo G ρ σ l := .inr ⟨j, _, ej, rfl, g1⟩
    have st1 : StepF (Fo G ρ σ) H (upd H l (.lst ws.dropLast)) := fun a u z w => by
      rw [upd_ne fun y => w (by rw [y]; exact fl)]
      exact z
    have r2 := rl.updOwn (y := .own (.lst ys.dropLast)) ej rfl rfl g1 ⟨ws.dropLast, upd_same, by rw [List.length_dropLast]; omega, g4.dropLast.mono st1 fun _ z => z⟩
    have fo2 : ∀ a, Fo G (ρ.set j (.own (.lst ys.dropLast))) σ a → Fo G ρ σ a := fun a z => by
      rcases z with z | ⟨t, y, t1, ty, t2⟩
      · exact .inl z
      · rcases get_set t1 with ⟨rfl, rfl, _⟩ | ⟨ne, t1⟩
        · exact .inr ⟨_, _, ej, rfl, t2⟩
        · exact .inr ⟨t, y, t1, ty, t2⟩
    exact wy.nx _ _ _ s (r2.put (x := .dat d) (o := some v) rfl fun d' e => by cases e; exact ⟨v, rfl, (q2.mono st1 fun _ z => z).mono (fun _ _ z _ => z) fo2⟩) hw
end
end Say

namespace SayS
open PySem PySem.W PySem.Calls PyProof.Rows Srt SrtO
/-! ### the order of rows of ints -/
theorem ll_asym : ∀ {a b : List Int}, HT.lexLt a b = true → HT.lexLt b a = false
  | [], [], h => by cases (show false = true from h)
  | [], y :: b, _ => rfl
  | x :: a, [], h => by cases (show false = true from h)
  | x :: a, y :: b, h => by
    rw [HT.lexLt_cons] at h ⊢
    by_cases e : x = y
    · subst e
      rw [if_pos rfl] at h ⊢
      exact ll_asym h
    · rw [if_neg e] at h
      rw [if_neg (Ne.symm e)]
      have := of_decide_eq_true h
      exact decide_eq_false
          (by omega)
theorem ll_tr : ∀ {a b c : List Int}, HT.lexLt a b = false → HT.lexLt b c = false → HT.lexLt a c = false
  | a, b, [], _, _ => by cases a <;> rfl
  | [], [], z :: c, _, h => by cases (show true = false from h)
  | [], y :: b, z :: c, h, _ => by cases (show true = false from h)
  | x :: a, [], z :: c, _, h => by cases (show true = false from h)
  | x :: a, y :: b, z :: c, h1, h2 => by
    rw [HT.lexLt_cons] at h1 h2 ⊢
    by_cases e1 : x = y
    · subst e1
      rw [if_pos rfl] at h1
      by_cases e2 : x = z
      · subst e2
        rw [if_pos rfl] at h2 ⊢
        exact ll_tr h1 h2
      · rw [if_neg e2] at h2 ⊢
        exact h2
    · rw [if_neg e1] at h1
      have q1 := of_decide_eq_false h1
      by_cases e2 : y = z
      · subst e2
        rw [if_neg e1]
        exact h1
      · rw [if_neg e2] at h2
        have q2 := of_decide_eq_false h2
        rw [if_neg (by omega)]
        exact decide_eq_false
            (by omega)
theorem ll_anti : ∀ {a b : List Int}, HT.lexLt a b = false → HT.lexLt b a = false → a = b
  | [], [], _, _ => rfl
  | [], y :: b, h, _ => by cases (show true = false from h)
  | x :: a, [], _, h => by cases (show true = false from h)
  | x :: a, y :: b, h1, h2 => by
    rw [HT.lexLt_cons] at h1 h2
    by_cases e : x = y
    · subst e
      rw [if_pos rfl] at h1 h2
      rw [ll_anti h1 h2]
    · rw [if_neg e] at h1
      rw [if_neg (Ne.symm e)] at h2
      have := of_decide_eq_false h1
      have := of_decide_eq_false h2
      omega
theorem ll_swo {α : Type} (k : α → List Int) : Swo fun v u => HT.lexLt (k v) (k u) := ⟨fun _ _ => ll_asym, fun _ _ _ h1 h2 => ll_tr h2 h1⟩
def TI (h : Heap) (v : Value) (ns : List Int) : Prop := ∃ a xs, v = .ref a ∧ IsTup h a xs ∧ IntsAre xs.toList ns
section
variable {prog : Program} {w : World} {A :
    Around} {E : Value → Shared → Prop} {s : Shared}
theorem oneLt_tups {v u : Value} {ns ms : List Int} (hv : TI s.heap v ns) (hu : TI s.heap u ms) (room : A.units < cLine) {Q : Bool → Shared → Prop} (h : Q (HT.lexLt ns ms) s) : wpAny (model prog w) A (oneLt' true v u) Q E s := by
  obtain ⟨a, xs, rfl, ⟨⟨cls, dd, data, sl⟩, ho, hc, n, hd⟩, hi⟩ := hv
  obtain ⟨b, ys, rfl, ⟨⟨cls2, dd2, data2, sl2⟩, ho2, hc2, n2, hd2⟩, hj⟩ := hu
  simp only at hc hd hc2 hd2
  subst hc hd hc2 hd2
  rw [oneLt'_eq]
  simp only [if_true]
  refine wpAny_bind (wpAny_cRoomFor room ?_)
  refine wpAny_bind (wpAny_callSpecialIfBound?_slot ⟨_, ho, rfl⟩ F.slot_tuple_lt (call_meets F.slot_tuple_lt ⟨_, ho, rfl⟩ F.entry_tuple_lt (F.args_tuple_lt_2 _ _) (HT.tuple_lt_ints a b xs ys n n2 dd dd2 sl sl2 ns ms hi hj) ⟨ho, ho2, ?_⟩))
  exact wpAny_truthy_bool h
theorem first_tup {v : Value} {ns : List Int} (hv : TI s.heap v ns) {Q : Option Value → Shared → Prop} (h : ∀ r, (ns = [] → r = none) → Q r s) : wpAny (model prog w) A (firstOfTuple' v) Q E s := by
  obtain ⟨a, xs, rfl, ⟨o, ho, hc, n, hd⟩, hi⟩ := hv
  rw [kas_first_eq]
  refine wpAny_bind (Looks.here (show Looks (model prog w) s.heap (typeOf (.ref a)) o.cls from (Looks.ld ho).andThen .now) ?_)
  rw [hc, if_neg (by
      first | decide | simp)]
  refine wpAny_bind (listItems_at ho hd (wpAny_pure (h _ fun e => ?_)))
  subst e
  have : xs.size = 0 := by
    have := hi.length
    rw [Array.length_toList]
        at this
    exact this
  exact Array.getElem?_eq_none
      (by omega)
theorem firsts_tups {k : Value → List Int} : ∀ {vs : List Value}, (∀ v ∈ vs, TI s.heap v (k v)) → ∀ {Q : List (Option Value) → Shared → Prop}, (∀ rs, rs.length = vs.length → Q rs s) → wpAny (model prog w) A (vs.mapM firstOfTuple') Q E s
  | [], _, Q, h => by rw [List.mapM_nil]; exact wpAny_pure (h [] rfl)
  | v :: vs, hv, Q, h => by
    rw [List.mapM_cons]
    refine wpAny_bind (first_tup (hv v List.mem_cons_self) fun r _ => ?_)
    exact wpAny_bind (firsts_tups (fun u hu => hv u (List.mem_cons_of_mem _ hu)) fun rs hrs => wpAny_pure (h (r :: rs) (by rw [List.length_cons, List.length_cons, hrs])))
theorem kind_tups {k : Value → List Int} {v0 : Value} {vs : List Value} (hv : ∀ v ∈ v0 :: vs, TI s.heap v (k v)) (h0 : k v0 = []) {Q : SortKind → Shared → Prop} (h : Q oneType' s) : wpAny (model prog w) A (keyKind' (v0 :: vs).toArray) Q E s := by
  rw [kat_kind_eq, List.mapM_toArray,
      map_eq_pure_bind]
  rw [List.mapM_cons]
  have e0 := hv v0 List.mem_cons_self
  refine wpAny_bind (wpAny_bind (wpAny_bind (first_tup e0 fun r hr => ?_)))
  rw [hr h0]
  refine wpAny_bind (firsts_tups (fun u hu => hv u (List.mem_cons_of_mem _ hu)) fun rs hrs => wpAny_pure (wpAny_pure ?_))
  rw [if_neg (by simp),
      if_neg (by simp)]
  have hT : ∀ v ∈ v0 :: vs, Looks (model prog w) s.heap (typeOf v) (.type "tuple") := fun v m => by
    obtain ⟨a, xs, rfl, ⟨o, ho, hc, n, hd⟩, hi⟩ := hv v m
    rw [← hc]
    exact (Looks.ld ho).andThen .now
  rw [oneTypeOnly'_eq,
      List.mapM_toArray, map_eq_pure_bind]
  refine wpAny_bind (wpAny_bind (wpAny_bind (kas_mapM (r := .type "tuple") _ (fun v hv Q' hq => (hT v hv).here hq) (wpAny_pure ?_))))
  have hall : ((List.map (fun _ => Value.type "tuple") (v0 :: vs)).toArray.all fun x => x == Value.type "tuple") = true := by
    simp only [List.all_toArray,
        List.all_map, List.all_eq_true]
    intro _ _
    rfl
  have h1 : (List.map (fun _ => Value.type "tuple") (v0 :: vs)).toArray[0]? = some (Value.type "tuple") := by simp
  rw [h1]
  simp only [hall, if_true]
  exact wpAny_pure
      (wpAny_pure h)
theorem tups_sortable {a : Addr} {k : Value → List Int} {v0 : Value} {vs : List Value} (hv : ∀ v ∈ v0 :: vs, TI s.heap v (k v)) (h0 : k v0 = []) (ha : ∀ o, s.heap.get? a = some o → o.cls ≠ .type "tuple") (room : A.units < cLine) : SortableO prog w A s a (v0 :: vs) fun v u => HT.lexLt (k v) (k u) := by
  intro h' keep
  have hv' : ∀ v ∈ v0 :: vs, TI h' v (k v) := fun v m => by
    obtain ⟨b, xs, e, ⟨o, ho, hc, hd⟩, hi⟩ := hv v m
    exact ⟨b, xs, e, ⟨o, keep b o (fun z => ha o (by rw [← z]; exact ho) hc) ho, hc, hd⟩, hi⟩
  refine ⟨oneType', fun Q E hq => kind_tups (s := { s with heap := h' }) hv' h0 hq, fun p q hp hq => ?_⟩
  exact oneLt_tups (s := { s with heap := h' }) (hv' _ hp) (hv' _ hq) room ⟨rfl, rfl⟩
end
end SayS
namespace Say
open L2 PyProof.Rows PySem.Spec PySem
abbrev ltT (k : V → List Int) (x y : V) : Bool := HT.lexLt (k x) (k y)
def rSortedTL (K : PySem.W.Frag) : List V → Hp → VK → Prop := fun vs H Q => ∃ (a : Addr) (xs : List V) (k : V → List Int), vs = [V.ref a] ∧ SqL K H a xs ∧ (∀ x ∈ xs, ∃ t, x = V.ref t ∧ Tp H t ((k x).map V.int)) ∧
  (xs.length < 2 ∨ ∃ x0 r, xs = x0 :: r ∧ k x0 = []) ∧ ∀ ys q, SrtO.Srtd (ltT k) ys → SrtO.Stb (ltT k) ys xs → H q = none → Q (.ref q) (upd H q (.lst ys))
theorem cr_sortedTL {X : Cx} (hu : X.A.in1.in1.units < cLine) : CallR X (.builtin "sorted") (rSortedTL X.K) := by
  intro pins s σ
      H vs us Q I r h
  obtain ⟨a, xs, k, rfl, sq, each, hd0, q⟩ := h
  obtain ⟨its, rv, pl, sz⟩ := I.list sq
  obtain ⟨u, rfl,
      ru⟩ := vals1 r
  obtain rfl : u =
      Value.ref a := ru
  have refs : ∀ x ∈ xs, ∃ t, x = V.ref t := fun x m => (each x m).elim fun t e => ⟨t, e.1⟩
  obtain ⟨e1, e2⟩ := refs_back rv refs
  have tis : ∀ v ∈ its, SayS.TI s.heap v (k (backV v)) := fun v mv => by
    obtain ⟨t, rfl⟩ := e2 v mv
    have m : V.ref t ∈ xs := by rw [e1]; exact List.mem_map.mpr ⟨_, mv, rfl⟩
    obtain ⟨t', e, ob, ht, nd⟩ := each _ m
    cases e
    obtain ⟨_, _, us, r2, o, ho, hc, n, hd⟩ := (show s.heap.get? t = some ob ∧ ObjOk X.prog X.w H s.heap t (.tup _) from I.hok _ _ ht)
    exact ⟨t, us.toArray, rfl, ⟨o, ho, hc, n, hd⟩, ints_of_vals r2⟩
  refine SrtO.sorted_ord (SayS.ll_swo fun u => k (backV u)) pl.isList (by rw [← rv.length]; exact sz) (fun h2 h₁ d hd kk => ?_) fun out hs hb => ?_
  · have hx : ∃ x0 r, xs = x0 :: r ∧ k x0 = [] := hd0.resolve_left (by rw [rv.length]; omega)
    obtain ⟨x0, r0, ex, ek⟩ := hx
    cases its with
    | nil => simp at h2
    | cons v0 rest =>
      have eb : backV v0 = x0 := by
        rw [ex] at e1
        rw [List.map_cons] at e1
        injection e1 with e1 _
        exact e1.symm
      refine SayS.tups_sortable (s := { s with heap := h₁ }) (fun v hv => ?_) (by rw [eb]; exact ek) (fun o e => ?_) hu
      · obtain ⟨b, ys, e, ⟨o, ho, hc, hd⟩, hi⟩ := tis v hv
        exact ⟨b, ys, e, ⟨o, (kk b o ho).2, hc, hd⟩, hi⟩
      · have e' : some o = some (seqObj "list" (v0 :: rest).toArray 0) := e.symm.trans hd
        cases e'
        intro c
        exact absurd (Value.type.inj
            c) (by decide)
  · have all : ∀ u ∈ out, ∃ a, u = Value.ref a := fun u hu => e2 u (hb.perm.mem_iff.mp hu)
    have st : SrtO.Stb (ltT k) (out.map backV) xs := e1 ▸ SrtO.Stb.map (SayS.ll_swo k) backV hb
    obtain ⟨ep, he⟩ := PyProof.Rows.sortedAll_at s.heap its out.toArray
    exact ⟨.ref _, upd H (s.heap.objs.size + 1) (.lst (out.map backV)), I.laid (t' := s.toks) (fun _ _ => PyProof.Rows.sortedAll_old) (Nat.le_succ _) ⟨by rw [st.len]; exact sz, out, ep, vals_back all, he⟩, rfl, q _ _ (SrtO.srtd_map hs) st (I.hok.fresh (Nat.le_succ _))⟩
def leT (a b : List Int) : Bool := !HT.lexLt b a
def sortT (ls : List (List Int)) : List (List Int) := ls.mergeSort leT
theorem leT_trans (a b c : List Int) (h1 : leT a b = true) (h2 : leT b c = true) : leT a c = true := by
  unfold leT at *
  rw [Bool.not_eq_true'] at *
  exact SayS.ll_tr h2 h1
theorem leT_total (a b : List Int) : (leT a b || leT b a) = true := by
  unfold leT
  cases h : HT.lexLt b a with
  | true => rw [SayS.ll_asym h]; rfl
  | false => rfl
theorem leT_anti (a b : List Int) (h1 : leT a b = true) (h2 : leT b a = true) : a = b := by
  unfold leT at *
  rw [Bool.not_eq_true'] at *
  exact SayS.ll_anti h2 h1
theorem sortT_perm (ls : List (List Int)) : (sortT ls).Perm ls := List.mergeSort_perm ls leT
theorem sortT_pw (ls : List (List Int)) : (sortT ls).Pairwise fun a b => leT a b = true := List.pairwise_mergeSort leT_trans leT_total ls
theorem sortT_uniq {xs ns : List (List Int)} (p : xs.Perm ns) (h : xs.Pairwise fun a b => leT a b = true) : xs = sortT ns := sorted_eq leT_anti (p.trans (sortT_perm ns).symm) h (sortT_pw ns)
def lotsD : List D → Option (List (List Int))
  | [] => some []
  | .tup xs :: r => (match intsOf xs with
    | some ns => (lotsD r).map (ns :: ·)
    | none => none)
  | _ :: _ => none
theorem lotsD_ok : ∀ {xs : List D} {ls : List (List Int)}, lotsD xs = some ls → xs = ls.map ti
  | [], ls, h => by cases h; rfl
  | .tup ys :: r, ls, h => by
    have h1 : (match intsOf ys with | some ns => (lotsD r).map (ns :: ·) | none => none) = some ls := h
    cases e : intsOf ys with
    | none => rw [e] at h1; cases h1
    | some ns =>
      rw [e] at h1
      have h1 : (lotsD r).map (ns :: ·) = some ls := h1
      cases e2 : lotsD r with
      | none => rw [e2] at h1; cases h1
      | some ms =>
        rw [e2] at h1
        cases h1
        rw [lotsD_ok e2, intsOf_ok e]
        rfl
  | .non :: _, _, h => by cases h
  | .bl _ :: _, _, h => by cases h
  | .int _ :: _, _, h => by cases h
  | .str _ :: _, _, h => by cases h
  | .itm _ :: _, _, h => by cases h
  | .lst _ :: _, _, h => by cases h
  | .dct _ :: _, _, h => by cases h
  | .ins _ _ :: _, _, h => by cases h
  | .pen :: _, _, h => by cases h
  | .fn _ :: _, _, h => by cases h
theorem lotsD_map : ∀ ls : List (List Int), lotsD (ls.map ti) = some ls
  | [] => rfl
  | l :: ls => by
    show (match intsOf (l.map D.int) with | some ns => (lotsD (ls.map ti)).map (ns :: ·) | none => none) = _
    rw [intsOf_map, lotsD_map ls]
    rfl
/-- sorted([..]), rows of ints, the first of them empty -/
def sortTM : List D → M (List D)
  | [.lst xs] => (match lotsD xs with
    | some ls => if ls.length < 2 ∨ ls.head? = some [] then pure ((sortT ls).map ti) else bad
    | none => bad)
  | _ => bad
@[simp] def nSortT (fs : List En) : Env → M (List D) := fun ρ => seqA fs ρ sortTM
def vI : V → Int
  | .int i => i
  | _ => 0
def kvT (H : Hp) : V → List Int
  | .ref a => (match H a with
    | some (.frz _ (.tup vs)) => vs.map vI
    | _ => [])
  | _ => []
section
variable {K : PySem.W.Frag} {p : PL} {H : Hp} {F : Addr → Prop}
theorem repL_tups : ∀ {vs : List V} {ls : List (List Int)}, RepL K p H F vs (ls.map ti) → vs.map (kvT H) = ls ∧ ∀ x ∈ vs, ∃ t, x = V.ref t ∧ Tp H t ((kvT H x).map V.int) ∧ ¬ F t ∧ (kvT H x).length ≤ 16777216
  | _, [], .nil => ⟨rfl, fun x h => by cases h⟩
  | v :: vs, l :: ls, .cons h r => by
    obtain ⟨e1, e2⟩ := repL_tups r
    have h : Rep K p H F v (.tup (l.map D.int)) := h
    cases h with
    | tup ho hz rl =>
      rename_i a ws
      have ew : ws = l.map V.int := repL_ints' rl
      subst ew
      have e : kvT H (.ref a) = l := by
        show (match H a with | some (.frz _ (.tup vs)) => vs.map vI | _ => []) = l
        obtain ⟨o, e, _⟩ := ho.1
        rw [e]
        show (l.map V.int).map vI = l
        rw [List.map_map]
        exact List.map_id'' (fun _ => rfl) l
      refine ⟨by rw [List.map_cons, e, e1], fun x hx => ?_⟩
      rcases List.mem_cons.mp
          hx with rfl | hx
      · rw [List.length_map] at hz
        exact ⟨_, rfl, by rw [e]; exact ho.1, ho.2, by rw [e]; exact hz⟩
      · exact e2 x hx
theorem tups_repL : ∀ {vs : List V}, (∀ x ∈ vs, ∃ t, x = V.ref t ∧ Tp H t ((kvT H x).map V.int) ∧ ¬ F t ∧ (kvT H x).length ≤ 16777216) → RepL K p H F vs ((vs.map (kvT H)).map ti)
  | [], _ => .nil
  | v :: vs, h => by
    obtain ⟨t, rfl, e, n, hz⟩ := h v List.mem_cons_self
    exact .cons (.tup ⟨e, n⟩ (by rw [List.length_map]; exact hz) (RepL.ints _)) (tups_repL fun x hx => h x (List.mem_cons_of_mem _ hx))
end
section
variable {X : Cx} {p : PL} {e : Expr} {fs : List En} {pos pos' : Pos} {kk : Nat}
theorem dn_sortT (hr : Room kk X.A) (hm : X.mg "sorted" = none) (ha : DA X p [e] fs) (hu : ∀ A : Around, Room kk A → A.in1.in1.units < cLine := by intro A h; have := h.un; show A.units + 2 < cLine; omega) (hg : Gl X "sorted" := by rfl) (he : starEach (e :: []) X.env = (false, eval e X.env) :: starEach [] X.env := by rfl) (hpl : (backTo pos (starEach [] X.env)).any (·.1) = false := by rfl) :
    DN X p (.Call (.Name "sorted" pos') [e] [] pos) (nSortT fs) := by
  refine ⟨fun W G H0 ρ σ H s R Ex Q tk rl hw q px => tE_of (pe_callB (cr_sortedTL (hu _ hr)) hg hm boot_sorted pa_self (by decide) (by decide) he hpl) ?_⟩
  have hw : wpM (seqA fs ρ sortTM) s R Ex := hw
  refine ha.run _ sortTM W G H0 ρ σ H s R Ex _ tk rl hw (fun ds s1 vs H1 h1 a1 r1 _ => ?_) px
  unfold sortTM at h1
  split at h1
  · rename_i xs _
    split at h1
    · rename_i ls el
      by_cases hc : ls.length < 2 ∨ ls.head? = some []
      · rw [if_pos hc] at h1
        have ex := lotsD_ok el
        subst ex
        cases r1 with
        | cons r1 r2 =>
          cases r2
          cases r1 with
          | lst ho n1 hz l1 =>
            rename_i ws
            obtain ⟨k1, k2⟩ := repL_tups l1
            refine ⟨_, ws, kvT H1, rfl, .inl (.inl ho), fun x hx => (k2 x hx).elim fun t z => ⟨t, z.1, z.2.1⟩, ?_, fun ys l hs hb hl => ?_⟩
            · rcases hc with c | c
              · exact .inl (by rw [← List.length_map (f := kvT H1), k1]; exact c)
              · right
                cases ws with
                | nil => rw [← k1] at c; cases c
                | cons x0 r =>
                  rw [← k1] at c
                  exact ⟨x0, r, rfl, by injection c⟩
            · have hp := hb.perm
              have each : ∀ x ∈ ys, ∃ t, x = V.ref t ∧ Tp H1 t ((kvT H1 x).map V.int) ∧ ¬ Fo G ρ σ t ∧ (kvT H1 x).length ≤ 16777216 := fun x hx => k2 x (hp.mem_iff.mp hx)
              have es : ys.map (kvT H1) = sortT ls := by
                refine sortT_uniq ?_ ?_
                · rw [← k1]; exact hp.map _
                · refine List.pairwise_map.mpr (List.Pairwise.imp (fun {a b} h => ?_) hs)
                  have h : HT.lexLt (kvT H1 b) (kvT H1 a) = false := h
                  unfold leT
                  rw [h]
                  rfl
              have lr : RepL X.K p H1 (Fo G ρ σ) ys ((sortT ls).map ti) := by
                rw [← es]
                exact tups_repL each
              refine q ((sortT ls).map ti) s1 l ys _ h1 (a1.trans (.same a1.pen (same_new hl))) (back_none a1 hl) upd_same ?_ ((lr.more (N := fun a => a = l) fun a z => by rw [z]; exact hl).mono ((same_step (p := p) (same_new hl)).toF (fun a z => .inl (rl.fpa a z))) fun _ z => z)
              rw [List.length_map, (sortT_perm ls).length_eq]
              rw [List.length_map] at hz
              exact hz
      · rw [if_neg hc] at h1
        exact h1.elim
    · exact h1.elim
  · exact h1.elim
end
end Say

namespace SayS
open PySem PySem.W PySem.Calls PySem.Builtin PyProof.Rows
/-! ### != by an own == -/
section
variable {prog : Program} {w : World} {A : Around} {E : Value → Shared → Prop} {s : Shared} {K : PySem.W.Frag} {x C L f : Addr} {h₀ : Heap} {m : Str → Option Value} {ox : Obj} {od : Option Obj} {b tb : Value}
theorem objNe_own (X : K.In s.heap) (I : InstAt s.heap x ox C od) (he : findIn K (.ref C) "__eq__" = some (some (.ref f))) (hf : isFn K (.ref f) = true) (hu : A.units < cLine) {Q : Fin → Shared → Prop}
    (hcall : wpAny (model prog w) A (call (.ref f) [.ref x, b]) (fun v s' => ∃ r, v = .bool r ∧ Q (.done (.ret (.bool (!r)))) s') E s) : wpAny (model prog w) A (Builtin.«object.__ne__» ⟨[.ref x, b], []⟩) Q E s := by
  delta Builtin.«object.__ne__»
  repeat (first
    | (with_reducible apply wpAny_cRoomFor hu)
    | (refine wpAny_bind (m := callSpecialIfBound? (.ref x) (Str.ofString "__eq__") [b])
        (ifBound_K X I he hf (wpAny_mono hcall (fun r s' hr => by
          obtain ⟨c, rfl, hq⟩ := hr
          repeat (first | exact wpAny_truthy_bool hq | exact wpAny_pure hq | exact hq | (refine wpAny_bind (m := truthy (.bool _)) (wpAny_truthy_bool ?_)) | wp_step)) fun _ _ e => e)))
    | wp_step)
theorem ifBound_ne {args : List Value} {Q : Option Value → Shared → Prop} (X : K.In s.heap) (I : InstAt s.heap x ox C od) (hs : findIn K (.ref C) "__ne__" = some (some (.builtin "object.__ne__")))
    (h : wpAny (model prog w) A (call (.builtin "object.__ne__") (.ref x :: args)) (fun v => Q (some v)) E s) : wpAny (model prog w) A (callSpecialIfBound? (.ref x) "__ne__" args) Q E s := by
  have asked : wpAny (model prog w) A (call (.builtin "object.__ne__") ([.ref x] ++ args) >>= fun v => pure (some v)) Q E s := wpAny_bind (wpAny_mono h (fun _ _ z => wpAny_pure z) fun _ _ z => z)
  unfold callSpecialIfBound? bindSpecialIfBound?
  apply wpAny_holding
  iterate 3 apply wpAny_bind
  refine I.type.here ((looks_findIn X hs).here ?_)
  simp only [PySem.F.cmp_object.ne.bind]
  apply wpAny_bind
  refine wpAny_askSetting (wpAny_ite ?_)
  split <;> first
    | exact wpAny_bind (wpAny_pure (wpAny_pure asked))
    | exact wpAny_tryCatch (wpAny_bind (wpAny_pure (wpAny_pure asked)))
theorem ne_own {Q : Value → Shared → Prop} (hu : A.units + 1 < cLine) (F : Fr h₀ L s.heap m) (X₀ : K.In h₀) (I : InstAt s.heap x ox C od) (hb : Looks (model prog w) s.heap (typeOf b) tb) (hn : notFirst K C tb = true)
    (hs : findIn K (.ref C) "__ne__" = some (some (.builtin "object.__ne__"))) (he : findIn K (.ref C) "__eq__" = some (some (.ref f))) (hf : isFn K (.ref f) = true) (hm : mroIn K C (.type "object") = some true)
    (h : wpAny (model prog w) A.in1 (call (.ref f) [.ref x, b]) (fun v s' => ∃ r, v = .bool r ∧ Q (.bool (!r)) s') E s) : wpAny (model prog w) A (richCompare .NotEq (.ref x) b) Q E s := by
  have X := X₀.keeps F.keep
  have one : wpAny (model prog w) A (tryCompare (.ref x) (cmpInfo .NotEq).2.1 b) (fun r s' => ∃ v, r = some v ∧ Q v s') E s := by
    unfold tryCompare
    refine wpAny_bind (ifBound_ne X I hs (wpAny_call (codeAny_call_builtin PySem.F.cmp_object.ne.plain PySem.F.cmpEntry_ne
      (@check_slot (model prog w) _ _ s "object.__ne__" "object" "__ne__" (.ref x) [b] [] _ PySem.F.cmpKind_ne PySem.F.cmpSplit_ne (I.type.andThen (looks_mroIn X hm)) (PySem.F.cmpArgs_ne _ _)
        (objNe_own (A := A.in1) X I he hf hu (wpAny_mono h (fun v s' hv => ?_) fun _ _ e => e))))))
    obtain ⟨r, rfl, hq⟩ := hv
    exact ⟨r, rfl, wpAny_pure ⟨_, rfl, hq⟩⟩
  unfold richCompare
  simp only [oneThing_ref]
  apply wpAny_holding
  refine wpAny_bind (wpAny_cRoomFor (Nat.lt_of_succ_lt hu) (wpAny_bind (I.type.here ?_)))
  apply wpAny_bind
  refine hb.here ?_
  split
  case isTrue q =>
    have sub : subIn K tb (.ref C) = some false := (Bool.or_eq_true_iff.mp hn).elim (fun z => absurd (beq_iff_eq.mp z) (by intro z; rw [z] at q; simp at q)) beq_iff_eq.mp
    refine wpAny_bind ((looks_subIn X sub).here ?_)
    rw [if_neg
        Bool.false_ne_true]
    refine wpAny_bind (wpAny_mono one ?_ fun _ _ z => z)
    rintro _ t ⟨v, rfl, q⟩
    exact wpAny_pure q
  case isFalse =>
    apply wpAny_bind
    apply wpAny_pure
    rw [if_neg
        Bool.false_ne_true]
    refine wpAny_bind (wpAny_mono one ?_ fun _ _ z => z)
    rintro _ t ⟨v, rfl, q⟩
    exact wpAny_pure q
end
end SayS
namespace Say
open L2 PyProof.Rows PySem.Spec PySem
structure HasM (P : Program) (w : World) (K : PySem.W.Frag) (mg : Str → Option Value) (base : Heap) (k : Nat) (c nm : Str) (n : Nat) (m : List D → M D) : Prop where
  ex : ∃ (f : Addr) (fd : FuncData) (ps : List Str), PySem.W.findIn K (.ref (He.ga K c)) nm = some (some (.ref f)) ∧ PySem.W.isFn K (.ref f) = true ∧ Binds K fd ps [] ∧ ps.length = n ∧ FnOk P w K mg base (L2.CX P w) k f fd ps (SpM K n m)
section
variable {P : Program} {w : World} {K :
    PySem.W.Frag} {mg : Str → Option Value} {base : Heap}
theorem meth_has {c nm qual : Str} {st : Stmt} {f : Addr} {fd : FuncData} {N ps : List Str} {k : Nat} {fS : S} (F : FunD K nm qual (defArgs st) (defBody st) (defScope st) [] [] f fd) (Sc : FnScope N ps (defScope st)) (hs : PySem.W.findIn K (.ref (He.ga K c)) nm = some (some (.ref f))) (hf : PySem.W.isFn K (.ref f) = true) (hb : Binds K fd ps [])
    (body : ∀ (cdv : Value) (A : Around) (outer : List PySem.Env) (s : Shared) (H : Hp) (E : XK) (p : PL), Room k (A.deeper (envOfC qual (defScope st) s.heap.objs.size f cdv)) →
      DSs (cxOf (L2.CX P w) P w K mg base N qual (defScope st) f cdv A outer s H E) p (defBody st) fS) : HasM P w K mg base (k + 1) c nm ps.length (runS N fS) := by
  refine ⟨⟨f, fd, ps, hs, hf, hb, rfl, F.ok Sc (fun vs H Q E h => ?_) fun cdv A outer s H vs Q E hr h => ⟨_, pss_self, ?_⟩⟩⟩
  · obtain ⟨p, G, ds, s, _, _, _, _, hl, _⟩ := h
    exact hl
  · obtain ⟨p, G, ds, sp, gpa, gca, gex, pn, hl, r, hw⟩ := h
    refine (body cdv A outer s H E p hr).run (fun cls d _ H' => E cls d H') G H (startE N ds) (L2.start N vs) H sp _ _ _ _ _ _ _ (takes_of rfl rfl rfl rfl) (rel_start gpa gca gex pn r) hw
      ⟨fun ρ σ H' s' rl h1 => ?_, fun d s' v H' st pn' rp h1 => h1 v H' ⟨st, pn'⟩ rp, fun ρ σ H' s' rl h1 => h1.elim, fun ρ σ H' s' rl h1 => h1.elim⟩ fun c fs s' σ dx vfs H' he st pn' xd rf => he dx vfs H' ⟨st, pn'⟩ xd rf
    exact h1 .non H' ⟨rl.old, rl.pen⟩ .non
end
theorem HasM.mono {P : Program} {w : World} {K : PySem.W.Frag} {mg : Str → Option Value} {base : Heap} {j k : Nat} {c nm : Str} {n : Nat} {m : List D → M D} (h : HasM P w K mg base j c nm n m) (hk : j ≤ k) : HasM P w K mg base k c nm n m := by
  obtain ⟨f, fd, ps, h1, h2, h3, h4, F⟩ := h.ex
  exact ⟨f, fd, ps, h1, h2, h3, h4, F.mono hk⟩
structure EqKit (K : PySem.W.Frag) (cs : List Str) (c : Str) : Prop where
  ne : PySem.W.findIn K (.ref (He.ga K c)) "__ne__" = some (some (.builtin "object.__ne__"))
  mro : PySem.W.mroIn K (He.ga K c) (.type "object") = some true
  nf : ∀ c' ∈ cs, PySem.W.notFirst K (He.ga K c) (.ref (He.ga K c')) = true
def rOwnE (K : PySem.W.Frag) (neg : Bool) (c : Str) (cs : List Str) (m : List D → M D) : R2 := fun x y H Q => ∃ (a b : Addr) (dx dy : Addr) (c' : Str) (fs gs : List (Str × V)), x = .ref a ∧ y = .ref b ∧ H a = some (.ins (He.ga K c) dx fs) ∧ c' ∈ cs ∧ H b = some (.ins (He.ga K c') dy gs) ∧
  SpM K 2 m [x, y] H (fun v H' => ∃ r, v = .bl r ∧ Q (.bl (if neg = true then !r else r)) H') (fun _ _ _ => False)
section
variable {X : Cx} {k : Nat} {c : Str} {cs : List Str} {m : List D → M D}
theorem own_call {f : Addr} {fd : FuncData} {ps : List Str} (F : FnOk X.prog X.w X.K X.mg X.base (L2.CX X.prog X.w) k f fd ps (SpM X.K 2 m)) (bind : Binds X.K fd ps []) {A : Around} (sb : L2.Sub X k A) {pins : List (Addr × Obj)} {σ : L2.St} {H : Hp} {s : Shared} {a b : Addr} {Q : VK} (I : Inv X pins σ H s)
    (h : SpM X.K 2 m [.ref a, .ref b] H Q (fun _ _ _ => False)) : wpAny (model X.prog X.w) A (call (.ref f) [.ref a, .ref b]) (EP X pins σ Q) X.xe s := by
  have env : Env0 X.prog X.w X.K X.mg X.base A X.stack s H := { I.env0 with frames := sb.fr.trans I.env0.frames }
  have bound := bind s [.ref a, .ref b] I.kIn (F.len _ _ _ _ h)
  rw [List.append_nil] at bound
  refine wpAny_call (codeAny_mono (F.run A X.stack s H ⟨[.ref a, .ref b], []⟩ [.ref a, .ref b] [.ref a, .ref b] Q _ sb.room env bound (.cons rfl (.cons rfl .nil)) h) fun out t got => ?_)
  match out, got with
  | .error e, got => exact passAt takesN σ pins H s e t I got
  | .ok (.ret _), got => exact I.after got
  | .ok .next, got => exact False.elim got
  | .ok .brk, got => exact False.elim got
  | .ok .cont, got => exact False.elim got
/-- two instances -/
theorem two_ins {pins : List (Addr × Obj)} {σ : L2.St} {H : Hp} {s : Shared} {a b C C' dx dy : Addr} {fs gs : List (Str × V)} (I : Inv X pins σ H s) (ha : H a = some (.ins C dx fs)) (hb : H b = some (.ins C' dy gs)) :
    (∃ oa oda, PySem.W.InstAt s.heap a oa C oda) ∧ ∃ ob odb, PySem.W.InstAt s.heap b ob C' odb := by
  constructor
  · exact (ins_get I.hok ha).elim fun _ z => z.1.look.elim fun od w => ⟨_, od, w.1⟩
  · exact (ins_get I.hok hb).elim fun _ z => z.1.look.elim fun od w => ⟨_, od, w.1⟩
theorem op_ownEq (h : HasM X.prog X.w X.K X.mg X.base k c "__eq__" 2 m) (room : Room (k + 1) X.A) (kit : EqKit X.K cs c) : OpR X (compareOp .Eq) (rOwnE X.K false c cs m) := by
  obtain ⟨f, fd, ps, found, isf, bind, _, F⟩ := h.ex
  rintro pins s σ H _ _ _ _ Q I rx ry ⟨a, b, dx, dy, c', fs, gs, rfl, rfl, ha, hc, hb, sp⟩
  cases rx
  cases ry
  obtain ⟨⟨oa, oda, J⟩, ob, odb, J'⟩ := two_ins I ha hb
  obtain ⟨_, fr⟩ := I.fr
  have body := own_call F bind ⟨room.mono (Nat.le_succ _), rfl⟩ I sp
  refine PySem.W.cmp_K (op := .Eq) (tb := .ref (He.ga X.K c')) (room.mono (Nat.zero_le _)).units0 fr I.ok.mod.kin J J'.type (kit.nf c' hc) found isf (wpAny_mono body ?_ fun _ _ z => z)
  rintro _ t ⟨_, H', J2, rv, r, rfl, q⟩
  cases rv
  exact ⟨.bl r, H', J2, rfl, q⟩
theorem op_ownNe (h : HasM X.prog X.w X.K X.mg X.base k c "__eq__" 2 m) (room : Room (k + 1) X.A) (kit : EqKit X.K cs c) : OpR X (compareOp .NotEq) (rOwnE X.K true c cs m) := by
  obtain ⟨f, fd, ps, found, isf, bind, _, F⟩ := h.ex
  rintro pins s σ H _ _ _ _ Q I rx ry ⟨a, b, dx, dy, c', fs, gs, rfl, rfl, ha, hc, hb, sp⟩
  cases rx
  cases ry
  obtain ⟨⟨oa, oda, J⟩, ob, odb, J'⟩ := two_ins I ha hb
  obtain ⟨_, fr⟩ := I.fr
  have small : X.A.units + 1 < cLine := by
    have := room.un
    omega
  have body := own_call F bind ⟨room.in1, rfl⟩ I sp
  refine SayS.ne_own (tb := .ref (He.ga X.K c')) small fr I.ok.mod.kin J J'.type (kit.nf c' hc) kit.ne found isf kit.mro (wpAny_mono body ?_ fun _ _ z => z)
  rintro _ t ⟨_, H', J2, rv, r, rfl, q⟩
  cases rv
  exact ⟨r, rfl, .bl !r, H', J2, rfl, q⟩
end
/-- x == y, x != y: by an own == where x is of a class that has one (all of them in one table) -/
def eqOwn (tbl : List (Str × (List D → M D))) (cs : List Str) (neg : Bool) (x y : D) : M D := match x with
  | .ins c _ => (match tbl.lookup c with
    | some m => (match y with
      | .ins c' _ => if cs.contains c' = true then nx (m [x, y]) >>= truB >>= fun r => pure (.bl (if neg = true then !r else r)) else bad
      | _ => bad)
    | none => bad)
  | _ => lift (if neg = true then neD x y else eqD x y)
structure EqTb (P : Program) (w : World) (K : PySem.W.Frag) (mg : Str → Option Value) (base : Heap) (k : Nat) (cs : List Str) (tbl : List (Str × (List D → M D))) : Prop where
  all : ∀ c m, tbl.lookup c = some m → HasM P w K mg base k c "__eq__" 2 m ∧ EqKit K cs c
@[simp] def dEqI (tbl : List (Str × (List D → M D))) (cs : List Str) (neg : Bool) (f g : En) : En := fun ρ => f ρ >>= fun x => g ρ >>= fun y => eqOwn tbl cs neg x y
@[simp] def tEqI (tbl : List (Str × (List D → M D))) (cs : List Str) (neg : Bool) (f g : En) : Env → M Bool := fun ρ => f ρ >>= fun x => g ρ >>= fun y => eqOwn tbl cs neg x y >>= truB
section
variable {X : Cx} {p : PL} {k kk : Nat} {cs : List Str} {tbl : List (Str × (List D → M D))} {a b : Expr} {f g : En} {pos : Pos}
def rTb (K : PySem.W.Frag) (neg : Bool) (cs : List Str) (tbl : List (Str × (List D → M D))) : R2 := fun x y H Q => ∃ c m, tbl.lookup c = some m ∧ rOwnE K neg c cs m x y H Q
theorem op_tbEq (T : EqTb X.prog X.w X.K X.mg X.base k cs tbl) (hr : Room (k + 1) X.A) : OpR X (compareOp .Eq) (rTb X.K false cs tbl) := by
  intro pins s σ H x y v u Q I rx ry ⟨c, m, e, h⟩
  exact op_ownEq (T.all c m e).1 hr (T.all c m e).2 pins s σ H x y v u Q I rx ry h
theorem op_tbNe (T : EqTb X.prog X.w X.K X.mg X.base k cs tbl) (hr : Room (k + 1) X.A) : OpR X (compareOp .NotEq) (rTb X.K true cs tbl) := by
  intro pins s σ H x y v u Q I rx ry ⟨c, m, e, h⟩
  exact op_ownNe (T.all c m e).1 hr (T.all c m e).2 pins s σ H x y v u Q I rx ry h
theorem eqI_run {neg : Bool} {r0 : R2} {gg : D → D → Option D} (h0 : OpS X.K p r0 gg) (hgg : ∀ x y, (if neg = true then neD x y else eqD x y) = gg x y) (ha : DE X p a f) (hb : DE X p b g) {W : WX} {G : Addr → Prop} {H0 : Hp} {ρ : Env} {σ : L2.St} {H : Hp} {s : Pen} {R : D → Pen → Prop} {Ex : XR} {Q : VK} (tk : Takes X W) (rl : Rel X.K p G H0 ρ σ H s)
    (hw : wpM (dEqI tbl cs neg f g ρ) s R Ex) (q : ∀ d s' v H', R d s' → Af p H H' s' → Rep X.K p H' (Fo G ρ σ) v d → Q v H') (px : PX X p W G σ H Ex) :
    tE X a σ H fun x H1 => tE X b σ H1 fun y H2 => r0 x y H2 Q ∨ rTb X.K neg cs tbl x y H2 Q := by
  have hw : wpM (f ρ >>= fun x => g ρ >>= fun y => eqOwn tbl cs neg x y) s R Ex := hw
  rw [wp_bind] at hw
  refine ha.run W G H0 ρ σ H s _ Ex _ tk rl hw (fun d1 s1 v1 H1 w1 a1 r1 => ?_) px
  rw [wp_bind] at w1
  have rl1 := rl.step a1.st a1.pen
  refine hb.run W G H0 ρ σ H1 s1 _ Ex _ tk rl1 w1 (fun d2 s2 v2 H2 w2 a2 r2 => ?_) (px.at a1)
  have rl2 := rl1.step a2.st a2.pen
  have r1' := r1.mono (a2.st.toF rl.fpa) fun _ z => z
  have plain : wpM (lift (if neg = true then neD d1 d2 else eqD d1 d2)) s2 R Ex → r0 v1 v2 H2 Q := fun w => by
    rw [hgg] at w
    cases e1 : gg d1 d2 with
    | none => rw [e1] at w; exact w.elim
    | some d =>
      rw [e1] at w
      exact h0 _ H2 v1 v2 d1 d2 d _ rl.fpa (fun _ z => rl2.fresh z) r1' r2 e1 fun v H3 sm r3 => q d s2 v H3 w ((a1.trans a2).trans (.same a2.pen sm)) r3
  unfold eqOwn at w2
  split at w2
  · rename_i c fs
    right
    split at w2
    · rename_i m em
      split at w2
      · rename_i c' gs
        by_cases hc : cs.contains c' = true
        · rw [if_pos hc] at w2
          have hin := r1'
          have hin2 := r2
          cases r1' with
          | ins o1 n1 l1 =>
            cases r2 with
            | ins o2 n2 l2 =>
              refine ⟨c, m, em, _, _, _, _, c', _, _, rfl, rfl, o1, by simpa using hc, o2, p, Fo G ρ σ, [.ins c fs, .ins c' gs], s2, rl.fpa, .inl rl.gca, fun z hz => ?_, a2.pen, rfl, .cons hin (.cons hin2 .nil), ?_⟩
              · cases e : H2 z with
                | some o => exact ⟨o, rfl⟩
                | none => exact (rl2.fresh e hz).elim
              · simp only [bind_assoc] at w2
                rw [wp_bind] at w2
                refine wp_mono (wp_nx w2) (fun d s3 hR v H3 a3 r3 => ?_) fun _ _ _ z => z.elim
                cases d with
                | bl r =>
                  cases r3
                  exact ⟨r, rfl, q _ s3 _ H3 hR ((a1.trans a2).trans a3) (.bl _)⟩
                | _ => exact hR.elim
        · rw [if_neg hc] at w2; exact w2.elim
      · exact w2.elim
    · exact w2.elim
  · exact .inl (plain w2)
theorem eqD_if (x y : D) : (if (false : Bool) = true then neD x y else eqD x y) = eqD x y := if_neg (by decide)
theorem neD_if (x y : D) : (if (true : Bool) = true then neD x y else eqD x y) = neD x y := if_pos rfl
theorem de_eqI (T : EqTb X.prog X.w X.K X.mg X.base k cs tbl) (hr : Room (k + 1) X.A) (ha : DE X p a f) (hb : DE X p b g) (hm : behindInMarks .Eq b = false := by first | exact nomark _ | rfl) : DE X p (.Compare a [.Eq] [b] pos) (dEqI tbl cs false f g) := by
  obtain ⟨r, h1, h2⟩ := (bs_eq hr : BinS X p (compareOp .Eq) eqD)
  exact ⟨fun W G H0 ρ σ H s R Ex Q tk rl hw q px => tE_of (pe_cmpR (h1.or (op_tbEq T hr)) pe_self pe_self hm) (eqI_run h2 eqD_if ha hb tk rl hw q px)⟩
theorem de_neI (T : EqTb X.prog X.w X.K X.mg X.base k cs tbl) (hr : Room (k + 1) X.A) (ha : DE X p a f) (hb : DE X p b g) (hm : behindInMarks .NotEq b = false := by first | exact nomark _ | rfl) : DE X p (.Compare a [.NotEq] [b] pos) (dEqI tbl cs true f g) := by
  obtain ⟨r, h1, h2⟩ := (bs_ne hr : BinS X p (compareOp .NotEq) neD)
  exact ⟨fun W G H0 ρ σ H s R Ex Q tk rl hw q px => tE_of (pe_cmpR (h1.or (op_tbNe T hr)) pe_self pe_self hm) (eqI_run h2 neD_if ha hb tk rl hw q px)⟩
theorem tEqI_wp {neg : Bool} {ρ : Env} {s : Pen} {R : Bool → Pen → Prop} {Ex : XR} (h : wpM (tEqI tbl cs neg f g ρ) s R Ex) : wpM (dEqI tbl cs neg f g ρ >>= truB) s R Ex := by
  have h : wpM (f ρ >>= fun x => g ρ >>= fun y => eqOwn tbl cs neg x y >>= truB) s R Ex := h
  show wpM ((f ρ >>= fun x => g ρ >>= fun y => eqOwn tbl cs neg x y) >>= truB) s R Ex
  simp only [bind_assoc]
  exact h
theorem dt_eqI (T : EqTb X.prog X.w X.K X.mg X.base k cs tbl) (hr : Room (k + 1) X.A) (ha : DE X p a f) (hb : DE X p b g) (hm : behindInMarks .Eq b = false := by first | exact nomark _ | rfl) : DT X p (.Compare a [.Eq] [b] pos) (tEqI tbl cs false f g) := by
  obtain ⟨r, h1, h2⟩ := (bs_eq hr : BinS X p (compareOp .Eq) eqD)
  exact ⟨fun W G H0 ρ σ H s R Ex Q tk rl hw q px => tT_of (pt_cmpR (h1.or (op_tbEq T hr)) pe_self pe_self hm) (tB_run (f := dEqI tbl cs false f g) (tEqI_wp hw) q fun R' Q' hw' q' => eqI_run h2 eqD_if ha hb tk rl hw' q' px)⟩
theorem dt_neI (T : EqTb X.prog X.w X.K X.mg X.base k cs tbl) (hr : Room (k + 1) X.A) (ha : DE X p a f) (hb : DE X p b g) (hm : behindInMarks .NotEq b = false := by first | exact nomark _ | rfl) : DT X p (.Compare a [.NotEq] [b] pos) (tEqI tbl cs true f g) := by
  obtain ⟨r, h1, h2⟩ := (bs_ne hr : BinS X p (compareOp .NotEq) neD)
  exact ⟨fun W G H0 ρ σ H s R Ex Q tk rl hw q px => tT_of (pt_cmpR (h1.or (op_tbNe T hr)) pe_self pe_self hm) (tB_run (f := dEqI tbl cs true f g) (tEqI_wp hw) q fun R' Q' hw' q' => eqI_run h2 neD_if ha hb tk rl hw' q' px)⟩
def kitChk2 (cs : List Str) (Ts : List String) (es : List Str) (K : PySem.W.Frag) : Bool := kitChk cs Ts K && (es.all fun c => He.eqO (PySem.W.findIn K (.ref (He.ga K c)) "__ne__") (some (some (.builtin "object.__ne__"))) && cs.all fun c' => PySem.W.notFirst K (He.ga K c) (.ref (He.ga K c')))
theorem eqKit_of {es : List Str} {Ts : List String} {K : PySem.W.Frag} (h : kitChk2 cs Ts es K = true) (hk : Kit K cs Ts) {c : Str} (hc : c ∈ es) (hcs : c ∈ cs) : EqKit K cs c := by
  obtain ⟨h1, h2⟩ := Bool.and_eq_true_iff.mp h
  obtain ⟨q1, q2⟩ := Bool.and_eq_true_iff.mp (List.all_eq_true.mp h2 c hc)
  exact ⟨He.eqO_ok q1, (hk.ins c hcs).2.2.2.2, fun c' m => List.all_eq_true.mp q2 c' m⟩
end
end Say

namespace Say
open L2 PyProof.Rows PySem.Spec PySem
section
variable {X : Cx} {p : PL} {a b e : Expr} {fs : List En} {pos' pos : Pos}
/-! max, min of two ints -/
def max2D : List D → Option D
  | [.int i, .int j] => some (.int (if j > i then j else i))
  | _ => none
def min2D : List D → Option D
  | [.int i, .int j] => some (.int (if j < i then j else i))
  | _ => none
theorem de_max2 (hm : X.mg "max" = none) (ha : DA X p [a, b] fs) (hc : X.calm = true := by rfl) (hg : Gl X "max" := by rfl) (he : starEach (a :: [b]) X.env = (false, eval a X.env) :: starEach [b] X.env := by rfl) (hpl : (backTo pos (starEach [b] X.env)).any (·.1) = false := by rfl) :
    DE X p (.Call (.Name "max" pos') [a, b] [] pos) (fun ρ => seqA fs ρ fun xs => lift (max2D xs)) := by
  refine de_callB (call_max2 hc) (fun F H vs ds d Q hp hf r e q => ?_) hm boot_max ha hg (by decide) (by decide) he hpl
  unfold max2D at e
  split at e
  · cases e
    cases r with
    | cons r1 r2 =>
      cases r2 with
      | cons r2 r3 =>
        cases r3
        cases r1
        cases r2
        exact ⟨_, _, rfl, q _ H (Same.refl H) (.int _)⟩
  · cases e
theorem de_min2 (hm : X.mg "min" = none) (ha : DA X p [a, b] fs) (hc : X.calm = true := by rfl) (hg : Gl X "min" := by rfl) (he : starEach (a :: [b]) X.env = (false, eval a X.env) :: starEach [b] X.env := by rfl) (hpl : (backTo pos (starEach [b] X.env)).any (·.1) = false := by rfl) :
    DE X p (.Call (.Name "min" pos') [a, b] [] pos) (fun ρ => seqA fs ρ fun xs => lift (min2D xs)) := by
  refine de_callB (call_min2 hc) (fun F H vs ds d Q hp hf r e q => ?_) hm boot_min ha hg (by decide) (by decide) he hpl
  unfold min2D at e
  split at e
  · cases e
    cases r with
    | cons r1 r2 =>
      cases r2 with
      | cons r2 r3 =>
        cases r3
        cases r1
        cases r2
        exact ⟨_, _, rfl, q _ H (Same.refl H) (.int _)⟩
  · cases e
end
end Say

namespace Say
open L2 PyProof.Rows PySem.Spec PySem
def lstI : D → M (List Int)
  | .lst xs => lift (intsOf xs)
  | _ => bad
@[simp] def dIndexL (f g : En) : En := fun ρ => f ρ >>= lstI >>= fun ns => g ρ >>= indexM ns
section
variable {X : Cx} {p : PL} {e a b : Expr} {f g : Env → M D} {pos pos' : Pos}
theorem flat_ints (ns : List Int) : ((ns.map V.int).all flatV) = true := List.all_eq_true.mpr fun x hx => by
  obtain ⟨i, _, rfl⟩ := List.mem_map.mp hx
  rfl
theorem de_indexL (ha : DE X p a f) (hb : DE X p b g)
    (hp : PE X (.Call (.Attribute a "index" pos') [b] [] pos) (tBM X.K "list" (rIndex X.K) (tE X a) (tCons (tE X b) tNil)) := by exact pe_bm PySem.F.plainAttrs_list PySem.F.slot_list_index PySem.F.type_list_index mt_index pe_self (pa_cons pe_self pa_nil)) :
    DE X p (.Call (.Attribute a "index" pos') [b] [] pos) (dIndexL f g) := by
  refine ⟨fun W G H0 ρ σ H s R Ex Q tk rl hw q px => tE_of hp ?_⟩
  have hw : wpM (f ρ >>= lstI >>= fun ns => g ρ >>= indexM ns) s R Ex := hw
  rw [bind_assoc, wp_bind] at hw
  refine ha.run W G H0 ρ σ H s _ Ex _ tk rl hw (fun d1 s1 v H1 h1 a1 r1 => ?_) px
  cases d1 with
  | lst xs =>
    cases r1 with
    | lst ho n1 hz l1 =>
      rename_i ad ws
      refine ⟨.inl ⟨rfl, ws, .inl (.inl ho)⟩, ?_⟩
      cases en : intsOf xs with
      | none =>
        have h1 : wpM (lift (intsOf xs) >>= fun ns => g ρ >>= indexM ns) s1 R Ex := h1
        rw [en] at h1
        exact h1.elim
      | some ns =>
        have h1 : wpM (lift (intsOf xs) >>= fun ns => g ρ >>= indexM ns) s1 R Ex := h1
        rw [en] at h1
        have h1 : wpM (g ρ >>= indexM ns) s1 R Ex := h1
        rw [wp_bind] at h1
        refine hb.run W G H0 ρ σ H1 s1 _ Ex _ tk (rl.step a1.st a1.pen) h1 (fun d2 s2 v2 H2 h2 a2 r2 => ?_) (px.at a1)
        cases d2 with
        | int z =>
          cases r2
          have h2 : wpM (lift ((idxI z ns).map fun j => D.int (j : Int))) s2 R Ex := h2
          cases ej : idxI z ns with
          | none => rw [ej] at h2; exact h2.elim
          | some j =>
            rw [ej] at h2
            obtain ⟨q1, q2⟩ := idxI_ok ej
            rw [intsOf_ok en] at l1
            have ew := repL_ints' l1
            subst ew
            refine ⟨_, ns.map V.int, .int z, j, .int z, rfl, rfl, .inl (.inl (a2.st _ _ ho fun e => n1 (rl.fpa _ e))), rfl, flat_ints ns, by rw [List.getElem?_map, q1]; rfl, by simp [L2.eqV], fun m z' hm hz' => ?_, q _ s2 _ H2 h2 (a1.trans a2) (.int _)⟩
            rw [List.getElem?_map] at hz'
            cases em : ns[m]? with
            | none => rw [em] at hz'; cases hz'
            | some y =>
              rw [em] at hz'
              cases hz'
              have := q2 m hm
              show (y == z) = false
              exact beq_eq_false_iff_ne.mpr fun e => this (by rw [em, e])
        | _ => exact h2.elim
  | _ => exact h1.elim
end
end Say

namespace Say
open L2 PyProof.Rows PySem.Spec PySem
/-- too deep -/
def sNever : S := fun _ _ _ _ _ => bad
theorem dss_never {X : Cx} {p : PL} {b : List Stmt} : DSs X p b sNever := ⟨fun W G H0 ρ σ H s k r b c R Ex Dn tk rl hw wy px => hw.elim⟩
end Say

namespace SayS
open PySem PySem.W PySem.Calls PyProof.Rows Srt SrtO
section
variable {prog : Program} {w : World} {A :
    Around} {E : Value → Shared → Prop} {s : Shared}
theorem katlex_ints {b : Bool} {Q : Bool → Shared → Prop} : ∀ {xs ys : List Value} {ns ms : List Int} {i : Nat}, IntsAre xs ns → IntsAre ys ms → Q (HT.lexLt ns ms) s → KatLex prog w A b (decide (ns.length < ms.length)) Q (xs.zip ys) i s
  | _, _, _, _, _, .nil, .nil, h => kat_nil h
  | _, _, _, _, _, .nil, .cons n t r, h => kat_nil (by have h : Q true s := h; simpa using h)
  | _, _, _, _, _, .cons n t r, .nil, h => kat_nil (by have h : Q false s := h; simpa using h)
  | _, _, _, _, i, .cons (ns := ns) x t r, .cons (ns := ms) y u r', h => by
    rw [HT.lexLt_cons] at h
    have el : decide ((x :: ns).length < (y :: ms).length) = decide (ns.length < ms.length) := by simp
    rw [el]
    refine kat_cons (SeqAt.EqAt.int_int x t y u prog w _ _ ?_)
    refine kat_go (fun e1 => ?_) (fun e1 => ?_)
    · have ex : x = y := by simpa using e1
      rw [if_pos ex] at h
      exact kat_yes (katlex_ints r r' h)
    · have ex : ¬ x = y := by simpa using e1
      rw [if_neg ex] at h
      refine kat_no ?_
      cases (b && i == 0) with
      | true => exact oneLt_int h
      | false => exact kat_one _ _ (PyProof.Rows.lt_int h)
theorem rows_cmp {vs : List Value} {k : Value → List Int} (hp : ∀ v ∈ vs, TI s.heap v (k v)) : Cmp prog w A s (tuples' true) (fun p => p.1 ∈ vs) (lt2 fun v u => HT.lexLt (k v) (k u)) := by
  intro p q hm hm'
  have h1 := hp _ hm
  have h2 := hp _ hm'
  show wpAny (model prog w) A (keyLt' (tuples' true) p.1 q.1) (fun r s' => s' = s ∧ r = HT.lexLt (k p.1) (k q.1)) (fun _ _ => False) s
  generalize k p.1 = x at h1 ⊢
  generalize k q.1 = y at h2 ⊢
  obtain ⟨a, xs, e, ⟨o, ho, hc, n, hd⟩, hi⟩ := h1
  obtain ⟨a', ys, e', ⟨o', ho', hc', n', hd'⟩, hj⟩ := h2
  rw [e, e']
  refine kat_lt ho
      hd ho' hd' ?_
  have e1 := hi.length
  have e2 := hj.length
  rw [Array.length_toList] at e1 e2
  rw [e1, e2]
  exact katlex_ints hi hj ⟨rfl, rfl⟩
theorem rows_firsts {h : Heap} {k : Value → List Int} : ∀ {vs : List Value}, (∀ v ∈ vs, TI h v (k v) ∧ k v ≠ []) → ∃ fs, KatTups h vs fs ∧ fs.length = vs.length ∧ ∀ f ∈ fs, ∃ x t, f = .int x t
  | [], _ => ⟨[], KatTups.nil, rfl, fun f hf => nomatch hf⟩
  | v :: vs, hv => by
    obtain ⟨fs, h1, h2, h3⟩ := rows_firsts fun x hx => hv x (List.mem_cons_of_mem _ hx)
    obtain ⟨⟨a, xs, rfl, ⟨o, ho, hc, n, hd⟩, hi⟩, ne⟩ := hv v List.mem_cons_self
    have pos : 0 < xs.toList.length := by
      rw [hi.length]
      exact List.length_pos_iff.mpr ne
    obtain ⟨t, et⟩ := IntsAre.int_at hi 0 _ (List.getElem?_eq_getElem pos)
    have ex : xs[0]? = some (.int ((k (.ref a)).getD 0 0) t) := by
      rw [← Array.getElem?_toList, List.getElem?_eq_getElem pos, et]
    exact ⟨_ :: fs, KatTups.cons ho hc hd ex h1, by simp [h2], fun f hf => by
      rcases List.mem_cons.mp
          hf with rfl | hf
      · exact ⟨_, _, rfl⟩
      · exact h3 f hf⟩
theorem rows_sortable {a : Addr} {k : Value → List Int} {vs : List Value} (h0 : 0 < vs.length) (hv : ∀ v ∈ vs, TI s.heap v (k v) ∧ k v ≠ []) (ha : ∀ o, s.heap.get? a = some o → o.cls ≠ .type "tuple") : SortableO prog w A s a vs fun v u => HT.lexLt (k v) (k u) := by
  intro h' keep
  have hv' : ∀ v ∈ vs, TI h' v (k v) ∧ k v ≠ [] := fun v m => by
    obtain ⟨⟨b, xs, e, ⟨o, ho, hc, hd⟩, hi⟩, ne⟩ := hv v m
    exact ⟨⟨b, xs, e, ⟨o, keep b o (fun z => ha o (by rw [← z]; exact ho) hc) ho, hc, hd⟩, hi⟩, ne⟩
  obtain ⟨fs, h1, h2, h3⟩ := rows_firsts hv'
  refine ⟨tuples' true, fun Q E hq => ?_, rows_cmp (s := { s with heap := h' }) fun v m => (hv' v m).1⟩
  refine kat_kind (s := { s with heap := h' }) (T := .type "int") h1 (by omega) (fun f hm => ?_) (by rfl) ?_
  · obtain ⟨x, t,
        rfl⟩ := h3 f hm
    exact Looks.now
  · have e : (Value.type "int" != Value.type "tuple") = true :=
        by first | decide +kernel | rfl | decide
    rw [e]
    exact hq
end
end SayS
namespace Say
open L2 PyProof.Rows PySem.Spec PySem
def rSortedTN (K : PySem.W.Frag) : List V → Hp → VK → Prop := fun vs H Q => ∃ (a : Addr) (xs : List V) (k : V → List Int), vs = [V.ref a] ∧ SqL K H a xs ∧ (∀ x ∈ xs, ∃ t, x = V.ref t ∧ Tp H t ((k x).map V.int)) ∧
  (∀ x ∈ xs, k x ≠ []) ∧ ∀ ys q, SrtO.Srtd (ltT k) ys → SrtO.Stb (ltT k) ys xs → H q = none → Q (.ref q) (upd H q (.lst ys))
theorem cr_sortedTN {X : Cx} (hu : X.A.in1.in1.units < cLine) : CallR X (.builtin "sorted") (rSortedTN X.K) := by
  intro pins s σ
      H vs us Q I r h
  obtain ⟨a, xs, k, rfl, sq, each, hd0, q⟩ := h
  obtain ⟨its, rv, pl, sz⟩ := I.list sq
  obtain ⟨u, rfl,
      ru⟩ := vals1 r
  obtain rfl : u =
      Value.ref a := ru
  have refs : ∀ x ∈ xs, ∃ t, x = V.ref t := fun x m => (each x m).elim fun t e => ⟨t, e.1⟩
  obtain ⟨e1, e2⟩ := refs_back rv refs
  have tis : ∀ v ∈ its, SayS.TI s.heap v (k (backV v)) := fun v mv => by
    obtain ⟨t, rfl⟩ := e2 v mv
    have m : V.ref t ∈ xs := by rw [e1]; exact List.mem_map.mpr ⟨_, mv, rfl⟩
    obtain ⟨t', e, ob, ht, nd⟩ := each _ m
    cases e
    obtain ⟨_, _, us, r2, o, ho, hc, n, hd⟩ := (show s.heap.get? t = some ob ∧ ObjOk X.prog X.w H s.heap t (.tup _) from I.hok _ _ ht)
    exact ⟨t, us.toArray, rfl, ⟨o, ho, hc, n, hd⟩, ints_of_vals r2⟩
  refine SrtO.sorted_ord (SayS.ll_swo fun u => k (backV u)) pl.isList (by rw [← rv.length]; exact sz) (fun h2 h₁ d hd kk => ?_) fun out hs hb => ?_
  · refine SayS.rows_sortable (s := { s with heap := h₁ }) (k := fun u => k (backV u)) (by omega) (fun v hv => ⟨?_, ?_⟩) (fun o e => ?_)
    · obtain ⟨b, ys, e, ⟨o, ho, hc, hd⟩, hi⟩ := tis v hv
      exact ⟨b, ys, e, ⟨o, (kk b o ho).2, hc, hd⟩, hi⟩
    · refine hd0 _ ?_
      rw [e1]
      exact List.mem_map.mpr
          ⟨_, hv, rfl⟩
    · have e' : some o = some (seqObj "list" its.toArray 0) := e.symm.trans hd
      cases e'
      intro c
      exact absurd (Value.type.inj
          c) (by decide)
  · have all : ∀ u ∈ out, ∃ a, u = Value.ref a := fun u hu => e2 u (hb.perm.mem_iff.mp hu)
    have st : SrtO.Stb (ltT k) (out.map backV) xs := e1 ▸ SrtO.Stb.map (SayS.ll_swo k) backV hb
    obtain ⟨ep, he⟩ := PyProof.Rows.sortedAll_at s.heap its out.toArray
    exact ⟨.ref _, upd H (s.heap.objs.size + 1) (.lst (out.map backV)), I.laid (t' := s.toks) (fun _ _ => PyProof.Rows.sortedAll_old) (Nat.le_succ _) ⟨by rw [st.len]; exact sz, out, ep, vals_back all, he⟩, rfl, q _ _ (SrtO.srtd_map hs) st (I.hok.fresh (Nat.le_succ _))⟩
/-- sorted([..]), rows of ints, none of them empty -/
def sortNM : List D → M (List D)
  | [.lst xs] => (match lotsD xs with
    | some ls => if (ls.all fun l => decide (l ≠ [])) = true then pure ((sortT ls).map ti) else bad
    | none => bad)
  | _ => bad
@[simp] def nSortN (fs : List En) : Env → M (List D) := fun ρ => seqA fs ρ sortNM
section
variable {X : Cx} {p : PL} {e : Expr} {fs : List En} {pos pos' : Pos} {kk : Nat}
theorem dn_sortN (hr : Room kk X.A) (hm : X.mg "sorted" = none) (ha : DA X p [e] fs) (hu : ∀ A : Around, Room kk A → A.in1.in1.units < cLine := by intro A h; have := h.un; show A.units + 2 < cLine; omega) (hg : Gl X "sorted" := by rfl) (he : starEach (e :: []) X.env = (false, eval e X.env) :: starEach [] X.env := by rfl) (hpl : (backTo pos (starEach [] X.env)).any (·.1) = false := by rfl) :
    DN X p (.Call (.Name "sorted" pos') [e] [] pos) (nSortN fs) := by
  refine ⟨fun W G H0 ρ σ H s R Ex Q tk rl hw q px => tE_of (pe_callB (cr_sortedTN (hu _ hr)) hg hm boot_sorted pa_self (by decide) (by decide) he hpl) ?_⟩
  have hw : wpM (seqA fs ρ sortNM) s R Ex := hw
  refine ha.run _ sortNM W G H0 ρ σ H s R Ex _ tk rl hw (fun ds s1 vs H1 h1 a1 r1 _ => ?_) px
  unfold sortNM at h1
  split at h1
  · rename_i xs _
    split at h1
    · rename_i ls el
      by_cases hc : (ls.all fun l => decide (l ≠ [])) = true
      · rw [if_pos hc] at h1
        have ex := lotsD_ok el
        subst ex
        cases r1 with
        | cons r1 r2 =>
          cases r2
          cases r1 with
          | lst ho n1 hz l1 =>
            rename_i ws
            obtain ⟨k1, k2⟩ := repL_tups l1
            refine ⟨_, ws, kvT H1, rfl, .inl (.inl ho), fun x hx => (k2 x hx).elim fun t z => ⟨t, z.1, z.2.1⟩, fun x hx => ?_, fun ys l hs hb hl => ?_⟩
            · have := List.all_eq_true.mp hc (kvT H1 x) (by rw [← k1]; exact List.mem_map.mpr ⟨x, hx, rfl⟩)
              exact of_decide_eq_true this
            · have hp := hb.perm
              have each : ∀ x ∈ ys, ∃ t, x = V.ref t ∧ Tp H1 t ((kvT H1 x).map V.int) ∧ ¬ Fo G ρ σ t ∧ (kvT H1 x).length ≤ 16777216 := fun x hx => k2 x (hp.mem_iff.mp hx)
              have es : ys.map (kvT H1) = sortT ls := by
                refine sortT_uniq ?_ ?_
                · rw [← k1]; exact hp.map _
                · refine List.pairwise_map.mpr (List.Pairwise.imp (fun {a b} h => ?_) hs)
                  have h : HT.lexLt (kvT H1 b) (kvT H1 a) = false := h
                  unfold leT
                  rw [h]
                  rfl
              have lr : RepL X.K p H1 (Fo G ρ σ) ys ((sortT ls).map ti) := by
                rw [← es]
                exact tups_repL each
              refine q ((sortT ls).map ti) s1 l ys _ h1 (a1.trans (.same a1.pen (same_new hl))) (back_none a1 hl) upd_same ?_ ((lr.more (N := fun a => a = l) fun a z => by rw [z]; exact hl).mono ((same_step (p := p) (same_new hl)).toF (fun a z => .inl (rl.fpa a z))) fun _ z => z)
              rw [List.length_map, (sortT_perm ls).length_eq]
              rw [List.length_map] at hz
              exact hz
      · rw [if_neg hc] at h1
        exact h1.elim
    · exact h1.elim
  · exact h1.elim
end
end Say

namespace SayS
open PyProof.Rows PySem.Calls PySem.W PySem
section
variable {prog : Program} {w : World} {A :
    Around} {E : Value → Shared → Prop} {s : Shared}
theorem places_rev (n : Nat) : Builtin.Slice.slicePlaces ((n : Int) - 1) (-1) (-1) = n := by
  rcases n with _ | k
  · rfl
  · simp only [Builtin.Slice.slicePlaces]
    have up : ((k + 1 : Nat) : Int) - 1 > -1 := by omega
    rw [if_neg (by omega), if_pos up, show (-(-1) : Int) = 1 from rfl, Int.ediv_one]
    omega
/-- the three numbers of [::-1] -/
theorem applied_rev {sl : Addr} {vl vu vs : Value} {n : Nat} {Q : Int × Int × Nat → Shared → Prop} (hs : s.heap.IsSliceOf sl vl vu vs) (pl : IsPart vl none) (pu : IsPart vu none) (ps : IsPart vs (some (-1)))
    (h : Q ((n : Int) - 1, -1, n) s) : wpAny (model prog w) A (Builtin.Slice.sliceApplied (.ref sl) (pure (n : Int))) Q E s := by
  have three : wpAny (model prog w) A (Builtin.Slice.sliceFields (.ref sl)) (fun r t => r = (vl, vu, vs) ∧ t = s) E s := by
    obtain ⟨o, e, _, f⟩ := hs
    exact wpAny_bind (wpAny_field e f rfl (wpAny_bind (wpAny_field e f rfl (wpAny_bind (wpAny_field e f rfl (wpAny_pure ⟨rfl, rfl⟩))))))
  delta Builtin.Slice.sliceApplied
  refine wpAny_bind (wpAny_mono three (fun r t ⟨e1, e2⟩ => ?_) fun _ _ z => z)
  cases e1
  cases e2
  have fin : wpAny (model prog w) A (pure ((n : Int) - 1, (-1 : Int), Builtin.Slice.slicePlaces ((n : Int) - 1) (-1) (-1)) : Sem (Int × Int × Nat)) Q E s := by
    rw [places_rev]
    exact wpAny_pure h
  refine wpAny_bind (HT.slicePart_ ps ?_)
  show wpAny _ _ (if ((-1 : Int) == 0) = true then _ else _) _ _ s
  rw [if_neg (by decide)]
  exact wpAny_bind (HT.slicePart_ pl (wpAny_bind (HT.slicePart_ pu (wpAny_bind (wpAny_pure fin)))))
theorem pick_rev (xs : Array Value) : ((List.range xs.size).filterMap fun (m : Nat) => xs[((xs.size : Int) - 1 + (m : Int) * (-1)).toNat]?).toArray = xs.toList.reverse.toArray := by
  congr 1
  have e : ∀ m ∈ List.range xs.size, xs[((xs.size : Int) - 1 + (m : Int) * (-1)).toNat]? = xs.toList.reverse[m]? := fun m hm => by
    have hm := List.mem_range.mp hm
    rw [List.getElem?_reverse (by rw [Array.length_toList]; exact hm), Array.length_toList, Array.getElem?_toList]
    congr 1
    omega
  have key : ∀ (l : List Value) (k : Nat), k ≤ l.length → (List.range k).filterMap (fun m => l[m]?) = l.take k := fun l k => by
    induction k with
    | zero => intro _; rfl
    | succ k ih =>
      intro h
      rw [List.range_succ, List.filterMap_append, ih (by omega), List.take_succ_eq_append_getElem (by omega)]
      congr 1
      simp [List.getElem?_eq_getElem (show k < l.length by omega)]
  have cg : ∀ l : List Nat, (∀ m ∈ l, xs[((xs.size : Int) - 1 + (m : Int) * (-1)).toNat]? = xs.toList.reverse[m]?) → l.filterMap (fun (m : Nat) => xs[((xs.size : Int) - 1 + (m : Int) * (-1)).toNat]?) = l.filterMap (fun m => xs.toList.reverse[m]?) := fun l => by
    induction l with
    | nil => intro _; rfl
    | cons a l ih =>
      intro h
      rw [List.filterMap_cons, List.filterMap_cons, h a List.mem_cons_self, ih fun m hm => h m (List.mem_cons_of_mem _ hm)]
  rw [cg _ e]
  rw [key _ _ (by rw [List.length_reverse, Array.length_toList]; exact Nat.le_refl _)]
  exact List.take_of_length_le (by rw [List.length_reverse, Array.length_toList]; exact Nat.le_refl _)
/-- what tuple.__getitem__ makes of it -/
theorem tupGet_rev {t sl : Addr} {items : Array Value} {vl vu vs : Value} {Q : Fin → Shared → Prop} (ht : IsTup s.heap t items) (hs : s.heap.IsSliceOf sl vl vu vs) (pl : IsPart vl none) (pu : IsPart vu none) (ps : IsPart vs (some (-1))) (fits : items.size ≤ sizeLine)
    (h : Q (.done (.ret (.ref s.heap.objs.size))) { s with heap := s.heap.push { cls := .type "tuple", data := .seq items.toList.reverse.toArray } }) : wpAny (model prog w) A (Builtin.«tuple.__getitem__» ⟨[.ref t, .ref sl], []⟩) Q E s := by
  have ok : sizeOk (.seq items.toList.reverse.toArray) := by
    show items.toList.reverse.toArray.size ≤ sizeLine
    simpa using fits
  have isSl : s.TypeIs (.ref sl) "slice" := hs.elim fun o z => ⟨o, z.1, z.2.1⟩
  have no : ¬ ((((items.size : Int) - 1 == 0) && ((-1 : Int) == 1) && items.size == items.size) = true) := by simp
  change wpAny _ _ (Builtin.Tuple.tupleItemsOf (.ref t) >>= _) _ _ s
  refine wpAny_bind (tupleItemsOf_ ht (wpAny_bind (wpAny_typeOf isSl ?_)))
  rw [if_pos (by decide)]
  refine wpAny_bind (applied_rev hs pl pu ps ?_)
  show wpAny _ _ (if (((items.size : Int) - 1 == 0) && ((-1 : Int) == 1) && items.size == items.size) = true then _ else _) _ _ s
  rw [if_neg no, pick_rev]
  have made : ∀ {R : Value → Shared → Prop}, R (.ref s.heap.objs.size) { s with heap := s.heap.push { cls := .type "tuple", data := .seq items.toList.reverse.toArray } } → wpAny (model prog w) A (Builtin.Tuple.tupleExact items.toList.reverse.toArray) R E s := fun r => wpAny_newObj_type r ok
  first
    | exact wpAny_bind (made (wpAny_pure h))
    | exact wpAny_bind (wpAny_bind (made (wpAny_pure (wpAny_pure h))))
    | exact wpAny_bind (wpAny_bind (made (wpAny_pure h)))
    | exact wpAny_bind (made (wpAny_bind (wpAny_pure (wpAny_pure h))))
theorem getItem_tuple_rev {t sl : Addr} {items : Array Value} {vl vu vs : Value} {Q : Value → Shared → Prop} (ht : IsTup s.heap t items) (hs : s.heap.IsSliceOf sl vl vu vs) (pl : IsPart vl none) (pu : IsPart vu none) (ps : IsPart vs (some (-1)))
    (h : Q (.ref s.heap.objs.size) { s with heap := s.heap.push { cls := .type "tuple", data := .seq items.toList.reverse.toArray } }) (fits : items.size ≤ sizeLine) : wpAny (model prog w) A (getItem (.ref t) (.ref sl)) Q E s := by
  have is := ht.typeIs
  have slot := wpAny_callSpecial?_slot (name := Str.ofString "__getitem__") (args := [.ref sl]) (A := A) (E := E) (Q := fun r t => ∃ v, r = some v ∧ Q v t) (M := model prog w) is PyProof.Rows.slot_tuple_getitem
    (wpAny_call_entry PyProof.Rows.slot_tuple_getitem is entry_tuple_getitem (tupGet_rev ht hs pl pu ps fits ⟨_, rfl, _, rfl, h⟩) (args_tuple_getitem _ _))
  delta getItem
  try with_reducible
      refine wpAny_holding ?_
  try (refine wpAny_bind (wpAny_pure ?_))
  refine wpAny_bind (wpAny_sequenceKey is (by decide) (wpAny_bind (wpAny_mono slot (fun r t z => ?_) fun _ _ z => z)))
  obtain ⟨v, rfl, q⟩ := z
  exact wpAny_pure q
end
end SayS
namespace Say
open L2 PyProof.Rows PySem.Spec PySem
def tRev (K : PySem.W.Frag) (te : TE) : TE := fun σ H Q => te σ H fun x H1 => ∃ a xs, x = .ref a ∧ ((SqL K H1 a xs ∧ ∀ p, H1 p = none → Q (.ref p) (upd H1 p (.lst xs.reverse))) ∨ (SqT K H1 a xs ∧ NewT H1 xs.reverse Q))
abbrev sliceO (l u v : Value) : Obj := { cls := .type "slice", data := .fields #[l, u, v] }
abbrev minusOne (k : Nat) (p1 p2 : Pos) : Expr := .UnaryOp .USub (.Constant (.int 1) k p1) p2
section
variable {X : Cx} {pins : List (Addr × Obj)} {σ : L2.St} {H : Hp} {s : Shared} {e : Expr} {k a : Nat} {p1 p2 p3 : Pos} {xs : List V} {Q : VK}
/-- the slice object of [::-1] -/
theorem rev_parts {R : Value → Shared → Prop} (I : Inv X pins σ H s) (q : ∀ l u v t, Inv X pins σ H t → IsPart l none → IsPart u none → IsPart v (some (-1)) → R (.ref t.heap.objs.size) { t with heap := t.heap.push (sliceO l u v) }) :
    wpAny (model X.prog X.w) X.A (eval (.Slice none none (some (minusOne k p1 p2)) p3) X.env) R X.xe s := by
  have one : PO X (some (minusOne k p1 p2)) (tPart (tUn (rU fun i => .int (-i)) (tC (.int 1)))) := po_some (pe_un un_neg pe_int)
  have lo := po_none.run (X := X) pins s σ H (fun o H2 => o = none ∧ H2 = H) I ⟨rfl, rfl⟩
  apply wpAny_Slice
  refine thn lo ?_
  rintro l s2 ⟨_, _, I2, pl, rfl, rfl⟩
  refine thn (po_none.run (X := X) pins s2 σ _ (fun o H3 => o = none ∧ H3 = _) I2 ⟨rfl, rfl⟩) ?_
  rintro u s3 ⟨_, _, I3, pu, rfl, rfl⟩
  refine thn (one.run pins s3 σ _ (fun o H4 => o = some (-1) ∧ H4 = _) I3 ⟨1, rfl, -1, rfl, rfl, rfl⟩) ?_
  rintro v s4 ⟨_, _, I4, pv, rfl, rfl⟩
  exact q l u v s4 I4 pl pu pv
theorem Inv.sliced {l u v : Value} (I : Inv X pins σ H s) : Inv X pins σ H { s with heap := s.heap.push (sliceO l u v) } := I.kept (t' := s.toks) fun _ _ w => Heap.get?_push_of_some _ w
/-- of a list -/
theorem rev_list {l u v : Value} (I : Inv X pins σ H s) (pl : IsPart l none) (pu : IsPart u none) (pv : IsPart v (some (-1))) (hx : SqL X.K H a xs) (q : ∀ p, H p = none → Q (.ref p) (upd H p (.lst xs.reverse))) :
    wpAny (model X.prog X.w) X.A (subscriptTail e (.Slice none none (some (minusOne k p1 p2)) p3) (.ref a) (.ref s.heap.objs.size)) (EP X pins σ Q) X.xe { s with heap := s.heap.push (sliceO l u v) } := by
  have J := Inv.sliced (l := l) (u := u) (v := v) I
  obtain ⟨its, r, pin, sz⟩ := J.list hx
  have fits : its.toArray.size ≤ sizeLine := by
    rw [List.size_toArray, ← r.length]
    exact sz
  apply tail_any (ops := [.ref a, .ref s.heap.objs.size]) pin.isList.typeIs (PySem.slot_list_getitem.lookup)
  · apply wpAny_getItem_list_slice pin.isList (Heap.IsSliceOf.new _ l u v) pl pu pv (by decide) ?_ fits
    rw [PySem.W.krv_pick]
    exact ⟨.ref _, _, J.laid (t' := s.toks) (o := .lst xs.reverse) (fun _ _ z => Heap.get?_push_of_some _ z) (Nat.le_refl _) ⟨by simpa using sz, _, 0, r.reverse, Heap.get?_push_size _ rfl⟩, rfl, q _ (J.hok.fresh (Nat.le_refl _))⟩
  · with_unfolding_all rfl
/-- of a tuple -/
theorem rev_tup {l u v : Value} (I : Inv X pins σ H s) (pl : IsPart l none) (pu : IsPart u none) (pv : IsPart v (some (-1))) (hx : SqT X.K H a xs) (q : NewT H xs.reverse Q) :
    wpAny (model X.prog X.w) X.A (subscriptTail e (.Slice none none (some (minusOne k p1 p2)) p3) (.ref a) (.ref s.heap.objs.size)) (EP X pins σ Q) X.xe { s with heap := s.heap.push (sliceO l u v) } := by
  have J := Inv.sliced (l := l) (u := u) (v := v) I
  obtain ⟨its, r, pin, sz⟩ := J.tuple hx
  have fits : its.toArray.size ≤ sizeLine := by
    rw [List.size_toArray, ← r.length]
    exact sz
  apply tail_any (ops := [.ref a, .ref s.heap.objs.size]) pin.typeIs (PyProof.Rows.slot_tuple_getitem.lookup)
  · exact SayS.getItem_tuple_rev pin (Heap.IsSliceOf.new _ l u v) pl pu pv (laidT J (by simpa using sz) r.reverse q) fits
  · with_unfolding_all rfl
theorem pe_rev {te : TE} {pos : Pos} (he : PE X e te) : PE X (.Subscript e (.Slice none none (some (minusOne k p1 p2)) p3) pos) (tRev X.K te) := by
  constructor
  intro pins s σ H Q I h
  apply Subscript_
  refine thn (he.run pins s σ H _ I h) ?_
  rintro _ s1 ⟨_, H1, I1, rv, a, xs, rfl, q⟩
  cases rv
  refine rev_parts I1 fun l u v t J pl pu pv => ?_
  rcases q with ⟨hx, q⟩ | ⟨hx, q⟩
  · exact rev_list J pl pu pv hx q
  · exact rev_tup J pl pu pv hx q
end
def revD : D → M D
  | .lst xs => pure (.lst xs.reverse)
  | .tup xs => pure (.tup xs.reverse)
  | _ => bad
@[simp] def dRev (f : En) : En := fun ρ => f ρ >>= revD
theorem RepL.rev {K : PySem.W.Frag} {p : PL} {H : Hp} {F : Addr → Prop} : ∀ {vs : List V} {ds : List D}, RepL K p H F vs ds → RepL K p H F vs.reverse ds.reverse
  | _, _, .nil => .nil
  | _, _, .cons h r => by
    simp only [List.reverse_cons]
    exact RepL.append (RepL.rev r) (.cons h .nil)
section
variable {X : Cx} {p : PL} {e : Expr} {f : En} {k : Nat} {p1 p2 p3 pos : Pos}
theorem de_rev (ha : DE X p e f) : DE X p (.Subscript e (.Slice none none (some (.UnaryOp .USub (.Constant (.int 1) k p1) p2)) p3) pos) (dRev f) := by
  refine ⟨fun W G H0 ρ σ H s R Ex Q tk rl hw q px => tE_of (pe_rev pe_self) ?_⟩
  have hw : wpM (f ρ >>= revD) s R Ex := hw
  rw [wp_bind] at hw
  refine ha.run W G H0 ρ σ H s _ Ex _ tk rl hw (fun d s1 v H1 h1 a1 r1 => ?_) px
  have rl1 := rl.step a1.st a1.pen
  cases d with
  | lst xs =>
    cases r1 with
    | lst ho hF hz lr =>
      refine ⟨_, _, rfl, .inl ⟨.inl (.inl ho), fun q' hq => ?_⟩⟩
      exact q _ s1 _ _ h1 (a1.trans (.same a1.pen (same_new hq))) (.lst upd_same (rl1.fresh hq) (by rw [List.length_reverse]; exact hz) ((RepL.rev lr).mono ((same_step (p := p) (same_new hq)).toF rl.fpa) fun _ z => z))
  | tup xs =>
    cases r1 with
    | tup ho hz lr =>
      refine ⟨_, _, rfl, .inr ⟨tupSq ho, fun q' o hq nd => ?_⟩⟩
      exact q _ s1 _ _ h1 (a1.trans (.same a1.pen (same_new hq))) (.tup (⟨⟨o, upd_same, nd⟩, rl1.fresh hq⟩) (by rw [List.length_reverse]; exact hz) ((RepL.rev lr).mono ((same_step (p := p) (same_new hq)).toF rl.fpa) fun _ z => z))
  | _ => exact h1.elim
end
end Say

namespace Say
open L2 PyProof.Rows PySem.Spec PySem

/-! ### a op1 b op2 c op3 d, as a test -/
section
variable {X : Cx} {p : PL} {a b c d e : Expr} {f g h i : Env → M D} {pos pos' : Pos}
def tChain3 (r r' r'' : R2) (ta tb tc td : TE) : TE := fun σ H Q => ta σ H fun x H1 => tb σ H1 fun y H2 => r x y H2 fun z H3 => ∃ k, z = .bl k ∧
  (if k = true then tc σ H3 fun w' H4 => r' y w' H4 fun z' H5 => ∃ k', z' = .bl k' ∧ (if k' = true then td σ H5 fun v' H6 => r'' w' v' H6 Q else Q (.bl false) H5) else Q (.bl false) H3)
theorem pt_chain3 {op op' op'' : CmpOp} {ta tb tc td : TE} {r r' r'' : R2} (ho : OpR X (compareOp op) r) (ho' : OpR X (compareOp op') r') (ho2 : OpR X (compareOp op'') r'') (ha : PE X a ta) (hb : PE X b tb) (hc : PE X c tc) (hd : PE X d td)
    (hm : lastMarks [op, op', op''] [b, c, d] = false := by with_unfolding_all rfl) : PT X (.Compare a [op, op', op''] [b, c, d] pos) (tTest (tChain3 r r' r'' ta tb tc td)) := by
  refine ⟨fun pins
      s σ H Q I h => ?_⟩
  refine isTrue_chain (thn (ha.run pins s σ H _ I h) fun v s1 ⟨x, H1, I1, r1, q1⟩
      => test_link (thn (hb.run pins s1 σ H1 _ I1 q1) fun u s2 ⟨y, H2, I2, r2, q2⟩ =>
    thn (ho pins s2 σ H2 x y v u _ I2 r1 r2 q2) fun dd s3 ⟨z, H3, I3, r3, k, e, q3⟩ => ?_)) hm
  subst e
  cases r3
  refine wpAny_truthy_bool ?_
  cases k with
  | false =>
    obtain ⟨k', e', q'⟩ := q3
    cases e'
    exact ite_ff ⟨H3, I3, q'⟩
  | true =>
    refine ite_tt (test_link (thn (hc.run pins s3 σ H3 _ I3 q3) fun w' s4 ⟨z', H4, I4, r4, q4⟩ => thn (ho' pins s4 σ H4 y z' u w' _ I4 r2 r4 q4) fun d2 s5 ⟨z2, H5, I5, r5, k2, e2, q5⟩ => ?_))
    subst e2
    cases r5
    refine wpAny_truthy_bool ?_
    cases k2 with
    | false =>
      obtain ⟨k', e', q'⟩ := q5
      cases e'
      exact ite_ff ⟨H5, I5, q'⟩
    | true =>
      refine ite_tt (test_last (thn (hd.run pins s5 σ H5 _ I5 q5) fun w2 s6 ⟨z3, H6, I6, r6, q6⟩ => thn (ho2 pins s6 σ H6 z' z3 w' w2 _ I6 r4 r6 q6) fun d3 s7 ⟨z4, H7, I7, r7, k3, e3, q7⟩ => ?_))
      subst e3
      cases r7
      exact wpAny_truthy_bool ⟨H7, I7, q7⟩
def chainM3 (g1 g2 g3 : D → D → Option D) (x y z w : M D) : M Bool := x >>= fun x => y >>= fun y => lift (g1 x y) >>= truB >>= fun k => if k = true then z >>= fun z => lift (g2 y z) >>= truB >>= fun k => if k = true then w >>= fun w => lift (g3 z w) >>= truB else pure false else pure false
theorem dt_chain3 {op op' op'' : CmpOp} {g1 g2 g3 : D → D → Option D} (h1 : BinS X p (compareOp op) g1) (h2 : BinS X p (compareOp op') g2) (h3 : BinS X p (compareOp op'') g3) (ha : DE X p a f) (hb : DE X p b g) (hc : DE X p c h) (hd : DE X p d i) (hm : lastMarks [op, op', op''] [b, c, d] = false := by with_unfolding_all rfl) :
    DT X p (.Compare a [op, op', op''] [b, c, d] pos) (fun ρ => chainM3 g1 g2 g3 (f ρ) (g ρ) (h ρ) (i ρ)) := by
  obtain ⟨r, o1, s1⟩ := h1
  obtain ⟨r', o2, s2⟩ := h2
  obtain ⟨r'', o3, s3⟩ := h3
  refine ⟨fun W G H0 ρ σ H s R Ex Q tk rl hw q px => tT_of (pt_chain3 o1 o2 o3 pe_self pe_self pe_self pe_self hm) ?_⟩
  have hw : wpM (chainM3 g1 g2 g3 (f ρ) (g ρ) (h ρ) (i ρ)) s R Ex := hw
  unfold chainM3 at hw
  rw [wp_bind] at hw
  refine ha.run W G H0 ρ σ H s _ Ex _ tk rl hw (fun d1 sa v1 H1 w1 a1 r1 => ?_) px
  rw [wp_bind] at w1
  have rl1 := rl.step a1.st a1.pen
  refine hb.run W G H0 ρ σ H1 sa _ Ex _ tk rl1 w1 (fun d2 sb v2 H2 w2 a2 r2 => ?_) (px.at a1)
  have rl2 := rl1.step a2.st a2.pen
  cases e1 : g1 d1 d2 with
  | none => rw [e1] at w2; exact w2.elim
  | some dd =>
    rw [e1] at w2
    refine s1 _ H2 v1 v2 d1 d2 dd _ rl.fpa (fun _ z => rl2.fresh z) (r1.mono (a2.st.toF rl.fpa) fun _ z => z) r2 e1 fun v H3 sm r3 => ?_
    cases dd with
    | bl k =>
      have w2 : wpM (if k = true then h ρ >>= fun z => lift (g2 d2 z) >>= truB >>= fun k => if k = true then i ρ >>= fun w => lift (g3 z w) >>= truB else pure false else pure false) sb R Ex := w2
      have a3 : Af p H H3 sb := (a1.trans a2).trans (.same a2.pen sm)
      refine ⟨k, bl_of r3, ?_⟩
      cases k with
      | false =>
        rw [if_neg (by decide)] at w2 ⊢
        exact ⟨false, rfl, q false sb H3 w2 a3⟩
      | true =>
        rw [if_pos rfl, wp_bind] at w2
        rw [if_pos rfl]
        have rl3 := rl.step a3.st a3.pen
        refine hc.run W G H0 ρ σ H3 sb _ Ex _ tk rl3 w2 (fun d3 sc v3 H4 w3 a4 r4 => ?_) (px.at a3)
        have rl4 := rl3.step a4.st a4.pen
        have a34 := a3.trans a4
        cases e2 : g2 d2 d3 with
        | none => rw [e2] at w3; exact w3.elim
        | some d' =>
          rw [e2] at w3
          refine s2 _ H4 v2 v3 d2 d3 d' _ rl.fpa (fun _ z => rl4.fresh z) ((r2.mono ((same_step (p := p) sm).toF rl.fpa) fun _ z => z).mono (a4.st.toF rl.fpa) fun _ z => z) r4 e2 fun v' H5 sm' r5 => ?_
          cases d' with
          | bl k' =>
            have w3 : wpM (if k' = true then i ρ >>= fun w => lift (g3 d3 w) >>= truB else pure false) sc R Ex := w3
            have a5 : Af p H H5 sc := a34.trans (.same a4.pen sm')
            refine ⟨k', bl_of r5, ?_⟩
            cases k' with
            | false =>
              rw [if_neg (by decide)] at w3 ⊢
              exact ⟨false, rfl, q false sc H5 w3 a5⟩
            | true =>
              rw [if_pos rfl, wp_bind] at w3
              rw [if_pos rfl]
              have rl5 := rl.step a5.st a5.pen
              refine hd.run W G H0 ρ σ H5 sc _ Ex _ tk rl5 w3 (fun d4 sd v4 H6 w4 a6 r6 => ?_) (px.at a5)
              cases e3 : g3 d3 d4 with
              | none => rw [e3] at w4; exact w4.elim
              | some d'' =>
                rw [e3] at w4
                refine s3 _ H6 v3 v4 d3 d4 d'' _ rl.fpa (fun _ z => (rl5.step a6.st a6.pen).fresh z) ((r4.mono ((same_step (p := p) sm').toF rl.fpa) fun _ z => z).mono (a6.st.toF rl.fpa) fun _ z => z) r6 e3 fun v'' H7 sm'' r7 => ?_
                cases d'' with
                | bl k'' =>
                  refine ⟨k'', bl_of r7, ?_⟩
                  exact q k'' sd H7 w4 ((a5.trans a6).trans (.same a6.pen sm''))
                | _ => exact w4.elim
          | _ => exact w3.elim
    | _ => exact w2.elim
@[simp] def tChn3 (g1 g2 g3 : D → D → Option D) (f g h i : En) : Env → M Bool := fun ρ => chainM3 g1 g2 g3 (f ρ) (g ρ) (h ρ) (i ρ)
end
end Say

namespace Say
open L2 PyProof.Rows PySem.Spec PySem

/-! ### exception classes with fields -/
/-- an exception class made with an own __init__ that keeps its arguments in the fields fl -/
structure ExcC (K : PySem.W.Frag) (mg : Str → Option Value) (x : Str) (fl : List Str) : Prop where
  oex : OexC K (He.ga K x)
  init : PySem.W.findIn K (.ref (He.ga K x)) "__init__" = some (some (.ref (He.ma K (He.ga K x) "__init__")))
  ty : PySem.W.typeIn K (.ref (He.ma K (He.ga K x) "__init__")) = some (.type "function")
  gm : mg x = some (.ref (He.ga K x))
  no : ∀ f ∈ fl, PySem.W.findIn K (.ref (He.ga K x)) f = some none
  xf : XfC K (He.ga K x)
def oexO (C : Addr) : Obj → Bool
  | ⟨.type "type", _, .cls ⟨_, _, .ref C' :: bm, _, _, true, _, _, _, _, false⟩, ⟨[_, _, _, _, some (.builtin n), _]⟩⟩ => decide (C' = C) && (decide (n = "ValueError.__new__") && PySem.HandSPX.refsVE bm)
  | _ => false
theorem oexO_ok {C : Addr} {o : Obj} (h : oexO C o = true) : ∃ nm q N bs bm sn sub ab col dd k0 k1 k2 k3 k5, o = excClassObj nm q C N bs bm true sn sub ab col dd k0 k1 k2 k3 k5 "ValueError.__new__" ∧ PySem.HandSPX.refsVE bm = true := by
  unfold oexO at h
  split at h
  · obtain ⟨h1, h23⟩ := He.ba h
    obtain ⟨h2, h3⟩ := He.ba h23
    cases of_decide_eq_true h1
    cases of_decide_eq_true h2
    exact ⟨_, _, _, _, _, _, _, _, _, _, _, _, _, _, _, rfl, h3⟩
  · cases h
def oexIn (K : PySem.W.Frag) (C : Addr) : Bool := (K.lookup C).any (oexO C)
theorem oexIn_ok {K : PySem.W.Frag} {C : Addr} (h : oexIn K C = true) : ∃ nm q N bs bm sn sub ab col dd k0 k1 k2 k3 k5, K.lookup C = some (excClassObj nm q C N bs bm true sn sub ab col dd k0 k1 k2 k3 k5 "ValueError.__new__") ∧ PySem.HandSPX.refsVE bm = true := by
  unfold oexIn at h
  rcases told : K.lookup C with _ | o
  · rw [told] at h
    cases h
  · rw [told] at h
    obtain ⟨nm, q, N, bs, bm, sn, sub, ab, col, dd, k0, k1, k2, k3, k5, rfl, r⟩ := oexO_ok h
    exact ⟨nm, q, N, bs, bm, sn, sub, ab, col, dd, k0, k1, k2, k3, k5, rfl, r⟩
def excChk (K : PySem.W.Frag) (x : Str) (fl : List Str) : Bool :=
  oexIn K (He.ga K x) && (He.eqO (PySem.W.findIn K (.ref (He.ga K x)) "__setattr__") (some (some (.builtin "object.__setattr__"))) && (decide (PySem.W.subIn K (.ref (He.ga K x)) (.type "BaseException") = some true) && (decide (PySem.W.typeIn K (.ref (He.ga K x)) = some (.type "type")) &&
  (PySem.W.keepIn K (.ref (He.ga K x)) && (He.eqO (PySem.W.findIn K (.ref (He.ga K x)) "__init__") (some (some (.ref (He.ma K (He.ga K x) "__init__")))) && (decide (PySem.W.typeIn K (.ref (He.ma K (He.ga K x) "__init__")) = some (.type "function")) &&
  ((fl.all fun f => He.eqO (PySem.W.findIn K (.ref (He.ga K x)) f) (some none)) && L2.xfB K (He.ga K x))))))))
theorem excC_ok {K : PySem.W.Frag} {mg : Str → Option Value} {x : Str} {fl : List Str} (h : excChk K x fl = true) (gm : mg x = some (.ref (He.ga K x))) : ExcC K mg x fl := by
  obtain ⟨h1, h⟩ := He.ba h
  obtain ⟨h2, h⟩ := He.ba h
  obtain ⟨h3, h⟩ := He.ba h
  obtain ⟨h4, h⟩ := He.ba h
  obtain ⟨h5, h⟩ := He.ba h
  obtain ⟨h6, h⟩ := He.ba h
  obtain ⟨h7, h⟩ := He.ba h
  obtain ⟨h8, h9⟩ := He.ba h
  exact ⟨⟨oexIn_ok h1, He.eqO_ok h2, of_decide_eq_true h3, of_decide_eq_true h4, h5⟩, He.eqO_ok h6, of_decide_eq_true h7, gm, fun f hf => He.eqO_ok (List.all_eq_true.mp h8 f hf), L2.xfB_ok h9⟩
/-- what such an __init__ leaves -/
def spX (K : PySem.W.Frag) (x : Str) (fl : List Str) : Sp := fun vs H Q _ => ∃ (a : Addr) (ws : List V), vs = .ref a :: ws ∧ ws.length = fl.length ∧ H a = some (exo a (He.ga K x) none) ∧
  ∀ dx, H dx = none → dx ≠ a → Q .non (upd (upd H dx (exd dx (fl.zip ws).reverse)) a (exo a (He.ga K x) (some dx)))
structure HasX (P : Program) (w : World) (K : PySem.W.Frag) (mg : Str → Option Value) (base : Heap) (k : Nat) (x : Str) (fl : List Str) : Prop where
  exc : ExcC K mg x fl
  len : fl.length ≤ 3
  ex : ∃ (fd : FuncData) (ps : List Str), Binds K fd ps [] ∧ FnOk P w K mg base (L2.CX P w) k (He.ma K (He.ga K x) "__init__") fd ps (spX K x fl)
section
variable {X : Cx} {p p1 p2 p3 p4 p5 p6 p7 p8 p9 p10 p11 p12 : Pos} {self : Str} {K : PySem.W.Frag} {x : Str} {Q : VK} {E : XK} {vs : List V} {H : Hp} {Dn : Ends}
theorem put_again {H : Hp} {dx a : Addr} {o o' u : HO} (n : dx ≠ a) : upd (upd (upd H dx o) a u) dx o' = upd (upd H dx o') a u := by
  funext b
  by_cases h1 : b = dx
  · rw [h1, upd_same, upd_ne n, upd_same]
  · rw [upd_ne h1]
    by_cases h2 : b = a
    · rw [h2, upd_same, upd_same]
    · rw [upd_ne h2, upd_ne h2, upd_ne h1, upd_ne h1]
abbrev fldB (s f : Str) (q1 q2 q3 q4 : Pos) : Stmt := .Assign [.Attribute (.Name s q1) f q2] (.Name f q3) q4
theorem xinit1 {f1 : Str} {P : List Stmt} (hP : P = [fldB "self" f1 p1 p2 p3 p4]) (hN : X.N = (["self", f1] : List Str)) (v0 : Vis X.env.scope "self") (v1 : Vis X.env.scope f1) (d1 : (f1 == ("__debug__" : Str)) = false) (c1 : (f1 == ("__classdict__" : Str)) = false) (T : OexC X.K (He.ga X.K x)) (no : ∀ f ∈ [f1], PySem.W.findIn X.K (.ref (He.ga X.K x)) f = some none)
    (h : spX X.K x [f1] vs H Q E) (hr : Dn.nx = fun _ H' => Q .non H') : tSs X P Dn (L2.start (["self", f1] : List Str) vs) H := by
  obtain ⟨a, ws, rfl, hl, e, q⟩ := h
  match ws, hl with
  | [w1], _ =>
    rw [hP]
    have i0 : X.N[0]? = some ("self" : Str) := by rw [hN]; rfl
    have i1 : X.N[1]? = some f1 := by rw [hN]; rfl
    refine tSs_of (pss_one (ps_ost (pe_var i0 v0) (pe_var i1 v1 d1 c1))) ?_
    refine ⟨w1, rfl, .ref a, rfl, a, _, rfl, T, no f1 (by simp), .inl ⟨e, fun dx n ne => ?_⟩⟩
    rw [hr]
    exact q dx n ne
theorem xinit2 {f1 f2 : Str} {P : List Stmt} (hP : P = [fldB "self" f1 p1 p2 p3 p4, fldB "self" f2 p5 p6 p7 p8]) (hN : X.N = (["self", f1, f2] : List Str)) (v0 : Vis X.env.scope "self") (v1 : Vis X.env.scope f1) (v2 : Vis X.env.scope f2) (d1 : (f1 == ("__debug__" : Str)) = false) (c1 : (f1 == ("__classdict__" : Str)) = false) (d2 : (f2 == ("__debug__" : Str)) = false) (c2 : (f2 == ("__classdict__" : Str)) = false)
    (T : OexC X.K (He.ga X.K x)) (no : ∀ f ∈ [f1, f2], PySem.W.findIn X.K (.ref (He.ga X.K x)) f = some none) (h : spX X.K x [f1, f2] vs H Q E) (hr : Dn.nx = fun _ H' => Q .non H') : tSs X P Dn (L2.start (["self", f1, f2] : List Str) vs) H := by
  obtain ⟨a, ws, rfl, hl, e, q⟩ := h
  match ws, hl with
  | [w1, w2], _ =>
    rw [hP]
    have i0 : X.N[0]? = some ("self" : Str) := by rw [hN]; rfl
    have i1 : X.N[1]? = some f1 := by rw [hN]; rfl
    have i2 : X.N[2]? = some f2 := by rw [hN]; rfl
    refine tSs_of (pss_cons (ps_ost (pe_var i0 v0) (pe_var i1 v1 d1 c1)) (pss_one (ps_ost (pe_var i0 v0) (pe_var i2 v2 d2 c2)))) ?_
    refine ⟨w1, rfl, .ref a, rfl, a, _, rfl, T, no f1 (by simp), .inl ⟨e, fun dx n ne => ?_⟩⟩
    refine ⟨w2, rfl, .ref a, rfl, a, _, rfl, T, no f2 (by simp), .inr ⟨dx, _, upd_same, by rw [upd_ne ne]; exact upd_same, by simp, ?_⟩⟩
    rw [hr, put_again ne]
    exact q dx n ne
theorem xinit3 {f1 f2 f3 : Str} {P : List Stmt} (hP : P = [fldB "self" f1 p1 p2 p3 p4, fldB "self" f2 p5 p6 p7 p8, fldB "self" f3 p9 p10 p11 p12]) (hN : X.N = (["self", f1, f2, f3] : List Str)) (v0 : Vis X.env.scope "self") (v1 : Vis X.env.scope f1) (v2 : Vis X.env.scope f2) (v3 : Vis X.env.scope f3) (d1 : (f1 == ("__debug__" : Str)) = false) (c1 : (f1 == ("__classdict__" : Str)) = false) (d2 : (f2 == ("__debug__" : Str)) = false) (c2 : (f2 == ("__classdict__" : Str)) = false) (d3 : (f3 == ("__debug__" : Str)) = false) (c3 : (f3 == ("__classdict__" : Str)) = false)
    (T : OexC X.K (He.ga X.K x)) (no : ∀ f ∈ [f1, f2, f3], PySem.W.findIn X.K (.ref (He.ga X.K x)) f = some none) (h : spX X.K x [f1, f2, f3] vs H Q E) (hr : Dn.nx = fun _ H' => Q .non H') : tSs X P Dn (L2.start (["self", f1, f2, f3] : List Str) vs) H := by
  obtain ⟨a, ws, rfl, hl, e, q⟩ := h
  match ws, hl with
  | [w1, w2, w3], _ =>
    rw [hP]
    have i0 : X.N[0]? = some ("self" : Str) := by rw [hN]; rfl
    have i1 : X.N[1]? = some f1 := by rw [hN]; rfl
    have i2 : X.N[2]? = some f2 := by rw [hN]; rfl
    have i3 : X.N[3]? = some f3 := by rw [hN]; rfl
    refine tSs_of (pss_cons (ps_ost (pe_var i0 v0) (pe_var i1 v1 d1 c1)) (pss_cons (ps_ost (pe_var i0 v0) (pe_var i2 v2 d2 c2)) (pss_one (ps_ost (pe_var i0 v0) (pe_var i3 v3 d3 c3))))) ?_
    refine ⟨w1, rfl, .ref a, rfl, a, _, rfl, T, no f1 (by simp), .inl ⟨e, fun dx n ne => ?_⟩⟩
    refine ⟨w2, rfl, .ref a, rfl, a, _, rfl, T, no f2 (by simp), .inr ⟨dx, _, upd_same, by rw [upd_ne ne]; exact upd_same, by simp, ?_⟩⟩
    rw [put_again ne]
    refine ⟨w3, rfl, .ref a, rfl, a, _, rfl, T, no f3 (by simp), .inr ⟨dx, _, upd_same, by rw [upd_ne ne]; exact upd_same, by simp, ?_⟩⟩
    rw [hr, put_again ne]
    exact q dx n ne
end
section
variable {P : Program} {w : World} {K :
    PySem.W.Frag} {mg : Str → Option Value} {base : Heap}
theorem xinit_has {x qual : Str} {st : Stmt} {fd : FuncData} {N ps fl : List Str} (F : FunD K "__init__" qual (defArgs st) (defBody st) (defScope st) [] [] (He.ma K (He.ga K x) "__init__") fd) (Sc : FnScope N ps (defScope st)) (C : ExcC K mg x fl) (hb : Binds K fd ps []) (hn : ps.length = fl.length + 1) (hl : fl.length ≤ 3)
    (body : ∀ (cdv : Value) (A : Around) (outer : List PySem.Env) (s : Shared) (H : Hp) (E : XK) (vs : List V) (Q : VK) (Dn : Ends), spX K x fl vs H Q E → Dn.nx = (fun _ H' => Q .non H') →
      tSs (cxOf (L2.CX P w) P w K mg base N qual (defScope st) (He.ma K (He.ga K x) "__init__") cdv A outer s H E) (defBody st) Dn (L2.start N vs) H) : HasX P w K mg base 1 x fl := by
  refine ⟨C, hl, fd, ps, hb, F.ok Sc (fun vs H Q E h => ?_) fun cdv A outer s H vs Q E hr h => ⟨_, pss_self, body cdv A outer s H E vs Q _ h rfl⟩⟩
  obtain ⟨a, ws, rfl, hw, _⟩ := h
  rw [List.length_cons, hw, hn]
end
/-! ### raise -/
def sRaise (x : Str) (fl : List Str) (fs : List (Env → M D)) : S := fun _ _ _ _ ρ => seqA fs ρ fun ds => raise x (fl.zip ds).reverse
section
variable {X : Cx} {p : PL} {e a b : Expr} {es : List Expr} {f g fe : Env → M D} {fs : List (Env → M D)} {pos pos' pos2 : Pos} {k n : Nat} {x : Str} {fl : List Str}
theorem RepF.zip {K : PySem.W.Frag} {H : Hp} {F : Addr → Prop} : ∀ (fl : List Str) {vs : List V} {ds : List D}, RepL K p H F vs ds → RepF K p H F (fl.zip vs) (fl.zip ds)
  | [], _, _, _ => by rw [List.zip_nil_left, List.zip_nil_left]; exact .nil
  | _ :: _, _, _, .nil => by rw [List.zip_nil_right, List.zip_nil_right]; exact .nil
  | _ :: fl, _, _, .cons h r => .cons h (RepF.zip fl r)
theorem RepF.app {K : PySem.W.Frag} {H : Hp} {F : Addr → Prop} : ∀ {vs ws : List (Str × V)} {ds es : List (Str × D)}, RepF K p H F vs ds → RepF K p H F ws es → RepF K p H F (vs ++ ws) (ds ++ es)
  | _, _, _, _, .nil, h => h
  | _, _, _, _, .cons h r, q => .cons h (RepF.app r q)
theorem RepF.rev {K : PySem.W.Frag} {H : Hp} {F : Addr → Prop} : ∀ {vs : List (Str × V)} {ds : List (Str × D)}, RepF K p H F vs ds → RepF K p H F vs.reverse ds.reverse
  | _, _, .nil => .nil
  | _, _, .cons h r => by
    simp only [List.reverse_cons]
    exact RepF.app (RepF.rev r) (.cons h .nil)
theorem ds_raise (h : HasX X.prog X.w X.K X.mg X.base k x fl) (hr : RoomG (k + 1) X.A) (ha : DA X p (e :: es) fs) (hn : fs.length = fl.length := by rfl) (hc : X.calm = true := by rfl) (hg : Gl X x := by rfl) (hdb : (x == ("__debug__" : Str)) = false := by decide)
    (he : starEach (e :: es) X.env = (false, eval e X.env) :: starEach es X.env := by rfl) (hpl : (backTo pos (starEach es X.env)).any (·.1) = false := by rfl) : DS X p (.Raise (some (.Call (.Name x pos') (e :: es) [] pos)) none pos2) (sRaise x fl fs) := by
  obtain ⟨C, l3, fd, ps, hb, F⟩ := h
  refine ⟨fun W G H0 ρ σ H s k r b c R Ex Dn tk rl hw wy px => tS_of (ps_raise hc tk (pmk_oex (dvs := []) C.oex C.init C.ty F hr.toRoom hb .nil (passes_call (E := fun _ _ _ => False) tk fun _ _ _ _ z => z.elim) hg C.gm pa_self hdb he hpl)) ?_⟩
  refine ha.run D (fun ds => raise x (fl.zip ds).reverse) W G H0 ρ σ H s R Ex _ tk rl hw (fun ds s1 vs H1 h1 a1 r1 en => ?_) (px.px rl.old)
  have lv : vs.length = fl.length := by rw [r1.length, en, hn]
  refine ⟨by omega, fun a na => ⟨a, vs ++ [], rfl, by rw [List.append_nil]; exact lv, upd_same, fun dx nd ne => ⟨rfl, dx, _, upd_same, by rw [upd_ne ne]; exact upd_same, by rw [upd_ne ne] at nd; exact nd, ?_⟩⟩⟩
  rw [upd_ne ne] at nd
  rw [List.append_nil]
  have sm : Same H1 (upd (del (upd (upd (upd H1 a (exo a (He.ga X.K x) none)) dx (exd dx (fl.zip vs).reverse)) a (exo a (He.ga X.K x) (some dx))) a) dx (.xd (fl.zip vs).reverse)) := fun b o eb => by
    have n1 := ne_of_none eb na
    have n2 := ne_of_none eb nd
    rw [upd_ne n2, del_ne n1, upd_ne n1, upd_ne n2, upd_ne n1]
    exact eb
  have a2 := a1.trans (.same a1.pen sm)
  have rl2 := rl.step a2.st a2.pen
  exact px x _ s1 σ dx _ _ (show Ex x (fl.zip ds).reverse s1 from h1) rl2.old a2.pen upd_same (((RepF.zip fl r1).rev.mono (fun b o z _ => sm b o z) fun _ z => z).mono (fun _ _ z _ => z) fun _ z => .inl z)
end
end Say

namespace Say
open L2 PyProof.Rows PySem.Spec PySem

/-! ### an exception that this frame has noted -/
/-- at t: the exception a of class cls flies over the frames of X; u is the state without its objects -/
structure Down (X : Cx) (pins : List (Addr × Obj)) (σ : L2.St) (H : Hp) (a : Addr) (cls : Value) (d : Option Addr) (t : Shared) : Prop where
  bg : ∃ (B : Heap) (u : Shared), Inv X pins σ H u ∧ (∀ b o, u.heap.get? b = some o → b ∉ frs X.stack → B.get? b = some o) ∧ u.heap.UpToSlots t.heap ∧ HandSPX.FlyingZ B X.stack a (Zc cls d) t.heap ∧ t.os = u.os ∧ AllBare t.gens
  nil : H a = none
section
variable {X : Cx} {pins : List (Addr × Obj)} {σ : L2.St} {H : Hp} {a : Addr} {cls : Value} {d : Option Addr} {t : Shared} {W : WX} {E : Value → Shared → Prop}
theorem Down.inv (w : Down X pins σ H a cls d t) : Inv X pins σ H t := w.bg.elim fun _ ⟨_, I, nb, up, fly, os, ag⟩ => I.landed nb fly.1 up os ag
theorem Down.obj (w : Down X pins σ H a cls d t) : ∃ oe, t.heap.get? a = some oe ∧ Zc cls d oe ∧ ∃ fs, oe.data = .fields fs := w.bg.elim fun _ ⟨_, _, _, _, fly, _⟩ => fly.there.elim fun oe ⟨fs, e, z, q⟩ => ⟨oe, e, z, fs, q⟩
/-- it stands at no frame -/
theorem Down.off (w : Down X pins σ H a cls d t) : a ∉ frs X.stack := fun m => by
  obtain ⟨B, u, _, _, _, fly, _⟩ := w.bg
  obtain ⟨oe, fs, e, _, q⟩ := fly.there
  obtain ⟨_, o, e2, nf⟩ := fly.2.2.1.mem m
  exact nf fs (by rw [← q, Option.some.inj (e.symm.trans e2)])
theorem frs_own (hs : X.stack = X.env :: X.outer) (hf : X.env.frame = some X.env.locals) : frs X.stack = X.env.locals :: X.fs := by
  rw [hs]
  exact List.filterMap_cons_some hf
/-- in the suite of a clause -/
theorem Down.into (w : Down X pins σ H a cls d t) (hs : X.stack = X.env :: X.outer) (hf : X.env.frame = some X.env.locals) {oe : Obj} {fs : Array Value} (e : t.heap.get? a = some oe) (q : oe.data = .fields fs) : Inv (X.suite a ((a, oe) :: (X.pn ++ pins))) [] σ H t := by
  have no := w.off
  rw [frs_own hs hf, List.mem_cons, not_or] at no
  exact w.inv.suite e q w.nil no.1 no.2
/-- its flight is told to be over once more -/
theorem Down.hush {Q : Unit → Shared → Prop} (w : Down X pins σ H a cls d t) (q : ∀ t', Down X pins σ H a cls d t' → Q () t') : wpAny (model X.prog X.w) (X.A.mark (some (.ref a))) (setFlight (.ref a) none) Q E t := by
  obtain ⟨⟨B, u, I, nb, up, fly, os, ag⟩, nil⟩ := w
  exact HandSPX.lands_againZ fly fun _ fly' up' => q _ ⟨⟨B, u, I, nb, up.trans up', fly', os, ag⟩, nil⟩
/-- no clause takes it: it flies on -/
theorem Down.on {D : Ends} {m : String} (w : Down X pins σ H a cls d t) (hf : X.env.frame = some X.env.locals) (tk : Takes X W) (hw : W cls d σ H) : wpAny (model X.prog X.w) X.A (passOn m (.ref a) X.env : Sem Flow) (SP X pins D) X.xe t := by
  obtain ⟨⟨B, u, I, nb, up, fly, os, ag⟩, nil⟩ := w
  have up1 : wpAny (model X.prog X.w) X.A (setFlight (.ref a) X.env.frame >>= fun _ => (throw (.ref a) : Sem Flow)) (SP X pins D) X.xe t := by
    rw [hf]
    exact wpAny_bind (HandSPX.setFlight_upZ fly fun _ held up' => wpAny_throw (tk _ _ ⟨a, B, u, pins, σ, H, cls, d, rfl, I, nb, up.trans up', .inr (.inr held), nil, os, ag, hw⟩))
  obtain ⟨_, _, _, _, _, T, _, _, e, _, q, q1, _⟩ := fly
  have ne : ¬ ((Value.ref T == Value.none) = true) := by simp
  refine wpAny_bind (wpAny_field e q q1 ?_)
  rw [if_neg ne]
  first
    | exact up1
    | exact wpAny_bind (wpAny_pure up1)
/-- what the body lets out is noted -/
theorem noted {pn' : List (Addr × Obj)} {xe E₁ : Value → Shared → Prop} {v : Value} {s : Shared} {Q : Value → Unit → Shared → Prop} (hs : X.stack = X.env :: X.outer) (hf : X.env.frame = some X.env.locals) (ok : X.Ok) (x : XE (X.tr (X.pn ++ pins) xe) W v s)
    (q : ∀ (a : Addr) (cls : Value) (d : Option Addr) (σ : L2.St) (H : Hp) (t : Shared), Down X pins σ H a cls d t → W cls d σ H → Q (.ref a) () t) :
    wpAny (model X.prog X.w) X.A (noteFrame v X.env) (fun _ s₂ => wpAny (model X.prog X.w) X.A (setFlight v none) (Q v) E₁ s₂) E₁ s := by
  obtain ⟨a, B, u, _, σ, H, cls, d, rfl, I, nb, up, sky, nil, os, ag, w⟩ := x
  have sky1 : Sky B (X.env :: X.outer) a (Zc cls d) X.env.locals s.heap := hs ▸ sky
  refine sky1.land (Q := Q (.ref a)) Zc.steady (I.ok.ofTry.frames.trans (congrArg some hs)) hf fun h fly up1 => q a cls d σ H _ ⟨⟨B, u, I.ofTry ok, nb, up.trans up1, ?_, os, ag⟩, nil⟩ w
  rw [hs]
  exact fly
end
/-! ### try: body / except x as n: .. / except y as n: .. -/
abbrev HT := Addr → Value → Option Addr → TS
def goneE (i : Nat) (D : Ends) : Ends := { nx := fun σ H => D.nx (σ.set i none) H, rt := D.rt, bk := fun σ H => D.bk (σ.set i none) H, ct := fun σ H => D.ct (σ.set i none) H }
def wAll (K : PySem.W.Frag) (i : Nat) (Wout : WX) (D : Ends) : List (Value × HT) → WX
  | [] => Wout
  | (c, ts) :: r => fun cls d σ H => ∃ b, PySem.W.exmOne K cls c = some b ∧ (b = true → ∀ a, H a = none → ts a cls d (goneE i D) (σ.set i (some (.ref a))) H) ∧ (b = false → wAll K i Wout D r cls d σ H)
inductive HdsA (X : Cx) (n : Str) : List ExceptHandler → List (Value × HT) → Prop
  | nil : HdsA X n [] []
  | cons {x : Str} {c : Value} {ts : HT} {b₀ : Stmt} {suite : List Stmt} {np pos' : Pos} {hds : List ExceptHandler} {l : List (Value × HT)} (hc : Names X x c)
      (hsu : ∀ (a : Addr) (oe : Obj) (cls : Value) (d : Option Addr) (pn : List (Addr × Obj)), Zc cls d oe → (∃ vs, oe.data = .fields vs) → PSs (X.suite a ((a, oe) :: pn)) (b₀ :: suite) (ts a cls d)) (r : HdsA X n hds l) :
      HdsA X n (.ExceptHandler (some (.Name x np)) (some n) (b₀ :: suite) pos' :: hds) ((c, ts) :: l)
section
variable {X : Cx} {n x : Str} {i : Nat} {body suite : List Stmt} {b₀ : Stmt} {h₀ : ExceptHandler} {hds : List ExceptHandler} {l : List (Value × HT)} {pos np : Pos} {tb : WX → TS} {Wout : WX} {pins : List (Addr × Obj)} {σ : L2.St} {H : Hp} {a : Addr} {cls c : Value} {d : Option Addr} {t : Shared}
/-- the class that a clause names, and whether it is a's -/
theorem Down.asked {b : Bool} {Q : Bool → Shared → Prop} {E : Value → Shared → Prop} (w : Down X pins σ H a cls d t) (hs : X.stack = X.env :: X.outer) (hf : X.env.frame = some X.env.locals) (hc : Names X x c) (hm : PySem.W.exmOne X.K cls c = some b) (q : Q b t) :
    wpAny (model X.prog X.w) (X.A.mark (some (.ref a))) (eval (.Name x np) X.env) (fun v s₁ => wpAny (model X.prog X.w) (X.A.mark (some (.ref a))) (excMatches (.ref a) v) Q E s₁) E t := by
  obtain ⟨oe, e, z, fs, hd⟩ := w.obj
  have S := w.into hs hf e hd
  have is : PySem.W.Looks (model X.prog X.w) t.heap (typeOf (.ref a)) cls := fun _ _ _ _ k q => wpAny_typeOf_ref (k _ _ e) (z.1 ▸ q)
  have fin := (PySem.W.exm_one (M := model X.prog X.w) w.inv.kIn is hm).here (A := X.A.mark (some (.ref a))) (E := E) q
  rcases hc with ⟨gl, nd, q1 | ⟨q1, q2, q3⟩⟩
  · exact ld_glob (X := X.suite a _) S gl q1 fin nd
  · exact ld_blt (X := X.suite a _) S gl q1 q2 fin q3 nd
/-- the suite of the clause that takes it: its name is bound, and goes -/
theorem Down.taken {D : Ends} {R : Result → Shared → Prop} {ts : HT} {pos' : Pos} (w : Down X pins σ H a cls d t) (hs : X.stack = X.env :: X.outer) (hf : X.env.frame = some X.env.locals) (hN : X.N.Nodup) (hi : X.N[i]? = some n) (hln : X.env.kindOf n = some .local)
    (hsu : ∀ (a : Addr) (oe : Obj) (cls : Value) (d : Option Addr) (pn : List (Addr × Obj)), Zc cls d oe → (∃ vs, oe.data = .fields vs) → PSs (X.suite a ((a, oe) :: pn)) (b₀ :: suite) (ts a cls d)) (h : ts a cls d (goneE i D) (σ.set i (some (.ref a))) H)
    (q : ∀ f s1, wpAny (model X.prog X.w) X.A (do bindName X.env n .none; unbindBehindTheSuite X.env n pos') (fun _ s2 => SP X pins D f s2) X.xe s1 → R (.ok f) s1) :
    codeAny (model X.prog X.w) (X.A.mark (some (.ref a))) (.handlers (.ref a) [.ExceptHandler none (some n) (b₀ :: suite) pos'] X.env) R t := by
  refine codeAny_handlers_suite_as (w.hush fun t1 w1 => ?_)
  obtain ⟨oe, e, z, fs, hd⟩ := w1.obj
  refine store_ok (X := X.suite a ((a, oe) :: (X.pn ++ pins))) (v := .ref a) (w1.into hs hf e hd) hN hi (.inl hln) rfl (fun t2 S2 => ?_) (.inr hln)
  refine wpAny_mono ((hsu a oe cls d (X.pn ++ pins) z ⟨fs, hd⟩).run [] t2 _ H _ S2 h) (fun f s1 got => q f s1 ?_) (fun _ _ z => z.elim)
  have ok := w.inv.ok
  match f, got with
  | .next, ⟨_, _, S, p⟩ => exact gone_ok (S.unsuite ok) hN hi hln fun _ J => ⟨_, _, J, p⟩
  | .brk, ⟨_, _, S, p⟩ => exact gone_ok (S.unsuite ok) hN hi hln fun _ J => ⟨_, _, J, p⟩
  | .cont, ⟨_, _, S, p⟩ => exact gone_ok (S.unsuite ok) hN hi hln fun _ J => ⟨_, _, J, p⟩
  | .ret u, ⟨_, _, _, S, r, p⟩ => exact gone_ok (S.unsuite ok) hN hi hln fun _ J => ⟨_, _, _, J, r, p⟩
/-- the clauses, one after the other -/
theorem Down.clauses {D : Ends} (w : Down X pins σ H a cls d t) (hs : X.stack = X.env :: X.outer) (hf : X.env.frame = some X.env.locals) (hN : X.N.Nodup) (hi : X.N[i]? = some n) (hln : X.env.kindOf n = some .local) (tk : Takes X Wout) (hh : HdsA X n hds l) :
    wAll X.K i Wout D l cls d σ H → wpAny (model X.prog X.w) X.A (handleBy (.ref a) X.env hds) (SP X pins D) X.xe t := by
  induction hh with
  | nil => exact fun h => wpAny_handleBy_nil (w.on hf tk h)
  | cons hc hsu _ ih =>
    rintro ⟨b, hm, yes, no⟩
    refine wpAny_handleBy_cons (codeAny_handlers_test (w.asked hs hf hc hm ?_)) nofun
    cases b with
    | false => exact ih (no rfl)
    | true => exact w.taken hs hf hN hi hln hsu (yes rfl a w.nil) fun f s1 z => z
theorem ps_tryA (hs : X.stack = X.env :: X.outer) (hf : X.env.frame = some X.env.locals) (hN : X.N.Nodup) (hi : X.N[i]? = some n) (hln : X.env.kindOf n = some .local) (tk : Takes X Wout)
    (hb : ∀ (W : WX) (pn : List (Addr × Obj)) (xe : Value → Shared → Prop), Takes (X.tr pn xe) W → PassesOwn (model X.prog X.w) X.A X.env xe → PSs (X.tr pn xe) body (tb W)) (hh : HdsA X n (h₀ :: hds) l) :
    PS X (.Try body (h₀ :: hds) [] [] pos) (fun D σ H => tb (wAll X.K i Wout D l) D σ H) := by
  constructor
  intro pins s σ H D I h
  have go := hb (wAll X.K i Wout D l) (X.pn ++ pins) _ (fun v s' x => noted (E₁ := X.xe) (Q := fun v _ t => wpAny (model X.prog X.w) X.A (handleBy v X.env (h₀ :: hds)) (SP X pins D) X.xe t) (pn' := []) hs hf I.ok x fun a cls d σ H t w q => w.clauses hs hf hN hi hln tk hh q) PassesOwn.looking
  refine wpAny_Try_except (wpAny_mono (go.run [] s σ H D (I.toTry _) h) (fun f s1 got => ?_) fun _ _ z => z)
  match f, got with
  | .next, ⟨_, _, J, q⟩ => exact wpAny_execs_nil ⟨_, _, J.ofTry I.ok, q⟩
  | .brk, ⟨_, _, J, q⟩ => exact ⟨_, _, J.ofTry I.ok, q⟩
  | .cont, ⟨_, _, J, q⟩ => exact ⟨_, _, J.ofTry I.ok, q⟩
  | .ret u, ⟨_, _, _, J, r, q⟩ => exact ⟨_, _, _, J.ofTry I.ok, r, q⟩
end
end Say

namespace Say
open LamX L2 PyProof.Rows PySem.Spec PySem

/-! ### the end, where nothing is being shown -/
theorem callerG {k : Nat} (hr : Room k callerA) : RoomG k callerA := ⟨hr, rfl⟩
/-- a heap of which only the empty tables at ts are tracked -/
def tblH (ts : List Addr) : Hp := fun b => if b ∈ ts then some (.tbl #[]) else none
theorem tblH_in {ts : List Addr} {b : Addr} (h : b ∈ ts) : tblH ts b = some (.tbl #[]) := if_pos h
theorem tblH_some {ts : List Addr} {b : Addr} {o : HO} (h : tblH ts b = some o) : b ∈ ts ∧ o = .tbl #[] := by
  unfold tblH at h
  split at h
  · cases h
    exact ⟨by assumption, rfl⟩
  · cases h
abbrev emptyTab : Obj := { cls := .none, data := .fields #[] }
/-- the script's own object -/
abbrev scriptO (vs : List Value) : Obj := { cls := .type "list", data := .seq vs.toArray }
/-- what is tracked when the law is called: its tables, and the script if it is not told by K -/
structure Begin (K : PySem.W.Frag) (ts : List Addr) (a : Addr) (vs : List Value) (ns : List Int) (H : Hp) : Prop where
  tab : ∀ b ∈ ts, H b = some (.tbl #[])
  only : ∀ b o, H b = some o → (b ∈ ts ∧ o = .tbl #[]) ∨ (b = a ∧ b ∉ ts ∧ K.lookup a = none ∧ o = .frz (scriptO vs) (.lst (ns.map V.int)))
  sq : SqL K H a (ns.map V.int)
section
variable {P : Program} {w : World} {K : PySem.W.Frag} {mb mg : Str → Option Value} {ts : List Addr} {cs : List (Addr × Addr)} {a fa : Addr} {vs : List Value} {ns : List Int} {h : Heap} {s₁ : Shared} {k : Nat} {fd : FuncData} {x : Str} {sp : Sp} {CX : CXT}
theorem begin_ex (KX : K.In h) (empty : ∀ b ∈ ts, h.get? b = some emptyTab) (script : h.get? a = some (scriptO vs)) (hi : IntsAre vs ns) (len : ns.length ≤ sizeLine) : ∃ H : Hp, Begin K ts a vs ns H ∧ HOk P w H h := by
  have whole := vals_ints hi
  have noT : a ∉ ts := fun m => by cases script.symm.trans (empty a m)
  have tok : HOk P w (tblH ts) h := fun b o e => by
    obtain ⟨m, rfl⟩ := tblH_some e
    exact empty b m
  rcases told : K.lookup a with _ | o
  · have new : tblH ts a = none := if_neg noT
    refine ⟨upd (tblH ts) a (.frz (scriptO vs) (.lst (ns.map V.int))), ⟨fun b m => (upd_ne fun (e : b = a) => noT (by rw [← e]; exact m)).trans (tblH_in m), fun b o e => ?_, .inl (.inr ⟨scriptO vs, upd_same⟩)⟩, fun b o e => ?_⟩
    · by_cases e1 : b = a
      · rw [e1, upd_same] at e
        exact .inr ⟨e1, by rw [e1]; exact noT, told, (Option.some.inj e).symm⟩
      · rw [upd_ne e1] at e
        exact .inl (tblH_some e)
    · by_cases e1 : b = a
      · rw [e1, upd_same] at e
        cases e
        rw [e1]
        exact ⟨script, by simpa using len, vs, _, whole, script⟩
      · rw [upd_ne e1] at e
        obtain ⟨m, rfl⟩ := tblH_some e
        exact empty b m
  · obtain rfl : scriptO vs = o := Option.some.inj (script.symm.trans (KX a o told))
    exact ⟨tblH ts, ⟨fun _ => tblH_in, fun b o e => .inl (tblH_some e), .inr ⟨_, vs.toArray, _, told, rfl, rfl, rfl, by rw [List.size_toArray, hi.length]; exact len, by simpa using whole⟩⟩, tok⟩
/-- what the law's call needs of the heap that it finds -/
structure Ready (K : PySem.W.Frag) (mg mb : Str → Option Value) (cs : List (Addr × Addr)) (s : Shared) : Prop where
  inK : K.In s.heap
  glob : s.heap.Ns mainGlobals mg
  blt : s.heap.Ns builtinsNs mb
  boot : ∀ x : Str, x ≠ "__name__" → mb x = bootBuiltins x
  lim : s.heap.NoLimit
  gens : s.gens = #[]
  tabs : ∀ p ∈ cs, s.heap.get? p.2 = some emptyTab ∧ K.lookup p.2 = none ∧ PySem.W.CodeHd s.heap p.1 p.2
  mod : ∃ (bm : Addr) (ob : Obj), mg "__builtins__" = some (.ref bm) ∧ bm ≠ builtinsNs ∧ s.heap.get? bm = some ob ∧ ob.cls = .type "module" ∧ ob.dict = some builtinsNs ∧ ob.data = .plain
/-- what is in the ground: all that is not tracked -/
theorem Begin.ground {H : Hp} (B : Begin K (cs.map (·.2)) a vs ns H) (R : Ready K mg mb cs s₁) (script : s₁.heap.get? a = some (scriptO vs)) :
    (∀ {b o}, s₁.heap.get? b = some o → (∀ us n, o.data ≠ .seq us n) → o.data ≠ .fields #[] → (hidT s₁.heap H).get? b = some o) ∧ (∀ {b o}, K.lookup b = some o → H b = none) := by
  have tab : ∀ {b}, b ∈ cs.map (·.2) → s₁.heap.get? b = some emptyTab ∧ K.lookup b = none := fun m => (List.mem_map.mp m).elim fun p z => z.2 ▸ ⟨(R.tabs p z.1).1, (R.tabs p z.1).2.1⟩
  refine ⟨fun {b o} e n1 n2 => hidT_get e ?_, fun {b o} e => ?_⟩
  · rcases q : H b with _ | u
    · rfl
    · rcases B.only b u q with ⟨m, _⟩ | ⟨rfl, _⟩
      · cases e.symm.trans (tab m).1
        exact (n2 rfl).elim
      · cases e.symm.trans script
        exact (n1 _ _ rfl).elim
  · rcases q : H b with _ | u
    · rfl
    · rcases B.only b u q with ⟨m, _⟩ | ⟨rfl, _, nk, _⟩
      · cases e.symm.trans (tab m).2
      · cases e.symm.trans nk
theorem law_callG (R : Ready K mg mb cs s₁) (script : s₁.heap.get? a = some (scriptO vs)) (hi : IntsAre vs ns) (len : ns.length ≤ sizeLine) (room : Room k callerA)
    (F : ∀ base : Heap, K.In base → base.Ns mainGlobals mg → (∀ p ∈ cs, TabB base mg p.1 p.2) → FnG P w K mg base CX k fa fd [x] sp) (bind : ∀ (s : Shared) (u : Value), BindsTo s fd ⟨[u], []⟩ [(x, u)])
    (hsp : ∀ H : Hp, (∀ p ∈ cs, H p.2 = some (.tbl #[])) → SqL K H a (ns.map V.int) → sp [.ref a] H (fun v _ => v = .bl true) fun _ _ _ => False) (never : ∀ H e s', CX [] H s₁ (fun _ _ _ => False) e s' → False) :
    codeAny (model P w) callerA (.call (.ref fa) ⟨[.ref a], []⟩) (fun r t => r = .ok (.ret (.bool true)) ∧ OldK s₁.heap t.heap ∧ t.os = s₁.os ∧ AllBare t.gens) s₁ := by
  have at_ : ∀ p ∈ cs, p.2 ∈ cs.map (·.2) := fun p m => List.mem_map.mpr ⟨p, m, rfl⟩
  obtain ⟨H, B, hok⟩ := begin_ex (P := P) (w := w) (ts := cs.map (·.2)) R.inK (fun b m => (List.mem_map.mp m).elim fun p z => z.2 ▸ (R.tabs p z.1).1) script hi len
  obtain ⟨up, out⟩ := B.ground R script
  have ns_up : ∀ {b m}, s₁.heap.Ns b m → (hidT s₁.heap H).Ns b m := fun ⟨o, es, ep, e, q, r⟩ => ⟨o, es, ep, up e (fun _ _ z => by cases q.symm.trans z) (fun z => by cases q.symm.trans z), q, r⟩
  have kin : K.In (hidT s₁.heap H) := fun b o e => hidT_get (R.inK b o e) (out e)
  have TB : ∀ p ∈ cs, TabB (hidT s₁.heap H) mg p.1 p.2 := fun p m => by
    obtain ⟨e, _, co⟩ := R.tabs p m
    obtain ⟨o, us, file, tf, flags, tg, inF, text, tt, e1, r1, r2, r3, more⟩ := co
    obtain ⟨bm, ob, b1, b2, b3, b4, b5, b6⟩ := R.mod
    obtain ⟨og, esg, epg, eg, dg, _⟩ := R.glob
    have nf : o.data ≠ .fields #[] := fun z => by
      cases r2.symm.trans z
      cases r3
    refine ⟨⟨o, us, file, tf, flags, tg, inF, text, tt, up e1 (fun _ _ z => by cases r2.symm.trans z) nf, r1, r2, r3, more⟩, ⟨bm, ob, b1, b2, fun q => ?_, fun q => ?_, up b3 (fun _ _ z => by cases b6.symm.trans z) (fun z => by cases b6.symm.trans z), b4, b5, b6⟩, fun q => ?_⟩
    · rw [q] at b3
      cases b3.symm.trans eg
      cases b6.symm.trans dg
    · rw [q] at b3
      cases b3.symm.trans e
      cases b6
    · rw [← q] at e
      cases eg.symm.trans e
      cases dg
  have env : Env0 P w K mg (hidT s₁.heap H) callerA [] s₁ H := by
    refine ⟨rfl, ⟨kin, ns_up R.glob, ⟨mb, ns_up R.blt, R.boot⟩, ?_⟩, fun _ _ => of_hidT, Nat.le_of_eq (hidT_size _ _), trivial, nofun, hok, .of_eq R.gens⟩
    exact R.lim.elim fun mc z => ⟨mc, ns_up z.1, z.2⟩
  have run := (F _ kin (ns_up R.glob) TB).run callerA [] s₁ H ⟨[.ref a], []⟩ [.ref a] [.ref a] _ _ (callerG room) env (bind s₁ (.ref a)) (.cons rfl .nil) (hsp H (fun p m => B.tab _ (at_ p m)) B.sq)
  refine codeAny_mono run fun r t got => ?_
  match r, got with
  | .error e, got => exact (never H e t got).elim
  | .ok .next, got => exact False.elim got
  | .ok .brk, got => exact False.elim got
  | .ok .cont, got => exact False.elim got
  | .ok (.ret u), got =>
    obtain ⟨v, H', os, bare, un, hok', rv, yes⟩ := got
    cases (show v = .bl true from yes)
    cases (show u = Value.bool true from rv)
    have grown : ∀ p ∈ cs, ∃ more : Array Value, t.heap.get? p.2 = some { cls := .none, data := .fields more } := fun p m => (un.tbls p.2 #[] (B.tab _ (at_ p m))).elim fun _ z => ⟨_, hok' p.2 _ z⟩
    have same : ∀ b o, b ∉ cs.map (·.2) → s₁.heap.get? b = some o → t.heap.get? b = some o := fun b o nb e => by
      rcases q : H b with _ | z
      · exact un.keep b o e q nofun (by simp)
      · rcases B.only b z q with ⟨m, _⟩ | ⟨_, _, _, rfl⟩
        · exact (nb m).elim
        · exact (e.symm.trans (hok b _ q).1) ▸ (hok' b _ (un.frzs b _ _ q)).1
    have both : ∀ b o, s₁.heap.get? b = some o → (b ∉ cs.map (·.2) ∧ t.heap.get? b = some o) ∨ ∃ p ∈ cs, p.2 = b := fun b o e => (Classical.em (b ∈ cs.map (·.2))).elim (fun m => .inr ((List.mem_map.mp m).elim fun p z => ⟨p, z.1, z.2⟩)) fun n => .inl ⟨n, same b o n e⟩
    refine ⟨rfl, ⟨fun b o was => ?_, fun b o was => ?_⟩, os, bare⟩
    · rcases both b o was with z | ⟨p, m, rfl⟩
      · exact .inl z.2
      · obtain ⟨e2, _, co⟩ := R.tabs p m
        cases was.symm.trans e2
        exact (grown p m).elim fun more z => .inr (.inl ⟨(co.tab e2).isCodeTable, rfl, #[], more, rfl, by rw [Array.empty_append]; exact z⟩)
    · rcases both b o was with z | ⟨p, m, rfl⟩
      · exact ⟨o, z.2⟩
      · exact (grown p m).elim fun _ z => ⟨_, z⟩
end
/-! ### code objects and their tables -/
def refOf : Value → Addr
  | .ref b => b
  | _ => 0
def codeOf (K : PySem.W.Frag) (x : Str) : Addr := match K.lookup (He.ga K x) with
  | some ⟨_, _, .func fd, _⟩ => refOf fd.code
  | _ => 0
def tabOf (K : PySem.W.Frag) (x : Str) : Addr := match K.lookup (codeOf K x) with
  | some ⟨_, _, .fields us, _⟩ => refOf ((us[11]? : Option Value).getD .none)
  | _ => 0
def isCodeR (K : PySem.W.Frag) (x : Str) : Bool := match K.lookup (He.ga K x) with
  | some ⟨_, _, .func fd, _⟩ => decide (fd.code = .ref (codeOf K x))
  | _ => false
theorem isCodeR_ok {K : PySem.W.Frag} {x : Str} (h : isCodeR K x = true) {fd : FuncData} : ∀ oc od osl, K.lookup (He.ga K x) = some ⟨oc, od, .func fd, osl⟩ → fd.code = .ref (codeOf K x) := fun oc od osl e => by
  unfold isCodeR at h
  rw [e] at h
  exact of_decide_eq_true h
/-- the tables of the defs ls -/
def tabsOf (K : PySem.W.Frag) (ls : List Str) : List (Addr × Str) := ls.map fun x => (tabOf K x, x ++ ".<locals>.<lambda>")
def csOf (K : PySem.W.Frag) (ls : List Str) : List (Addr × Addr) := ls.map fun x => (codeOf K x, tabOf K x)
def isTab : Option Obj → Bool
  | some ⟨.none, none, .fields ⟨[]⟩, ⟨[]⟩⟩ => true
  | _ => false
theorem isTab_ok {o : Option Obj} (h : isTab o = true) : o = some { cls := .none, data := .fields #[] } := by
  unfold isTab at h
  split at h
  · rfl
  · cases h
def tabChk (g : Addr → Option Obj) (K : PySem.W.Frag) (ls : List Str) : Bool := ls.all fun x => isCodeR K x && (PySem.W.codeHdIn K (codeOf K x) (tabOf K x) && (isTab (g (tabOf K x)) && (K.lookup (tabOf K x)).isNone))
def asT (g : Addr → Option Obj) (n : Nat) : List Addr := (He.asD g n).filter fun a => !isTab (g a)
def obsT (n : Nat) (chk : PySem.W.Frag → Bool) (ls : List Str) (fa : List He.Fa) (fn : List He.DefD) (g : Addr → Option Obj) : ObE := (chk (He.frG g (asT g n)) && tabChk g (He.frG g (asT g n)) ls, He.obsD fa fn (He.frG g (asT g n)))
/-- what is known of a def's table in the ground -/
def TBs (K : PySem.W.Frag) (mg : Str → Option Value) (base : Heap) (ls : List Str) : Prop := ∀ x ∈ ls, isCodeR K x = true ∧ TabB base mg (codeOf K x) (tabOf K x)
structure SaysT (chk : PySem.W.Frag → Bool) (ls : List Str) (fa : List He.Fa) (fn : List He.DefD) (K : PySem.W.Frag) (h : Heap) : Prop where
  says : SaysE chk fa fn K
  code : ∀ x ∈ ls, isCodeR K x = true ∧ PySem.W.CodeHd h (codeOf K x) (tabOf K x) ∧ h.get? (tabOf K x) = some { cls := .none, data := .fields #[] } ∧ K.lookup (tabOf K x) = none
def hookT (n : Nat) (chk : PySem.W.Frag → Bool) (ls : List Str) (fa : List He.Fa) (fn : List He.DefD) : PySem.W.Hook where
  α := ObE
  obs := fun s => obsT n chk ls fa fn s.heap.get?
  val := fun _ => (true, He.valD fn)
  says := fun _ h => ∃ K : PySem.W.Frag, K.In h ∧ SaysT chk ls fa fn K h
  of := fun _ s e => by
    have e1 := congrArg (fun z : ObE => z.1) e
    obtain ⟨c1, c2⟩ := Bool.and_eq_true_iff.mp e1
    have inK : (He.frG s.heap.get? (asT s.heap.get? n)).In s.heap := He.frG_in
    refine ⟨_, inK, ⟨c1, congrArg (fun z : ObE => z.2) e⟩, fun x hx => ?_⟩
    obtain ⟨q1, q⟩ := He.ba (List.all_eq_true.mp c2 x hx)
    obtain ⟨q2, q⟩ := He.ba q
    obtain ⟨q3, q4⟩ := He.ba q
    exact ⟨q1, PySem.W.codeHd_of_K inK q2, isTab_ok q3, Option.isNone_iff_eq_none.mp q4⟩
  keeps := fun _ _ _ ⟨K, inK, c⟩ k => ⟨K, PySem.W.Frag.In.keeps inK k, c.says, fun x hx => by
    obtain ⟨q1, q2, q3, q4⟩ := c.code x hx
    exact ⟨q1, q2.keeps k, k _ _ q3, q4⟩⟩
theorem obsT_eq {n : Nat} {chk : PySem.W.Frag → Bool} {ls : List Str} {fa : List He.Fa} {fn : List He.DefD} {g : Addr → Option Obj} {s : Shared} (h : ∀ a, g a = s.heap.get? a) : obsT n chk ls fa fn g = (hookT n chk ls fa fn).obs s := by
  cases (funext h : g = fun b => s.heap.get? b)
  rfl
theorem walkT {l : PySem.W.OpenLaw} {n k : Nat} {q : Program} {loose : List Str} {XP : (Str → Option Value) → Heap → Prop} {YP : World → Heap → Prop} {d : DefRec} {x : Str} {ls : List Str}
    (hn : l.most = some n) (fits : n ≤ sizeLine) (small : n ≤ 63) (hdf : d.params.defaults = []) (room : Room k callerA)
    (F : ∀ (w : World) (mg : Str → Option Value) (fa : Addr) (h : Heap), YP w h →
      h.Ns mainGlobals mg → mg d.name = some (.ref fa) →
      ∃ (K : PySem.W.Frag) (fd : FuncData), K.In h ∧ (∀ y ∈ ls, isCodeR K y = true ∧ PySem.W.CodeHd h (codeOf K y) (tabOf K y) ∧ h.get? (tabOf K y) = some emptyTab ∧ K.lookup (tabOf K y) = none) ∧ (∀ (s : Shared) (u : Value), BindsTo s fd ⟨[u], []⟩ [(x, u)]) ∧
        ∀ base : Heap, K.In base → base.Ns mainGlobals mg → TBs K mg base ls → FnG l.prog w K mg base (L2.CX l.prog w) k fa fd [x] (spLawT K (tabsOf K ls))) : PySem.W.WalkO q loose XP YP l.row.toRowW d [] (fun f vs => PySem.call f vs) := by
  refine Att.attach_callB hn hdf fun w s0 s1 mg mb fa o pm cd doc a vs ns G Y ho hd hcd hmg hobj hints hlen hbits hg => ?_
  obtain ⟨K, fd, inK, code, bnd, hF⟩ := F w mg fa _ Y G.T.g hmg
  have mem : ∀ p ∈ csOf K ls, ∃ y ∈ ls, p = (codeOf K y, tabOf K y) := fun p hp => (List.mem_map.mp hp).elim fun y z => ⟨y, z.1, z.2.symm⟩
  have put : ∀ y ∈ ls, (codeOf K y, tabOf K y) ∈ csOf K ls := fun y m => List.mem_map.mpr ⟨y, m, rfl⟩
  refine law_callG (cs := csOf K ls) ⟨inK, G.T.g, G.T.b, G.T.builtins, G.T.nolimit, hg, fun p m => ?_, G.T.bmain⟩ hobj hints (Nat.le_trans hlen fits) room (fun base KB nB TB => hF base KB nB fun y m => ⟨(code y m).1, TB _ (put y m)⟩) bnd (fun H tab sq => ?_) fun H e s' => cx_never H s1 e s'
  · obtain ⟨y, yl, rfl⟩ := mem p m
    exact ⟨(code y yl).2.2.1, (code y yl).2.2.2, (code y yl).2.1⟩
  · refine ⟨a, ns, rfl, sq, Nat.le_trans hlen small, fun p m => ?_, fun v _ z => z⟩
    obtain ⟨y, yl, rfl⟩ := List.mem_map.mp m
    exact TabS.nil (tab _ (put y yl))
end Say

namespace Say
open LamX L2 PyProof.Rows PySem.Spec PySem

/-! ### a lambda is made: all but its maker's table is kept -/
def ButP (P : Addr) (H H' : Hp) : Prop := ∀ b o, H b = some o → b ≠ P → H' b = some o
theorem ButP.refl {P : Addr} {H : Hp} : ButP P H H := fun _ _ e _ => e
/-- a table grown by a new code object at c: known, and nothing else touched -/
theorem tabs_grown {T : List (Addr × Str)} {H : Hp} {P c : Addr} {q : Str} {ps : Array Value} {pos : Pos} (hT : Tabs T H) (hm : (P, q) ∈ T) (one : ∀ p ∈ T, p.1 = P → p.2 = q) (hP : H P = some (.tbl ps)) (new : H c = none) :
    Tabs T (upd (upd H P (.tbl (ps ++ #[rawInt pos.line, rawInt pos.col, .ref c]))) c (CodeO c q)) ∧ ButP P H (upd (upd H P (.tbl (ps ++ #[rawInt pos.line, rawInt pos.col, .ref c]))) c (CodeO c q)) := by
  have but : ButP P H (upd (upd H P (.tbl (ps ++ #[rawInt pos.line, rawInt pos.col, .ref c]))) c (CodeO c q)) := fun b o e n => by
    rw [upd_ne (ne_of_none e new), upd_ne n]
    exact e
  have code : ∀ b z, H b = some (CodeO b z) → b ≠ P := fun b z e w => codeO_ne ps (Option.some.inj ((w ▸ e : H P = _).symm.trans hP))
  refine ⟨fun p hp => ?_, but⟩
  obtain ⟨qs, e, ok, all⟩ := hT p hp
  by_cases w : p.1 = P
  · have es : ps = qs := HO.tbl.inj (Option.some.inj (hP.symm.trans (w ▸ e)))
    rw [← es] at ok all
    rw [one p hp w] at all ⊢
    rw [w]
    have app : (ps ++ #[rawInt pos.line, rawInt pos.col, .ref c]).toList = ps.toList ++ [rawInt pos.line, rawInt pos.col, .ref c] := Array.toList_append
    refine ⟨_, (upd_ne (ne_of_none hP new)).trans upd_same, app ▸ PySem.TriplesOk_snoc _ _ _ _ ok, fun r v hv => ?_⟩
    rcases among_app _ ok (app ▸ hv) with old | rfl
    · exact (all r v old).elim fun k ⟨e1, e2⟩ => ⟨k, e1, but _ _ e2 (code _ _ e2)⟩
    · exact ⟨c, rfl, upd_same⟩
  · exact ⟨qs, but _ _ e w, ok, fun r v hv => (all r v hv).elim fun k ⟨e1, e2⟩ => ⟨k, e1, but _ _ e2 (code _ _ e2)⟩⟩
section
variable {X : Cx} {pins : List (Addr × Obj)} {s : Shared} {σ : L2.St} {H : Hp}
/-- the function f and where its code object stands -/
structure Made (X : Cx) (pins : List (Addr × Obj)) (σ : L2.St) (T : List (Addr × Str)) (P : Addr) (H : Hp) (params : Arguments) (body : Expr) (scope : Scope) (f c' : Addr) (H1 : Hp) (s' : Shared) : Prop where
  inv : Inv X pins σ H1 s'
  but : ButP P H H1
  tabs : Tabs T H1
  fn : ∃ pm ctv : Value, s'.heap.get? f = some (PySem.W.kla_obj "<lambda>" (X.env.qual ++ "<lambda>") params body scope (cloFrom X.env.cells scope.names []) pm c' ctv)
  free : H1 f = none
  nofr : f ∉ frs X.stack
  code : H1 c' = some (CodeO c' (X.env.qual ++ "<lambda>"))
/-- no frame stands beyond the heap's end -/
theorem beyond (I : Inv X pins σ H s) {f : Addr} (h : s.heap.objs.size ≤ f) : f ∉ frs X.stack := fun z => by
  have in_ := List.mem_cons.mp (I.stkSub _ z)
  have lt := I.lt
  rcases in_ with w | w
  · rw [w] at h
    exact Nat.lt_irrefl _ (Nat.lt_of_lt_of_le lt h)
  · exact I.nofs h w
theorem lam_make3 {T : List (Addr × Str)} {c P : Addr} {params : Arguments} {body : Expr} {scope : Scope} {pos : Pos} {E Q : Value → Shared → Prop} (I : Inv X pins σ H s) (TB : TabB X.base X.mg c P) (hcode : X.env.code = .ref c) (hT : Tabs T H)
    (hm : (P, X.env.qual ++ "<lambda>") ∈ T) (one : ∀ p ∈ T, p.1 = P → p.2 = X.env.qual ++ "<lambda>") (nodef : defaultsOf params X.env = ([], [])) (has : ∀ y ∈ scope.names, y.2 = .free → ∃ c, X.env.cells.lookup y.1 = some c)
    (h : ∀ (f c' : Addr) (H1 : Hp) (s' : Shared), Made X pins σ T P H params body scope f c' H1 s' → Q (.ref f) s') : wpAny (model X.prog X.w) X.A (eval (.Lambda params body scope pos) X.env) Q E s := by
  obtain ⟨ps, eP, ok, all⟩ := hT _ hm
  have obP := I.hok P _ eP
  have hd := TB.code.keeps I.bk
  have gl := I.mod.glob.keeps I.bk
  have bl := TB.bm.keeps I.bk
  have clo := closure_ok has
  apply PySem.W.kla_eval nodef
  rcases found : codeAmong pos ps.toList with _ | v
  · apply PySem.W.kla_makeFunction (mg := X.mg) (ps := ps) clo I.ok.glob gl hcode hd obP ok found TB.gP bl
    rintro c' ctv h' tk kept ge lt ⟨cc, oc, us, u, ec, e1, e2, e3⟩ tab
    cases ec
    have new := I.hok.fresh ge
    have le : s.heap.objs.size ≤ h'.objs.size := Nat.le_trans ge (Nat.le_of_lt lt)
    obtain ⟨tabs, but⟩ := tabs_grown (pos := pos) hT hm one eP new
    have keep : ∀ {b o w}, h'.get? b = some o → (h'.push w).get? b = some o := fun e => Heap.get?_push_of_some _ e
    have J := inv_table (t' := tk) (more := #[rawInt pos.line, rawInt pos.col, .ref c']) (h' := h'.push (PySem.W.kla_obj "<lambda>" (X.env.qual ++ "<lambda>") params body scope (cloFrom X.env.cells scope.names []) ((X.mg "__name__").getD .none) c' ctv)) I eP (fun b o n e => keep (kept b o n e)) (keep tab) ge ⟨oc, us, u, keep e1, e2, e3⟩
    have nP : h'.objs.size ≠ P := fun w => Nat.lt_irrefl _ (Nat.lt_of_lt_of_le (Heap.lt_size obP) (w ▸ le))
    refine h _ _ _ _ ⟨J, but, tabs, ⟨_, ctv, Heap.get?_push_size _ rfl⟩, ?_, beyond I le, upd_same⟩
    rw [upd_ne (Nat.ne_of_gt lt), upd_ne nP]
    exact I.hok.fresh le
  · obtain ⟨c', rfl, co⟩ := all pos v found
    apply PySem.W.kla_makeFunctionHit (mg := X.mg) (ps := ps) clo I.ok.glob gl hcode hd obP ok found bl
    intro ctv h' tk kept le
    exact h _ c' H _ ⟨I.kept fun b o e => Heap.get?_push_of_some _ (kept b o e), .refl, hT, ⟨_, ctv, Heap.get?_push_size _ rfl⟩, I.hok.fresh le, beyond I le, co⟩
end
/-! ### x(lambda: body), x a def that calls it -/
/-- the lambda's body, read wherever it is called -/
def tBody (X : Cx) (k : Nat) (scope : Scope) (body : Expr) : XK → TE := fun E σ H Q => ∀ (A : Around) (outer : List PySem.Env) (s : Shared) (H0 : Hp) (f c' : Addr) (pins : List (Addr × Obj)) (s2 : Shared), RoomG k (A.deeper (lamEnv X scope s.heap.objs.size f c')) →
  Inv (lamCx X A outer s H0 E scope f c') pins σ H s2 → wpAny (model X.prog X.w) (A.deeper (lamEnv X scope s.heap.objs.size f c')) (eval body (lamEnv X scope s.heap.objs.size f c')) (EP (lamCx X A outer s H0 E scope f c') pins σ Q) (lamCx X A outer s H0 E scope f c').xe s2
/-- what is known of x -/
structure Taker (P : Program) (w : World) (K : PySem.W.Frag) (mg : Str → Option Value) (base : Heap) (x : Str) (TT : (XK → Hp → VK → Prop) → Hp → VK → Prop) : Prop where
  ex : ∃ (g : Addr) (pg : Arguments) (bg : List Stmt) (sg : Scope) (dV kV doc pm cdv ct oc : Value) (an od : Option Addr) (osl : Array (Option Value)) (Ng : List Str) (a : Str), mg x = some (.ref g) ∧ PySem.W.keepIn K (.ref g) = true ∧ K.lookup g = some ⟨oc, od, .func (PySem.W.fnOf x x pg bg sg dV kV doc pm an cdv ct), osl⟩ ∧ PySem.W.codeIn K cdv x = true ∧
    L2.Binds K (PySem.W.fnOf x x pg bg sg dV kV doc pm an cdv ct) [a] [] ∧ FnScope Ng [a] sg ∧ Ng[0]? = some a ∧ Vis sg a ∧ (a == ("__debug__" : Str)) = false ∧ (a == ("__classdict__" : Str)) = false ∧
    ∀ (X : Cx) (q : Str), X.prog = P → X.w = w → X.K = K → X.mg = mg → X.base = base → RoomG 2 X.A → GivesTo X Ng x sg g cdv bg a q TT
section
variable {X : Cx} {σ : L2.St} {H : Hp} {s : Shared}
/-- the lambda's code, called at s1 from the def's frame -/
theorem lam_run {A : Around} {outer : List PySem.Env} {T : List (Addr × Str)} {P : Addr} {H0 H1 : Hp} {f c' : Addr} {params : Arguments} {body : Expr} {scope : Scope} {k : Nat} {E : XK} {pins : List (Addr × Obj)} {s1 : Shared} {Q : VK}
    (M : Made X pins σ T P H0 params body scope f c' H s) (L : LamS X.env.scope scope) (nobind : ∀ (q : Str) (cl : List (Str × Addr)) (pm cv ctv : Value), bindArgs (PySem.W.kla_fn "<lambda>" q params body scope cl pm cv ctv) ⟨[], []⟩ = pure [])
    (e0 : Env0 X.prog X.w X.K X.mg X.base A outer s1 H1) (lim : s1.heap.NoLimit) (un : Un (frs X.stack) [] H H1 s.heap s1.heap) (hr : RoomG (k + 1) A) (co : H1 c' = some (CodeO c' (X.env.qual ++ "<lambda>"))) (ht : tBody X k scope body E σ H1 Q) :
    codeAny (model X.prog X.w) A (.call (.ref f) ⟨[], []⟩) (CR (L2.CX X.prog X.w) outer X.prog X.w H1 s1 Q E) s1 := by
  obtain ⟨pm, ctv, here⟩ := M.fn
  have at1 := un.keep f _ here M.free M.nofr (by simp)
  have room := hr.toRoom
  have cob : ∃ (oc : Obj) (us : Array Value) (u : Tok), s1.heap.get? c' = some oc ∧ oc.data = .fields us ∧ us[1]? = some (.str (X.env.qual ++ "<lambda>") u) := (e0.hok c' _ co).1
  obtain ⟨oc, us, u, k1, k2, k3⟩ := cob
  apply PySem.W.kla_callFunE room.depth at1 rfl L.co L.gen rfl ⟨c', oc, us, u, rfl, k1, k2, k3⟩
  rw [nobind]
  refine wpAny_pure (wpAny_newFunctionEnv (fun y m => (L.own y m).2) nofun ?_ L.kind)
  intro h₁ ns same
  have kp : s1.heap.StaysIn h₁ := fun b o e => same.extBut b o (fun w => Nat.lt_irrefl _ (w ▸ Heap.lt_size e)) (Heap.get?_push_of_some _ e)
  have J := lam_start2 (f := f) (c' := c') (E := E) (tk := s1.toks + ([] : List (Str × Value)).length) M.inv L e0 room.hd un ns kp
  refine ⟨lim.fresh _ same, ?_⟩
  apply PySem.W.kla_codeExpr
  refine wpAny_mono (ht A outer s1 H1 f c' _ _ ⟨room.deeper _, hr.gd⟩ J) ?_ fun _ _ z => z
  rintro v s' ⟨r, H', J', rv, q⟩
  exact ⟨r, H', J'.os, J'.bare, J'.base, J'.hok, rv, q⟩
/-- a() in that def -/
theorem pe_act3 {CXg : CXT} {Eg E : XK} {Ng : List Str} {qg a : Str} {sg scope : Scope} {pins pn : List (Addr × Obj)} {g f c' P : Addr} {cdg : Value} {params : Arguments} {body : Expr} {k i : Nat} {xe : Value → Shared → Prop} {W : WX} {p1 p2 : Pos} {T : List (Addr × Str)} {H0 : Hp}
    (M : Made X pins σ T P H0 params body scope f c' H s) (L : LamS X.env.scope scope) (nobind : ∀ (q : Str) (cl : List (Str × Addr)) (pm cv ctv : Value), bindArgs (PySem.W.kla_fn "<lambda>" q params body scope cl pm cv ctv) ⟨[], []⟩ = pure [])
    (tk : Takes ((cxOf CXg X.prog X.w X.K X.mg X.base Ng qg sg g cdg X.A X.stack s H Eg).tr pn xe) W) (hW : ∀ cls d σ' H', E cls d H' → W cls d σ' H') (hr : RoomG (k + 1) (X.A.deeper (envOfC qg sg s.heap.objs.size g cdg))) (hN : Ng[i]? = some a) (hv : Vis sg a) (hd : (a == ("__debug__" : Str)) = false) (hcd : (a == ("__classdict__" : Str)) = false) :
    PE ((cxOf CXg X.prog X.w X.K X.mg X.base Ng qg sg g cdg X.A X.stack s H Eg).tr pn xe) (.Call (.Name a p1) [] [] p2) (fun σZ HZ Q => σZ[i]? = some (some (.ref f)) ∧ HZ c' = some (CodeO c' (X.env.qual ++ "<lambda>")) ∧ tBody X k scope body E σ HZ Q) := by
  constructor
  rintro pz sz σz Hz Q Iz ⟨slot, co, ht⟩
  have name := (pe_var (pos := p1) (i := i) hN hv hd hcd).run pz sz σz Hz (fun v H1 => v = .ref f ∧ H1 = Hz) Iz ⟨_, slot, rfl, rfl⟩
  refine wpAny_Call_Name_kw (thn name ?_)
  rintro u s1 ⟨v, H1, I1, rv, rfl, rfl⟩
  cases (show u = Value.ref f from rv)
  obtain ⟨pm, ctv, here⟩ := M.fn
  have un : Un (frs X.stack) [] H H1 s.heap s1.heap := I1.base
  have out := lam_run M L nobind I1.env0 I1.nolimit un hr co ht
  have let_out : Passes (L2.CX X.prog X.w) ((cxOf CXg X.prog X.w X.K X.mg X.base Ng qg sg g cdg X.A X.stack s H Eg).tr pn xe) E := passes_call tk hW
  refine PySem.W.callWith_F0 ⟨_, _, _, _, un.keep f _ here M.free M.nofr (by simp)⟩ (wpAny_call (codeAny_mono out fun r s' got => ?_))
  match r, got with
  | .error e, got => exact let_out pz σz H1 s1 e s' I1 got
  | .ok (.ret _), got => exact I1.after got
  | .ok .next, got => exact got.elim
  | .ok .brk, got => exact got.elim
  | .ok .cont, got => exact got.elim
theorem pe_lamcall3 {T : List (Addr × Str)} {TT : (XK → Hp → VK → Prop) → Hp → VK → Prop} {x : Str} {c P : Addr} {k : Nat} {params : Arguments} {body : Expr} {scope : Scope} {p lpos pos : Pos} (tr : Taker X.prog X.w X.K X.mg X.base x TT) (hg : Gl X x)
    (TB : TabB X.base X.mg c P) (hcode : X.env.code = .ref c) (hmT : (P, X.env.qual ++ "<lambda>") ∈ T) (hu : ∀ p ∈ T, p.1 = P → p.2 = X.env.qual ++ "<lambda>") (hr : RoomG (k + 2) X.A) (L : LamS X.env.scope scope) (hdef : defaultsOf params X.env = ([], []))
    (hbind : ∀ (q : Str) (cl : List (Str × Addr)) (pm cv ctv : Value), bindArgs (PySem.W.kla_fn "<lambda>" q params body scope cl pm cv ctv) ⟨[], []⟩ = pure []) (hdb : (x == ("__debug__" : Str)) = false := by decide) :
    PE X (.Call (.Name x p) [.Lambda params body scope lpos] [] pos) (fun σ H Q => Tabs T H ∧ ∀ H1, ButP P H H1 → Tabs T H1 → TT (fun E H' Q' => tBody X k scope body E σ H' Q') H1 Q) := by
  obtain ⟨g, pg, bg, sg, dV, kV, doc, pm, cdv, ct, oc, an, od, osl, Ng, a, hm, hk, lk, hcg, hb, Sg, hNg, hva, hd, hcd, hG⟩ := tr.ex
  constructor
  rintro pins s σ H Q I ⟨tabs, h⟩
  refine wpAny_Call_Name_kw (ld_glob I hg hm (PySem.W.callWith_K (h₀ := X.base) I.ok.mod.kin hk ?_ (by rfl) (by rfl)) hdb)
  refine Calls.spliced_cons (lam_make3 I TB hcode tabs hmT hu hdef (L.has I.ok) fun f c' H1 s1 M => Calls.spliced_nil ⟨M.inv.kIn, ?_⟩)
  have out : codeAny (model X.prog X.w) X.A (.call (.ref g) ⟨[.ref f], []⟩) (CR C8.CX0 X.stack X.prog X.w H1 s1 Q C8.E0) s1 :=
    run_ofS (N := Ng) (ps := [a]) (us := [.ref f]) (vs := [.ref f]) lk hcg Sg hr.toRoom M.inv.env0 (hb s1 [.ref f] M.inv.kIn rfl) (.cons rfl .nil) rfl fun room =>
      (hG X _ rfl rfl rfl rfl rfl (hr.mono (by omega)) f c' s1 H1 Q (fun E H' Q' => tBody X k scope body E σ H' Q') (fun W pn xe E p1 p2 tk hW => pe_act3 (i := 0) M L hbind tk hW ⟨room, hr.gd⟩ hNg hva hd hcd) M.code (h H1 M.but M.tabs)).elim fun _ z => ⟨_, z.1.nox, z.2⟩
  refine wpAny_call (codeAny_mono out fun r s' got => ?_)
  match r, got with
  | .error _, got => exact (show False from got).elim
  | .ok (.ret _), got => exact M.inv.after got
  | .ok .next, got => exact got.elim
  | .ok .brk, got => exact got.elim
  | .ok .cont, got => exact got.elim
end
end Say

namespace Say
open LamX L2 PyProof.Rows PySem.Spec PySem

/-! ### what a lambda sees of its maker: the data -/
def Sl.hide : Sl → Sl
  | .dat d => .dat d
  | _ => .no
def hide (ρ : Env) : Env := ρ.map Sl.hide
theorem hide_get {ρ : Env} {i : Nat} {x : Sl} (h : (hide ρ)[i]? = some x) : (∃ d, x = .dat d ∧ ρ[i]? = some (.dat d)) ∨ x = .no := by
  unfold hide at h
  rw [List.getElem?_map] at h
  cases e : ρ[i]? with
  | none => rw [e]
      at h; cases h
  | some y =>
    rw [e] at h
    cases h
    cases y with
    | dat d => exact .inl ⟨d, rfl, rfl⟩
    | no => exact .inr rfl
    | own d => exact .inr rfl
    | self c fs => exact .inr rfl
section
variable {K : PySem.W.Frag} {p : PL} {G : Addr → Prop} {H0 H : Hp} {ρ : Env} {σ : L2.St} {s : Pen}
theorem Rel.fex (rl : Rel K p G H0 ρ σ H s) : ∀ a, Fo G ρ σ a → ∃ o, H a = some o := fun a ha => by
  cases z : H a with
  | some o => exact ⟨o, rfl⟩
  | none => exact (rl.fresh z ha).elim
theorem Rel.hide (rl : Rel K p G H0 ρ σ H s) : Rel K p (Fo G ρ σ) H0 (Say.hide ρ) σ H s := by
  have no : ∀ (i : Nat) (x : Sl), (Say.hide ρ)[i]? = some x → x.held = true → False := fun i x e hx => by
    rcases hide_get e with ⟨d, z, _⟩ | z
    · rw [z] at hx; cases hx
    · rw [z] at hx; cases hx
  refine ⟨by unfold Say.hide; rw [List.length_map]; exact rl.len, fun i d e => ?_, fun i x e hx => (no i x e hx).elim, fun i j x y a e hx => (no i x e hx).elim, rl.old, rl.pen, rl.fpa, .inl rl.gca, rl.fex, fun i x a e hx => (no i x e hx).elim⟩
  rcases hide_get e with ⟨d', z, e2⟩ | z
  · cases z
    obtain ⟨v, h1, h2⟩ := rl.dat i d e2
    refine ⟨v, h1, h2.mono (fun _ _ z _ => z) fun a z => ?_⟩
    rcases z with z | ⟨j, y, e3, hy, _⟩
    · exact z
    · exact (no j y e3 hy).elim
  · cases z
/-- an environment without data -/
theorem rel_no {n : Nat} (gpa : ∀ a, p.no a → G a) (gca : G p.ca) (gex : ∀ a, G a → ∃ o, H a = some o) (st : Step p H0 H) (pn : PenAt H p s) (hl : σ.length = n) : Rel K p G H0 (List.replicate n .no) σ H s := by
  have no : ∀ (i : Nat) (x : Sl), (List.replicate n Sl.no)[i]? = some x → x = .no := fun i x e => List.eq_of_mem_replicate (List.mem_of_getElem? e)
  have noh : ∀ (i : Nat) (x : Sl), (List.replicate n Sl.no)[i]? = some x → x.held = true → False := fun i x e hx => by
    rw [no i x e] at hx
    cases hx
  exact ⟨by rw [List.length_replicate, hl], fun i d e => (by cases no i _ e), fun i x e hx => (noh i x e hx).elim, fun i j x y a e hx => (noh i x e hx).elim, st, pn, gpa, gca, gex, fun i x a e hx => (noh i x e hx).elim⟩
end
/-- no exception is let out -/
def quiet {α : Type} (m : M α) : M α := fun s => match m s with
  | .exc _ _ _ => .bad
  | o => o
theorem wp_quiet {α : Type} {m : M α} {s : Pen} {R : α → Pen → Prop} {Ex : XR} (h : wpM (quiet m) s R Ex) : wpM m s R fun _ _ _ => False := by
  unfold wpM quiet at h
  unfold wpM
  cases e : m s with
  | ok a s' => rw [e] at h; exact h
  | exc c fs s' => rw [e] at h; exact h.elim
  | bad => rw [e] at h; exact h.elim
@[simp] theorem quiet_pure {α : Type} (a : α) : quiet (pure a : M α) = pure a := rfl
/-- what is done behind m, what where m lets an exception out -/
def catchM {α β : Type} (m : M α) (k : α → M β) (h : Str → List (Str × D) → M β) : M β := fun s => match m s with
  | .ok a s' => k a s'
  | .exc c fs s' => h c fs s'
  | .bad => .bad
theorem wp_catch {α β : Type} {m : M α} {k : α → M β} {h : Str → List (Str × D) → M β} {s : Pen} {R : β → Pen → Prop} {Ex : XR} : wpM (catchM m k h) s R Ex = wpM m s (fun a s' => wpM (k a) s' R Ex) (fun c fs s' => wpM (h c fs) s' R Ex) := by
  unfold wpM catchM
  cases m s <;> rfl
@[simp] theorem catch_pure {α β : Type} (a : α) (k : α → M β) (h : Str → List (Str × D) → M β) : catchM (pure a) k h = k a := rfl
@[simp] theorem catch_raise {α β : Type} (c : Str) (fs : List (Str × D)) (k : α → M β) (h : Str → List (Str × D) → M β) : catchM (raise c fs) k h = h c fs := rfl
@[simp] theorem raise_bind {α β : Type} (c : Str) (fs : List (Str × D)) (f : α → M β) : ((raise c fs : M α) >>= f) = raise c fs := rfl
/-! ### what x makes of the function that it gets -/
def TTs (K : PySem.W.Frag) (mF : M D → M D) : (XK → Hp → VK → Prop) → Hp → VK → Prop := fun tl H Q => ∃ (p : PL) (G : Addr → Prop) (m : M D) (s : Pen), (∀ a, p.no a → G a) ∧ G p.ca ∧ (∀ a, G a → ∃ o, H a = some o) ∧ PenAt H p s ∧
  (∀ (R : D → Pen → Prop) (Ex : XR) (E : XK) (Q1 : VK), wpM m s R Ex → (∀ d s' v H', R d s' → Af p H H' s' → Rep K p H' G v d → Q1 v H') → (∀ c fs s' dx vfs H', Ex c fs s' → Af p H H' s' → ExD H' dx vfs → RepF K p H' G vfs fs → E (.ref (He.ga K c)) (some dx) H') → tl E H Q1) ∧
  wpM (mF m) s (fun d s' => ∀ v H', Af p H H' s' → Rep K p H' G v d → Q v H') (fun _ _ _ => False)
section
variable {X : Cx} {p : PL} {f : Env → M D}
theorem de_lam {x : Str} {k : Nat} {params : Arguments} {body : Expr} {scope : Scope} {q lpos pos : Pos} {mF : M D → M D} {ls : List Str} {y : Str} (tr : Taker X.prog X.w X.K X.mg X.base x (TTs X.K mF)) (hr : RoomG (k + 2) X.A) (TB : TBs X.K X.mg X.base ls) (eT : p.T = tabsOf X.K ls) (hy : y ∈ ls) (hcode : X.env.code = .ref (codeOf X.K y))
    (hb : ∀ (A : Around) (outer : List PySem.Env) (s : Shared) (H0 : Hp) (E : XK) (fa c' : Addr), RoomG k (A.deeper (lamEnv X scope s.heap.objs.size fa c')) → DE (lamCx X A outer s H0 E scope fa c') p body f) (hq : X.env.qual ++ "<lambda>" = y ++ ".<locals>.<lambda>" := by rfl)
    (hu : ∀ z ∈ ls, tabOf X.K z = tabOf X.K y → z = y) (hg : Gl X x := by rfl) (L : LamS X.env.scope scope := by exact LamX.lamS_by (by first | kernel_rfl | rfl)) (hdef : defaultsOf params X.env = ([], []) := by rfl)
    (hbind : ∀ (q : Str) (cl : List (Str × Addr)) (pm cv ctv : Value), bindArgs (PySem.W.kla_fn "<lambda>" q params body scope cl pm cv ctv) ⟨[], []⟩ = pure [] := by intros; rfl) (hdb : (x == ("__debug__" : Str)) = false := by decide) :
    DE X p (.Call (.Name x q) [.Lambda params body scope lpos] [] pos) (fun ρ => quiet (mF (f (hide ρ)))) := by
  have hmT : (tabOf X.K y, X.env.qual ++ "<lambda>") ∈ p.T := by
    rw [eT, hq]
    exact List.mem_map.mpr ⟨y, hy, rfl⟩
  have huT : ∀ z ∈ p.T, z.1 = tabOf X.K y → z.2 = X.env.qual ++ "<lambda>" := fun z hz e => by
    rw [eT] at hz
    obtain ⟨u, hu1, rfl⟩ := List.mem_map.mp hz
    have eu := hu u hu1 e
    rw [eu, hq]
  refine ⟨fun W G H0 ρ σ H s R Ex Q tk rl hw qq px => tE_of (pe_lamcall3 (k := k) (T := p.T) tr hg (TB y hy).2 hcode hmT huT hr L hdef hbind hdb) ⟨rl.pen.tabs, fun H1 but tabs => ?_⟩⟩
  obtain ⟨ps, hP, _⟩ := rl.pen.tabs _ hmT
  have nP : ∀ a o, H a = some o → (∀ qs, o ≠ .tbl qs) → a ≠ tabOf X.K y := fun a o e n z => by
    rw [z, hP] at e
    exact n ps (Option.some.inj e).symm
  have st : Step p H H1 := fun a o e n => but a o e fun z => n (.inr (List.mem_map.mpr ⟨_, hmT, z.symm⟩))
  have pn : PenAt H1 p s := ⟨but _ _ rl.pen.dict (nP _ _ rl.pen.dict fun _ z => by cases z), but _ _ rl.pen.cells (nP _ _ rl.pen.cells fun _ z => by cases z), rl.pen.ok, tabs⟩
  have rl1 := rl.step st pn
  have a1 : Af p H H1 s := ⟨st, pn⟩
  refine ⟨p, Fo G ρ σ, f (hide ρ), s, rl1.fpa, .inl rl1.gca, rl1.fex, pn, fun R2 Ex2 E Q1 h2 q2 x2 => ?_, ?_⟩
  · intro A outer s3 H03 fa c' pins s2 hr3 I
    exact (hb A outer s3 H03 E fa c' hr3).run (fun cls d _ H' => E cls d H') (Fo G ρ σ) H0 (hide ρ) σ H1 s R2 Ex2 Q1 (takes_of rfl rfl rfl rfl) rl1.hide h2 (fun d s' v H' r2 a2 rp => q2 d s' v H' r2 a2 (rp.mono (fun _ _ z _ => z) fun _ z => .inl z))
      (fun c fs s' dx vfs H' e2 a2 xd rf => x2 c fs s' dx vfs H' e2 a2 xd rf) pins s2 I
  · exact wp_mono (wp_quiet hw) (fun d s' r2 v H' a2 rp => qq d s' v H' r2 (a1.trans a2) rp) fun _ _ _ z => z
end
/-! ### an expression of an except suite: fault's fields -/
structure DX (Y : Cx) (p : PL) (i : Nat) (a dx : Addr) (e : Expr) (m : List (Str × D) → Env → M D) : Prop where
  run : ∀ (G : Addr → Prop) (H0 : Hp) (ρ : Env) (σ : L2.St) (H : Hp) (s : Pen) (vfs : List (Str × V)) (fs : List (Str × D)) (R : D → Pen → Prop) (Q : VK), Rel Y.K p G H0 ρ σ H s → σ[i]? = some (some (.ref a)) → H dx = some (.xd vfs) → RepF Y.K p H (Fo G ρ σ) vfs fs → wpM (m fs ρ) s R (fun _ _ _ => False) →
    (∀ d s' v H', R d s' → Af p H H' s' → Rep Y.K p H' (Fo G ρ σ) v d → Q v H') → tE Y e σ H Q
section
variable {Y : Cx} {p : PL} {i : Nat} {a dx : Addr} {e b : Expr} {es : List Expr} {m mb : List (Str × D) → Env → M D} {ms : List (List (Str × D) → Env → M D)} {pos pos' : Pos}
theorem px_never {W : WX} {F : Addr → Prop} {σ : L2.St} {H : Hp} : PX Y p W F σ H fun _ _ _ => False := fun _ _ _ _ _ _ z => z.elim
theorem xd_step {H H' : Hp} {s : Pen} {vfs : List (Str × V)} (pn : PenAt H p s) (st : Step p H H') (e : H dx = some (.xd vfs)) : H' dx = some (.xd vfs) := st dx _ e fun z => by
  rcases z with z | z
  · rw [z, pn.dict] at e
    cases e
  · obtain ⟨t, ht, et⟩ := List.mem_map.mp z
    obtain ⟨ps, q, _⟩ := pn.tabs t ht
    rw [← et, q] at e
    cases e
theorem dx_of {f : Env → M D} (h : DE Y p e f) : DX Y p i a dx e (fun _ => f) := ⟨fun G H0 ρ σ H s vfs fs R Q rl _ _ _ hw q => h.run (fun _ _ _ _ => False) G H0 ρ σ H s R _ Q LamX.takes0 rl hw q px_never⟩
theorem dx_fld {X : Cx} {oe : Obj} {pn : List (Addr × Obj)} {C : Addr} {f n : Str} {p1 : Pos} (T : XfC X.K C) (hno : PySem.W.findIn X.K (.ref C) f = some none) (hz : Zc (.ref C) (some dx) oe) (hf : ∃ vs, oe.data = .fields vs)
    (hN : X.N[i]? = some n := by rfl) (hv : Vis X.env.scope n := by first | exact Or.inl rfl | exact Or.inr (Or.inl rfl) | exact Or.inr (Or.inr rfl)) (hd : (n == ("__debug__" : Str)) = false := by decide) (hcd : (n == ("__classdict__" : Str)) = false := by decide)
    (hb : attributeBase (.Name n p1) f X.env (eval (.Name n p1) X.env) = eval (.Name n p1) X.env := by rfl) : DX (X.suite a ((a, oe) :: pn)) p i a dx (.Attribute (.Name n p1) f pos) (fun fs _ => lift (fs.lookup f)) := by
  refine ⟨fun G H0 ρ σ H s vfs fs R Q rl hi hx rf hw q => tE_of (pe_xf T hno hz hf (pe_var (i := i) hN hv hd hcd) hb) ?_⟩
  cases el : fs.lookup f with
  | none => rw [el] at hw; exact hw.elim
  | some d =>
    rw [el] at hw
    obtain ⟨v, l1, r1⟩ := rf.lookup el
    exact ⟨_, hi, rfl, rfl, dx, vfs, v, rfl, hx, l1, q d s v H hw (.refl rl.pen) r1⟩
/-- several, one after another -/
def seqX : List (List (Str × D) → Env → M D) → List (Str × D) → Env → (List D → M D) → M D
  | [], _, _, k => k []
  | m :: ms, fs, ρ, k => m fs ρ >>= fun x => seqX ms fs ρ fun xs => k (x :: xs)
structure DXA (Y : Cx) (p : PL) (i : Nat) (a dx : Addr) (es : List Expr) (ms : List (List (Str × D) → Env → M D)) : Prop where
  run : ∀ (k : List D → M D) (G : Addr → Prop) (H0 : Hp) (ρ : Env) (σ : L2.St) (H : Hp) (s : Pen) (vfs : List (Str × V)) (fs : List (Str × D)) (R : D → Pen → Prop) (Q : List V → Hp → Prop), Rel Y.K p G H0 ρ σ H s → σ[i]? = some (some (.ref a)) → H dx = some (.xd vfs) → RepF Y.K p H (Fo G ρ σ) vfs fs → wpM (seqX ms fs ρ k) s R (fun _ _ _ => False) →
    (∀ ds s' vs H', wpM (k ds) s' R (fun _ _ _ => False) → Af p H H' s' → RepL Y.K p H' (Fo G ρ σ) vs ds → Q vs H') → tA Y es σ H Q
theorem dxa_nil : DXA Y p i a dx [] [] := ⟨fun k G H0 ρ σ H s vfs fs R Q rl _ _ _ hw q => tA_of pa_nil (show Q [] H from q [] s [] H hw (.refl rl.pen) .nil)⟩
theorem dxa_cons (h : DX Y p i a dx e m) (hr : DXA Y p i a dx es ms) (hs : starEach (e :: es) Y.env = (false, eval e Y.env) :: starEach es Y.env := by rfl) : DXA Y p i a dx (e :: es) (m :: ms) := by
  refine ⟨fun k G H0 ρ σ H s vfs fs R Q rl hi hx rf hw q => tA_of (pa_cons pe_self pa_self hs) ?_⟩
  have hw : wpM (m fs ρ >>= fun x => seqX ms fs ρ fun xs => k (x :: xs)) s R _ := hw
  rw [wp_bind] at hw
  refine h.run G H0 ρ σ H s vfs fs _ _ rl hi hx rf hw fun d s1 v H1 h1 a1 r1 => ?_
  have rl1 := rl.step a1.st a1.pen
  exact hr.run (fun xs => k (d :: xs)) G H0 ρ σ H1 s1 vfs fs R _ rl1 hi (xd_step rl.pen a1.st hx) (rf.mono (a1.st.toF rl.fpa) fun _ z => z) h1 fun ds s2 vs H2 h2 a2 r2 => q (d :: ds) s2 (v :: vs) H2 h2 (a1.trans a2) (.cons (r1.mono (a2.st.toF rl.fpa) fun _ z => z) r2)
theorem dx_tup {x1 : Nat} (h : DXA Y p i a dx es ms) : DX Y p i a dx (.Tuple es x1 pos) (fun fs ρ => seqX ms fs ρ mkTup) := by
  refine ⟨fun G H0 ρ σ H s vfs fs R Q rl hi hx rf hw q => tE_of (pe_tupF pa_self) ?_⟩
  refine h.run mkTup G H0 ρ σ H s vfs fs R _ rl hi hx rf hw fun ds s1 vs H1 h1 a1 r1 => ?_
  unfold mkTup at h1
  cases e : szL ds with
  | false => rw [e] at h1; exact h1.elim
  | true =>
    rw [e] at h1
    refine ⟨szL_ok e r1.length, fun q' o hq nd => ?_⟩
    have sm := same_new (o := .frz o (.tup vs)) hq
    exact q (.tup ds) s1 _ _ h1 (a1.trans (.same a1.pen sm)) (.tup (⟨⟨o, upd_same, nd⟩, (rl.step a1.st a1.pen).fresh hq⟩) (of_decide_eq_true e) (r1.mono ((same_step (p := p) sm).toF rl.fpa) fun _ z => z))
theorem dx_callB {id : String} {x : Str} {r : List V → Hp → VK → Prop} {kk : List D → Option D} (hc : CallR Y (.builtin id) r) (hs : CalS Y.K p r kk) (hm : Y.mg x = none) (hv : bootBuiltins x = some (.builtin id)) (ha : DXA Y p i a dx (e :: es) ms) (hg : Gl Y x := by rfl) (hn : x ≠ "__name__" := by decide) (hdb : (x == ("__debug__" : Str)) = false := by decide)
    (he : starEach (e :: es) Y.env = (false, eval e Y.env) :: starEach es Y.env := by rfl) (hpl : (backTo pos (starEach es Y.env)).any (·.1) = false := by rfl) : DX Y p i a dx (.Call (.Name x pos') (e :: es) [] pos) (fun fs ρ => seqX ms fs ρ fun xs => lift (kk xs)) := by
  refine ⟨fun G H0 ρ σ H s vfs fs R Q rl hi hx rf hw q => tE_of (pe_callB hc hg hm hv pa_self hn hdb he hpl) ?_⟩
  refine ha.run _ G H0 ρ σ H s vfs fs R _ rl hi hx rf hw fun ds s1 vs H1 h1 a1 r1 => ?_
  cases ek : kk ds with
  | none => rw [ek] at h1; exact h1.elim
  | some d =>
    rw [ek] at h1
    exact hs _ H1 vs ds d Q rl.fpa (fun _ z => (rl.step a1.st a1.pen).fresh z) r1 ek fun v H2 sm r2 => q d s1 v H2 h1 (a1.trans (.same a1.pen sm)) r2
theorem dx_cmp {op : CmpOp} {k : D → D → Option D} (h : BinS Y p (compareOp op) k) (ha : DX Y p i a dx e m) (hb : DX Y p i a dx b mb) (hm : behindInMarks op b = false := by first | exact nomark _ | rfl) : DX Y p i a dx (.Compare e [op] [b] pos) (fun fs ρ => m fs ρ >>= fun x => mb fs ρ >>= fun y => lift (k x y)) := by
  obtain ⟨r, h1, h2⟩ := h
  refine ⟨fun G H0 ρ σ H s vfs fs R Q rl hi hx rf hw q => tE_of (pe_cmpR h1 pe_self pe_self hm) ?_⟩
  rw [wp_bind] at hw
  refine ha.run G H0 ρ σ H s vfs fs _ _ rl hi hx rf hw fun d s1 v H1 w1 a1 r1 => ?_
  have rl1 := rl.step a1.st a1.pen
  rw [wp_bind] at w1
  refine hb.run G H0 ρ σ H1 s1 vfs fs _ _ rl1 hi (xd_step rl.pen a1.st hx) (rf.mono (a1.st.toF rl.fpa) fun _ z => z) w1 fun d2 s2 v2 H2 w2 a2 r2 => ?_
  have rl2 := rl1.step a2.st a2.pen
  cases ek : k d d2 with
  | none => rw [ek] at w2; exact w2.elim
  | some z =>
    rw [ek] at w2
    exact h2 _ H2 v v2 d d2 z Q rl.fpa (fun _ z => rl2.fresh z) (r1.mono (a2.st.toF rl.fpa) fun _ z => z) r2 ek fun v3 H3 sm r3 => q z s2 v3 H3 w2 ((a1.trans a2).trans (.same a2.pen sm)) r3
end
/-! ### the clauses -/
abbrev ClM := Str × (List (Str × D) → Env → M D)
inductive Hds (Y : Cx) (p : PL) (n : Str) (i : Nat) (xs : List Str) : List ExceptHandler → List ClM → Prop
  | nil : Hds Y p n i xs [] []
  | cons {y : Str} {e : Expr} {m : List (Str × D) → Env → M D} {np q pos' : Pos} {hds : List ExceptHandler} {l : List ClM} (hy : Names Y y (.ref (He.ga Y.K y))) (hx : ∀ c ∈ xs, PySem.W.exmOne Y.K (.ref (He.ga Y.K c)) (.ref (He.ga Y.K y)) = some (c == y))
      (hd : ∀ (a : Addr) (oe : Obj) (dx : Addr) (pn : List (Addr × Obj)), Zc (.ref (He.ga Y.K y)) (some dx) oe → (∃ vs, oe.data = .fields vs) → DX (Y.suite a ((a, oe) :: pn)) p i a dx e m) (r : Hds Y p n i xs hds l) :
      Hds Y p n i xs (.ExceptHandler (some (.Name y np)) (some n) [.Return (some e) q] pos' :: hds) ((y, m) :: l)
def pickM (xs : List Str) : List ClM → Str → List (Str × D) → Env → M D
  | [], _, _, _ => bad
  | (y, m) :: l, c, fs, ρ => if xs.contains c = true then (if (c == y) = true then m fs ρ else pickM xs l c fs ρ) else bad
def clT (Y : Cx) (p : PL) (e : Expr) (q : Pos) : HT := fun a cls d Dn σ H => ∀ (oe : Obj) (pn : List (Addr × Obj)), Zc cls d oe → (∃ vs, oe.data = .fields vs) → tSs (Y.suite a ((a, oe) :: pn)) [.Return (some e) q] Dn σ H
theorem hds_ex {Y : Cx} {p : PL} {n : Str} {i : Nat} {xs : List Str} (hl0 : i < Y.N.length) : ∀ {hds : List ExceptHandler} {l : List ClM}, Hds Y p n i xs hds l → ∃ lt : List (Value × HT), HdsA Y n hds lt ∧
    ∀ (W : WX) (Dn : Ends) (c : Str) (fs : List (Str × D)) (dx : Addr) (vfs : List (Str × V)) (σ : L2.St) (G : Addr → Prop) (H0 H : Hp) (ρ : Env) (s : Pen) (R : D → Pen → Prop), wpM (pickM xs l c fs ρ) s R (fun _ _ _ => False) → H dx = some (.xd vfs) → RepF Y.K p H G vfs fs →
      (∀ a, σ.length = Y.N.length → H a = none → Rel Y.K p G H0 ρ (σ.set i (some (.ref a))) H s ∧ ∀ b, Fo G ρ (σ.set i (some (.ref a))) b → G b) → (∀ d s' v H', R d s' → Af p H H' s' → Rep Y.K p H' G v d → Dn.rt v H') → wAll Y.K i W Dn lt (.ref (He.ga Y.K c)) (some dx) σ H := by
  intro hds l h
  induction h with
  | nil => exact ⟨[], .nil, fun W D c fs dx vfs σ G H0 H ρ s R hw => hw.elim⟩
  | @cons y e m np q pos' hds l hy hx hd r ih =>
    obtain ⟨lt, hA, hw0⟩ := ih
    refine ⟨(.ref (He.ga Y.K y), clT Y p e q) :: lt, .cons hy (fun a oe cls d pn hz hf => ⟨fun pins s σ H D I h => h oe pn hz hf pins s I⟩) hA, fun W D c fs dx vfs σ G H0 H ρ s R hw ex rf hrel hq => ?_⟩
    replace hw : wpM (if xs.contains c = true then (if (c == y) = true then m fs ρ else pickM xs l c fs ρ) else bad) s R (fun _ _ _ => False) := hw
    by_cases hc : xs.contains c = true
    case neg => rw [if_neg hc] at hw; exact hw.elim
    rw [if_pos hc] at hw
    refine ⟨_, hx c (by simpa using hc), fun hcy a na oe pn hz hf pins sh I => ?_, fun hcy => ?_⟩
    · rw [if_pos hcy] at hw
      have ecy : c = y := by simpa using hcy
      subst ecy
      have hlen : σ.length = Y.N.length := by
        have := I.len
        simpa using this
      obtain ⟨rl, sub⟩ := hrel a hlen na
      refine tSs_of (pss_one (ps_ret pe_self)) ?_ pins sh I
      refine (hd a oe dx pn hz hf).run G H0 ρ _ H s vfs fs R _ rl (List.getElem?_set_self (by rw [hlen]; exact hl0)) ex (rf.mono (fun _ _ z _ => z) sub) hw fun d s' v H' hr a1 r1 => ?_
      exact hq d s' v H' hr a1 (r1.mono (fun _ _ z _ => z) fun _ z => .inl z)
    · rw [if_neg (by rw [hcy]; decide)] at hw
      exact hw0 W D c fs dx vfs σ G H0 H ρ s R hw ex rf hrel hq
end Say

namespace Say
open LamX L2 PyProof.Rows PySem.Spec PySem

/-! ### def x(a): try: a() / except ..: return .. / rest -/
def faultM (xs : List Str) (n : Nat) (l : List ClM) (fR : S) (m : M D) : M D := catchM m (fun _ => fR (fun _ => pure .non) pure (fun _ => bad) (fun _ => bad) (List.replicate n .no)) (fun c fs => pickM xs l c fs (List.replicate n .no))
section
variable {P : Program} {w : World} {K :
    PySem.W.Frag} {mg : Str → Option Value} {base : Heap}
theorem fault_taker {x a n : Str} {st : Stmt} {fd : FuncData} {Ng : List Str} {xs : List Str} {l : List ClM} {fR : S} {h₀ : ExceptHandler} {hds : List ExceptHandler} {rest : List Stmt} {p1 p2 p3 p4 : Pos} (F : FunD K x x (defArgs st) (defBody st) (defScope st) [] [] (He.ga K x) fd) (Sc : FnScope Ng [a] (defScope st)) (gm : mg x = some (.ref (He.ga K x))) (hb : Binds K fd [a] [])
    (split : defBody st = .Try [.Expr (.Call (.Name a p1) [] [] p2) p3] (h₀ :: hds) [] [] p4 :: rest) (eN : Ng = [a, n]) (hv : Vis (defScope st) a) (hln : (defScope st).names.lookup n = some .local) (ha : (a == ("__debug__" : Str)) = false) (ha2 : (a == ("__classdict__" : Str)) = false)
    (hh : ∀ (cdv : Value) (A : Around) (outer : List PySem.Env) (s : Shared) (H : Hp) (p : PL), RoomG 1 (A.deeper (envOfC x (defScope st) s.heap.objs.size (He.ga K x) cdv)) → Hds (cxOf C8.CX0 P w K mg base Ng x (defScope st) (He.ga K x) cdv A outer s H C8.E0).nox p n 1 xs (h₀ :: hds) l)
    (hrest : ∀ (cdv : Value) (A : Around) (outer : List PySem.Env) (s : Shared) (H : Hp) (p : PL), DSs (cxOf C8.CX0 P w K mg base Ng x (defScope st) (He.ga K x) cdv A outer s H C8.E0).nox p rest fR)
    (hsw : ∀ (env : PySem.Env), swapsWith (.Call (.Name a p1) [] [] p2) none p3.line env = pure false) :
    Taker P w K mg base x (TTs K (faultM xs 2 l fR)) := by
  obtain ⟨oc, od, dflt, kwd, doc, pm, an, cdv, ct, sl, rfl, lk, hcd, _⟩ := F.ex
  refine ⟨_, _, _, _, dflt, kwd, doc, pm, cdv, ct, oc, an, od, sl, Ng, a, gm, F.kp, lk, hcd, hb, Sc, by rw [eN]; rfl, hv, ha, ha2, fun X q e1 e2 e3 e4 e5 hr f c' s H Q tl act hco tt => ?_⟩
  subst e1 e2 e3 e4 e5
  obtain ⟨p, G, m, s0, gpa, gca, gex, pn, real, hw⟩ := tt
  have hroom : RoomG 1 (X.A.deeper (envOfC x (defScope st) s.heap.objs.size (He.ga X.K x) cdv)) := ⟨hr.toRoom.deeper _, hr.gd⟩
  obtain ⟨lt, hA, hpick⟩ := hds_ex (by show 1 < Ng.length; rw [eN]; exact Nat.lt_succ_self 1) (hh cdv X.A X.stack s H p hroom)
  have hN1 : (cxOf C8.CX0 X.prog X.w X.K X.mg X.base Ng x (defScope st) (He.ga X.K x) cdv X.A X.stack s H C8.E0).nox.N[1]? = some n := by show Ng[1]? = _; rw [eN]; rfl
  have hl2 : (L2.start Ng [V.ref f]).length = 2 := by rw [eN]; rfl
  refine ⟨_, pss_self, ?_⟩
  rw [split]
  refine tSs_of (pss_cons (ps_tryA (i := 1) (n := n) (l := lt) (Wout := fun _ _ _ _ => False) (tb := fun W D σ H' => ∃ Ech : XK, (∀ cls d σ' H'', Ech cls d H'' → W cls d σ' H'') ∧ σ[0]? = some (some (.ref f)) ∧ H' c' = some (CodeO c' q) ∧ tl Ech H' fun _ H'' => D.nx σ H'')
    rfl rfl Sc.nd hN1 hln LamX.takes0 (fun W pn xe tk _ => ?_) hA) pss_self) ?_
  · constructor
    rintro pins s2 σ2 H2 Dn I ⟨Ech, up, rest⟩
    exact (pss_one (ps_expr (act W pn xe Ech p1 p2 tk up) (hsw _))).run pins s2 σ2 H2 Dn I rest
  · unfold faultM at hw
    rw [wp_catch] at hw
    refine ⟨fun cls d H'' => ∀ σ', wAll X.K 1 (fun _ _ _ _ => False) _ lt cls d σ' H'', fun cls d σ' H'' z => z σ', by rw [eN]; rfl, hco, real _ _ _ _ hw (fun d s' v H' w1 a1 r1 => ?_) fun c fs s' dx vfs H' w1 a1 xd rf σ' => ?_⟩
    · have rl : Rel X.K p G H (List.replicate 2 .no) (L2.start Ng [V.ref f]) H' s' := rel_no gpa gca (gex_step gex a1.st a1.pen) a1.st a1.pen hl2
      refine (hrest cdv X.A X.stack s H p).run (fun _ _ _ _ => False) G H _ _ H' s' _ _ _ _ _ (fun _ _ _ => False) _ LamX.takes0 rl w1 ⟨fun ρ σ H2 s2 r2 w2 => ?_, fun d s2 v H2 st2 pn2 rp w2 => w2 v H2 ⟨st2, pn2⟩ rp, fun ρ σ H2 s2 r2 w2 => w2.elim, fun ρ σ H2 s2 r2 w2 => w2.elim⟩ fun c fs s' σ dx vfs H z => z.elim
      exact w2 .non H2 ⟨r2.old, r2.pen⟩ .non
    · refine hpick _ _ c fs dx vfs σ' G H H' (List.replicate 2 .no) s' _ w1 xd rf (fun a hl na => ?_) fun d s2 v H2 r2 a2 rp => r2 v H2 (a1.trans a2) rp
      have hl : σ'.length = 2 := by rw [hl]; show Ng.length = 2; rw [eN]; rfl
      refine ⟨rel_no gpa gca (gex_step gex a1.st a1.pen) a1.st a1.pen (by rw [List.length_set]; exact hl), fun b z => ?_⟩
      rcases z with z | ⟨j, y, e, hy, _⟩
      · exact z
      · rw [List.eq_of_mem_replicate (List.mem_of_getElem? e)] at hy
        cases hy
end
/-! ### try: e / except .. as n: return .. -/
def noS : Option Sl → M Unit
  | some .no => pure ()
  | _ => bad
def sTryE (i : Nat) (xs : List Str) (f : En) (l : List ClM) : S := fun k r _ _ ρ => noS ρ[i]? >>= fun _ => catchM (f ρ) (fun _ => k ρ) fun c fs => quiet (pickM xs l c fs ρ) >>= r
end Say

namespace Say
open L2 PyProof.Rows PySem.Spec PySem

/-! ### repr(e) -/
def rRepr (K : PySem.W.Frag) : List V → Hp → VK → Prop := fun xs H Q => ∃ (v : V) (d : PyData), xs = [v] ∧ Dp K H v d ∧ d.canLay0 = true ∧ d.showable = true ∧ d.depth ≤ 60 ∧ d.shown.length ≤ sizeLine ∧ Q (.str d.shown) H
theorem call_repr {X : Cx} (hu : X.A.units + 70 < cLine) (hg : X.A.guards = some []) : CallR X (.builtin "repr") (rRepr X.K) := by
  rintro pins s σ H _ us Q I r ⟨v, d, rfl, dp, hl, hs, hd, hz, q⟩
  obtain ⟨u, rfl, ru⟩ := id (vals1 r)
  obtain ⟨as, rd⟩ := Dp.reads I d v u dp ru
  have back : ∀ (h' : Heap) (t : Tok) (tk : Nat), (∀ b o, s.heap.get? b = some o → h'.get? b = some o) → EP X pins σ Q (.str d.shown t) { s with heap := h', toks := tk } := fun h' t tk k => ⟨.str d.shown, H, I.kept k, ⟨_, rfl⟩, q⟩
  cases dp with
  | non =>
    cases (show u = .none from ru)
    exact PySem.P.repr_of_none (back _ _ _ fun _ _ e => e)
  | bl b =>
    cases (show u = .bool b from ru)
    exact PySem.P.repr_of_bool (by have := back s.heap s.toks (s.toks + 1) fun _ _ e => e; cases b <;> exact this)
  | int i =>
    obtain ⟨t, rfl⟩ := ru
    have hs : i.natAbs.log2 < 1920 := of_decide_eq_true (by simpa only [PyData.showable] using hs)
    exact PySem.P.repr_of_int hs (back _ _ _ fun _ _ e => e)
  | str x =>
    obtain ⟨t, rfl⟩ := ru
    exact PySem.P.repr_of_str (back _ _ _ fun _ _ e => e) hz
  | lst _ _ =>
    cases (show u = .ref _ from ru)
    exact repr_of_reads' rd hs (PyData.noDict_hsm (PyData.hasDict_of_canLay _ hl)) hg (by omega) (fun _ _ e => e) (fun h' t tk k => back h' t tk k) hz
  | tup _ _ =>
    cases (show u = .ref _ from ru)
    exact repr_of_reads' rd hs (PyData.noDict_hsm (PyData.hasDict_of_canLay _ hl)) hg (by omega) (fun _ _ e => e) (fun h' t tk k => back h' t tk k) hz
def shows (d : D) : Bool := d.plain && (d.toPy.showable && decide (d.toPy.shown.length ≤ 16777216))
def reprD : List D → Option D
  | [d] => if shows d = true then some (.str d.toPy.shown) else none
  | _ => none
section
variable {X : Cx} {p : PL} {e : Expr} {fs : List (Env → M D)} {pos pos' : Pos} {k : Nat} {A : Around}
theorem cal_repr : CalS X.K p (rRepr X.K) reprD := fun F H vs ds d Q hp hf r e q => by
  unfold reprD at e
  split at e
  · obtain ⟨e1, e2⟩ := iteSome e
    subst e2
    cases r with
    | cons r1 r2 =>
      cases r2
      obtain ⟨q1, q2⟩ := Bool.and_eq_true_iff.mp e1
      obtain ⟨q3, q4⟩ := Bool.and_eq_true_iff.mp q2
      obtain ⟨c1, c2⟩ := plainN_ok 60 _ q1
      exact ⟨_, _, rfl, r1.toDp 60 q1, c1, q3, c2, by rw [sizeLine_eq]; exact of_decide_eq_true q4, q _ H (Same.refl H) (.str _ (by rw [sizeLine_eq]; exact of_decide_eq_true q4))⟩
  · cases e
theorem de_repr (hr : RoomG k X.A) (hm : X.mg "repr" = none) (ha : DA X p [e] fs) (hg : Gl X "repr" := by rfl) (he : starEach (e :: []) X.env = (false, eval e X.env) :: starEach [] X.env := by rfl) (hpl : (backTo pos (starEach [] X.env)).any (·.1) = false := by rfl) :
    DE X p (.Call (.Name "repr" pos') [e] [] pos) (fun ρ => seqA fs ρ fun xs => lift (reprD xs)) := de_callB (call_repr (by have := hr.toRoom.un; omega) hr.gd) cal_repr hm (by decide +kernel) ha hg (by decide) (by decide) he hpl
theorem dx_repr {i : Nat} {a dx : Addr} {ms : List (List (Str × D) → Env → M D)} (hr : RoomG k A) (hm : X.mg "repr" = none) (ha : DXA X p i a dx [e] ms) (hu : X.A.units = A.units := by rfl) (hgd : X.A.guards = A.guards := by rfl) (hg : Gl X "repr" := by rfl) (he : starEach (e :: []) X.env = (false, eval e X.env) :: starEach [] X.env := by rfl) (hpl : (backTo pos (starEach [] X.env)).any (·.1) = false := by rfl) :
    DX X p i a dx (.Call (.Name "repr" pos') [e] [] pos) (fun fs ρ => seqX ms fs ρ fun xs => lift (reprD xs)) := dx_callB (call_repr (by have := hr.toRoom.un; rw [hu]; omega) (hgd.trans hr.gd)) cal_repr hm (by decide +kernel) ha hg (by decide) (by decide) he hpl
end
end Say
namespace Say
open L2 PyProof.Rows PySem.Spec PySem
theorem dx_len {X : Cx} {p : PL} {e : Expr} {pos pos' : Pos} {i : Nat} {a dx : Addr} {ms : List (List (Str × D) → Env → M D)} (hm : X.mg "len" = none) (ha : DXA X p i a dx [e] ms) (hg : Gl X "len" := by rfl) (he : starEach (e :: []) X.env = (false, eval e X.env) :: starEach [] X.env := by rfl) (hpl : (backTo pos (starEach [] X.env)).any (·.1) = false := by rfl) :
    DX X p i a dx (.Call (.Name "len" pos') [e] [] pos) (fun fs ρ => seqX ms fs ρ fun xs => lift (lenD xs)) := dx_callB (call_len_seq.or call_len_str) (fun F H vs ds d Q hp hf r e q => by
  unfold lenD at e
  split at e
  · cases e
    cases r with
    | cons r1 r2 =>
      cases r2
      cases r1 with
      | lst h1 n1 hz l1 => exact .inl ⟨_, _, rfl, .inl (.inl (.inl h1)), q _ H (Same.refl H) (by rw [l1.length]; exact .int _)⟩
  · cases e
    cases r with
    | cons r1 r2 =>
      cases r2
      cases r1 with
      | tup h1 hz l1 => exact .inl ⟨_, _, rfl, .inr (tupSq h1), q _ H (Same.refl H) (by rw [l1.length]; exact .int _)⟩
  · cases e
    cases r with
    | cons r1 r2 =>
      cases r2
      cases r1 with
      | str s hs => exact .inr ⟨_, rfl, hs, q _ H (Same.refl H) (.int _)⟩
  · cases e) hm boot_len ha hg (by decide) (by decide) he hpl
/-! ### words of the printed text -/
def xFld (f : Str) : List (Str × D) → Env → M D := fun fs _ => lift (fs.lookup f)
def xTup (ms : List (List (Str × D) → Env → M D)) : List (Str × D) → Env → M D := fun fs ρ => seqX ms fs ρ mkTup
def xBlt (g : List D → Option D) (ms : List (List (Str × D) → Env → M D)) : List (Str × D) → Env → M D := fun fs ρ => seqX ms fs ρ fun xs => lift (g xs)
def xBin (k : D → D → Option D) (a b : List (Str × D) → Env → M D) : List (Str × D) → Env → M D := fun fs ρ => a fs ρ >>= fun x => b fs ρ >>= fun y => lift (k x y)
def dLam (mF : M D → M D) (f : En) : En := fun ρ => quiet (mF (f (hide ρ)))
def xmChk (K : PySem.W.Frag) (xs : List Str) : Bool := xs.all fun c => xs.all fun y => decide (PySem.W.exmOne K (.ref (He.ga K c)) (.ref (He.ga K y)) = some (c == y))
theorem xm_ok {K : PySem.W.Frag} {xs : List Str} (h : xmChk K xs = true) : ∀ c ∈ xs, ∀ y ∈ xs, PySem.W.exmOne K (.ref (He.ga K c)) (.ref (He.ga K y)) = some (c == y) := fun c hc y hy => of_decide_eq_true (List.all_eq_true.mp (List.all_eq_true.mp h c hc) y hy)
def xcChk (K : PySem.W.Frag) (xf : List (Str × List Str)) : Bool := xf.all fun q => excChk K q.1 q.2
theorem xc_ok {K : PySem.W.Frag} {xf : List (Str × List Str)} (h : xcChk K xf = true) {x : Str} {fl : List Str} (m : (x, fl) ∈ xf) : excChk K x fl = true := List.all_eq_true.mp h _ m
end Say

namespace Say
open L2 PyProof.Rows PySem.Spec PySem

/-! ### several at once, some of the names captured: by way of a tuple -/
section
variable {X : Cx} {p : PL} {e : Expr} {pos : Pos}
theorem asgV {es : List Expr} {is : List Nat} {fs : List (Env → M Sl)} {W : WX} {G : Addr → Prop} {H0 : Hp} {ρ : Env} {σ : L2.St} {H : Hp} {s : Pen} {k : Env → M D} {r : D → M D} {b c : Env → M D} {R : D → Pen → Prop} {Ex : XR} {Dn : Ends} (h1 : DVs X p es fs) (tk : Takes X W) (rl : Rel X.K p G H0 ρ σ H s) (hw : wpM (sParV is fs k r b c ρ) s R Ex) (wy : Way X.K p G H0 k r b c R Ex Dn) (px : PXs X.K p W G H0 Ex) (hl : is.length = fs.length) :
    tA X es σ H (fun vs H1 => vs.length = fs.length ∧ ∀ H2, Same H1 H2 → Dn.nx (setS σ is vs) H2) :=
  parV_run (Dn := { Dn with nx := fun σ' H1 => ∀ H2, Same H1 H2 → Dn.nx σ' H2 }) h1 tk rl hw ⟨fun ρ σ H s rl w1 H2 sm => wy.nx ρ σ H2 s (rl.step (same_step sm) (rl.pen.same sm)) w1, wy.rt, wy.bk, wy.ct⟩ px hl
theorem ds_asgV2 {i j : Nat} {x y : Str} {e2 : Expr} {px' py pt pt2 : Pos} {kt k2 : Nat} {f1 f2 : Env → M Sl} (hN : X.N.Nodup) (h1 : DVs X p [e, e2] [f1, f2]) (hi : X.N[i]? = some x := by rfl) (hj : X.N[j]? = some y := by rfl)
    (hx : L2.Loc X.env.scope x := by first | exact Or.inl rfl | exact Or.inr rfl) (hy : L2.Loc X.env.scope y := by first | exact Or.inl rfl | exact Or.inr rfl) (fx : X.fn x = true ∨ X.env.scope.names.lookup x = some .local := by first | exact .inl rfl | exact .inr rfl) (fy : X.fn y = true ∨ X.env.scope.names.lookup y = some .local := by first | exact .inl rfl | exact .inr rfl) (hc : X.calm = true := by rfl)
    (hw : swappedStores [.Tuple [.Name x px', .Name y py] kt pt] (.Tuple [e, e2] k2 pt2) X.env = pure none := by rfl)
    (hs : swapsWithSole [.Tuple [.Name x px', .Name y py] kt pt] (.Tuple [e, e2] k2 pt2) pos.line X.env = pure false := by rfl)
    (h2 : (assignEach [.Tuple [.Name x px', .Name y py] kt pt] X.env).map (·.2) = [assign (.Tuple [.Name x px', .Name y py] kt pt) X.env] := by rfl)
    (hn : (assignEach [.Name x px', .Name y py] X.env).length = 2 := by rfl) (hst : (assignEach [.Name x px', .Name y py] X.env).findIdx? (·.1) = none := by rfl)
    (c1 : (assignEach [.Name x px', .Name y py] X.env).map (·.2) = assign (.Name x px') X.env :: (assignEach [.Name y py] X.env).map (·.2) := by rfl) (c2 : (assignEach [.Name y py] X.env).map (·.2) = assign (.Name y py) X.env :: (assignEach [] X.env).map (·.2) := by rfl) :
    DS X p (.Assign [.Tuple [.Name x px', .Name y py] kt pt] (.Tuple [e, e2] k2 pt2) pos) (sParV [i, j] [f1, f2]) := by
  refine ⟨fun W G H0 ρ σ H s k r b c R Ex Dn tk rl hww wy px => tS_of (ps_asg (pe_tupF pa_self) (pg_tup hc (pgs_cons (pg_name hN hi hx fx) (pgs_cons (pg_name hN hj hy fy) pgs_nil c2) c1) hn hst) hs hw h2) ?_⟩
  refine fun pos pins sh I => thn (asgV h1 tk rl hww wy px rfl pos pins sh I) fun us s1 ⟨vs, H1, I1, r1, hl, q1⟩ => ⟨vs, H1, I1, r1, ?_⟩
  match vs, hl, q1 with
  | [v, w], _, q1 => exact ⟨by rw [sizeLine_eq]; simp, fun q o hq nd => ⟨q, [v, w], rfl, (Tp.sq (H := upd H1 q (.frz o (.tup [v, w]))) ⟨o, upd_same, nd⟩), rfl, v, [w], rfl, w, [], rfl, rfl, q1 _ (same_new hq)⟩⟩
theorem ds_asgV3 {i j l : Nat} {x y z : Str} {e2 e3 : Expr} {px' py pz pt pt2 : Pos} {kt k2 : Nat} {f1 f2 f3 : Env → M Sl} (hN : X.N.Nodup) (h1 : DVs X p [e, e2, e3] [f1, f2, f3]) (hi : X.N[i]? = some x := by rfl) (hj : X.N[j]? = some y := by rfl) (hk : X.N[l]? = some z := by rfl)
    (hx : L2.Loc X.env.scope x := by first | exact Or.inl rfl | exact Or.inr rfl) (hy : L2.Loc X.env.scope y := by first | exact Or.inl rfl | exact Or.inr rfl) (hz : L2.Loc X.env.scope z := by first | exact Or.inl rfl | exact Or.inr rfl) (fx : X.fn x = true ∨ X.env.scope.names.lookup x = some .local := by first | exact .inl rfl | exact .inr rfl) (fy : X.fn y = true ∨ X.env.scope.names.lookup y = some .local := by first | exact .inl rfl | exact .inr rfl) (fz : X.fn z = true ∨ X.env.scope.names.lookup z = some .local := by first | exact .inl rfl | exact .inr rfl) (hc : X.calm = true := by rfl)
    (hw : swappedStores [.Tuple [.Name x px', .Name y py, .Name z pz] kt pt] (.Tuple [e, e2, e3] k2 pt2) X.env = pure none := by rfl)
    (hs : swapsWithSole [.Tuple [.Name x px', .Name y py, .Name z pz] kt pt] (.Tuple [e, e2, e3] k2 pt2) pos.line X.env = pure false := by rfl)
    (h2 : (assignEach [.Tuple [.Name x px', .Name y py, .Name z pz] kt pt] X.env).map (·.2) = [assign (.Tuple [.Name x px', .Name y py, .Name z pz] kt pt) X.env] := by rfl)
    (hn : (assignEach [.Name x px', .Name y py, .Name z pz] X.env).length = 3 := by rfl) (hst : (assignEach [.Name x px', .Name y py, .Name z pz] X.env).findIdx? (·.1) = none := by rfl)
    (c1 : (assignEach [.Name x px', .Name y py, .Name z pz] X.env).map (·.2) = assign (.Name x px') X.env :: (assignEach [.Name y py, .Name z pz] X.env).map (·.2) := by rfl) (c2 : (assignEach [.Name y py, .Name z pz] X.env).map (·.2) = assign (.Name y py) X.env :: (assignEach [.Name z pz] X.env).map (·.2) := by rfl) (c3 : (assignEach [.Name z pz] X.env).map (·.2) = assign (.Name z pz) X.env :: (assignEach [] X.env).map (·.2) := by rfl) :
    DS X p (.Assign [.Tuple [.Name x px', .Name y py, .Name z pz] kt pt] (.Tuple [e, e2, e3] k2 pt2) pos) (sParV [i, j, l] [f1, f2, f3]) := by
  refine ⟨fun W G H0 ρ σ H s k r b c R Ex Dn tk rl hww wy px => tS_of (ps_asg (pe_tupF pa_self) (pg_tup hc (pgs_cons (pg_name hN hi hx fx) (pgs_cons (pg_name hN hj hy fy) (pgs_cons (pg_name hN hk hz fz) pgs_nil c3) c2) c1) hn hst) hs hw h2) ?_⟩
  refine fun pos pins sh I => thn (asgV h1 tk rl hww wy px rfl pos pins sh I) fun us s1 ⟨vs, H1, I1, r1, hl, q1⟩ => ⟨vs, H1, I1, r1, ?_⟩
  match vs, hl, q1 with
  | [v, w, u], _, q1 => exact ⟨by rw [sizeLine_eq]; simp, fun q o hq nd => ⟨q, [v, w, u], rfl, (Tp.sq (H := upd H1 q (.frz o (.tup [v, w, u]))) ⟨o, upd_same, nd⟩), rfl, v, [w, u], rfl, w, [u], rfl, u, [], rfl, rfl, q1 _ (same_new hq)⟩⟩
end
end Say

namespace Say
open L2 PyProof.Rows PySem.Spec PySem

/-! ### a dict written out: {i: j}, {} -/
theorem same_twice {H : Hp} {q : Addr} {o o2 : HO} (h : H q = none) : Same H (upd (upd H q o) q o2) := fun a u e => by
  rw [upd_ne (ne_of_none e h), upd_ne (ne_of_none e h)]
  exact e
section
variable {X : Cx} {p : PL} {pos pk pv : Pos} {a b : Nat}
theorem de_d1 {i j : Int} : DE X p (.Dict [some (.Constant (.int i) a pk)] [.Constant (.int j) b pv] pos) (fun _ => pure (.dct [(.int i, .int j)])) := by
  refine ⟨fun W G H0 ρ σ H s R Ex Q tk rl hw q px => tE_of (pe_disp (pps_cons pe_int pe_int pps_nil) rfl rfl (fun z => by cases z) (by show 1 ≤ 15; decide)) ?_⟩
  intro r hr
  refine ⟨upd_same, [(.inl i, .int j)], rfl, Nat.succ_le_succ (Nat.zero_le 14), ?_⟩
  have sm := same_twice (o := .dK []) (o2 := .dK (mergeK [] [((.inl i : Key), V.int j)])) hr
  exact q _ s _ _ hw (.same rl.pen sm) (.dct upd_same (rl.fresh hr) (.int (.int j) .nil))
theorem de_d0 : DE X p (.Dict [] [] pos) (fun _ => pure (.dct [])) := by
  refine ⟨fun W G H0 ρ σ H s R Ex Q tk rl hw q px => tE_of pe_dnewK fun r hr => ?_⟩
  exact q _ s _ _ hw (.same rl.pen (same_new hr)) (.dct upd_same (rl.fresh hr) .nil)
end
/-! ### repr of such a dict -/
def rReprK : List V → Hp → VK → Prop := fun xs H Q => ∃ (a : Addr) (i j : Int), xs = [.ref a] ∧ H a = some (.dK [(.inl i, .int j)]) ∧ (PyData.dict [(.int i, .int j)]).showable = true ∧ (PyData.dict [(.int i, .int j)]).shown.length ≤ sizeLine ∧ Q (.str (PyData.dict [(.int i, .int j)]).shown) H
theorem call_reprK {X : Cx} (hu : X.A.units + 70 < cLine) (hg : X.A.guards = some []) : CallR X (.builtin "repr") rReprK := by
  rintro pins s σ H _ us Q I r ⟨a, i, j, rfl, e, hs, hz, q⟩
  obtain ⟨u, rfl, ru⟩ := id (vals1 r)
  cases (show u = .ref a from ru)
  obtain ⟨z, sy, vs, kv, dd⟩ := dk_of I.hok e
  have rd : ∃ as, Reads s.heap (.ref a) (.dict [(.int i, .int j)]) as ∧ sysModules ∉ as := by
    cases kv with
    | cons h1 h2 =>
      cases h2
      rename_i y
      obtain ⟨k, v⟩ := y
      cases h1.1
      obtain ⟨t, et⟩ := h1.2
      refine ⟨[a], PyProof.V.reads_dictOf (enc := fun k => match k with | .inl i => .int i | .inr x => .str x) (bs := []) (fun k key hk => ?_) dd ?_, fun m => ?_⟩
      · rcases keyIs_shape hk with ⟨i, t, rfl, rfl⟩ | ⟨x, t, rfl, rfl⟩
        · exact Reads.int i t
        · exact Reads.str x t
      · have one : Reads s.heap v (.int j) [] := by
          have e2 : v = .int j t := et
          rw [e2]
          exact Reads.int j t
        exact PyProof.V.PairsRead.cons one .nil
      · rw [List.mem_singleton] at m
        rw [m] at sy
        simp at sy
  obtain ⟨as, r1, no⟩ := rd
  exact repr_of_reads' r1 hs (fun _ => no) hg (by
    have : (PyData.dict [(.int i, .int j)]).depth ≤ 3 := by simp [PyData.depth, PyData.depthKv]
    omega) (fun _ _ e => e) (fun h' t tk k => ⟨.str _, H, I.kept k, ⟨_, rfl⟩, q⟩) hz
def showsK (i j : Int) : Bool := (PyData.dict [(.int i, .int j)]).showable && decide ((PyData.dict [(.int i, .int j)]).shown.length ≤ 16777216)
def reprK : List D → Option D
  | [.dct [(.int i, .int j)]] => if showsK i j = true then some (.str (PyData.dict [(.int i, .int j)]).shown) else none
  | _ => none
def reprD2 (xs : List D) : Option D := (reprD xs).or (reprK xs)
section
variable {X : Cx} {p : PL} {e : Expr} {fs : List (Env → M D)} {pos pos' : Pos} {k : Nat} {A : Around}
theorem cal_reprK : CalS X.K p rReprK reprK := fun F H vs ds d Q hp hf r e q => by
  unfold reprK at e
  split at e
  · rename_i i j
    obtain ⟨e1, e2⟩ := iteSome e
    subst e2
    obtain ⟨q3, q4⟩ := Bool.and_eq_true_iff.mp e1
    cases r with
    | cons r1 r2 =>
      cases r2
      cases r1 with
      | dct h1 n1 l1 =>
        cases l1 with
        | int h2 l2 =>
          cases h2
          cases l2
          exact ⟨_, i, j, rfl, h1, q3, by rw [sizeLine_eq]; exact of_decide_eq_true q4, q _ H (Same.refl H) (.str _ (by rw [sizeLine_eq]; exact of_decide_eq_true q4))⟩
  · cases e
theorem cal_or {K : PySem.W.Frag} {r1 r2 : List V → Hp → VK → Prop} {g1 g2 : List D → Option D} (h1 : CalS K p r1 g1) (h2 : CalS K p r2 g2) : CalS K p (fun vs H Q => r1 vs H Q ∨ r2 vs H Q) (fun xs => (g1 xs).or (g2 xs)) := fun F H vs ds d Q hp hf r e q => by
  have e : (g1 ds).or (g2 ds) = some d := e
  cases e1 : g1 ds with
  | some z =>
    rw [e1] at e
    cases e
    exact .inl (h1 F H vs ds d Q hp hf r e1 q)
  | none =>
    rw [e1] at e
    exact .inr (h2 F H vs ds d Q hp hf r e q)
theorem de_repr2 (hr : RoomG k X.A) (hm : X.mg "repr" = none) (ha : DA X p [e] fs) (hg : Gl X "repr" := by rfl) (he : starEach (e :: []) X.env = (false, eval e X.env) :: starEach [] X.env := by rfl) (hpl : (backTo pos (starEach [] X.env)).any (·.1) = false := by rfl) :
    DE X p (.Call (.Name "repr" pos') [e] [] pos) (fun ρ => seqA fs ρ fun xs => lift (reprD2 xs)) :=
  de_callB ((call_repr (by have := hr.toRoom.un; omega) hr.gd).or (call_reprK (by have := hr.toRoom.un; omega) hr.gd)) (cal_or cal_repr cal_reprK) hm (by decide +kernel) ha hg (by decide) (by decide) he hpl
theorem dx_repr2 {i : Nat} {a dx : Addr} {ms : List (List (Str × D) → Env → M D)} (hr : RoomG k A) (hm : X.mg "repr" = none) (ha : DXA X p i a dx [e] ms) (hu : X.A.units = A.units := by rfl) (hgd : X.A.guards = A.guards := by rfl) (hg : Gl X "repr" := by rfl) (he : starEach (e :: []) X.env = (false, eval e X.env) :: starEach [] X.env := by rfl) (hpl : (backTo pos (starEach [] X.env)).any (·.1) = false := by rfl) :
    DX X p i a dx (.Call (.Name "repr" pos') [e] [] pos) (fun fs ρ => seqX ms fs ρ fun xs => lift (reprD2 xs)) :=
  dx_callB ((call_repr (by have := hr.toRoom.un; rw [hu]; omega) (hgd.trans hr.gd)).or (call_reprK (by have := hr.toRoom.un; rw [hu]; omega) (hgd.trans hr.gd))) (cal_or cal_repr cal_reprK) hm (by decide +kernel) ha hg (by decide) (by decide) he hpl
end
@[simp] def dDisp (i j : Int) : En := fun _ => pure (.dct [(.int i, .int j)])
@[simp] def dDis0 : En := fun _ => pure (.dct [])
end Say

namespace Say
open LamX L2 PyProof.Rows PySem.Spec PySem

/-! ### defs that make lambdas, or call such: the tables are known -/
section
variable {P : Program} {w : World} {K :
    PySem.W.Frag} {mg : Str → Option Value} {base : Heap}
/-- as SpM, at the tables T alone -/
def SpT (K : PySem.W.Frag) (T : List (Addr × Str)) (n : Nat) (m : List D → M D) : Sp := fun vs H Q E => ∃ (p : PL) (G : Addr → Prop) (ds : List D) (s : Pen), p.T = T ∧ ((∀ a, p.no a → G a) ∧ G p.ca ∧ (∀ a, G a → ∃ o, H a = some o) ∧ PenAt H p s) ∧ vs.length = n ∧ RepL K p H G vs ds ∧
  wpM (m ds) s (fun d s' => ∀ v H', Af p H H' s' → Rep K p H' G v d → Q v H') (fun c fs s' => ∀ dx vfs H', Af p H H' s' → ExD H' dx vfs → RepF K p H' G vfs fs → E (.ref (He.ga K c)) (some dx) H')
structure HasT (P : Program) (w : World) (K : PySem.W.Frag) (mg : Str → Option Value) (base : Heap) (T : List (Addr × Str)) (k : Nat) (x : Str) (n : Nat) (m : List D → M D) : Prop where
  ex : ∃ (f : Addr) (fd : FuncData) (ps : List Str), mg x = some (.ref f) ∧ PySem.W.keepIn K (.ref f) = true ∧ Binds K fd ps [] ∧ ps.length = n ∧ FnG P w K mg base (L2.CX P w) k f fd ps (SpT K T n m)
theorem def_hasT {x : Str} {st : Stmt} {f : Addr} {fd : FuncData} {N ps : List Str} {k : Nat} {fS : S} {T : List (Addr × Str)} (pr : Value → Prop) (F : FunD K x x (defArgs st) (defBody st) (defScope st) [] [] f fd) (Sc : FnScope N ps (defScope st)) (hp : ∀ oc od osl, K.lookup f = some ⟨oc, od, .func fd, osl⟩ → pr fd.code) (gm : mg x = some (.ref f)) (hb : Binds K fd ps [])
    (body : ∀ (cdv : Value) (A : Around) (outer : List PySem.Env) (s : Shared) (H : Hp) (E : XK) (p : PL), pr cdv → p.T = T → RoomG k (A.deeper (envOfC x (defScope st) s.heap.objs.size f cdv)) →
      DSs (cxOf (L2.CX P w) P w K mg base N x (defScope st) f cdv A outer s H E) p (defBody st) fS) : HasT P w K mg base T (k + 1) x ps.length (runS N fS) := by
  refine ⟨f, fd, ps, gm, F.kp, hb, rfl, okG (pr := pr) F hp Sc (fun vs H Q E h => ?_) fun cdv A outer s H vs Q E hc hr h => ⟨_, pss_self, ?_⟩⟩
  · obtain ⟨p, G, ds, s, _, _, many, _⟩ := h
    exact many
  · obtain ⟨p, G, ds, pen, eT, ⟨ga, gc, gx, pn⟩, _, rep, run⟩ := h
    have ends : Way K p G H (fun _ => pure .non) pure (fun _ => bad) (fun _ => bad) (fun d s' => ∀ v H', Af p H H' s' → Rep K p H' G v d → Q v H') (fun c fs s' => ∀ dx vfs H', Af p H H' s' → ExD H' dx vfs → RepF K p H' G vfs fs → E (.ref (He.ga K c)) (some dx) H') { nx := fun _ H' => Q .non H', rt := Q } :=
      ⟨fun ρ σ H' s' r z => z .non H' ⟨r.old, r.pen⟩ .non, fun d s' v H' st2 pn2 rp z => z v H' ⟨st2, pn2⟩ rp, fun _ _ _ _ _ z => z.elim, fun _ _ _ _ _ z => z.elim⟩
    exact (body cdv A outer s H E p hc eT hr).run (fun cls d _ H' => E cls d H') G H _ _ H pen _ _ _ _ _ _ _ (takes_of rfl rfl rfl rfl) (rel_start ga gc gx pn rep) run ends fun c fs s' σ dx vfs H' z st2 pn2 xd rf => z dx vfs H' ⟨st2, pn2⟩ xd rf
end
section
variable {X : Cx} {p : PL} {e : Expr} {es : List Expr} {fs : List (Env → M D)} {pos pos' : Pos} {k n : Nat} {x : Str} {m : List D → M D} {T : List (Addr × Str)}
theorem de_callT (h : HasT X.prog X.w X.K X.mg X.base T k x n m) (eT : p.T = T) (hr : RoomG k X.A) (ha : DA X p (e :: es) fs) (hn : fs.length = n := by rfl) (hg : Gl X x := by rfl) (hdb : (x == ("__debug__" : Str)) = false := by decide)
    (he : starEach (e :: es) X.env = (false, eval e X.env) :: starEach es X.env := by rfl) (hpl : (backTo pos (starEach es X.env)).any (·.1) = false := by rfl) : DE X p (.Call (.Name x pos') (e :: es) [] pos) (fun ρ => seqA fs ρ m) := by
  obtain ⟨f, fd, ps, mf, kp, hb, hl, F⟩ := h.ex
  constructor
  intro W G H0 ρ σ H s R Ex Q tk rl hw q px
  apply tE_of (pe_callG F hr hg mf kp hb (fun σ => passAt tk σ) pa_self hdb he hpl)
  apply ha.run D m W G H0 ρ σ H s R Ex _ tk rl hw ?_ px
  intro ds s1 vs H1 w1 a1 rep en
  have rl1 := rl.step a1.st a1.pen
  have there : ∀ a, Fo G ρ σ a → ∃ o, H1 a = some o := fun a fa => by
    rcases z : H1 a with _ | o
    · exact (rl1.fresh z fa).elim
    · exact ⟨o, rfl⟩
  refine ⟨p, Fo G ρ σ, ds, s1, eT, ⟨rl.fpa, .inl rl.gca, there, a1.pen⟩, rep.length.trans (en.trans hn), rep, wp_mono w1 ?_ ?_⟩
  · intro d s2 hR v H2 a2 r2
    exact q d s2 v H2 hR (a1.trans a2) r2
  · intro c fs s2 hE dx vfs H2 a2 x2 r2
    exact px c fs s2 dx vfs H2 hE (a1.trans a2) x2 (r2.mono (fun _ _ z _ => z) fun _ z => .inl z)
end
/-- the tables of the defs ls stand apart -/
def tabInj (K : PySem.W.Frag) (ls : List Str) : Bool := ls.all fun y => ls.all fun z => decide (tabOf K z = tabOf K y → z = y)
theorem tabInj_ok {K : PySem.W.Frag} {ls : List Str} (h : tabInj K ls = true) {y : Str} (hy : y ∈ ls) : ∀ z ∈ ls, tabOf K z = tabOf K y → z = y := fun z hz => of_decide_eq_true (List.all_eq_true.mp (List.all_eq_true.mp h y hy) z hz)
end Say

namespace SayLaw
open PySem PySem.Spec PyProof.Rows L2 Say
abbrev theProg : Program := PySem.Challenge.pw_sayalike_k04_orders
def top (i : Nat) : Stmt := theProg.main.body.getD i (.Pass ⟨0, 0, 0, 0⟩)
def meth (i j : Nat) : Stmt := match top i with
  | .ClassDef _ _ _ body _ _ _ _ _ _ _
      => body.getD j (.Pass ⟨0, 0, 0, 0⟩)
  | s => s
def CS : List Str := ["Web"]
def AT : List Str := ["arrows", "size"]
def TS : List String := ["bool", "int", "list", "tuple"]
def LS : List Str := []
def XS : List Str := []
def XF : List (Str × List Str) := []
abbrev st__law_pen : Stmt := top 28
def d__law_pen : He.DefD := ⟨("_law_pen", none), "_law_pen", "_law_pen", defArgs st__law_pen, defBody st__law_pen, defScope st__law_pen, [], []⟩
abbrev st__law_draw : Stmt := top 29
def d__law_draw : He.DefD := ⟨("_law_draw", none), "_law_draw", "_law_draw", defArgs st__law_draw, defBody st__law_draw, defScope st__law_draw, [], []⟩
abbrev st__law_pick : Stmt := top 30
def d__law_pick : He.DefD := ⟨("_law_pick", none), "_law_pick", "_law_pick", defArgs st__law_pick, defBody st__law_pick, defScope st__law_pick, [], []⟩
abbrev st__law_size : Stmt := top 26
def d__law_size : He.DefD := ⟨("_law_size", none), "_law_size", "_law_size", defArgs st__law_size, defBody st__law_size, defScope st__law_size, [], []⟩
abbrev st__law_shuffled : Stmt := top 31
def d__law_shuffled : He.DefD := ⟨("_law_shuffled", none), "_law_shuffled", "_law_shuffled", defArgs st__law_shuffled, defBody st__law_shuffled, defScope st__law_shuffled, [], []⟩
abbrev st__law_web_arrows : Stmt := top 27
def d__law_web_arrows : He.DefD := ⟨("_law_web_arrows", none), "_law_web_arrows", "_law_web_arrows", defArgs st__law_web_arrows, defBody st__law_web_arrows, defScope st__law_web_arrows, [], []⟩
abbrev st_is_whole : Stmt := top 6
def d_is_whole : He.DefD := ⟨("is_whole", none), "is_whole", "is_whole", defArgs st_is_whole, defBody st_is_whole, defScope st_is_whole, [], []⟩
abbrev st_is_list : Stmt := top 9
def d_is_list : He.DefD := ⟨("is_list", none), "is_list", "is_list", defArgs st_is_list, defBody st_is_list, defScope st_is_list, [], []⟩
abbrev st_is_index : Stmt := top 10
def d_is_index : He.DefD := ⟨("is_index", none), "is_index", "is_index", defArgs st_is_index, defBody st_is_index, defScope st_is_index, [], []⟩
abbrev st_is_arrow : Stmt := top 11
def d_is_arrow : He.DefD := ⟨("is_arrow", none), "is_arrow", "is_arrow", defArgs st_is_arrow, defBody st_is_arrow, defScope st_is_arrow, [], []⟩
abbrev st_are_arrows : Stmt := top 12
def d_are_arrows : He.DefD := ⟨("are_arrows", none), "are_arrows", "are_arrows", defArgs st_are_arrows, defBody st_are_arrows, defScope st_are_arrows, [], []⟩
abbrev st_has_round : Stmt := top 14
def d_has_round : He.DefD := ⟨("has_round", none), "has_round", "has_round", defArgs st_has_round, defBody st_has_round, defScope st_has_round, [], []⟩
abbrev st_arrows_looked : Stmt := top 15
def d_arrows_looked : He.DefD := ⟨("arrows_looked", none), "arrows_looked", "arrows_looked", defArgs st_arrows_looked, defBody st_arrows_looked, defScope st_arrows_looked, [], []⟩
abbrev st_new_Web : Stmt := meth 16 0
def d_new_Web : He.DefD := ⟨("Web", some "__init__"), "__init__", "Web.__init__", defArgs st_new_Web, defBody st_new_Web, defScope st_new_Web, [], []⟩
abbrev st__law_all : Stmt := top 33
def d__law_all : He.DefD := ⟨("_law_all", none), "_law_all", "_law_all", defArgs st__law_all, defBody st__law_all, defScope st__law_all, [], []⟩
abbrev st_sources_in : Stmt := top 21
def d_sources_in : He.DefD := ⟨("sources_in", none), "sources_in", "sources_in", defArgs st_sources_in, defBody st_sources_in, defScope st_sources_in, [], []⟩
abbrev st_all_orders : Stmt := top 24
def d_all_orders : He.DefD := ⟨("all_orders", none), "all_orders", "all_orders", defArgs st_all_orders, defBody st_all_orders, defScope st_all_orders, [], []⟩
abbrev st_an_order : Stmt := top 22
def d_an_order : He.DefD := ⟨("an_order", none), "an_order", "an_order", defArgs st_an_order, defBody st_an_order, defScope st_an_order, [], []⟩
abbrev st__law_is_int : Stmt := top 32
def d__law_is_int : He.DefD := ⟨("_law_is_int", none), "_law_is_int", "_law_is_int", defArgs st__law_is_int, defBody st__law_is_int, defScope st__law_is_int, [], []⟩
abbrev st_is_order : Stmt := top 23
def d_is_order : He.DefD := ⟨("is_order", none), "is_order", "is_order", defArgs st_is_order, defBody st_is_order, defScope st_is_order, [], []⟩
abbrev st_law : Stmt := top 34
def d_law : He.DefD := ⟨("law", none), "law", "law", defArgs st_law, defBody st_law, defScope st_law, [], []⟩
def fn : List He.DefD := [d__law_pen, d__law_draw, d__law_pick, d__law_size, d__law_shuffled, d__law_web_arrows, d_is_whole, d_is_list, d_is_index, d_is_arrow, d_are_arrows, d_has_round, d_arrows_looked, d_new_Web, d__law_all, d_sources_in, d_all_orders, d_an_order, d__law_is_int, d_is_order, d_law]
def chkL (K : PySem.W.Frag) : Bool := (kitChk CS TS) K && (xcChk K XF && (xmChk K XS && tabInj K LS))
def fa : List He.Fa := [.glo "_law_pen",
  .glo "_law_draw",
  .glo "_law_pick",
  .glo "_law_size",
  .glo "_law_shuffled",
  .glo "_law_web_arrows",
  .glo "is_whole",
  .glo "is_list",
  .glo "is_index",
  .glo "is_arrow",
  .glo "are_arrows",
  .glo "has_round",
  .glo "arrows_looked",
  .glo "_law_all",
  .glo "sources_in",
  .glo "all_orders",
  .glo "an_order",
  .glo "_law_is_int",
  .glo "is_order",
  .glo "law",
  .glo "Web",
  .cls "Web",
  .noat "Web" "arrows",
  .noat "Web" "size",
  .mkr "Web",
  .free "all",
  .free "any",
  .free "bool",
  .free "int",
  .free "isinstance",
  .free "len",
  .free "list",
  .free "range",
  .free "sorted",
  .free "tuple"]
section
variable {P : Program} {w : World} {K :
    PySem.W.Frag} {mg : Str → Option Value} {base : Heap}
structure HdS (K : PySem.W.Frag) (mg : Str → Option Value) : Prop where
  says : SaysE chkL fa fn K
  inK : ∃ h : Heap, K.In h ∧ h.Ns mainGlobals mg
structure Hd (K : PySem.W.Frag) (mg : Str → Option Value) (base : Heap) : Prop where
  says : SaysE chkL fa fn K
  inK : ∃ h : Heap, K.In h ∧ h.Ns mainGlobals mg
  tb : TBs K mg base LS
theorem Hd.b_all (H : Hd K mg base) : mg "all" = none := H.inK.elim fun _ z => He.free_ok z.1 z.2 (H.says.2.fact 25 (f := .free "all") rfl)
theorem Hd.b_any (H : Hd K mg base) : mg "any" = none := H.inK.elim fun _ z => He.free_ok z.1 z.2 (H.says.2.fact 26 (f := .free "any") rfl)
theorem Hd.b_bool (H : Hd K mg base) : mg "bool" = none := H.inK.elim fun _ z => He.free_ok z.1 z.2 (H.says.2.fact 27 (f := .free "bool") rfl)
theorem Hd.b_int (H : Hd K mg base) : mg "int" = none := H.inK.elim fun _ z => He.free_ok z.1 z.2 (H.says.2.fact 28 (f := .free "int") rfl)
theorem Hd.b_isinstance (H : Hd K mg base) : mg "isinstance" = none := H.inK.elim fun _ z => He.free_ok z.1 z.2 (H.says.2.fact 29 (f := .free "isinstance") rfl)
theorem Hd.b_len (H : Hd K mg base) : mg "len" = none := H.inK.elim fun _ z => He.free_ok z.1 z.2 (H.says.2.fact 30 (f := .free "len") rfl)
theorem Hd.b_list (H : Hd K mg base) : mg "list" = none := H.inK.elim fun _ z => He.free_ok z.1 z.2 (H.says.2.fact 31 (f := .free "list") rfl)
theorem Hd.b_range (H : Hd K mg base) : mg "range" = none := H.inK.elim fun _ z => He.free_ok z.1 z.2 (H.says.2.fact 32 (f := .free "range") rfl)
theorem Hd.b_sorted (H : Hd K mg base) : mg "sorted" = none := H.inK.elim fun _ z => He.free_ok z.1 z.2 (H.says.2.fact 33 (f := .free "sorted") rfl)
theorem Hd.b_tuple (H : Hd K mg base) : mg "tuple" = none := H.inK.elim fun _ z => He.free_ok z.1 z.2 (H.says.2.fact 34 (f := .free "tuple") rfl)
structure Bl (mg : Str → Option Value) : Prop where
  «all» : mg "all" = none
  «any» : mg "any" = none
  «bool» : mg "bool" = none
  «int» : mg "int" = none
  «isinstance» : mg "isinstance" = none
  «len» : mg "len" = none
  «list» : mg "list" = none
  «range» : mg "range" = none
  «sorted» : mg "sorted" = none
  «tuple» : mg "tuple" = none
theorem Hd.bl (H : Hd K mg base) : Bl mg := ⟨H.b_all, H.b_any, H.b_bool, H.b_int, H.b_isinstance, H.b_len, H.b_list, H.b_range, H.b_sorted, H.b_tuple⟩
theorem Hd.o_Web (H : Hd K mg base) : mg "Web" = some (.ref (He.ga K "Web")) := H.inK.elim fun _ z => He.glo_ok z.1 z.2 (H.says.2.fact 20 (f := .glo "Web") rfl)
theorem Hd.c_Web (H : Hd K mg base) : Cls K (He.ga K "Web") := He.cls_ok (H.says.2.fact 21 (f := .cls "Web") rfl)
theorem Hd.xm (H : Hd K mg base) : ∀ c ∈ XS, ∀ y ∈ XS, PySem.W.exmOne K (.ref (He.ga K c)) (.ref (He.ga K y)) = some (c == y) := xm_ok (He.ba (He.ba (He.ba H.says.1).2).2).1
theorem Hd.inj (H : Hd K mg base) {y : Str} (hy : y ∈ LS) : ∀ z ∈ LS, tabOf K z = tabOf K y → z = y := tabInj_ok (He.ba (He.ba (He.ba H.says.1).2).2).2 hy
theorem Hd.kl (H : Hd K mg base) : Kls K CS AT := by
  intro c hc
  unfold CS at hc
  simp only [List.mem_cons, List.not_mem_nil, or_false] at hc
  rcases hc with rfl
  · refine ⟨H.c_Web, fun f hf => ?_⟩
    unfold AT at hf
    simp only [List.mem_cons, List.not_mem_nil, or_false] at hf
    rcases hf with rfl | rfl
    · exact He.noat_ok (H.says.2.fact 22 (f := .noat "Web" "arrows") rfl)
    · exact He.noat_ok (H.says.2.fact 23 (f := .noat "Web" "size") rfl)
theorem Hd.kt (H : Hd K mg base) : Kit K CS TS := kit_of_chk (He.ba H.says.1).1 fun c m => (H.kl c m).1
theorem Hd.g__law_pen (H : Hd K mg base) : mg "_law_pen" = some (.ref (He.ga K "_law_pen")) := H.inK.elim fun _ z => He.glo_ok z.1 z.2 (H.says.2.fact 0 (f := .glo "_law_pen") rfl)
theorem Hd.g__law_draw (H : Hd K mg base) : mg "_law_draw" = some (.ref (He.ga K "_law_draw")) := H.inK.elim fun _ z => He.glo_ok z.1 z.2 (H.says.2.fact 1 (f := .glo "_law_draw") rfl)
theorem Hd.g__law_pick (H : Hd K mg base) : mg "_law_pick" = some (.ref (He.ga K "_law_pick")) := H.inK.elim fun _ z => He.glo_ok z.1 z.2 (H.says.2.fact 2 (f := .glo "_law_pick") rfl)
theorem Hd.g__law_size (H : Hd K mg base) : mg "_law_size" = some (.ref (He.ga K "_law_size")) := H.inK.elim fun _ z => He.glo_ok z.1 z.2 (H.says.2.fact 3 (f := .glo "_law_size") rfl)
theorem Hd.g__law_shuffled (H : Hd K mg base) : mg "_law_shuffled" = some (.ref (He.ga K "_law_shuffled")) := H.inK.elim fun _ z => He.glo_ok z.1 z.2 (H.says.2.fact 4 (f := .glo "_law_shuffled") rfl)
theorem Hd.g__law_web_arrows (H : Hd K mg base) : mg "_law_web_arrows" = some (.ref (He.ga K "_law_web_arrows")) := H.inK.elim fun _ z => He.glo_ok z.1 z.2 (H.says.2.fact 5 (f := .glo "_law_web_arrows") rfl)
theorem Hd.g_is_whole (H : Hd K mg base) : mg "is_whole" = some (.ref (He.ga K "is_whole")) := H.inK.elim fun _ z => He.glo_ok z.1 z.2 (H.says.2.fact 6 (f := .glo "is_whole") rfl)
theorem Hd.g_is_list (H : Hd K mg base) : mg "is_list" = some (.ref (He.ga K "is_list")) := H.inK.elim fun _ z => He.glo_ok z.1 z.2 (H.says.2.fact 7 (f := .glo "is_list") rfl)
theorem Hd.g_is_index (H : Hd K mg base) : mg "is_index" = some (.ref (He.ga K "is_index")) := H.inK.elim fun _ z => He.glo_ok z.1 z.2 (H.says.2.fact 8 (f := .glo "is_index") rfl)
theorem Hd.g_is_arrow (H : Hd K mg base) : mg "is_arrow" = some (.ref (He.ga K "is_arrow")) := H.inK.elim fun _ z => He.glo_ok z.1 z.2 (H.says.2.fact 9 (f := .glo "is_arrow") rfl)
theorem Hd.g_are_arrows (H : Hd K mg base) : mg "are_arrows" = some (.ref (He.ga K "are_arrows")) := H.inK.elim fun _ z => He.glo_ok z.1 z.2 (H.says.2.fact 10 (f := .glo "are_arrows") rfl)
theorem Hd.g_has_round (H : Hd K mg base) : mg "has_round" = some (.ref (He.ga K "has_round")) := H.inK.elim fun _ z => He.glo_ok z.1 z.2 (H.says.2.fact 11 (f := .glo "has_round") rfl)
theorem Hd.g_arrows_looked (H : Hd K mg base) : mg "arrows_looked" = some (.ref (He.ga K "arrows_looked")) := H.inK.elim fun _ z => He.glo_ok z.1 z.2 (H.says.2.fact 12 (f := .glo "arrows_looked") rfl)
theorem Hd.g__law_all (H : Hd K mg base) : mg "_law_all" = some (.ref (He.ga K "_law_all")) := H.inK.elim fun _ z => He.glo_ok z.1 z.2 (H.says.2.fact 13 (f := .glo "_law_all") rfl)
theorem Hd.g_sources_in (H : Hd K mg base) : mg "sources_in" = some (.ref (He.ga K "sources_in")) := H.inK.elim fun _ z => He.glo_ok z.1 z.2 (H.says.2.fact 14 (f := .glo "sources_in") rfl)
theorem Hd.g_all_orders (H : Hd K mg base) : mg "all_orders" = some (.ref (He.ga K "all_orders")) := H.inK.elim fun _ z => He.glo_ok z.1 z.2 (H.says.2.fact 15 (f := .glo "all_orders") rfl)
theorem Hd.g_an_order (H : Hd K mg base) : mg "an_order" = some (.ref (He.ga K "an_order")) := H.inK.elim fun _ z => He.glo_ok z.1 z.2 (H.says.2.fact 16 (f := .glo "an_order") rfl)
theorem Hd.g__law_is_int (H : Hd K mg base) : mg "_law_is_int" = some (.ref (He.ga K "_law_is_int")) := H.inK.elim fun _ z => He.glo_ok z.1 z.2 (H.says.2.fact 17 (f := .glo "_law_is_int") rfl)
theorem Hd.g_is_order (H : Hd K mg base) : mg "is_order" = some (.ref (He.ga K "is_order")) := H.inK.elim fun _ z => He.glo_ok z.1 z.2 (H.says.2.fact 18 (f := .glo "is_order") rfl)
theorem Hd.g_law (H : Hd K mg base) : mg "law" = some (.ref (He.ga K "law")) := H.inK.elim fun _ z => He.glo_ok z.1 z.2 (H.says.2.fact 19 (f := .glo "law") rfl)
theorem Hd.m_Web (H : Hd K mg base) : Mk K (He.ga K "Web") (He.ma K (He.ga K "Web") "__init__") := He.mkr_ok (H.says.2.fact 24 (f := .mkr "Web") rfl)
theorem sc__law_pen : FnScope ["script", "fold", "cell"] ["script"] (defScope st__law_pen) := ⟨rfl, rfl, rfl, by decide +kernel, rfl, by decide +kernel, by decide +kernel⟩
theorem h__law_pen (H : Hd K mg base) : ∃ fd, Binds K fd ["script"] [] ∧ PySem.W.keepIn K (.ref (He.ga K "_law_pen")) = true ∧ FnOk P w K mg base (L2.CX P w) 1 (He.ga K "_law_pen") fd ["script"] (spPen K) := by
  obtain ⟨fd, F⟩ := H.says.2.def_ 0 (d := d__law_pen) rfl
  refine ⟨fd, F.bindsN fun _ _ _ _ _ _ us hl => match us, hl with | [_], _ => rfl, F.kp, pen_has (st := st__law_pen) F sc__law_pen fun cdv A outer s H0 E vs Dn h => ?_⟩
  exact pen_run (by rfl) (.inl (by rfl)) (by rfl) (by rfl) (by rfl) (by rfl) H.bl.int H.bl.list (by rfl) (passes_of (by rfl)) h (E := E) (j12 := 0) (by rfl)
theorem sc__law_draw : FnScope ["pen", "many", "blend", "cell", "digit"] ["pen", "many"] (defScope st__law_draw) := ⟨rfl, rfl, rfl, by decide +kernel, rfl, by decide +kernel, by decide +kernel⟩
noncomputable def S__law_draw : S :=
  (sSeq (sPenSet 0 .cnt (dBin addD (dPen 0 .cnt) (dC (.int 1))))
  (sSeq (sIf (tAnd (tCmp eqD (dPen 0 .dig) (dC (.int 0))) (tCmp (odD .lt) (dPen 0 .at) (dPenLen 0))) (sSeq (sSet 3 (dPenCell 0 (dPen 0 .at)))
  (sSeq (sPenSet 0 .at (dBin addD (dPen 0 .at) (dC (.int 1))))
  (sIf (tCmp (odD .ge) (dVar 3) (dBin (iicD cPow fun i j => .int (i ^ j.toNat)) (dC (.int 10)) (dC (.int 18)))) (sPenSet 0 .dig (dBin (iiD fun i j => .int (i - j)) (dVar 3) (dBin (iicD cPow fun i j => .int (i ^ j.toNat)) (dC (.int 10)) (dC (.int 18))))) (sPenSet 0 .fld (dBin (iicD cPos fun i j => .int (i % j)) (dBlt intD [(dBin addD (dBin (iicD cMul fun i j => .int (i * j)) (dPen 0 .fld) (dC (.int 48271))) (dVar 3))]) (dC (.int 2147483563))))))) sNil)
  (sSeq (sIf (tCmp (odD .gt) (dPen 0 .dig) (dC (.int 0))) (sSeq (sSet 4 (dBin (iicD cPos fun i j => .int (i % j)) (dBlt intD [(dPen 0 .dig)]) (dVar 1)))
  (sSeq (sPenSet 0 .dig (dBin (iicD cDiv fun i j => .int (i / j)) (dPen 0 .dig) (dVar 1)))
  (sRet (dVar 4)))) sNil)
  (sSeq (sSet 2 (dBin addD (dBin addD (dPen 0 .fld) (dBin (iicD cMul fun i j => .int (i * j)) (dPen 0 .cnt) (dC (.int 8513)))) (dC (.int 61))))
  (sRet (dBin (iicD cPos fun i j => .int (i % j)) (dBin (iicD cDiv fun i j => .int (i / j)) (dBlt intD [(dBin (iicD cPos fun i j => .int (i % j)) (dBin (iicD cPow fun i j => .int (i ^ j.toNat)) (dVar 2) (dC (.int 19))) (dC (.int 2305843009213693951)))]) (dC (.int 256))) (dVar 1)))))))
noncomputable def m__law_draw : List D → M D := runS (["pen", "many", "blend", "cell", "digit"] : List Str) S__law_draw
theorem h__law_draw (H : Hd K mg base) : Has P w K mg base 1 "_law_draw" 2 m__law_draw := by
  obtain ⟨fd, F⟩ := H.says.2.def_ 1 (d := d__law_draw) rfl
  refine def_has (st := st__law_draw) (k := 0) F sc__law_draw H.g__law_draw (F.bindsN fun _ _ _ _ _ _ us hl => match us, hl with | [_, _], _ => rfl) fun cdv A outer s H0 E p hr => ?_
  exact (dss_cons (ds_penSet 0 (f := .cnt) hr.toRoom (de_bin bs_add (de_pen 0 (f := .cnt) hr.toRoom) de_int))
  (dss_cons (ds_if (dt_of (dw_and (dt_cmp (bs_eq hr.toRoom) (de_pen 0 (f := .dig) hr.toRoom) de_int) (dw_and1 (dt_cmp (bs_lt hr.toRoom) (de_pen 0 (f := .at) hr.toRoom) (de_penLen 0 hr.toRoom H.bl.len))))) (dss_cons (ds_set 3 sc__law_draw.nd (de_penCell 0 hr.toRoom (de_pen 0 (f := .at) hr.toRoom)))
  (dss_cons (ds_penSet 0 (f := .at) hr.toRoom (de_bin bs_add (de_pen 0 (f := .at) hr.toRoom) de_int))
  (dss_one (ds_if (dt_cmp (bs_ge hr.toRoom) (de_var 3) (de_bin bs_pow de_int de_int)) (dss_one (ds_penSet 0 (f := .dig) hr.toRoom (de_bin bs_sub (de_var 3) (de_bin bs_pow de_int de_int)))) (dss_one (ds_penSet 0 (f := .fld) hr.toRoom (de_bin bs_mod (de_toInt H.bl.int (da_cons (de_bin bs_add (de_bin bs_mul (de_pen 0 (f := .fld) hr.toRoom) de_int) (de_var 3)) da_nil)) de_int))))))) dss_nil)
  (dss_cons (ds_if (dt_cmp (bs_gt hr.toRoom) (de_pen 0 (f := .dig) hr.toRoom) de_int) (dss_cons (ds_set 4 sc__law_draw.nd (de_bin bs_mod (de_toInt H.bl.int (da_cons (de_pen 0 (f := .dig) hr.toRoom) da_nil)) (de_var 1)))
  (dss_cons (ds_penSet 0 (f := .dig) hr.toRoom (de_bin bs_fdiv (de_pen 0 (f := .dig) hr.toRoom) (de_var 1)))
  (dss_one (ds_ret (de_var 4))))) dss_nil)
  (dss_cons (ds_set 2 sc__law_draw.nd (de_bin bs_add (de_bin bs_add (de_pen 0 (f := .fld) hr.toRoom) (de_bin bs_mul (de_pen 0 (f := .cnt) hr.toRoom) de_int)) de_int))
  (dss_one (ds_ret (de_bin bs_mod (de_bin bs_fdiv (de_toInt H.bl.int (da_cons (de_bin bs_mod (de_bin bs_pow (de_var 2) de_int) de_int) da_nil)) de_int) (de_var 1))))))))
theorem sc__law_pick : FnScope ["pen", "some"] ["pen", "some"] (defScope st__law_pick) := ⟨rfl, rfl, rfl, by decide +kernel, rfl, by decide +kernel, by decide +kernel⟩
noncomputable def S__law_pick : S :=
  (sRet (dBin ixD (dVar 1) (dCall m__law_draw [(dVar 0), (dBlt lenD [(dVar 1)])])))
noncomputable def m__law_pick : List D → M D := runS (["pen", "some"] : List Str) S__law_pick
theorem h__law_pick (H : Hd K mg base) : Has P w K mg base 2 "_law_pick" 2 m__law_pick := by
  obtain ⟨fd, F⟩ := H.says.2.def_ 2 (d := d__law_pick) rfl
  refine def_has (st := st__law_pick) (k := 1) F sc__law_pick H.g__law_pick (F.bindsN fun _ _ _ _ _ _ us hl => match us, hl with | [_, _], _ => rfl) fun cdv A outer s H0 E p hr => ?_
  exact (dss_one (ds_ret (de_ix is_seq (de_var 1) (de_call (h__law_draw H) (hr.mono (by decide)) (da_cons (de_var 0) (da_cons (de_len H.bl.len (da_cons (de_var 1) da_nil)) da_nil))))))
theorem sc__law_size : FnScope ["pen"] ["pen"] (defScope st__law_size) := ⟨rfl, rfl, rfl, by decide +kernel, rfl, by decide +kernel, by decide +kernel⟩
noncomputable def S__law_size : S :=
  (sRet (dCall m__law_pick [(dVar 0), (dNew (nLst [(dC (.int 4)), (dC (.int 3)), (dC (.int 5)), (dC (.int 4)), (dC (.int 2)), (dC (.int 5)), (dC (.int 1)), (dC (.int 6))]))]))
noncomputable def m__law_size : List D → M D := runS (["pen"] : List Str) S__law_size
theorem h__law_size (H : Hd K mg base) : Has P w K mg base 3 "_law_size" 1 m__law_size := by
  obtain ⟨fd, F⟩ := H.says.2.def_ 3 (d := d__law_size) rfl
  refine def_has (st := st__law_size) (k := 2) F sc__law_size H.g__law_size (F.bindsN fun _ _ _ _ _ _ us hl => match us, hl with | [_], _ => rfl) fun cdv A outer s H0 E p hr => ?_
  exact (dss_one (ds_ret (de_call (h__law_pick H) (hr.mono (by decide)) (da_cons (de_var 0) (da_cons (de_new (dn_lst (da_cons de_int (da_cons de_int (da_cons de_int (da_cons de_int (da_cons de_int (da_cons de_int (da_cons de_int (da_cons de_int da_nil)))))))))) da_nil)))))
theorem sc__law_shuffled : FnScope ["pen", "some", "lap", "remain", "found"] ["pen", "some"] (defScope st__law_shuffled) := ⟨rfl, rfl, rfl, by decide +kernel, rfl, by decide +kernel, by decide +kernel⟩
noncomputable def S__law_shuffled : S :=
  (sSeq (sParV [3, 4] [vN (nList [(dVar 1)]), vN (nLst [])])
  (sSeq (sFor (nRng1 (dBlt lenD [(dVar 1)])) (gNm 2) (sAppPop 4 3 (dCall m__law_draw [(dVar 0), (dThaw (dBlt lenD [(dVar 3)]))])))
  (sRet (dVar 4))))
noncomputable def m__law_shuffled : List D → M D := runS (["pen", "some", "lap", "remain", "found"] : List Str) S__law_shuffled
theorem h__law_shuffled (H : Hd K mg base) : Has P w K mg base 2 "_law_shuffled" 2 m__law_shuffled := by
  obtain ⟨fd, F⟩ := H.says.2.def_ 4 (d := d__law_shuffled) rfl
  refine def_has (st := st__law_shuffled) (k := 1) F sc__law_shuffled H.g__law_shuffled (F.bindsN fun _ _ _ _ _ _ us hl => match us, hl with | [_, _], _ => rfl) fun cdv A outer s H0 E p hr => ?_
  exact (dss_cons (ds_par2 (i := 3) (j := 4) sc__law_shuffled.nd (dv_new (dn_list H.bl.list (da_cons (de_var 1) da_nil)) (dv_new (dn_lst da_nil) dv_nil)))
  (dss_cons (ds_for (di_rng1 H.bl.range (da_cons (de_len H.bl.len (da_cons (de_var 1) da_nil)) da_nil)) (dg_name sc__law_shuffled.nd (i := 2)) (dss_one (ds_appPop (i := 4) (j := 3) (hij := by decide) (de_call (h__law_draw H) (hr.mono (by decide)) (da_cons (de_var 0) (da_cons (de_thaw (de_len H.bl.len (da_cons (de_var 3) da_nil))) da_nil))) (pe_bm PySem.F.plainAttrs_list PySem.F.slot_list_append PySem.F.type_list_append mt_append (pv _) (pa_cons (pe_bm PySem.F.plainAttrs_list PySem.F.slot_list_pop PySem.F.type_list_pop mt_popAt (pv _) (pa_cons pe_self pa_nil)) pa_nil)))) (passes_of rfl))
  (dss_one (ds_ret (de_var 4)))))
theorem sc__law_web_arrows : FnScope ["pen", "size", "much", "at", "order", "way", "arrows", "later", "keep"] ["pen", "size"] (defScope st__law_web_arrows) := ⟨rfl, rfl, rfl, by decide +kernel, rfl, by decide +kernel, by decide +kernel⟩
noncomputable def S__law_web_arrows : S :=
  (sSeq (sParV [4, 5, 6] [vD (dCall m__law_shuffled [(dVar 0), (dNew (nRng1 (dVar 1)))]), vD (dCall m__law_draw [(dVar 0), (dC (.int 6))]), vN (nLst [])])
  (sSeq (sSet 2 (dCall m__law_pick [(dVar 0), (dNew (nLst [(dC (.int 2)), (dC (.int 3)), (dC (.int 2)), (dC (.int 4))]))]))
  (sSeq (sFor (nRng1 (dVar 1)) (gNm 3) (sFor (nRng2 (dBin addD (dVar 3) (dC (.int 1))) (dVar 1)) (gNm 7) (sSeq (sSet 8 (dBin eqD (dCall m__law_draw [(dVar 0), (dVar 2)]) (dC (.int 0))))
  (sSeq (sIf (tCmp eqD (dVar 5) (dC (.int 2))) (sSet 8 (dOr (dBin eqD (dVar 3) (dBin (iiD fun i j => .int (i - j)) (dVar 7) (dC (.int 1)))) (dBin eqD (dCall m__law_draw [(dVar 0), (dC (.int 9))]) (dC (.int 0))))) (sIf (tCmp eqD (dVar 5) (dC (.int 3))) (sSet 8 (dBin (odD .gt) (dCall m__law_draw [(dVar 0), (dC (.int 5))]) (dC (.int 0)))) sNil))
  (sIf (tAnd (tVal (dVar 8)) (tCmp neD (dVar 5) (dC (.int 4)))) (sApp 6 (dTup [(dBin ixD (dVar 4) (dVar 3)), (dBin ixD (dVar 4) (dVar 7))])) sNil)))))
  (sSeq (sIf (tCmp eqD (dVar 5) (dC (.int 4))) (sFor (nRng2 (dC (.int 1)) (dVar 1)) (gNm 7) (sSeq (sSet 3 (dCall m__law_draw [(dVar 0), (dVar 7)]))
  (sApp 6 (dIf (tCmp (odD .gt) (dCall m__law_draw [(dVar 0), (dC (.int 3))]) (dC (.int 0))) (dTup [(dBin ixD (dVar 4) (dVar 3)), (dBin ixD (dVar 4) (dVar 7))]) (dTup [(dBin ixD (dVar 4) (dVar 7)), (dBin ixD (dVar 4) (dVar 3))]))))) sNil)
  (sRet (dBlt tupleD [(dSl (dNew (nSorted [(dVar 6)])) oN (oS (dC (.int 12))))]))))))
noncomputable def m__law_web_arrows : List D → M D := runS (["pen", "size", "much", "at", "order", "way", "arrows", "later", "keep"] : List Str) S__law_web_arrows
theorem h__law_web_arrows (H : Hd K mg base) : Has P w K mg base 3 "_law_web_arrows" 2 m__law_web_arrows := by
  obtain ⟨fd, F⟩ := H.says.2.def_ 5 (d := d__law_web_arrows) rfl
  refine def_has (st := st__law_web_arrows) (k := 2) F sc__law_web_arrows H.g__law_web_arrows (F.bindsN fun _ _ _ _ _ _ us hl => match us, hl with | [_, _], _ => rfl) fun cdv A outer s H0 E p hr => ?_
  exact (dss_cons (ds_par3 (i := 4) (j := 5) (l := 6) sc__law_web_arrows.nd (dv_dat (de_call (h__law_shuffled H) (hr.mono (by decide)) (da_cons (de_var 0) (da_cons (de_new (dn_rng1 H.bl.range H.bl.list (de_var 1))) da_nil))) (dv_dat (de_call (h__law_draw H) (hr.mono (by decide)) (da_cons (de_var 0) (da_cons de_int da_nil))) (dv_new (dn_lst da_nil) dv_nil))))
  (dss_cons (ds_set 2 sc__law_web_arrows.nd (de_call (h__law_pick H) (hr.mono (by decide)) (da_cons (de_var 0) (da_cons (de_new (dn_lst (da_cons de_int (da_cons de_int (da_cons de_int (da_cons de_int da_nil)))))) da_nil))))
  (dss_cons (ds_for (di_rng1 H.bl.range (da_cons (de_var 1) da_nil)) (dg_name sc__law_web_arrows.nd (i := 3)) (dss_one (ds_for (di_rng2 H.bl.range (da_cons (de_bin bs_add (de_var 3) de_int) (da_cons (de_var 1) da_nil))) (dg_name sc__law_web_arrows.nd (i := 7)) (dss_cons (ds_set 8 sc__law_web_arrows.nd (de_cmp (bs_eq hr.toRoom) (de_call (h__law_draw H) (hr.mono (by decide)) (da_cons (de_var 0) (da_cons (de_var 2) da_nil))) de_int))
  (dss_cons (ds_if (dt_cmp (bs_eq hr.toRoom) (de_var 5) de_int) (dss_one (ds_set 8 sc__law_web_arrows.nd (de_or (de_cmp (bs_eq hr.toRoom) (de_var 3) (de_bin bs_sub (de_var 7) de_int)) (de_one (de_cmp (bs_eq hr.toRoom) (de_call (h__law_draw H) (hr.mono (by decide)) (da_cons (de_var 0) (da_cons de_int da_nil))) de_int))))) (dss_one (ds_if (dt_cmp (bs_eq hr.toRoom) (de_var 5) de_int) (dss_one (ds_set 8 sc__law_web_arrows.nd (de_cmp (bs_gt hr.toRoom) (de_call (h__law_draw H) (hr.mono (by decide)) (da_cons (de_var 0) (da_cons de_int da_nil))) de_int))) dss_nil)))
  (dss_one (ds_if (dt_of (dw_and (dt_val (de_var 8)) (dw_and1 (dt_cmp (bs_ne hr.toRoom) (de_var 5) de_int)))) (dss_one (ds_app 6 (de_tup (da_cons (de_ix is_seq (de_var 4) (de_var 3)) (da_cons (de_ix is_seq (de_var 4) (de_var 7)) da_nil))))) dss_nil)))) (passes_of rfl))) (passes_of rfl))
  (dss_cons (ds_if (dt_cmp (bs_eq hr.toRoom) (de_var 5) de_int) (dss_one (ds_for (di_rng2 H.bl.range (da_cons de_int (da_cons (de_var 1) da_nil))) (dg_name sc__law_web_arrows.nd (i := 7)) (dss_cons (ds_set 3 sc__law_web_arrows.nd (de_call (h__law_draw H) (hr.mono (by decide)) (da_cons (de_var 0) (da_cons (de_var 7) da_nil))))
  (dss_one (ds_app 6 (de_if (dt_cmp (bs_gt hr.toRoom) (de_call (h__law_draw H) (hr.mono (by decide)) (da_cons (de_var 0) (da_cons de_int da_nil))) de_int) (de_tup (da_cons (de_ix is_seq (de_var 4) (de_var 3)) (da_cons (de_ix is_seq (de_var 4) (de_var 7)) da_nil))) (de_tup (da_cons (de_ix is_seq (de_var 4) (de_var 7)) (da_cons (de_ix is_seq (de_var 4) (de_var 3)) da_nil))))))) (passes_of rfl))) dss_nil)
  (dss_one (ds_ret (de_tuple H.bl.tuple (da_cons (de_slice (de_new (dn_sorted H.bl.sorted (da_cons (de_var 6) da_nil))) do_none (do_some de_int)) da_nil))))))))
theorem sc_is_whole : FnScope ["value"] ["value"] (defScope st_is_whole) := ⟨rfl, rfl, rfl, by decide +kernel, rfl, by decide +kernel, by decide +kernel⟩
noncomputable def S_is_whole : S :=
  (sRet (dAnd (dIsi CS TS [.ty "int"] (dVar 0)) (dNot (dIsi CS TS [.ty "bool"] (dVar 0)))))
noncomputable def m_is_whole : List D → M D := runS (["value"] : List Str) S_is_whole
theorem h_is_whole (H : Hd K mg base) : Has P w K mg base 1 "is_whole" 1 m_is_whole := by
  obtain ⟨fd, F⟩ := H.says.2.def_ 6 (d := d_is_whole) rfl
  refine def_has (st := st_is_whole) (k := 0) F sc_is_whole H.g_is_whole (F.bindsN fun _ _ _ _ _ _ us hl => match us, hl with | [_], _ => rfl) fun cdv A outer s H0 E p hr => ?_
  exact (dss_one (ds_ret (de_and (de_isi1 H.kt H.bl.isinstance (de_var 0) (pe_ty H.bl.int (by decide +kernel))) (de_one (de_not (de_isi1 H.kt H.bl.isinstance (de_var 0) (pe_ty H.bl.bool (by decide +kernel))))))))
theorem sc_is_list : FnScope ["value"] ["value"] (defScope st_is_list) := ⟨rfl, rfl, rfl, by decide +kernel, rfl, by decide +kernel, by decide +kernel⟩
noncomputable def S_is_list : S :=
  (sRet (dIsi CS TS [.ty "tuple", .ty "list"] (dVar 0)))
noncomputable def m_is_list : List D → M D := runS (["value"] : List Str) S_is_list
theorem h_is_list (H : Hd K mg base) : Has P w K mg base 1 "is_list" 1 m_is_list := by
  obtain ⟨fd, F⟩ := H.says.2.def_ 7 (d := d_is_list) rfl
  refine def_has (st := st_is_list) (k := 0) F sc_is_list H.g_is_list (F.bindsN fun _ _ _ _ _ _ us hl => match us, hl with | [_], _ => rfl) fun cdv A outer s H0 E p hr => ?_
  exact (dss_one (ds_ret (de_isi2 H.kt H.bl.isinstance (de_var 0) (pe_ty H.bl.tuple (by decide +kernel)) (pe_ty H.bl.list (by decide +kernel)))))
theorem sc_is_index : FnScope ["many", "value"] ["many", "value"] (defScope st_is_index) := ⟨rfl, rfl, rfl, by decide +kernel, rfl, by decide +kernel, by decide +kernel⟩
noncomputable def S_is_index : S :=
  (sRet (dAnd (dCall m_is_whole [(dVar 1)]) (dChain (odD .le) (odD .lt) (dC (.int 0)) (dVar 1) (dVar 0))))
noncomputable def m_is_index : List D → M D := runS (["many", "value"] : List Str) S_is_index
theorem h_is_index (H : Hd K mg base) : Has P w K mg base 2 "is_index" 2 m_is_index := by
  obtain ⟨fd, F⟩ := H.says.2.def_ 8 (d := d_is_index) rfl
  refine def_has (st := st_is_index) (k := 1) F sc_is_index H.g_is_index (F.bindsN fun _ _ _ _ _ _ us hl => match us, hl with | [_, _], _ => rfl) fun cdv A outer s H0 E p hr => ?_
  exact (dss_one (ds_ret (de_and (de_call (h_is_whole H) (hr.mono (by decide)) (da_cons (de_var 1) da_nil)) (de_one (de_chain (bs_le hr.toRoom) (bs_lt hr.toRoom) de_int (de_var 1) (de_var 0))))))
theorem sc_is_arrow : FnScope ["many", "value", "place"] ["many", "value"] (defScope st_is_arrow) := ⟨rfl, rfl, rfl, by decide +kernel, rfl, by decide +kernel, by decide +kernel⟩
noncomputable def S_is_arrow : S :=
  (sSeq (sIf (tOr (tNot (tVal (dCall m_is_list [(dVar 1)]))) (tOr (tCmp neD (dBlt lenD [(dVar 1)]) (dC (.int 2))) (tNot (tVal (dBlt allD [(dNew (lcM [2] (nSeq (dVar 1)) (gNm 2) tYes (dCall m_is_index [(dVar 0), (dVar 2)])))]))))) (sRet (dC (.bl false))) sNil)
  (sRet (dBin neD (dBin ixD (dVar 1) (dC (.int 0))) (dBin ixD (dVar 1) (dC (.int 1))))))
noncomputable def m_is_arrow : List D → M D := runS (["many", "value", "place"] : List Str) S_is_arrow
theorem h_is_arrow (H : Hd K mg base) : Has P w K mg base 3 "is_arrow" 2 m_is_arrow := by
  obtain ⟨fd, F⟩ := H.says.2.def_ 9 (d := d_is_arrow) rfl
  refine def_has (st := st_is_arrow) (k := 2) F sc_is_arrow H.g_is_arrow (F.bindsN fun _ _ _ _ _ _ us hl => match us, hl with | [_, _], _ => rfl) fun cdv A outer s H0 E p hr => ?_
  exact (dss_cons (ds_if (dt_of (dw_or (dt_not (dt_val (de_call (h_is_list H) (hr.mono (by decide)) (da_cons (de_var 1) da_nil)))) (dw_or (dt_cmp (bs_ne hr.toRoom) (de_len H.bl.len (da_cons (de_var 1) da_nil)) de_int) (dw_or1 (dt_not (dt_val (de_all H.bl.all (da_cons (de_new (dn_lc [("place", 2)] sc_is_arrow.nd (di_seq (de_var 1)) (fun _ _ _ _ _ => (dg_name sc_is_arrow.nd (i := 2))) (fun _ _ _ _ _ => dts_nil) (fun _ _ _ _ _ => (de_call (h_is_index H) (hr.mono (by decide)) (da_cons (de_var 0) (da_cons (de_var 2) da_nil)))))) da_nil)))))))) (dss_one (ds_ret de_bl)) dss_nil)
  (dss_one (ds_ret (de_cmp (bs_ne hr.toRoom) (de_ix is_seq (de_var 1) de_int) (de_ix is_seq (de_var 1) de_int)))))
theorem sc_are_arrows : FnScope ["many", "value", "told", "arrow", "at", "one", "other"] ["many", "value"] (defScope st_are_arrows) := ⟨rfl, rfl, rfl, by decide +kernel, rfl, by decide +kernel, by decide +kernel⟩
noncomputable def S_are_arrows : S :=
  (sSeq (sIf (tOr (tNot (tVal (dCall m_is_list [(dVar 1)]))) (tNot (tVal (dBlt allD [(dNew (lcM [3] (nSeq (dVar 1)) (gNm 3) tYes (dCall m_is_arrow [(dVar 0), (dVar 3)])))])))) (sRet (dC (.bl false))) sNil)
  (sSeq (sSet 2 (dNew (lcM [3] (nSeq (dVar 1)) (gNm 3) tYes (dBlt tupleD [(dVar 3)]))))
  (sSeq (sIf (tVal (dBlt anyD [(dNew (lcM [4] (nRng1 (dBin (iiD fun i j => .int (i - j)) (dBlt lenD [(dVar 2)]) (dC (.int 1)))) (gNm 4) tYes (dBin (odD .ge) (dBin ixD (dVar 2) (dVar 4)) (dBin ixD (dVar 2) (dBin addD (dVar 4) (dC (.int 1)))))))])) (sRet (dC (.bl false))) sNil)
  (sRet (dNot (dBlt anyD [(dNew (lcM [5, 6] (nSeq (dVar 2)) (unpackD [gNm 5, gNm 6]) tYes (dBin inD (dTup [(dVar 6), (dVar 5)]) (dVar 2))))]))))))
noncomputable def m_are_arrows : List D → M D := runS (["many", "value", "told", "arrow", "at", "one", "other"] : List Str) S_are_arrows
theorem h_are_arrows (H : Hd K mg base) : Has P w K mg base 4 "are_arrows" 2 m_are_arrows := by
  obtain ⟨fd, F⟩ := H.says.2.def_ 10 (d := d_are_arrows) rfl
  refine def_has (st := st_are_arrows) (k := 3) F sc_are_arrows H.g_are_arrows (F.bindsN fun _ _ _ _ _ _ us hl => match us, hl with | [_, _], _ => rfl) fun cdv A outer s H0 E p hr => ?_
  exact (dss_cons (ds_if (dt_of (dw_or (dt_not (dt_val (de_call (h_is_list H) (hr.mono (by decide)) (da_cons (de_var 1) da_nil)))) (dw_or1 (dt_not (dt_val (de_all H.bl.all (da_cons (de_new (dn_lc [("arrow", 3)] sc_are_arrows.nd (di_seq (de_var 1)) (fun _ _ _ _ _ => (dg_name sc_are_arrows.nd (i := 3))) (fun _ _ _ _ _ => dts_nil) (fun _ _ _ _ _ => (de_call (h_is_arrow H) (hr.mono (by decide)) (da_cons (de_var 0) (da_cons (de_var 3) da_nil)))))) da_nil))))))) (dss_one (ds_ret de_bl)) dss_nil)
  (dss_cons (ds_set 2 sc_are_arrows.nd (de_new (dn_lc [("arrow", 3)] sc_are_arrows.nd (di_seq (de_var 1)) (fun _ _ _ _ _ => (dg_name sc_are_arrows.nd (i := 3))) (fun _ _ _ _ _ => dts_nil) (fun _ _ _ _ _ => (de_tuple H.bl.tuple (da_cons (de_var 3) da_nil))))))
  (dss_cons (ds_if (dt_val (de_any H.bl.any (da_cons (de_new (dn_lc [("at", 4)] sc_are_arrows.nd (di_rng1 H.bl.range (da_cons (de_bin bs_sub (de_len H.bl.len (da_cons (de_var 2) da_nil)) de_int) da_nil)) (fun _ _ _ _ _ => (dg_name sc_are_arrows.nd (i := 4))) (fun _ _ _ _ _ => dts_nil) (fun _ _ _ _ _ => (de_cmp (bs_ge hr.toRoom) (de_ix is_seq (de_var 2) (de_var 4)) (de_ix is_seq (de_var 2) (de_bin bs_add (de_var 4) de_int)))))) da_nil))) (dss_one (ds_ret de_bl)) dss_nil)
  (dss_one (ds_ret (de_not (de_any H.bl.any (da_cons (de_new (dn_lc [("one", 5), ("other", 6)] sc_are_arrows.nd (di_seq (de_var 2)) (fun _ _ _ _ _ => (dg_tup (dgs_cons sc_are_arrows.nd (i := 5) (dgs_cons sc_are_arrows.nd (i := 6) dgs_nil)))) (fun _ _ _ _ _ => dts_nil) (fun _ _ _ _ _ => (de_cmp (bs_in hr.toRoom) (de_tup (da_cons (de_var 6) (da_cons (de_var 5) da_nil))) (de_var 2))))) da_nil))))))))
theorem sc_has_round : FnScope ["size", "arrows", "left", "free", "place", "arrow"] ["size", "arrows"] (defScope st_has_round) := ⟨rfl, rfl, rfl, by decide +kernel, rfl, by decide +kernel, by decide +kernel⟩
noncomputable def S_has_round : S :=
  (sSeq (sSet 2 (dNew (nRng1 (dVar 0))))
  (sSeq (sWhile 1000 (tCmp (odD .gt) (dBlt lenD [(dVar 2)]) (dC (.int 0))) (sSeq (sSet 3 (dNew (lcM [4] (nSeq (dVar 2)) (gNm 4) (tNot (tVal (dBlt anyD [(dNew (lcM [5] (nSeq (dVar 1)) (gNm 5) tYes (dAnd (dBin eqD (dBin ixD (dVar 5) (dC (.int 1))) (dVar 4)) (dBin inD (dBin ixD (dVar 5) (dC (.int 0))) (dVar 2)))))]))) (dVar 4))))
  (sSeq (sIf (tCmp eqD (dBlt lenD [(dVar 3)]) (dC (.int 0))) (sRet (dC (.bl true))) sNil)
  (sSet 2 (dNew (lcM [4] (nSeq (dVar 2)) (gNm 4) (tCmp ninD (dVar 4) (dVar 3)) (dVar 4)))))))
  (sRet (dC (.bl false)))))
noncomputable def m_has_round : List D → M D := runS (["size", "arrows", "left", "free", "place", "arrow"] : List Str) S_has_round
theorem h_has_round (H : Hd K mg base) : Has P w K mg base 1 "has_round" 2 m_has_round := by
  obtain ⟨fd, F⟩ := H.says.2.def_ 11 (d := d_has_round) rfl
  refine def_has (st := st_has_round) (k := 0) F sc_has_round H.g_has_round (F.bindsN fun _ _ _ _ _ _ us hl => match us, hl with | [_, _], _ => rfl) fun cdv A outer s H0 E p hr => ?_
  exact (dss_cons (ds_set 2 sc_has_round.nd (de_new (dn_rng1 H.bl.range H.bl.list (de_var 0))))
  (dss_cons (ds_while 1000 (dt_cmp (bs_gt hr.toRoom) (de_len H.bl.len (da_cons (de_var 2) da_nil)) de_int) (dss_cons (ds_set 3 sc_has_round.nd (de_new (dn_lc [("place", 4)] sc_has_round.nd (di_seq (de_var 2)) (fun _ _ _ _ _ => (dg_name sc_has_round.nd (i := 4))) (fun _ _ _ _ _ => (dts_one (dt_not (dt_val (de_any H.bl.any (da_cons (de_new (dn_lc [("arrow", 5)] sc_has_round.nd (di_seq (de_var 1)) (fun _ _ _ _ _ => (dg_name sc_has_round.nd (i := 5))) (fun _ _ _ _ _ => dts_nil) (fun _ _ _ _ _ => (de_and (de_cmp (bs_eq hr.toRoom) (de_ix is_seq (de_var 5) de_int) (de_var 4)) (de_one (de_cmp (bs_in hr.toRoom) (de_ix is_seq (de_var 5) de_int) (de_var 2))))))) da_nil)))))) (fun _ _ _ _ _ => (de_var 4)))))
  (dss_cons (ds_if (dt_cmp (bs_eq hr.toRoom) (de_len H.bl.len (da_cons (de_var 3) da_nil)) de_int) (dss_one (ds_ret de_bl)) dss_nil)
  (dss_one (ds_set 2 sc_has_round.nd (de_new (dn_lc [("place", 4)] sc_has_round.nd (di_seq (de_var 2)) (fun _ _ _ _ _ => (dg_name sc_has_round.nd (i := 4))) (fun _ _ _ _ _ => (dts_one (dt_cmp (bs_nin hr.toRoom) (de_var 4) (de_var 3)))) (fun _ _ _ _ _ => (de_var 4)))))))) (passes_of rfl))
  (dss_one (ds_ret de_bl))))
theorem sc_arrows_looked : FnScope ["size", "arrows"] ["size", "arrows"] (defScope st_arrows_looked) := ⟨rfl, rfl, rfl, by decide +kernel, rfl, by decide +kernel, by decide +kernel⟩
noncomputable def S_arrows_looked : S :=
  (sIf (tVal (dCall m_has_round [(dVar 0), (dVar 1)])) sBad sNil)
noncomputable def m_arrows_looked : List D → M D := runS (["size", "arrows"] : List Str) S_arrows_looked
theorem h_arrows_looked (H : Hd K mg base) : Has P w K mg base 2 "arrows_looked" 2 m_arrows_looked := by
  obtain ⟨fd, F⟩ := H.says.2.def_ 12 (d := d_arrows_looked) rfl
  refine def_has (st := st_arrows_looked) (k := 1) F sc_arrows_looked H.g_arrows_looked (F.bindsN fun _ _ _ _ _ _ us hl => match us, hl with | [_, _], _ => rfl) fun cdv A outer s H0 E p hr => ?_
  exact (dss_one (ds_if (dt_val (de_call (h_has_round H) (hr.mono (by decide)) (da_cons (de_var 0) (da_cons (de_var 1) da_nil)))) (dss_one ds_never) dss_nil))
theorem sc_new_Web : FnScope ["self", "size", "arrows", "told", "arrow"] ["self", "size", "arrows"] (defScope st_new_Web) := ⟨rfl, rfl, rfl, by decide +kernel, rfl, by decide +kernel, by decide +kernel⟩
noncomputable def S_new_Web : S :=
  (sSeq (sIf (tOr (tNot (tVal (dCall m_is_whole [(dVar 1)]))) (tCmp (odD .lt) (dVar 1) (dC (.int 1)))) sBad sNil)
  (sSeq (sIf (tNot (tVal (dCall m_are_arrows [(dVar 1), (dVar 2)]))) sBad sNil)
  (sSeq (sSet 3 (dBlt tupleD [(dNew (lcM [4] (nSeq (dVar 2)) (gNm 4) tYes (dBlt tupleD [(dVar 4)])))]))
  (sSeq (sDrop (dCall m_arrows_looked [(dVar 1), (dVar 3)]))
  (sSeq (sFldS CS "size" (dVar 1))
  (sFldS CS "arrows" (dVar 3)))))))
noncomputable def m_Web : List D → M D := runI (["self", "size", "arrows", "told", "arrow"] : List Str) "Web" S_new_Web
theorem h_Web (H : Hd K mg base) : HasI P w K mg base 5 "Web" 2 m_Web := by
  obtain ⟨fd, F⟩ := H.says.2.def_ 13 (d := d_new_Web) rfl
  refine init_has (st := st_new_Web) (k := 4) F sc_new_Web H.m_Web H.o_Web (F.bindsN fun _ _ _ _ _ _ us hl => match us, hl with | [_, _, _], _ => rfl) rfl fun cdv A outer s H0 E p hr => ?_
  exact (dss_cons (ds_if (dt_of (dw_or (dt_not (dt_val (de_call (h_is_whole H) (hr.mono (by decide)) (da_cons (de_var 1) da_nil)))) (dw_or1 (dt_cmp (bs_lt hr.toRoom) (de_var 1) de_int)))) (dss_one ds_never) dss_nil)
  (dss_cons (ds_if (dt_not (dt_val (de_call (h_are_arrows H) (hr.mono (by decide)) (da_cons (de_var 1) (da_cons (de_var 2) da_nil))))) (dss_one ds_never) dss_nil)
  (dss_cons (ds_set 3 sc_new_Web.nd (de_tuple H.bl.tuple (da_cons (de_new (dn_lc [("arrow", 4)] sc_new_Web.nd (di_seq (de_var 2)) (fun _ _ _ _ _ => (dg_name sc_new_Web.nd (i := 4))) (fun _ _ _ _ _ => dts_nil) (fun _ _ _ _ _ => (de_tuple H.bl.tuple (da_cons (de_var 4) da_nil))))) da_nil)))
  (dss_cons (ds_expr (de_call (h_arrows_looked H) (hr.mono (by decide)) (da_cons (de_var 1) (da_cons (de_var 3) da_nil))))
  (dss_cons (ds_fld H.kl (de_var 1))
  (dss_one (ds_fld H.kl (de_var 3))))))))
theorem sc__law_all : FnScope ["size", "arrows", "layer", "lap", "longer", "way", "i", "j"] ["size", "arrows"] (defScope st__law_all) := ⟨rfl, rfl, rfl, by decide +kernel, rfl, by decide +kernel, by decide +kernel⟩
noncomputable def S__law_all : S :=
  (sSeq (sSet 2 (dNew (nLst [(dTup [])])))
  (sSeq (sFor (nRng1 (dVar 0)) (gNm 3) (sSeq (sSet 4 (dNew (nLst [])))
  (sSeq (sFor (nSeq (dVar 2)) (gNm 5) (sSet 4 (dBin addD (dVar 4) (dNew (lcM [6] (nRng1 (dVar 0)) (gNm 6) (tAnd (tCmp ninD (dVar 6) (dVar 5)) (tVal (dBlt allD [(dNew (lcM [7] (nRng1 (dVar 0)) (gNm 7) (tCmp inD (dTup [(dVar 7), (dVar 6)]) (dVar 1)) (dBin inD (dVar 7) (dVar 5))))]))) (dBin addD (dVar 5) (dTup [(dVar 6)])))))))
  (sSet 2 (dVar 4)))))
  (sRet (dVar 2))))
noncomputable def m__law_all : List D → M D := runS (["size", "arrows", "layer", "lap", "longer", "way", "i", "j"] : List Str) S__law_all
theorem h__law_all (H : Hd K mg base) : Has P w K mg base 1 "_law_all" 2 m__law_all := by
  obtain ⟨fd, F⟩ := H.says.2.def_ 14 (d := d__law_all) rfl
  refine def_has (st := st__law_all) (k := 0) F sc__law_all H.g__law_all (F.bindsN fun _ _ _ _ _ _ us hl => match us, hl with | [_, _], _ => rfl) fun cdv A outer s H0 E p hr => ?_
  exact (dss_cons (ds_set 2 sc__law_all.nd (de_new (dn_lst (da_cons (de_tup da_nil) da_nil))))
  (dss_cons (ds_for (di_rng1 H.bl.range (da_cons (de_var 0) da_nil)) (dg_name sc__law_all.nd (i := 3)) (dss_cons (ds_set 4 sc__law_all.nd (de_new (dn_lst da_nil)))
  (dss_cons (ds_for (di_seq (de_var 2)) (dg_name sc__law_all.nd (i := 5)) (dss_one (ds_set 4 sc__law_all.nd (de_bin bs_add (de_var 4) (de_new (dn_lc [("i", 6)] sc__law_all.nd (di_rng1 H.bl.range (da_cons (de_var 0) da_nil)) (fun _ _ _ _ _ => (dg_name sc__law_all.nd (i := 6))) (fun _ _ _ _ _ => (dts_one (dt_of (dw_and (dt_cmp (bs_nin hr.toRoom) (de_var 6) (de_var 5)) (dw_and1 (dt_val (de_all H.bl.all (da_cons (de_new (dn_lc [("j", 7)] sc__law_all.nd (di_rng1 H.bl.range (da_cons (de_var 0) da_nil)) (fun _ _ _ _ _ => (dg_name sc__law_all.nd (i := 7))) (fun _ _ _ _ _ => (dts_one (dt_cmp (bs_in hr.toRoom) (de_tup (da_cons (de_var 7) (da_cons (de_var 6) da_nil))) (de_var 1)))) (fun _ _ _ _ _ => (de_cmp (bs_in hr.toRoom) (de_var 7) (de_var 5))))) da_nil)))))))) (fun _ _ _ _ _ => (de_bin bs_add (de_var 5) (de_tup (da_cons (de_var 6) da_nil))))))))) (passes_of rfl))
  (dss_one (ds_set 2 sc__law_all.nd (de_var 4))))) (passes_of rfl))
  (dss_one (ds_ret (de_var 2)))))
theorem sc_sources_in : FnScope ["web", "place", "one"] ["web", "place"] (defScope st_sources_in) := ⟨rfl, rfl, rfl, by decide +kernel, rfl, by decide +kernel, by decide +kernel⟩
noncomputable def S_sources_in : S :=
  (sRet (dBlt tupleD [(dNew (lcM [2] (nRng1 (dAttr CS "size" (dVar 0))) (gNm 2) (tCmp inD (dTup [(dVar 2), (dVar 1)]) (dAttr CS "arrows" (dVar 0))) (dVar 2)))]))
noncomputable def m_sources_in : List D → M D := runS (["web", "place", "one"] : List Str) S_sources_in
theorem h_sources_in (H : Hd K mg base) : Has P w K mg base 1 "sources_in" 2 m_sources_in := by
  obtain ⟨fd, F⟩ := H.says.2.def_ 15 (d := d_sources_in) rfl
  refine def_has (st := st_sources_in) (k := 0) F sc_sources_in H.g_sources_in (F.bindsN fun _ _ _ _ _ _ us hl => match us, hl with | [_, _], _ => rfl) fun cdv A outer s H0 E p hr => ?_
  exact (dss_one (ds_ret (de_tuple H.bl.tuple (da_cons (de_new (dn_lc [("one", 2)] sc_sources_in.nd (di_rng1 H.bl.range (da_cons (de_attr H.kl (de_var 0)) da_nil)) (fun _ _ _ _ _ => (dg_name sc_sources_in.nd (i := 2))) (fun _ _ _ _ _ => (dts_one (dt_cmp (bs_in hr.toRoom) (de_tup (da_cons (de_var 2) (da_cons (de_var 1) da_nil))) (de_attr H.kl (de_var 0))))) (fun _ _ _ _ _ => (de_var 2)))) da_nil))))
theorem sc_all_orders : FnScope ["web", "layer", "_", "way", "place", "source"] ["web"] (defScope st_all_orders) := ⟨rfl, rfl, rfl, by decide +kernel, rfl, by decide +kernel, by decide +kernel⟩
noncomputable def S_all_orders : S :=
  (sSeq (sSet 1 (dNew (nLst [(dTup [])])))
  (sSeq (sFor (nRng1 (dAttr CS "size" (dVar 0))) (gNm 2) (sSet 1 (dNew (lc2M [3, 4] [4] (nSeq (dVar 1)) (gNm 3) tYes (nRng1 (dAttr CS "size" (dVar 0))) (gNm 4) (tAnd (tCmp ninD (dVar 4) (dVar 3)) (tVal (dBlt allD [(dNew (lcM [5] (nSeq (dCall m_sources_in [(dVar 0), (dVar 4)])) (gNm 5) tYes (dBin inD (dVar 5) (dVar 3))))]))) (dBin addD (dVar 3) (dTup [(dVar 4)]))))))
  (sRet (dBlt tupleD [(dVar 1)]))))
noncomputable def m_all_orders : List D → M D := runS (["web", "layer", "_", "way", "place", "source"] : List Str) S_all_orders
theorem h_all_orders (H : Hd K mg base) : Has P w K mg base 2 "all_orders" 1 m_all_orders := by
  obtain ⟨fd, F⟩ := H.says.2.def_ 16 (d := d_all_orders) rfl
  refine def_has (st := st_all_orders) (k := 1) F sc_all_orders H.g_all_orders (F.bindsN fun _ _ _ _ _ _ us hl => match us, hl with | [_], _ => rfl) fun cdv A outer s H0 E p hr => ?_
  exact (dss_cons (ds_set 1 sc_all_orders.nd (de_new (dn_lst (da_cons (de_tup da_nil) da_nil))))
  (dss_cons (ds_for (di_rng1 H.bl.range (da_cons (de_attr H.kl (de_var 0)) da_nil)) (dg_name sc_all_orders.nd (i := 2)) (dss_one (ds_lcD2 1 [("way", 3), ("place", 4)] sc_all_orders.nd (vs1 := [4]) (di_seq (de_var 1)) (fun _ _ _ _ _ => (dg_name sc_all_orders.nd (i := 3))) (fun _ _ _ _ _ => dts_nil) (fun _ _ _ _ _ => (di_rng1 H.bl.range (da_cons (de_attr H.kl (de_var 0)) da_nil))) (fun _ _ _ _ _ => (dg_name sc_all_orders.nd (i := 4))) (fun _ _ _ _ _ => (dts_one (dt_of (dw_and (dt_cmp (bs_nin hr.toRoom) (de_var 4) (de_var 3)) (dw_and1 (dt_val (de_all H.bl.all (da_cons (de_new (dn_lc [("source", 5)] sc_all_orders.nd (di_seq (de_call (h_sources_in H) (hr.mono (by decide)) (da_cons (de_var 0) (da_cons (de_var 4) da_nil)))) (fun _ _ _ _ _ => (dg_name sc_all_orders.nd (i := 5))) (fun _ _ _ _ _ => dts_nil) (fun _ _ _ _ _ => (de_cmp (bs_in hr.toRoom) (de_var 5) (de_var 3))))) da_nil)))))))) (fun _ _ _ _ _ => (de_bin bs_add (de_var 3) (de_tup (da_cons (de_var 4) da_nil)))))) (passes_of rfl))
  (dss_one (ds_ret (de_tuple H.bl.tuple (da_cons (de_var 1) da_nil))))))
theorem sc_an_order : FnScope ["web", "found", "ready", "place", "source"] ["web"] (defScope st_an_order) := ⟨rfl, rfl, rfl, by decide +kernel, rfl, by decide +kernel, by decide +kernel⟩
noncomputable def S_an_order : S :=
  (sSeq (sOwnS 1 (nLst []))
  (sSeq (sWhile 1000 (tThaw (tCmp (odD .lt) (dBlt lenD [(dVar 1)]) (dAttr CS "size" (dVar 0)))) (sSeq (sSet 2 (dNew (lcM [3] (nRng1 (dAttr CS "size" (dVar 0))) (gNm 3) (tThaw (tAnd (tCmp ninD (dVar 3) (dVar 1)) (tVal (dBlt allD [(dNew (lcM [4] (nSeq (dCall m_sources_in [(dVar 0), (dVar 3)])) (gNm 4) tYes (dBin inD (dVar 4) (dVar 1))))])))) (dVar 3))))
  (sApp 1 (dBin ixD (dVar 2) (dC (.int 0))))))
  (sRet (dBlt tupleD [(dVar 1)]))))
noncomputable def m_an_order : List D → M D := runS (["web", "found", "ready", "place", "source"] : List Str) S_an_order
theorem h_an_order (H : Hd K mg base) : Has P w K mg base 2 "an_order" 1 m_an_order := by
  obtain ⟨fd, F⟩ := H.says.2.def_ 17 (d := d_an_order) rfl
  refine def_has (st := st_an_order) (k := 1) F sc_an_order H.g_an_order (F.bindsN fun _ _ _ _ _ _ us hl => match us, hl with | [_], _ => rfl) fun cdv A outer s H0 E p hr => ?_
  exact (dss_cons (ds_own 1 sc_an_order.nd (dn_lst da_nil))
  (dss_cons (ds_while 1000 (dt_thaw (dt_cmp (bs_lt hr.toRoom) (de_len H.bl.len (da_cons (de_var 1) da_nil)) (de_attr H.kl (de_var 0)))) (dss_cons (ds_lcD 2 [("place", 3)] sc_an_order.nd (di_rng1 H.bl.range (da_cons (de_attr H.kl (de_var 0)) da_nil)) (fun _ _ _ _ _ => (dg_name sc_an_order.nd (i := 3))) (fun _ _ _ _ _ => (dts_one (dt_thaw (dt_of (dw_and (dt_cmp (bs_nin hr.toRoom) (de_var 3) (de_var 1)) (dw_and1 (dt_val (de_all H.bl.all (da_cons (de_new (dn_lc [("source", 4)] sc_an_order.nd (di_seq (de_call (h_sources_in H) (hr.mono (by decide)) (da_cons (de_var 0) (da_cons (de_var 3) da_nil)))) (fun _ _ _ _ _ => (dg_name sc_an_order.nd (i := 4))) (fun _ _ _ _ _ => dts_nil) (fun _ _ _ _ _ => (de_cmp (bs_in hr.toRoom) (de_var 4) (de_var 1))))) da_nil))))))))) (fun _ _ _ _ _ => (de_var 3)))
  (dss_one (ds_app 1 (de_ix is_seq (de_var 2) de_int)))) (passes_of rfl))
  (dss_one (ds_ret (de_tuple H.bl.tuple (da_cons (de_var 1) da_nil))))))
theorem sc__law_is_int : FnScope ["thing"] ["thing"] (defScope st__law_is_int) := ⟨rfl, rfl, rfl, by decide +kernel, rfl, by decide +kernel, by decide +kernel⟩
noncomputable def S__law_is_int : S :=
  (sRet (dAnd (dIsi CS TS [.ty "int"] (dVar 0)) (dNot (dIsi CS TS [.ty "bool"] (dVar 0)))))
noncomputable def m__law_is_int : List D → M D := runS (["thing"] : List Str) S__law_is_int
theorem h__law_is_int (H : Hd K mg base) : Has P w K mg base 1 "_law_is_int" 1 m__law_is_int := by
  obtain ⟨fd, F⟩ := H.says.2.def_ 18 (d := d__law_is_int) rfl
  refine def_has (st := st__law_is_int) (k := 0) F sc__law_is_int H.g__law_is_int (F.bindsN fun _ _ _ _ _ _ us hl => match us, hl with | [_], _ => rfl) fun cdv A outer s H0 E p hr => ?_
  exact (dss_one (ds_ret (de_and (de_isi1 H.kt H.bl.isinstance (de_var 0) (pe_ty H.bl.int (by decide +kernel))) (de_one (de_not (de_isi1 H.kt H.bl.isinstance (de_var 0) (pe_ty H.bl.bool (by decide +kernel))))))))
theorem sc_is_order : FnScope ["web", "value", "one", "other", "place"] ["web", "value"] (defScope st_is_order) := ⟨rfl, rfl, rfl, by decide +kernel, rfl, by decide +kernel, by decide +kernel⟩
noncomputable def S_is_order : S :=
  (sSeq (sIf (tOr (tNot (tVal (dIsi CS TS [.ty "tuple"] (dVar 1)))) (tNot (tVal (dBlt allD [(dNew (lcM [4] (nSeq (dVar 1)) (gNm 4) tYes (dCall m_is_index [(dAttr CS "size" (dVar 0)), (dVar 4)])))])))) (sRet (dC (.bl false))) sNil)
  (sSeq (sIf (tCmp neD (dNew (nSorted [(dVar 1)])) (dNew (nRng1 (dAttr CS "size" (dVar 0))))) (sRet (dC (.bl false))) sNil)
  (sRet (dBlt allD [(dNew (lcM [2, 3] (nSeq (dAttr CS "arrows" (dVar 0))) (unpackD [gNm 2, gNm 3]) tYes (dBin (odD .lt) (dIndexT (dVar 1) (dVar 2)) (dIndexT (dVar 1) (dVar 3)))))]))))
noncomputable def m_is_order : List D → M D := runS (["web", "value", "one", "other", "place"] : List Str) S_is_order
theorem h_is_order (H : Hd K mg base) : Has P w K mg base 3 "is_order" 2 m_is_order := by
  obtain ⟨fd, F⟩ := H.says.2.def_ 19 (d := d_is_order) rfl
  refine def_has (st := st_is_order) (k := 2) F sc_is_order H.g_is_order (F.bindsN fun _ _ _ _ _ _ us hl => match us, hl with | [_, _], _ => rfl) fun cdv A outer s H0 E p hr => ?_
  exact (dss_cons (ds_if (dt_of (dw_or (dt_not (dt_val (de_isi1 H.kt H.bl.isinstance (de_var 1) (pe_ty H.bl.tuple (by decide +kernel))))) (dw_or1 (dt_not (dt_val (de_all H.bl.all (da_cons (de_new (dn_lc [("place", 4)] sc_is_order.nd (di_seq (de_var 1)) (fun _ _ _ _ _ => (dg_name sc_is_order.nd (i := 4))) (fun _ _ _ _ _ => dts_nil) (fun _ _ _ _ _ => (de_call (h_is_index H) (hr.mono (by decide)) (da_cons (de_attr H.kl (de_var 0)) (da_cons (de_var 4) da_nil)))))) da_nil))))))) (dss_one (ds_ret de_bl)) dss_nil)
  (dss_cons (ds_if (dt_cmp (bs_ne hr.toRoom) (de_new (dn_sorted H.bl.sorted (da_cons (de_var 1) da_nil))) (de_new (dn_rng1 H.bl.range H.bl.list (de_attr H.kl (de_var 0))))) (dss_one (ds_ret de_bl)) dss_nil)
  (dss_one (ds_ret (de_all H.bl.all (da_cons (de_new (dn_lc [("one", 2), ("other", 3)] sc_is_order.nd (di_seq (de_attr H.kl (de_var 0))) (fun _ _ _ _ _ => (dg_tup (dgs_cons sc_is_order.nd (i := 2) (dgs_cons sc_is_order.nd (i := 3) dgs_nil)))) (fun _ _ _ _ _ => dts_nil) (fun _ _ _ _ _ => (de_cmp (bs_lt hr.toRoom) (de_indexT (de_var 1) (de_var 2)) (de_indexT (de_var 1) (de_var 3)))))) da_nil))))))
theorem sc_law : FnScope ["script", "pen", "size", "arrows", "lap", "web", "every", "order", "made", "odd", "due", "at", "other", "i"] ["script"] (defScope st_law) := ⟨rfl, rfl, rfl, by decide +kernel, rfl, by decide +kernel, by decide +kernel⟩
abbrev N_law : List Str := (["script", "pen", "size", "arrows", "lap", "web", "every", "order", "made", "odd", "due", "at", "other", "i"] : List Str)
noncomputable def S_law : S :=
  (sSeq (sSet 2 (dCall m__law_size [(dVar 1)]))
  (sSeq (sSet 3 (dCall m__law_web_arrows [(dVar 1), (dVar 2)]))
  (sSeq (sPar 5 6 (dCall m_Web [(dVar 2), (dVar 3)]) (dCall m__law_all [(dVar 2), (dVar 3)]))
  (sSeq (sIf (tOr (tCmp neD (dCall m_all_orders [(dVar 5)]) (dBlt tupleD [(dVar 6)])) (tOr (tCmp neD (dCall m_an_order [(dVar 5)]) (dBin ixD (dVar 6) (dC (.int 0)))) (tNot (tVal (dIsi CS TS [.ty "tuple"] (dCall m_an_order [(dVar 5)])))))) (sRet (dC (.bl false))) sNil)
  (sSeq (sFor (nRng1 (dC (.int 10))) (gNm 4) (sSeq (sSet 7 (dIf (tCmp (odD .lt) (dVar 4) (dC (.int 5))) (dCall m__law_pick [(dVar 1), (dVar 6)]) (dBlt tupleD [(dCall m__law_shuffled [(dVar 1), (dNew (nRng1 (dVar 2)))])])))
  (sSeq (sPar 11 12 (dCall m__law_draw [(dVar 1), (dVar 2)]) (dCall m__law_draw [(dVar 1), (dVar 2)]))
  (sSeq (sOwnS 8 (nList [(dVar 7)]))
  (sSeq (sStore2 8 (dVar 11) (dVar 12) (dBin ixD (dVar 7) (dVar 12)) (dBin ixD (dVar 7) (dVar 11)))
  (sSeq (sSet 9 (dCall m__law_pick [(dVar 1), (dNew (nLst [(dVar 7), (dThaw (dBlt tupleD [(dVar 8)])), (dNew (nList [(dVar 7)])), (dSl (dVar 7) (oS (dC (.int 1))) oN), (dBin addD (dVar 7) (dTup [(dC (.int 0))])), (dBin addD (dBin addD (dSl (dVar 7) oN (oS (dVar 11))) (dTup [(dCall m__law_pick [(dVar 1), (dNew (nLst [(dVar 2), (dC (.bl true)), (dC .non), (dNeg (dC (.int 1))), (dC (.int 0))]))])])) (dSl (dVar 7) (oS (dBin addD (dVar 11) (dC (.int 1)))) oN)), (dC .non), (dC (.int 0))]))]))
  (sSeq (sSet 10 (dAnd (dIsi CS TS [.ty "tuple"] (dVar 9)) (dAnd (dBin inD (dVar 9) (dVar 6)) (dBlt allD [(dNew (lcM [13] (nSeq (dVar 9)) (gNm 13) tYes (dCall m__law_is_int [(dVar 13)])))]))))
  (sIf (tOr (tCmp neD (dCall m_is_order [(dVar 5), (dVar 9)]) (dVar 10)) (tNot (tVal (dIsi CS TS [.ty "bool"] (dCall m_is_order [(dVar 5), (dVar 9)]))))) (sRet (dC (.bl false))) sNil))))))))
  (sRet (dBlt allD [(dNew (lcM [13] (nSeq (dCall m_an_order [(dVar 5)])) (gNm 13) tYes (dCall m__law_is_int [(dVar 13)])))])))))))
theorem h_law (S : HdS K mg) (main : ∀ ns : List Int, ns.length ≤ 63 → wpM (runL (["script", "pen", "size", "arrows", "lap", "web", "every", "order", "made", "odd", "due", "at", "other", "i"] : List Str) S_law) (pen0 ns) (fun d _ => d = .bl true) fun _ _ _ => False) : ∃ fd, (∀ (s : Shared) (u : Value), BindsTo s fd ⟨[u], []⟩ [("script", u)]) ∧ ∀ base : Heap, TBs K mg base LS → FnG P w K mg base (L2.CX P w) 8 (He.ga K "law") fd ["script"] (spLawT K (tabsOf K LS)) := by
  obtain ⟨fd, F⟩ := S.says.2.def_ 20 (d := d_law) rfl
  have b := FunD.bindsA (ps := ["script"]) F fun _ _
      _ _ _ _ us hl => match us, hl with | [_], _ => rfl
  refine ⟨fd, fun s u => b s [u] rfl, fun base tb => ?_⟩
  have H : Hd K mg base := ⟨S.says, S.inK, tb⟩
  obtain ⟨fdp, bp, kp, hp⟩ := h__law_pen (P := P) (w := w) (base := base) H
  refine law_has (st := st_law) (k := 6) (T := tabsOf K LS) (fun _ => True) F sc_law (fun _ _ _ _ => trivial) rfl hp H.g__law_pen kp bp (by rfl) (fun cdv A outer s H0 E => ⟨by first | exact .inl rfl | exact .inr (.inl rfl) | exact .inr (.inr rfl), by first | exact .inl rfl | exact .inr rfl, by first | exact .inr rfl | exact .inl rfl, rfl⟩) (fun cdv A outer s H0 E p hpr eT hr => ?_) main
  exact (dss_cons (ds_set 2 sc_law.nd (de_call (h__law_size H) (hr.mono (by decide)) (da_cons (de_var 1) da_nil)))
  (dss_cons (ds_set 3 sc_law.nd (de_call (h__law_web_arrows H) (hr.mono (by decide)) (da_cons (de_var 1) (da_cons (de_var 2) da_nil))))
  (dss_cons (ds_par (i := 5) (j := 6) sc_law.nd (de_make (h_Web H) (hr.mono (by decide)) (da_cons (de_var 2) (da_cons (de_var 3) da_nil))) (de_call (h__law_all H) (hr.mono (by decide)) (da_cons (de_var 2) (da_cons (de_var 3) da_nil))))
  (dss_cons (ds_if (dt_of (dw_or (dt_cmp (bs_ne hr.toRoom) (de_call (h_all_orders H) (hr.mono (by decide)) (da_cons (de_var 5) da_nil)) (de_tuple H.bl.tuple (da_cons (de_var 6) da_nil))) (dw_or (dt_cmp (bs_ne hr.toRoom) (de_call (h_an_order H) (hr.mono (by decide)) (da_cons (de_var 5) da_nil)) (de_ix is_seq (de_var 6) de_int)) (dw_or1 (dt_not (dt_val (de_isi1 H.kt H.bl.isinstance (de_call (h_an_order H) (hr.mono (by decide)) (da_cons (de_var 5) da_nil)) (pe_ty H.bl.tuple (by decide +kernel))))))))) (dss_one (ds_ret de_bl)) dss_nil)
  (dss_cons (ds_for (di_rng1 H.bl.range (da_cons de_int da_nil)) (dg_name sc_law.nd (i := 4)) (dss_cons (ds_set 7 sc_law.nd (de_if (dt_cmp (bs_lt hr.toRoom) (de_var 4) de_int) (de_call (h__law_pick H) (hr.mono (by decide)) (da_cons (de_var 1) (da_cons (de_var 6) da_nil))) (de_tuple H.bl.tuple (da_cons (de_call (h__law_shuffled H) (hr.mono (by decide)) (da_cons (de_var 1) (da_cons (de_new (dn_rng1 H.bl.range H.bl.list (de_var 2))) da_nil))) da_nil))))
  (dss_cons (ds_par (i := 11) (j := 12) sc_law.nd (de_call (h__law_draw H) (hr.mono (by decide)) (da_cons (de_var 1) (da_cons (de_var 2) da_nil))) (de_call (h__law_draw H) (hr.mono (by decide)) (da_cons (de_var 1) (da_cons (de_var 2) da_nil))))
  (dss_cons (ds_own 8 sc_law.nd (dn_list H.bl.list (da_cons (de_var 7) da_nil)))
  (dss_cons (ds_store2 8 (de_ix is_seq (de_var 7) (de_var 12)) (de_ix is_seq (de_var 7) (de_var 11)) (de_var 11) (de_var 12) (pg_tup rfl (pgs_cons (pg_sub (pv _) pe_self set_list) (pgs_cons (pg_sub (pv _) pe_self set_list) pgs_nil))))
  (dss_cons (ds_set 9 sc_law.nd (de_call (h__law_pick H) (hr.mono (by decide)) (da_cons (de_var 1) (da_cons (de_new (dn_lst (da_cons (de_var 7) (da_cons (de_thaw (de_tuple H.bl.tuple (da_cons (de_var 8) da_nil))) (da_cons (de_new (dn_list H.bl.list (da_cons (de_var 7) da_nil))) (da_cons (de_slice (de_var 7) (do_some de_int) do_none) (da_cons (de_bin bs_add (de_var 7) (de_tup (da_cons de_int da_nil))) (da_cons (de_bin bs_add (de_bin bs_add (de_slice (de_var 7) do_none (do_some (de_var 11))) (de_tup (da_cons (de_call (h__law_pick H) (hr.mono (by decide)) (da_cons (de_var 1) (da_cons (de_new (dn_lst (da_cons (de_var 2) (da_cons de_bl (da_cons de_non (da_cons (de_neg de_int) (da_cons de_int da_nil))))))) da_nil))) da_nil))) (de_slice (de_var 7) (do_some (de_bin bs_add (de_var 11) de_int)) do_none)) (da_cons de_non (da_cons de_int da_nil)))))))))) da_nil))))
  (dss_cons (ds_set 10 sc_law.nd (de_and (de_isi1 H.kt H.bl.isinstance (de_var 9) (pe_ty H.bl.tuple (by decide +kernel))) (de_and (de_cmp (bs_in hr.toRoom) (de_var 9) (de_var 6)) (de_one (de_all H.bl.all (da_cons (de_new (dn_lc [("i", 13)] sc_law.nd (di_seq (de_var 9)) (fun _ _ _ _ _ => (dg_name sc_law.nd (i := 13))) (fun _ _ _ _ _ => dts_nil) (fun _ _ _ _ _ => (de_call (h__law_is_int H) (hr.mono (by decide)) (da_cons (de_var 13) da_nil))))) da_nil))))))
  (dss_one (ds_if (dt_of (dw_or (dt_cmp (bs_ne hr.toRoom) (de_call (h_is_order H) (hr.mono (by decide)) (da_cons (de_var 5) (da_cons (de_var 9) da_nil))) (de_var 10)) (dw_or1 (dt_not (dt_val (de_isi1 H.kt H.bl.isinstance (de_call (h_is_order H) (hr.mono (by decide)) (da_cons (de_var 5) (da_cons (de_var 9) da_nil))) (pe_ty H.bl.bool (by decide +kernel)))))))) (dss_one (ds_ret de_bl)) dss_nil)))))))) (passes_of rfl))
  (dss_one (ds_ret (de_all H.bl.all (da_cons (de_new (dn_lc [("i", 13)] sc_law.nd (di_seq (de_call (h_an_order H) (hr.mono (by decide)) (da_cons (de_var 5) da_nil))) (fun _ _ _ _ _ => (dg_name sc_law.nd (i := 13))) (fun _ _ _ _ _ => dts_nil) (fun _ _ _ _ _ => (de_call (h__law_is_int H) (hr.mono (by decide)) (da_cons (de_var 13) da_nil))))) da_nil)))))))))
end
end SayLaw

namespace SayLaw
open Say
def drawT : S := (sSeq (sIf (tCmp (odD .gt) (dPen 0 .dig) (dC (.int 0))) (sSeq (sSet 4 (dBin (iicD cPos fun i j => .int (i % j)) (dBlt intD [(dPen 0 .dig)]) (dVar 1)))
  (sSeq (sPenSet 0 .dig (dBin (iicD cDiv fun i j => .int (i / j)) (dPen 0 .dig) (dVar 1)))
  (sRet (dVar 4)))) sNil)
  (sSeq (sSet 2 (dBin addD (dBin addD (dPen 0 .fld) (dBin (iicD cMul fun i j => .int (i * j)) (dPen 0 .cnt) (dC (.int 8513)))) (dC (.int 61))))
  (sRet (dBin (iicD cPos fun i j => .int (i % j)) (dBin (iicD cDiv fun i j => .int (i / j)) (dBlt intD [(dBin (iicD cPos fun i j => .int (i % j)) (dBin (iicD cPow fun i j => .int (i ^ j.toNat)) (dVar 2) (dC (.int 19))) (dC (.int 2305843009213693951)))]) (dC (.int 256))) (dVar 1)))))
theorem drawT_ok {many : Nat} (h1 : 1 ≤ many) (h2 : many < 1073741824) {x : Sl} {k b c : Say.Env → M D} {s : Pen} (ok : s.Ok) (hs : s.count ≤ 1000000001) {R : D → Pen → Prop} (q : ∀ (r : Nat) (s' : Pen), r < many → s'.Ok → s'.count = s.count → R (.int (r : Int)) s') : wpM (drawT k pure b c [.dat .pen, .dat (.int (many : Int)), .no, x, .no]) s R fun _ _ _ => False := by
  obtain ⟨o1, o2, o3, o4, o5⟩ := ok
  have hm : (0 : Int) < (many : Int) := by omega
  have cd : cDiv s.digits (many : Int) = true := decide_eq_true (p := 0 < (many : Int) ∧ (many : Int) < 1073741824) ⟨hm, by omega⟩
  have res : ∀ i : Int, ∃ r : Nat, i % (many : Int) = (r : Int) ∧ r < many := fun i => ⟨(i % (many : Int)).toNat, by rw [Int.toNat_of_nonneg (Int.emod_nonneg _ (by omega))], by have := Int.emod_lt_of_pos i hm; have := Int.emod_nonneg i (show (many : Int) ≠ 0 by omega); omega⟩
  have cp : ∀ i : Int, cPos i (many : Int) = true := fun i => decide_eq_true (p := 0 < (many : Int)) hm
  unfold drawT
  simp only [sSeq, sIf, sSet, sPenSet, sRet, sNil, tCmp, dPen, dC, dBin, dBlt, dVar, isPen, Say.pure_bind, List.getElem?_cons_zero, List.getElem?_cons_succ, seqA, Say.bind_assoc, slD, List.set_cons_succ, List.set_cons_zero, thaw, Sl.thaw, List.map_cons, List.map_nil, wp_bind, wp_getP, PF.get, od_int, lift_some, truB_bl, wp_pure, wp_if, toInt_int, add_int]
  by_cases hd : 0 < s.digits
  · have e1 : Od.gt.i s.digits 0 = true := decide_eq_true (p := 0 < s.digits) hd
    rw [if_pos e1]
    simp only [iic_int _ (cp _), lift_some, wp_pure, wp_bind, wp_getP, PF.get, iic_int _ cd]
    obtain ⟨r, e, hr⟩ := res s.digits
    have nn : 0 ≤ s.digits / (many : Int) := Int.ediv_nonneg o2 (by omega)
    rw [wp_setP (f := .dig) (decide_eq_true (p := 0 ≤ s.digits / (many : Int)) nn), e]
    exact q r _ hr ⟨o1, nn, o3, o4, o5⟩ rfl
  · have e1 : ¬ Od.gt.i s.digits 0 = true := fun z => hd (of_decide_eq_true z)
    rw [if_neg e1]
    have c1 : cMul s.count 8513 = true := by simp [cMul]
    simp only [iic_int _ c1, lift_some, wp_pure, wp_bind, wp_getP, PF.get, add_int]
    have c2 : cPow (s.fold + s.count * 8513 + 61) 19 = true := decide_eq_true (p := (0 : Int) ≤ 19 ∧ (19 : Int) ≤ 1000000 ∧ (s.fold + s.count * 8513 + 61).natAbs < 2 ^ 64) ⟨by decide, by decide, by omega⟩
    simp only [iic_int _ c2, lift_some, wp_pure, wp_bind]
    rw [iic_int _ (show cPos _ 2305843009213693951 = true from rfl)]
    simp only [lift_some, wp_pure, toInt_int]
    rw [iic_int _ (show cDiv _ 256 = true from rfl)]
    simp only [lift_some, wp_pure, iic_int _ (cp _)]
    obtain ⟨r, e, hr⟩ := res ((s.fold + s.count * 8513 + 61) ^ (Int.toNat 19) % 2305843009213693951 / 256)
    rw [e]
    exact q r _ hr ⟨o1, o2, o3, o4, o5⟩ rfl
theorem draw_ok {many : Nat} (h1 : 1 ≤ many) (h2 : many < 1073741824) : Tr 1 (m__law_draw [.pen, .int (many : Int)]) (fun d => ∃ r : Nat, d = .int (r : Int) ∧ r < many) := by
  intro s ok hs
  obtain ⟨o1, o2, o3, o4, o5⟩ := ok
  show wpM (sSeq _ (sSeq _ drawT) _ _ _ _ [.dat .pen, .dat (.int (many : Int)), .no, .no, .no]) s _ _
  simp only [sSeq, sIf, sSet, sPenSet, sNil, tCmp, tAnd, andB, dPen, dPenLen, dPenCell, dC, dBin, dBlt, dVar, isPen, Say.pure_bind, List.getElem?_cons_zero, List.getElem?_cons_succ, seqA, Say.bind_assoc, slD, List.set_cons_succ, List.set_cons_zero, wp_bind, wp_getP, PF.get, od_int, lift_some, truB_bl, wp_pure, wp_if, toInt_int, add_int, eq_int]
  rw [wp_setP (f := .cnt) (decide_eq_true (p := 0 ≤ s.count + 1) (by omega))]
  have fin : ∀ (x : Sl) (s' : Pen), s'.Ok → s'.count = s.count + 1 → wpM (drawT (fun _ => pure .non) pure (fun _ => bad) (fun _ => bad) [.dat .pen, .dat (.int (many : Int)), .no, x, .no]) s' (fun a s' => (∃ r : Nat, a = .int (r : Int) ∧ r < many) ∧ s'.Ok ∧ s'.count ≤ s.count + ((1 : Nat) : Int)) fun _ _ _ => False := fun x s' ok' hc => drawT_ok h1 h2 ok' (by omega) fun r s2 hr ok2 c2 => ⟨⟨r, rfl, hr⟩, ok2, by omega⟩
  simp only [PF.put, wp_lenP, od_int, lift_some, wp_pure, truB_bl]
  by_cases hd : s.digits = 0
  · simp only [hd, decide_true, ↓reduceIte]
    by_cases hp : (s.pos : Int) < (s.cells.length : Int)
    · rw [if_pos (show Od.lt.i (s.pos : Int) (s.cells.length : Int) = true from decide_eq_true hp)]
      have hp' : s.pos < s.cells.length := by omega
      have at_ : L2.atI s.cells (s.pos : Int) = some s.cells[s.pos] := by
        unfold L2.atI L2.ixN
        rw [if_pos (by omega), if_pos hp]
        show s.cells[(s.pos : Int).toNat]? = _
        rw [Int.toNat_natCast, List.getElem?_eq_getElem hp']
      simp only [cellM, wp_bind, wp_cells, at_, Option.map_some, lift_some, wp_pure]
      rw [wp_setP (f := .at) (i := (s.pos : Int) + 1) (show PF.may .at ((s.pos : Int) + 1) = true from decide_eq_true (p := 0 ≤ (s.pos : Int) + 1) (by omega))]
      rw [iic_int _ (show cPow 10 18 = true from by decide)]
      simp only [lift_some, wp_pure, od_int, truB_bl, ii_int, PF.put]
      generalize s.cells[s.pos] = cell
      by_cases hg : (10 : Int) ^ (Int.toNat 18) ≤ cell
      · rw [if_pos (show Od.ge.i cell _ = true from decide_eq_true hg)]
        rw [wp_setP (f := .dig) (decide_eq_true (p := 0 ≤ cell - (10 : Int) ^ (Int.toNat 18)) (by omega))]
        exact fin _ _ ⟨o1, by show 0 ≤ cell - _; omega, by show 0 ≤ s.count + 1; omega, o4, o5⟩ rfl
      · rw [if_neg (show ¬ Od.ge.i cell _ = true from fun z => hg (of_decide_eq_true z))]
        rw [iic_int _ (show cMul s.fold 48271 = true from by simp [cMul])]
        simp only [lift_some, wp_pure, add_int, toInt_int]
        rw [iic_int _ (show cPos _ 2147483563 = true from rfl)]
        simp only [lift_some, wp_pure]
        rw [wp_setP (f := .fld) (fld_in _)]
        have b := of_decide_eq_true (p := 0 ≤ (s.fold * 48271 + cell) % 2147483563 ∧ (s.fold * 48271 + cell) % 2147483563 < 2147483563) (fld_in _)
        exact fin _ _ ⟨o1, Int.le_refl 0, by show 0 ≤ s.count + 1; omega, b.1, b.2⟩ rfl
    · rw [if_neg (show ¬ Od.lt.i (s.pos : Int) (s.cells.length : Int) = true from fun z => hp (of_decide_eq_true z))]
      exact fin _ _ ⟨o1, Int.le_refl 0, by show 0 ≤ s.count + 1; omega, o4, o5⟩ rfl
  · simp only [hd, decide_false, Bool.false_eq_true, ↓reduceIte]
    exact fin _ _ ⟨o1, o2, by show 0 ≤ s.count + 1; omega, o4, o5⟩ rfl
theorem atI_nat {α : Type} {xs : List α} {r : Nat} (h : r < xs.length) : L2.atI xs (r : Int) = some xs[r] := by
  unfold L2.atI L2.ixN
  rw [if_pos (by omega),
      if_pos (by omega)]
  show xs[(r : Int).toNat]? = _
  rw [Int.toNat_natCast, List.getElem?_eq_getElem h]
theorem pick_ok {xs : List D} (h1 : 1 ≤ xs.length) (h2 : xs.length < 1073741824) : Tr 1 (m__law_pick [.pen, .lst xs]) (fun d => d ∈ xs) := by
  have e : m__law_pick [.pen, .lst xs] = m__law_draw [.pen, .int (xs.length : Int)] >>= fun y => lift (ixD (.lst xs) y) := by
    simp only [m__law_pick, S__law_pick, runS, startE, sSeq, sIf, sSet, sRet, sRetN, sNil, sParV, sFor, sApp, sAppPop, tCmp, tVal, tAnd, tOr, tNot, tYes, tThaw, andB, orB, notB, andV, orV, notV, dC, dBin, dBlt, dVar, dCall, dNew, dThaw, dTup, dIf, dAnd, dOr, dNot, dIsi, dSl, dAttr, oN, oS, nLst, nList, nRng1, nRng2, nSeq, nOwn, nSorted, nThaw, gNm, vD, vN, seqV, setE, Say.pure_bind, Say.bind_assoc, List.getElem?_cons_zero, List.getElem?_cons_succ, seqA, slD, List.set_cons_succ, List.set_cons_zero, thaw, Sl.thaw, List.map_cons, List.map_nil, lift_some, truB_bl, bindT, ownL, slOwn, List.length_cons, List.length_nil, List.cons_append, List.nil_append, List.replicate, Nat.reduceAdd, Nat.reduceSub, List.all_cons, List.all_nil, mkTup0, mkTup1, mkTup2, mkLst0, mkLst1, mkLst4, mkLst5, mkLst8, wipeE, sPar, sOwnS, sStore2, sPut, dNeg, negD, lenD, Say.bind_pure]
  rw [e]
  refine Tr.bind (C2 := 0) (draw_ok h1 h2) (fun y ⟨r, ey, hr⟩ => ?_)
  subst ey
  show Tr 0 (lift (L2.atI xs (r : Int))) _
  rw [atI_nat hr]
  exact Tr.pure (List.getElem_mem hr)
theorem seqIx {r n : Nat} (h : r < n) : PySem.seqIndex? (r : Int) n = some r := by
  unfold PySem.seqIndex?
  have e : (if (r : Int) < 0 then (r : Int) + (n : Int) else (r : Int)) = (r : Int) := if_neg (by omega)
  simp only [e]
  rw [if_pos (by simp; omega)]
  rfl
theorem eraseIdx_perm {α : Type} : ∀ {xs : List α} {r : Nat} (h : r < xs.length), xs.Perm (xs[r] :: xs.eraseIdx r)
  | x :: xs, 0, _ => List.Perm.refl _
  | x :: xs, r + 1, h => by
    have h' : r < xs.length := Nat.lt_of_succ_lt_succ h
    refine ((eraseIdx_perm h').cons x).trans ?_
    exact List.Perm.swap _ _ _
theorem eraseIdx_map' {α β : Type} (f : α → β) : ∀ (xs : List α) (r : Nat), (xs.map f).eraseIdx r = (xs.eraseIdx r).map f
  | [], _ => rfl
  | x :: xs, 0 => rfl
  | x :: xs, r + 1 => congrArg (f x :: ·) (eraseIdx_map' f xs r)
theorem shuffled_ok {ns : List Int} (h : ns.length ≤ 1000) : Tr ns.length (m__law_shuffled [.pen, .lst (ns.map D.int)]) (fun d => ∃ ms : List Int, d = .lst (ms.map D.int) ∧ ms.Perm ns) := by
  simp only [m__law_shuffled, S__law_shuffled, runS, startE, sSeq, sIf, sSet, sRet, sRetN, sNil, sParV, sFor, sApp, sAppPop, tCmp, tVal, tAnd, tOr, tNot, tYes, tThaw, andB, orB, notB, andV, orV, notV, dC, dBin, dBlt, dVar, dCall, dNew, dThaw, dTup, dIf, dAnd, dOr, dNot, dIsi, dSl, dAttr, oN, oS, nLst, nList, nRng1, nRng2, nSeq, nOwn, nSorted, nThaw, gNm, vD, vN, seqV, setE, Say.pure_bind, Say.bind_assoc, List.getElem?_cons_zero, List.getElem?_cons_succ, seqA, slD, List.set_cons_succ, List.set_cons_zero, thaw, Sl.thaw, List.map_cons, List.map_nil, lift_some, truB_bl, bindT, ownL, slOwn, List.length_cons, List.length_nil, List.cons_append, List.nil_append, List.replicate, Nat.reduceAdd, Nat.reduceSub, List.all_cons, List.all_nil, mkTup0, mkTup1, mkTup2, mkLst0, mkLst1, mkLst4, mkLst5, mkLst8, wipeE, sPar, sOwnS, sStore2, sPut, dNeg, negD, lenD, listD, mkLst0, List.length_map, if_true, rngM_nat ns.length (by omega)]
  refine Tr.mono (Tr.for (C := 1) (C0 := 0) (fun xs ρ => ∃ (x2 : Sl) (rem found : List Int), ρ = [.dat .pen, .dat (.lst (ns.map D.int)), x2, .own (.lst (rem.map D.int)), .own (.lst (found.map D.int))] ∧ xs.length = rem.length ∧ (found ++ rem).Perm ns) ?_ ?_ _ _ ⟨.no, ns, [], rfl, by simp, by simp⟩) (fun _ z => z) (by simp)
  · rintro ρ ⟨x2, rem, found, rfl, hl, hp⟩
    have : rem = [] := List.length_eq_zero_iff.mp hl.symm
    subst this
    simp only [runS, startE, sSeq, sIf, sSet, sRet, sRetN, sNil, sParV, sFor, sApp, sAppPop, tCmp, tVal, tAnd, tOr, tNot, tYes, tThaw, andB, orB, notB, andV, orV, notV, dC, dBin, dBlt, dVar, dCall, dNew, dThaw, dTup, dIf, dAnd, dOr, dNot, dIsi, dSl, dAttr, oN, oS, nLst, nList, nRng1, nRng2, nSeq, nOwn, nSorted, nThaw, gNm, vD, vN, seqV, setE, Say.pure_bind, Say.bind_assoc, List.getElem?_cons_zero, List.getElem?_cons_succ, seqA, slD, List.set_cons_succ, List.set_cons_zero, thaw, Sl.thaw, List.map_cons, List.map_nil, lift_some, truB_bl, bindT, ownL, slOwn, List.length_cons, List.length_nil, List.cons_append, List.nil_append, List.replicate, Nat.reduceAdd, Nat.reduceSub, List.all_cons, List.all_nil, mkTup0, mkTup1, mkTup2, mkLst0, mkLst1, mkLst4, mkLst5, mkLst8, wipeE, sPar, sOwnS, sStore2, sPut, dNeg, negD]
    exact Tr.pure ⟨found, rfl, by simpa using hp⟩
  · rintro x xs ρ ⟨x2, rem, found, rfl, hl, hp⟩ n k' hk
    have hr : 1 ≤ rem.length := by rw [List.length_cons] at hl; omega
    have hlen : rem.length ≤ 1000 := by have := hp.length_eq; rw [List.length_append] at this; omega
    have hfl : found.length < 1000000 := by have := hp.length_eq; rw [List.length_append] at this; omega
    simp only [runS, startE, sSeq, sIf, sSet, sRet, sRetN, sNil, sParV, sFor, sApp, sAppPop, tCmp, tVal, tAnd, tOr, tNot, tYes, tThaw, andB, orB, notB, andV, orV, notV, dC, dBin, dBlt, dVar, dCall, dNew, dThaw, dTup, dIf, dAnd, dOr, dNot, dIsi, dSl, dAttr, oN, oS, nLst, nList, nRng1, nRng2, nSeq, nOwn, nSorted, nThaw, gNm, vD, vN, seqV, setE, Say.pure_bind, Say.bind_assoc, List.getElem?_cons_zero, List.getElem?_cons_succ, seqA, slD, List.set_cons_succ, List.set_cons_zero, thaw, Sl.thaw, List.map_cons, List.map_nil, lift_some, truB_bl, bindT, ownL, slOwn, List.length_cons, List.length_nil, List.cons_append, List.nil_append, List.replicate, Nat.reduceAdd, Nat.reduceSub, List.all_cons, List.all_nil, mkTup0, mkTup1, mkTup2, mkLst0, mkLst1, mkLst4, mkLst5, mkLst8, wipeE, sPar, sOwnS, sStore2, sPut, dNeg, negD, lenD, immD, D.imm, List.length_map, if_true]
    refine Tr.bind (C2 := n) (draw_ok hr (by omega)) (fun y ⟨r, ey, hr'⟩ => ?_)
    subst ey
    have ep : popD (rem.map D.int) (.int (r : Int)) = pure (.int rem[r], (rem.eraseIdx r).map D.int) := by
      unfold popD
      simp only [List.length_map]
      rw [if_pos (by omega), seqIx hr']
      simp [List.getElem?_eq_getElem hr', eraseIdx_map']
    have eq2 : pushD (found.map D.int) (.int rem[r]) = pure ((found ++ [rem[r]]).map D.int) := by
      unfold pushD
      rw [if_pos (by rw [List.length_map]; omega)]
      simp
    rw [ep]
    simp only [Say.pure_bind]
    rw [eq2]
    simp only [Say.pure_bind]
    refine hk _ ⟨_, rem.eraseIdx r, found ++ [rem[r]], rfl, ?_, ?_⟩
    · rw [List.length_eraseIdx_of_lt hr']
      rw [List.length_cons] at hl
      omega
    · rw [List.append_assoc]
      exact ((eraseIdx_perm hr').symm.append_left found).trans hp
def isInt : D → Bool
  | .int _ => true
  | _ => false
def scal : D → Bool
  | .non | .bl _ | .int _ => true
  | _ => false
theorem whole_ok {d : D} (h : scal d = true) : m_is_whole [d] = pure (.bl (isInt d)) := by
  cases d <;> first | (cases h; done) | rfl
theorem isint_ok {d : D} (h : scal d = true) : m__law_is_int [d] = pure (.bl (isInt d)) := by
  cases d <;> first | (cases h; done) | rfl
def idx (n : Nat) : D → Bool
  | .int i => decide (0 ≤ i ∧ i < (n : Int))
  | _ => false
theorem index_ok (n : Nat) {d : D} (h : scal d = true) : m_is_index [.int (n : Int), d] = pure (.bl (idx n d)) := by
  simp only [m_is_index, S_is_index, runS, startE, sSeq, sIf, sSet, sRet, sRetN, sNil, sParV, sFor, sApp, sAppPop, tCmp, tVal, tAnd, tOr, tNot, tYes, tThaw, andB, orB, notB, andV, orV, notV, dC, dBin, dBlt, dVar, dCall, dNew, dThaw, dTup, dIf, dAnd, dOr, dNot, dIsi, dSl, dAttr, oN, oS, nLst, nList, nRng1, nRng2, nSeq, nOwn, nSorted, nThaw, gNm, vD, vN, seqV, setE, Say.pure_bind, Say.bind_assoc, List.getElem?_cons_zero, List.getElem?_cons_succ, seqA, slD, List.set_cons_succ, List.set_cons_zero, thaw, Sl.thaw, List.map_cons, List.map_nil, lift_some, truB_bl, bindT, ownL, slOwn, List.length_cons, List.length_nil, List.cons_append, List.nil_append, List.replicate, Nat.reduceAdd, Nat.reduceSub, List.all_cons, List.all_nil, mkTup0, mkTup1, mkTup2, mkLst0, mkLst1, mkLst4, mkLst5, mkLst8, wipeE, sPar, sOwnS, sStore2, sPut, dNeg, negD, dChain, chainM, whole_ok h]
  cases d <;> first | (cases h; done) | skip
  · rfl
  · rfl
  · rename_i i
    simp only [isInt, if_true, Say.pure_bind, od_int, lift_some, truB_bl, idx, Od.i]
    by_cases h0 : 0 ≤ i
    · simp [h0]
    · simp [h0]
theorem list_tup (xs : List D) : m_is_list [.tup xs] = pure (.bl true) := rfl
theorem arrow_ok (n : Nat) (a b : Int) (ha : 0 ≤ a ∧ a < (n : Int)) (hb : 0 ≤ b ∧ b < (n : Int)) (hab : a ≠ b) : m_is_arrow [.int (n : Int), .tup [.int a, .int b]] = pure (.bl true) := by
  simp only [m_is_arrow, S_is_arrow, runS, startE, sSeq, sIf, sSet, sRet, sRetN, sNil, sParV, sFor, sApp, sAppPop, tCmp, tVal, tAnd, tOr, tNot, tYes, tThaw, andB, orB, notB, andV, orV, notV, dC, dBin, dBlt, dVar, dCall, dNew, dThaw, dTup, dIf, dAnd, dOr, dNot, dIsi, dSl, dAttr, oN, oS, nLst, nList, nRng1, nRng2, nSeq, nOwn, nSorted, nThaw, gNm, vD, vN, seqV, setE, Say.pure_bind, Say.bind_assoc, List.getElem?_cons_zero, List.getElem?_cons_succ, seqA, slD, List.set_cons_succ, List.set_cons_zero, thaw, Sl.thaw, List.map_cons, List.map_nil, lift_some, truB_bl, bindT, ownL, slOwn, List.length_cons, List.length_nil, List.cons_append, List.nil_append, List.replicate, Nat.reduceAdd, Nat.reduceSub, List.all_cons, List.all_nil, mkTup0, mkTup1, mkTup2, mkLst0, mkLst1, mkLst4, mkLst5, mkLst8, wipeE, sPar, sOwnS, sStore2, sPut, dNeg, negD, list_tup, Bool.not_true, Bool.false_eq_true, if_false]
  rw [lc_yes (l := [a, b]) (f := D.int) (y := fun i => .bl (idx n (.int i))) rfl rfl]
  · rw [show lenD [D.tup [D.int a, D.int b]] = some (.int 2) from rfl]
    simp only [runS, startE, sSeq, sIf, sSet, sRet, sRetN, sNil, sParV, sFor, sApp, sAppPop, tCmp, tVal, tAnd, tOr, tNot, tYes, tThaw, andB, orB, notB, andV, orV, notV, dC, dBin, dBlt, dVar, dCall, dNew, dThaw, dTup, dIf, dAnd, dOr, dNot, dIsi, dSl, dAttr, oN, oS, nLst, nList, nRng1, nRng2, nSeq, nOwn, nSorted, nThaw, gNm, vD, vN, seqV, setE, Say.pure_bind, Say.bind_assoc, List.getElem?_cons_zero, List.getElem?_cons_succ, seqA, slD, List.set_cons_succ, List.set_cons_zero, thaw, Sl.thaw, List.map_cons, List.map_nil, lift_some, truB_bl, bindT, ownL, slOwn, List.length_cons, List.length_nil, List.cons_append, List.nil_append, List.replicate, Nat.reduceAdd, Nat.reduceSub, List.all_cons, List.all_nil, mkTup0, mkTup1, mkTup2, mkLst0, mkLst1, mkLst4, mkLst5, mkLst8, wipeE, sPar, sOwnS, sStore2, sPut, dNeg, negD, ne_int, decide_true, Bool.not_true, if_false, Bool.false_eq_true]
    rw [show allD [.lst [.bl (idx n (.int a)), .bl (idx n (.int b))]] = some (.bl (idx n (.int a) && (idx n (.int b) && true))) from rfl, show idx n (.int a) = true from decide_eq_true ha, show idx n (.int b) = true from decide_eq_true hb]
    rw [show ixD (D.tup [D.int a, D.int b]) (D.int 0) = some (.int a) from rfl, show ixD (D.tup [D.int a, D.int b]) (D.int 1) = some (.int b) from rfl]
    simp only [runS, startE, sSeq, sIf, sSet, sRet, sRetN, sNil, sParV, sFor, sApp, sAppPop, tCmp, tVal, tAnd, tOr, tNot, tYes, tThaw, andB, orB, notB, andV, orV, notV, dC, dBin, dBlt, dVar, dCall, dNew, dThaw, dTup, dIf, dAnd, dOr, dNot, dIsi, dSl, dAttr, oN, oS, nLst, nList, nRng1, nRng2, nSeq, nOwn, nSorted, nThaw, gNm, vD, vN, seqV, setE, Say.pure_bind, Say.bind_assoc, List.getElem?_cons_zero, List.getElem?_cons_succ, seqA, slD, List.set_cons_succ, List.set_cons_zero, thaw, Sl.thaw, List.map_cons, List.map_nil, lift_some, truB_bl, bindT, ownL, slOwn, List.length_cons, List.length_nil, List.cons_append, List.nil_append, List.replicate, Nat.reduceAdd, Nat.reduceSub, List.all_cons, List.all_nil, mkTup0, mkTup1, mkTup2, mkLst0, mkLst1, mkLst4, mkLst5, mkLst8, wipeE, sPar, sOwnS, sStore2, sPut, dNeg, negD, ne_int, Bool.not_true, if_false, Bool.false_eq_true, hab, decide_false, Bool.not_false, Bool.and_self]
  · intro i _
    exact index_ok n rfl
/-- what the law's arrows are -/
structure Good (n : Nat) (E : List (Int × Int)) : Prop where
  rng : ∀ x ∈ E, (0 ≤ x.1 ∧ x.1 < (n : Int)) ∧ (0 ≤ x.2 ∧ x.2 < (n : Int))
  srt : E.Pairwise fun x y => x.1 < y.1 ∨ (x.1 = y.1 ∧ x.2 < y.2)
  rank : ∃ r : Int → Nat, ∀ x ∈ E, r x.1 < r x.2
  len : E.length ≤ 1000
theorem Good.ne {n : Nat} {E : List (Int × Int)} (g : Good n E) {x : Int × Int} (h : x ∈ E) : x.1 ≠ x.2 := fun e => by
  obtain ⟨r, hr⟩ := g.rank
  have := hr x h
  rw [e] at this
  omega
theorem Good.back {n : Nat} {E : List (Int × Int)} (g : Good n E) {x : Int × Int} (h : x ∈ E) : (x.2, x.1) ∉ E := fun h2 => by
  obtain ⟨r, hr⟩ := g.rank
  have a := hr x h
  have b := hr _ h2
  simp only at b
  omega
theorem arrows_ok {n : Nat} {E : List (Int × Int)} (g : Good n E) : m_are_arrows [.int (n : Int), .tup (E.map prD)] = pure (.bl true) := by
  simp only [m_are_arrows, S_are_arrows, runS, startE, sSeq, sIf, sSet, sRet, sRetN, sNil, sParV, sFor, sApp, sAppPop, tCmp, tVal, tAnd, tOr, tNot, tYes, tThaw, andB, orB, notB, andV, orV, notV, dC, dBin, dBlt, dVar, dCall, dNew, dThaw, dTup, dIf, dAnd, dOr, dNot, dIsi, dSl, dAttr, oN, oS, nLst, nList, nRng1, nRng2, nSeq, nOwn, nSorted, nThaw, gNm, vD, vN, seqV, setE, Say.pure_bind, Say.bind_assoc, List.getElem?_cons_zero, List.getElem?_cons_succ, seqA, slD, List.set_cons_succ, List.set_cons_zero, thaw, Sl.thaw, List.map_cons, List.map_nil, lift_some, truB_bl, bindT, ownL, slOwn, List.length_cons, List.length_nil, List.cons_append, List.nil_append, List.replicate, Nat.reduceAdd, Nat.reduceSub, List.all_cons, List.all_nil, mkTup0, mkTup1, mkTup2, mkLst0, mkLst1, mkLst4, mkLst5, mkLst8, wipeE, sPar, sOwnS, sStore2, sPut, dNeg, negD, list_tup, Bool.not_true, Bool.false_eq_true, if_false]
  rw [lc_yes (l := E) (f := prD) (y := fun _ => .bl true) rfl rfl fun x hx => arrow_ok n x.1 x.2 (g.rng x hx).1 (g.rng x hx).2 (g.ne hx)]
  simp only [runS, startE, sSeq, sIf, sSet, sRet, sRetN, sNil, sParV, sFor, sApp, sAppPop, tCmp, tVal, tAnd, tOr, tNot, tYes, tThaw, andB, orB, notB, andV, orV, notV, dC, dBin, dBlt, dVar, dCall, dNew, dThaw, dTup, dIf, dAnd, dOr, dNot, dIsi, dSl, dAttr, oN, oS, nLst, nList, nRng1, nRng2, nSeq, nOwn, nSorted, nThaw, gNm, vD, vN, seqV, setE, Say.pure_bind, Say.bind_assoc, List.getElem?_cons_zero, List.getElem?_cons_succ, seqA, slD, List.set_cons_succ, List.set_cons_zero, thaw, Sl.thaw, List.map_cons, List.map_nil, lift_some, truB_bl, bindT, ownL, slOwn, List.length_cons, List.length_nil, List.cons_append, List.nil_append, List.replicate, Nat.reduceAdd, Nat.reduceSub, List.all_cons, List.all_nil, mkTup0, mkTup1, mkTup2, mkLst0, mkLst1, mkLst4, mkLst5, mkLst8, wipeE, sPar, sOwnS, sStore2, sPut, dNeg, negD]
  rw [all_map (fun _ => true) E]
  rw [lc_yes (l := E) (f := prD) (y := prD) rfl rfl fun x hx => rfl]
  simp only [runS, startE, sSeq, sIf, sSet, sRet, sRetN, sNil, sParV, sFor, sApp, sAppPop, tCmp, tVal, tAnd, tOr, tNot, tYes, tThaw, andB, orB, notB, andV, orV, notV, dC, dBin, dBlt, dVar, dCall, dNew, dThaw, dTup, dIf, dAnd, dOr, dNot, dIsi, dSl, dAttr, oN, oS, nLst, nList, nRng1, nRng2, nSeq, nOwn, nSorted, nThaw, gNm, vD, vN, seqV, setE, Say.pure_bind, Say.bind_assoc, List.getElem?_cons_zero, List.getElem?_cons_succ, seqA, slD, List.set_cons_succ, List.set_cons_zero, thaw, Sl.thaw, List.map_cons, List.map_nil, lift_some, truB_bl, bindT, ownL, slOwn, List.length_cons, List.length_nil, List.cons_append, List.nil_append, List.replicate, Nat.reduceAdd, Nat.reduceSub, List.all_cons, List.all_nil, mkTup0, mkTup1, mkTup2, mkLst0, mkLst1, mkLst4, mkLst5, mkLst8, wipeE, sPar, sOwnS, sStore2, sPut, dNeg, negD, List.all_eq_true.mpr (fun (x : Int × Int) (_ : x ∈ E) => rfl), Bool.not_true, Bool.false_eq_true, if_false]
  rw [lc_yes (l := List.range (E.length - 1)) (f := fun (k : Nat) => D.int (k : Int)) (y := fun _ => .bl false)]
  · simp only [runS, startE, sSeq, sIf, sSet, sRet, sRetN, sNil, sParV, sFor, sApp, sAppPop, tCmp, tVal, tAnd, tOr, tNot, tYes, tThaw, andB, orB, notB, andV, orV, notV, dC, dBin, dBlt, dVar, dCall, dNew, dThaw, dTup, dIf, dAnd, dOr, dNot, dIsi, dSl, dAttr, oN, oS, nLst, nList, nRng1, nRng2, nSeq, nOwn, nSorted, nThaw, gNm, vD, vN, seqV, setE, Say.pure_bind, Say.bind_assoc, List.getElem?_cons_zero, List.getElem?_cons_succ, seqA, slD, List.set_cons_succ, List.set_cons_zero, thaw, Sl.thaw, List.map_cons, List.map_nil, lift_some, truB_bl, bindT, ownL, slOwn, List.length_cons, List.length_nil, List.cons_append, List.nil_append, List.replicate, Nat.reduceAdd, Nat.reduceSub, List.all_cons, List.all_nil, mkTup0, mkTup1, mkTup2, mkLst0, mkLst1, mkLst4, mkLst5, mkLst8, wipeE, sPar, sOwnS, sStore2, sPut, dNeg, negD]
    rw [any_map (fun _ => false)]
    simp only [runS, startE, sSeq, sIf, sSet, sRet, sRetN, sNil, sParV, sFor, sApp, sAppPop, tCmp, tVal, tAnd, tOr, tNot, tYes, tThaw, andB, orB, notB, andV, orV, notV, dC, dBin, dBlt, dVar, dCall, dNew, dThaw, dTup, dIf, dAnd, dOr, dNot, dIsi, dSl, dAttr, oN, oS, nLst, nList, nRng1, nRng2, nSeq, nOwn, nSorted, nThaw, gNm, vD, vN, seqV, setE, Say.pure_bind, Say.bind_assoc, List.getElem?_cons_zero, List.getElem?_cons_succ, seqA, slD, List.set_cons_succ, List.set_cons_zero, thaw, Sl.thaw, List.map_cons, List.map_nil, lift_some, truB_bl, bindT, ownL, slOwn, List.length_cons, List.length_nil, List.cons_append, List.nil_append, List.replicate, Nat.reduceAdd, Nat.reduceSub, List.all_cons, List.all_nil, mkTup0, mkTup1, mkTup2, mkLst0, mkLst1, mkLst4, mkLst5, mkLst8, wipeE, sPar, sOwnS, sStore2, sPut, dNeg, negD]
    rw [List.any_eq_false.mpr (fun _ _ => by decide)]
    simp only [Bool.false_eq_true, if_false, runS, startE, sSeq, sIf, sSet, sRet, sRetN, sNil, sParV, sFor, sApp, sAppPop, tCmp, tVal, tAnd, tOr, tNot, tYes, tThaw, andB, orB, notB, andV, orV, notV, dC, dBin, dBlt, dVar, dCall, dNew, dThaw, dTup, dIf, dAnd, dOr, dNot, dIsi, dSl, dAttr, oN, oS, nLst, nList, nRng1, nRng2, nSeq, nOwn, nSorted, nThaw, gNm, vD, vN, seqV, setE, Say.pure_bind, Say.bind_assoc, List.getElem?_cons_zero, List.getElem?_cons_succ, seqA, slD, List.set_cons_succ, List.set_cons_zero, thaw, Sl.thaw, List.map_cons, List.map_nil, lift_some, truB_bl, bindT, ownL, slOwn, List.length_cons, List.length_nil, List.cons_append, List.nil_append, List.replicate, Nat.reduceAdd, Nat.reduceSub, List.all_cons, List.all_nil, mkTup0, mkTup1, mkTup2, mkLst0, mkLst1, mkLst4, mkLst5, mkLst8, wipeE, sPar, sOwnS, sStore2, sPut, dNeg, negD]
    rw [lc_two (l := E) (y := fun x => .bl (decide ((x.2, x.1) ∈ E))) rfl rfl]
    · simp only [runS, startE, sSeq, sIf, sSet, sRet, sRetN, sNil, sParV, sFor, sApp, sAppPop, tCmp, tVal, tAnd, tOr, tNot, tYes, tThaw, andB, orB, notB, andV, orV, notV, dC, dBin, dBlt, dVar, dCall, dNew, dThaw, dTup, dIf, dAnd, dOr, dNot, dIsi, dSl, dAttr, oN, oS, nLst, nList, nRng1, nRng2, nSeq, nOwn, nSorted, nThaw, gNm, vD, vN, seqV, setE, Say.pure_bind, Say.bind_assoc, List.getElem?_cons_zero, List.getElem?_cons_succ, seqA, slD, List.set_cons_succ, List.set_cons_zero, thaw, Sl.thaw, List.map_cons, List.map_nil, lift_some, truB_bl, bindT, ownL, slOwn, List.length_cons, List.length_nil, List.cons_append, List.nil_append, List.replicate, Nat.reduceAdd, Nat.reduceSub, List.all_cons, List.all_nil, mkTup0, mkTup1, mkTup2, mkLst0, mkLst1, mkLst4, mkLst5, mkLst8, wipeE, sPar, sOwnS, sStore2, sPut, dNeg, negD]
      rw [any_map (fun x : Int × Int => decide ((x.2, x.1) ∈ E))]
      simp only [runS, startE, sSeq, sIf, sSet, sRet, sRetN, sNil, sParV, sFor, sApp, sAppPop, tCmp, tVal, tAnd, tOr, tNot, tYes, tThaw, andB, orB, notB, andV, orV, notV, dC, dBin, dBlt, dVar, dCall, dNew, dThaw, dTup, dIf, dAnd, dOr, dNot, dIsi, dSl, dAttr, oN, oS, nLst, nList, nRng1, nRng2, nSeq, nOwn, nSorted, nThaw, gNm, vD, vN, seqV, setE, Say.pure_bind, Say.bind_assoc, List.getElem?_cons_zero, List.getElem?_cons_succ, seqA, slD, List.set_cons_succ, List.set_cons_zero, thaw, Sl.thaw, List.map_cons, List.map_nil, lift_some, truB_bl, bindT, ownL, slOwn, List.length_cons, List.length_nil, List.cons_append, List.nil_append, List.replicate, Nat.reduceAdd, Nat.reduceSub, List.all_cons, List.all_nil, mkTup0, mkTup1, mkTup2, mkLst0, mkLst1, mkLst4, mkLst5, mkLst8, wipeE, sPar, sOwnS, sStore2, sPut, dNeg, negD]
      rw [List.any_eq_false.mpr (fun x hx => by simpa using g.back hx)]
      rfl
    · intro x hx
      simp only [runS, startE, sSeq, sIf, sSet, sRet, sRetN, sNil, sParV, sFor, sApp, sAppPop, tCmp, tVal, tAnd, tOr, tNot, tYes, tThaw, andB, orB, notB, andV, orV, notV, dC, dBin, dBlt, dVar, dCall, dNew, dThaw, dTup, dIf, dAnd, dOr, dNot, dIsi, dSl, dAttr, oN, oS, nLst, nList, nRng1, nRng2, nSeq, nOwn, nSorted, nThaw, gNm, vD, vN, seqV, setE, Say.pure_bind, Say.bind_assoc, List.getElem?_cons_zero, List.getElem?_cons_succ, seqA, slD, List.set_cons_succ, List.set_cons_zero, thaw, Sl.thaw, List.map_cons, List.map_nil, lift_some, truB_bl, bindT, ownL, slOwn, List.length_cons, List.length_nil, List.cons_append, List.nil_append, List.replicate, Nat.reduceAdd, Nat.reduceSub, List.all_cons, List.all_nil, mkTup0, mkTup1, mkTup2, mkLst0, mkLst1, mkLst4, mkLst5, mkLst8, wipeE, sPar, sOwnS, sStore2, sPut, dNeg, negD, in_prsL]
  · simp only [runS, startE, sSeq, sIf, sSet, sRet, sRetN, sNil, sParV, sFor, sApp, sAppPop, tCmp, tVal, tAnd, tOr, tNot, tYes, tThaw, andB, orB, notB, andV, orV, notV, dC, dBin, dBlt, dVar, dCall, dNew, dThaw, dTup, dIf, dAnd, dOr, dNot, dIsi, dSl, dAttr, oN, oS, nLst, nList, nRng1, nRng2, nSeq, nOwn, nSorted, nThaw, gNm, vD, vN, seqV, setE, Say.pure_bind, Say.bind_assoc, List.getElem?_cons_zero, List.getElem?_cons_succ, seqA, slD, List.set_cons_succ, List.set_cons_zero, thaw, Sl.thaw, List.map_cons, List.map_nil, lift_some, truB_bl, bindT, ownL, slOwn, List.length_cons, List.length_nil, List.cons_append, List.nil_append, List.replicate, Nat.reduceAdd, Nat.reduceSub, List.all_cons, List.all_nil, mkTup0, mkTup1, mkTup2, mkLst0, mkLst1, mkLst4, mkLst5, mkLst8, wipeE, sPar, sOwnS, sStore2, sPut, dNeg, negD, lenD, List.length_map, ii_int]
    exact rngM_pred E.length (by have := g.len; omega)
  · rfl
  · intro k hk
    have hk' : k + 1 < E.length := by have := List.mem_range.mp hk; omega
    simp only [runS, startE, sSeq, sIf, sSet, sRet, sRetN, sNil, sParV, sFor, sApp, sAppPop, tCmp, tVal, tAnd, tOr, tNot, tYes, tThaw, andB, orB, notB, andV, orV, notV, dC, dBin, dBlt, dVar, dCall, dNew, dThaw, dTup, dIf, dAnd, dOr, dNot, dIsi, dSl, dAttr, oN, oS, nLst, nList, nRng1, nRng2, nSeq, nOwn, nSorted, nThaw, gNm, vD, vN, seqV, setE, Say.pure_bind, Say.bind_assoc, List.getElem?_cons_zero, List.getElem?_cons_succ, seqA, slD, List.set_cons_succ, List.set_cons_zero, thaw, Sl.thaw, List.map_cons, List.map_nil, lift_some, truB_bl, bindT, ownL, slOwn, List.length_cons, List.length_nil, List.cons_append, List.nil_append, List.replicate, Nat.reduceAdd, Nat.reduceSub, List.all_cons, List.all_nil, mkTup0, mkTup1, mkTup2, mkLst0, mkLst1, mkLst4, mkLst5, mkLst8, wipeE, sPar, sOwnS, sStore2, sPut, dNeg, negD, add_int]
    rw [ix_lst prD (show k < E.length by omega), show ((k : Int) + 1) = ((k + 1 : Nat) : Int) by omega, ix_lst prD hk']
    simp only [runS, startE, sSeq, sIf, sSet, sRet, sRetN, sNil, sParV, sFor, sApp, sAppPop, tCmp, tVal, tAnd, tOr, tNot, tYes, tThaw, andB, orB, notB, andV, orV, notV, dC, dBin, dBlt, dVar, dCall, dNew, dThaw, dTup, dIf, dAnd, dOr, dNot, dIsi, dSl, dAttr, oN, oS, nLst, nList, nRng1, nRng2, nSeq, nOwn, nSorted, nThaw, gNm, vD, vN, seqV, setE, Say.pure_bind, Say.bind_assoc, List.getElem?_cons_zero, List.getElem?_cons_succ, seqA, slD, List.set_cons_succ, List.set_cons_zero, thaw, Sl.thaw, List.map_cons, List.map_nil, lift_some, truB_bl, bindT, ownL, slOwn, List.length_cons, List.length_nil, List.cons_append, List.nil_append, List.replicate, Nat.reduceAdd, Nat.reduceSub, List.all_cons, List.all_nil, mkTup0, mkTup1, mkTup2, mkLst0, mkLst1, mkLst4, mkLst5, mkLst8, wipeE, sPar, sOwnS, sStore2, sPut, dNeg, negD]
    rw [ge_prD (List.pairwise_iff_getElem.mp g.srt k (k + 1) _ hk' (Nat.lt_succ_self k))]
    rfl
/-! ### has_round -/
def freeP (E : List (Int × Int)) (left : List Int) (p : Int) : Bool := !(E.any fun a => decide (a.2 = p) && decide (a.1 ∈ left))
theorem free_some {n : Nat} {E : List (Int × Int)} (g : Good n E) {left : List Int} (h : left ≠ []) : ∃ p ∈ left, freeP E left p = true := by
  obtain ⟨r, hr⟩ := g.rank
  have least : ∀ (l : List Int), l ≠ [] → ∃ p ∈ l, ∀ q ∈ l, r p ≤ r q := by
    intro l
    induction l with
    | nil => exact fun z => absurd rfl z
    | cons a l ih =>
      intro _
      by_cases e : l = []
      · subst e
        exact ⟨a, by simp, by simp⟩
      · obtain ⟨p, hp, hq⟩ := ih e
        by_cases c : r a ≤ r p
        · exact ⟨a, by simp, fun q hm => by
            rcases List.mem_cons.mp
                hm with rfl | hm
            · exact Nat.le_refl _
            · exact Nat.le_trans c (hq q hm)⟩
        · exact ⟨p, List.mem_cons_of_mem _ hp, fun q hm => by
            rcases List.mem_cons.mp
                hm with rfl | hm
            · omega
            · exact hq q hm⟩
  obtain ⟨p, hp, hq⟩ := least left h
  refine ⟨p, hp, ?_⟩
  unfold freeP
  rw [Bool.not_eq_true', List.any_eq_false]
  intro a ha z
  simp only [Bool.and_eq_true, decide_eq_true_iff] at z
  have := hr a ha
  have := hq _ z.2
  rw [z.1] at *
  omega
theorem round_loop {n : Nat} {E : List (Int × Int)} (g : Good n E) : ∀ (fuel : Nat) (left : List Int) (x3 : Sl), left.length ≤ 100000 → left.length < fuel → x3.held = false →
    whileS (tCmp (odD .gt) (dBlt lenD [(dVar 2)]) (dC (.int 0))) (sSeq (sSet 3 (dNew (lcM [4] (nSeq (dVar 2)) (gNm 4) (tNot (tVal (dBlt anyD [(dNew (lcM [5] (nSeq (dVar 1)) (gNm 5) tYes (dAnd (dBin eqD (dBin ixD (dVar 5) (dC (.int 1))) (dVar 4)) (dBin inD (dBin ixD (dVar 5) (dC (.int 0))) (dVar 2)))))]))) (dVar 4))))
  (sSeq (sIf (tCmp eqD (dBlt lenD [(dVar 3)]) (dC (.int 0))) (sRet (dC (.bl true))) sNil)
  (sSet 2 (dNew (lcM [4] (nSeq (dVar 2)) (gNm 4) (tCmp ninD (dVar 4) (dVar 3)) (dVar 4)))))) (fun _ => pure (.bl false)) pure fuel [.dat (.int (n : Int)), .dat (.tup (E.map prD)), .dat (.lst (left.map D.int)), x3, .no, .no] = pure (.bl false) := by
  intro fuel
  induction fuel with
  | zero => exact fun _ _ _ h _ => absurd h (Nat.not_lt_zero _)
  | succ fuel ih =>
    intro left x3 hb hl hx3
    rw [whileS_succ]
    simp only [runS, startE, sSeq, sIf, sSet, sRet, sRetN, sNil, sParV, sFor, sApp, sAppPop, tCmp, tVal, tAnd, tOr, tNot, tYes, tThaw, andB, orB, notB, andV, orV, notV, dC, dBin, dBlt, dVar, dCall, dNew, dThaw, dTup, dIf, dAnd, dOr, dNot, dIsi, dSl, dAttr, oN, oS, nLst, nList, nRng1, nRng2, nSeq, nOwn, nSorted, nThaw, gNm, vD, vN, seqV, setE, Say.pure_bind, Say.bind_assoc, List.getElem?_cons_zero, List.getElem?_cons_succ, seqA, slD, List.set_cons_succ, List.set_cons_zero, thaw, Sl.thaw, List.map_cons, List.map_nil, lift_some, truB_bl, bindT, ownL, slOwn, List.length_cons, List.length_nil, List.cons_append, List.nil_append, List.replicate, Nat.reduceAdd, Nat.reduceSub, List.all_cons, List.all_nil, mkTup0, mkTup1, mkTup2, mkLst0, mkLst1, mkLst4, mkLst5, mkLst8, wipeE, sPar, sOwnS, sStore2, sPut, dNeg, negD, lenD, od_int, List.length_map]
    by_cases e : left = []
    · subst e
      rfl
    · have hp : 0 < left.length := List.length_pos_iff.mpr e
      have c : Od.gt.i (left.length : Int) 0 = true := decide_eq_true (p := (0 : Int) < (left.length : Int)) (by omega)
      rw [if_pos c]
      rw [lc_nm (l := left) (f := D.int) (b := freeP E left) (y := D.int) rfl (by cases x3 <;> rfl)]
      · simp only [runS, startE, sSeq, sIf, sSet, sRet, sRetN, sNil, sParV, sFor, sApp, sAppPop, tCmp, tVal, tAnd, tOr, tNot, tYes, tThaw, andB, orB, notB, andV, orV, notV, dC, dBin, dBlt, dVar, dCall, dNew, dThaw, dTup, dIf, dAnd, dOr, dNot, dIsi, dSl, dAttr, oN, oS, nLst, nList, nRng1, nRng2, nSeq, nOwn, nSorted, nThaw, gNm, vD, vN, seqV, setE, Say.pure_bind, Say.bind_assoc, List.getElem?_cons_zero, List.getElem?_cons_succ, seqA, slD, List.set_cons_succ, List.set_cons_zero, thaw, Sl.thaw, List.map_cons, List.map_nil, lift_some, truB_bl, bindT, ownL, slOwn, List.length_cons, List.length_nil, List.cons_append, List.nil_append, List.replicate, Nat.reduceAdd, Nat.reduceSub, List.all_cons, List.all_nil, mkTup0, mkTup1, mkTup2, mkLst0, mkLst1, mkLst4, mkLst5, mkLst8, wipeE, sPar, sOwnS, sStore2, sPut, dNeg, negD, lenD, List.length_map, eq_int]
        obtain ⟨p, hpm, hpf⟩ := free_some g e
        have hf : p ∈ left.filter (freeP E left) := List.mem_filter.mpr ⟨hpm, hpf⟩
        have nf : ¬ decide (((left.filter (freeP E left)).length : Int) = 0) = true := by
          rw [decide_eq_true_iff]
          have := List.length_pos_of_mem hf
          omega
        rw [if_neg nf]
        rw [lc_nm (l := left) (f := D.int) (b := fun q => !decide (q ∈ left.filter (freeP E left))) (y := D.int) rfl rfl]
        · simp only [runS, startE, sSeq, sIf, sSet, sRet, sRetN, sNil, sParV, sFor, sApp, sAppPop, tCmp, tVal, tAnd, tOr, tNot, tYes, tThaw, andB, orB, notB, andV, orV, notV, dC, dBin, dBlt, dVar, dCall, dNew, dThaw, dTup, dIf, dAnd, dOr, dNot, dIsi, dSl, dAttr, oN, oS, nLst, nList, nRng1, nRng2, nSeq, nOwn, nSorted, nThaw, gNm, vD, vN, seqV, setE, Say.pure_bind, Say.bind_assoc, List.getElem?_cons_zero, List.getElem?_cons_succ, seqA, slD, List.set_cons_succ, List.set_cons_zero, thaw, Sl.thaw, List.map_cons, List.map_nil, lift_some, truB_bl, bindT, ownL, slOwn, List.length_cons, List.length_nil, List.cons_append, List.nil_append, List.replicate, Nat.reduceAdd, Nat.reduceSub, List.all_cons, List.all_nil, mkTup0, mkTup1, mkTup2, mkLst0, mkLst1, mkLst4, mkLst5, mkLst8, wipeE, sPar, sOwnS, sStore2, sPut, dNeg, negD]
          have shorter : (left.filter fun q => !decide (q ∈ left.filter (freeP E left))).length < left.length := by
            refine Nat.lt_of_le_of_ne (List.length_filter_le _ _) fun z => ?_
            have all := List.filter_eq_self.mp (List.Sublist.eq_of_length List.filter_sublist z)
            have := all p hpm
            simp [hf] at this
          exact ih _ _ (by omega) (by omega) rfl
        · intro q hq
          simp only [runS, startE, sSeq, sIf, sSet, sRet, sRetN, sNil, sParV, sFor, sApp, sAppPop, tCmp, tVal, tAnd, tOr, tNot, tYes, tThaw, andB, orB, notB, andV, orV, notV, dC, dBin, dBlt, dVar, dCall, dNew, dThaw, dTup, dIf, dAnd, dOr, dNot, dIsi, dSl, dAttr, oN, oS, nLst, nList, nRng1, nRng2, nSeq, nOwn, nSorted, nThaw, gNm, vD, vN, seqV, setE, Say.pure_bind, Say.bind_assoc, List.getElem?_cons_zero, List.getElem?_cons_succ, seqA, slD, List.set_cons_succ, List.set_cons_zero, thaw, Sl.thaw, List.map_cons, List.map_nil, lift_some, truB_bl, bindT, ownL, slOwn, List.length_cons, List.length_nil, List.cons_append, List.nil_append, List.replicate, Nat.reduceAdd, Nat.reduceSub, List.all_cons, List.all_nil, mkTup0, mkTup1, mkTup2, mkLst0, mkLst1, mkLst4, mkLst5, mkLst8, wipeE, sPar, sOwnS, sStore2, sPut, dNeg, negD, nin_intsL]
          exact ⟨trivial, fun _ => trivial⟩
      · intro q hq
        simp only [runS, startE, sSeq, sIf, sSet, sRet, sRetN, sNil, sParV, sFor, sApp, sAppPop, tCmp, tVal, tAnd, tOr, tNot, tYes, tThaw, andB, orB, notB, andV, orV, notV, dC, dBin, dBlt, dVar, dCall, dNew, dThaw, dTup, dIf, dAnd, dOr, dNot, dIsi, dSl, dAttr, oN, oS, nLst, nList, nRng1, nRng2, nSeq, nOwn, nSorted, nThaw, gNm, vD, vN, seqV, setE, Say.pure_bind, Say.bind_assoc, List.getElem?_cons_zero, List.getElem?_cons_succ, seqA, slD, List.set_cons_succ, List.set_cons_zero, thaw, Sl.thaw, List.map_cons, List.map_nil, lift_some, truB_bl, bindT, ownL, slOwn, List.length_cons, List.length_nil, List.cons_append, List.nil_append, List.replicate, Nat.reduceAdd, Nat.reduceSub, List.all_cons, List.all_nil, mkTup0, mkTup1, mkTup2, mkLst0, mkLst1, mkLst4, mkLst5, mkLst8, wipeE, sPar, sOwnS, sStore2, sPut, dNeg, negD]
        rw [lc_yes (l := E) (f := prD) (y := fun a => .bl (decide (a.2 = q) && decide (a.1 ∈ left))) rfl (by cases x3 <;> rfl)]
        · simp only [runS, startE, sSeq, sIf, sSet, sRet, sRetN, sNil, sParV, sFor, sApp, sAppPop, tCmp, tVal, tAnd, tOr, tNot, tYes, tThaw, andB, orB, notB, andV, orV, notV, dC, dBin, dBlt, dVar, dCall, dNew, dThaw, dTup, dIf, dAnd, dOr, dNot, dIsi, dSl, dAttr, oN, oS, nLst, nList, nRng1, nRng2, nSeq, nOwn, nSorted, nThaw, gNm, vD, vN, seqV, setE, Say.pure_bind, Say.bind_assoc, List.getElem?_cons_zero, List.getElem?_cons_succ, seqA, slD, List.set_cons_succ, List.set_cons_zero, thaw, Sl.thaw, List.map_cons, List.map_nil, lift_some, truB_bl, bindT, ownL, slOwn, List.length_cons, List.length_nil, List.cons_append, List.nil_append, List.replicate, Nat.reduceAdd, Nat.reduceSub, List.all_cons, List.all_nil, mkTup0, mkTup1, mkTup2, mkLst0, mkLst1, mkLst4, mkLst5, mkLst8, wipeE, sPar, sOwnS, sStore2, sPut, dNeg, negD]
          rw [any_map (fun a : Int × Int => decide (a.2 = q) && decide (a.1 ∈ left))]
          exact ⟨rfl, fun _ => trivial⟩
        · intro a ha
          simp only [runS, startE, sSeq, sIf, sSet, sRet, sRetN, sNil, sParV, sFor, sApp, sAppPop, tCmp, tVal, tAnd, tOr, tNot, tYes, tThaw, andB, orB, notB, andV, orV, notV, dC, dBin, dBlt, dVar, dCall, dNew, dThaw, dTup, dIf, dAnd, dOr, dNot, dIsi, dSl, dAttr, oN, oS, nLst, nList, nRng1, nRng2, nSeq, nOwn, nSorted, nThaw, gNm, vD, vN, seqV, setE, Say.pure_bind, Say.bind_assoc, List.getElem?_cons_zero, List.getElem?_cons_succ, seqA, slD, List.set_cons_succ, List.set_cons_zero, thaw, Sl.thaw, List.map_cons, List.map_nil, lift_some, truB_bl, bindT, ownL, slOwn, List.length_cons, List.length_nil, List.cons_append, List.nil_append, List.replicate, Nat.reduceAdd, Nat.reduceSub, List.all_cons, List.all_nil, mkTup0, mkTup1, mkTup2, mkLst0, mkLst1, mkLst4, mkLst5, mkLst8, wipeE, sPar, sOwnS, sStore2, sPut, dNeg, negD]
          rw [show ixD (prD a) (.int 1) = some (.int a.2) from rfl, show ixD (prD a) (.int 0) = some (.int a.1) from rfl]
          simp only [runS, startE, sSeq, sIf, sSet, sRet, sRetN, sNil, sParV, sFor, sApp, sAppPop, tCmp, tVal, tAnd, tOr, tNot, tYes, tThaw, andB, orB, notB, andV, orV, notV, dC, dBin, dBlt, dVar, dCall, dNew, dThaw, dTup, dIf, dAnd, dOr, dNot, dIsi, dSl, dAttr, oN, oS, nLst, nList, nRng1, nRng2, nSeq, nOwn, nSorted, nThaw, gNm, vD, vN, seqV, setE, Say.pure_bind, Say.bind_assoc, List.getElem?_cons_zero, List.getElem?_cons_succ, seqA, slD, List.set_cons_succ, List.set_cons_zero, thaw, Sl.thaw, List.map_cons, List.map_nil, lift_some, truB_bl, bindT, ownL, slOwn, List.length_cons, List.length_nil, List.cons_append, List.nil_append, List.replicate, Nat.reduceAdd, Nat.reduceSub, List.all_cons, List.all_nil, mkTup0, mkTup1, mkTup2, mkLst0, mkLst1, mkLst4, mkLst5, mkLst8, wipeE, sPar, sOwnS, sStore2, sPut, dNeg, negD, eq_int, in_intsL]
          by_cases z : a.2 = q
          · simp [z]
          · simp [z]
theorem round_ok {n : Nat} {E : List (Int × Int)} (g : Good n E) (hn : n ≤ 100) : m_has_round [.int (n : Int), .tup (E.map prD)] = pure (.bl false) := by
  simp only [m_has_round, S_has_round, runS, startE, sSeq, sIf, sSet, sRet, sRetN, sNil, sParV, sFor, sApp, sAppPop, tCmp, tVal, tAnd, tOr, tNot, tYes, tThaw, andB, orB, notB, andV, orV, notV, dC, dBin, dBlt, dVar, dCall, dNew, dThaw, dTup, dIf, dAnd, dOr, dNot, dIsi, dSl, dAttr, oN, oS, nLst, nList, nRng1, nRng2, nSeq, nOwn, nSorted, nThaw, gNm, vD, vN, seqV, setE, Say.pure_bind, Say.bind_assoc, List.getElem?_cons_zero, List.getElem?_cons_succ, seqA, slD, List.set_cons_succ, List.set_cons_zero, thaw, Sl.thaw, List.map_cons, List.map_nil, lift_some, truB_bl, bindT, ownL, slOwn, List.length_cons, List.length_nil, List.cons_append, List.nil_append, List.replicate, Nat.reduceAdd, Nat.reduceSub, List.all_cons, List.all_nil, mkTup0, mkTup1, mkTup2, mkLst0, mkLst1, mkLst4, mkLst5, mkLst8, wipeE, sPar, sOwnS, sStore2, sPut, dNeg, negD, sWhile, rngM_nat n (by omega)]
  have := round_loop g 1000 ((List.range n).map fun (k : Nat) => (k : Int)) .no (by simp; omega) (by simp; omega) rfl
  rw [List.map_map] at this
  exact this
def webD (n : Nat) (E : List (Int × Int)) : D := .ins "Web" [("size", .int (n : Int)), ("arrows", .tup (E.map prD))]
theorem web_ok {n : Nat} {E : List (Int × Int)} (g : Good n E) (h1 : 1 ≤ n) (hn : n ≤ 100) : m_Web [.int (n : Int), .tup (E.map prD)] = pure (webD n E) := by
  have lk : m_arrows_looked [.int (n : Int), .tup (E.map prD)] = pure .non := by
    simp only [m_arrows_looked, S_arrows_looked, runS, startE, sSeq, sIf, sSet, sRet, sRetN, sNil, sParV, sFor, sApp, sAppPop, tCmp, tVal, tAnd, tOr, tNot, tYes, tThaw, andB, orB, notB, andV, orV, notV, dC, dBin, dBlt, dVar, dCall, dNew, dThaw, dTup, dIf, dAnd, dOr, dNot, dIsi, dSl, dAttr, oN, oS, nLst, nList, nRng1, nRng2, nSeq, nOwn, nSorted, nThaw, gNm, vD, vN, seqV, setE, Say.pure_bind, Say.bind_assoc, List.getElem?_cons_zero, List.getElem?_cons_succ, seqA, slD, List.set_cons_succ, List.set_cons_zero, thaw, Sl.thaw, List.map_cons, List.map_nil, lift_some, truB_bl, bindT, ownL, slOwn, List.length_cons, List.length_nil, List.cons_append, List.nil_append, List.replicate, Nat.reduceAdd, Nat.reduceSub, List.all_cons, List.all_nil, mkTup0, mkTup1, mkTup2, mkLst0, mkLst1, mkLst4, mkLst5, mkLst8, wipeE, sPar, sOwnS, sStore2, sPut, dNeg, negD, round_ok g hn, Bool.false_eq_true, if_false]
  have c : Od.lt.i (n : Int) 1 = false := decide_eq_false (p := (n : Int) < 1) (by omega)
  simp only [m_Web, S_new_Web, runI, startI, sDrop, runS, startE, sSeq, sIf, sSet, sRet, sRetN, sNil, sParV, sFor, sApp, sAppPop, tCmp, tVal, tAnd, tOr, tNot, tYes, tThaw, andB, orB, notB, andV, orV, notV, dC, dBin, dBlt, dVar, dCall, dNew, dThaw, dTup, dIf, dAnd, dOr, dNot, dIsi, dSl, dAttr, oN, oS, nLst, nList, nRng1, nRng2, nSeq, nOwn, nSorted, nThaw, gNm, vD, vN, seqV, setE, Say.pure_bind, Say.bind_assoc, List.getElem?_cons_zero, List.getElem?_cons_succ, seqA, slD, List.set_cons_succ, List.set_cons_zero, thaw, Sl.thaw, List.map_cons, List.map_nil, lift_some, truB_bl, bindT, ownL, slOwn, List.length_cons, List.length_nil, List.cons_append, List.nil_append, List.replicate, Nat.reduceAdd, Nat.reduceSub, List.all_cons, List.all_nil, mkTup0, mkTup1, mkTup2, mkLst0, mkLst1, mkLst4, mkLst5, mkLst8, wipeE, sPar, sOwnS, sStore2, sPut, dNeg, negD, whole_ok (d := .int (n : Int)) rfl, isInt, Bool.not_true, Bool.false_eq_true, if_false, od_int, c, arrows_ok g]
  rw [lc_yes (l := E) (f := prD) (y := prD) rfl rfl fun x hx => rfl]
  simp only [runS, startE, sSeq, sIf, sSet, sRet, sRetN, sNil, sParV, sFor, sApp, sAppPop, tCmp, tVal, tAnd, tOr, tNot, tYes, tThaw, andB, orB, notB, andV, orV, notV, dC, dBin, dBlt, dVar, dCall, dNew, dThaw, dTup, dIf, dAnd, dOr, dNot, dIsi, dSl, dAttr, oN, oS, nLst, nList, nRng1, nRng2, nSeq, nOwn, nSorted, nThaw, gNm, vD, vN, seqV, setE, Say.pure_bind, Say.bind_assoc, List.getElem?_cons_zero, List.getElem?_cons_succ, seqA, slD, List.set_cons_succ, List.set_cons_zero, thaw, Sl.thaw, List.map_cons, List.map_nil, lift_some, truB_bl, bindT, ownL, slOwn, List.length_cons, List.length_nil, List.cons_append, List.nil_append, List.replicate, Nat.reduceAdd, Nat.reduceSub, List.all_cons, List.all_nil, mkTup0, mkTup1, mkTup2, mkLst0, mkLst1, mkLst4, mkLst5, mkLst8, wipeE, sPar, sOwnS, sStore2, sPut, dNeg, negD, tupleD, lk]
  rfl
theorem size_at (n : Nat) (E : List (Int × Int)) : attrD CS "size" (webD n E) = pure (.int (n : Int)) := rfl
theorem arrows_at (n : Nat) (E : List (Int × Int)) : attrD CS "arrows" (webD n E) = pure (.tup (E.map prD)) := rfl
/-- the sources of a place -/
def src (n : Nat) (E : List (Int × Int)) (p : Nat) : List Nat := (List.range n).filter fun o : Nat => decide (((o : Int), (p : Int)) ∈ E)
def nxt (n : Nat) (E : List (Int × Int)) (way : List Int) : List Nat := (List.range n).filter fun p : Nat => !decide ((p : Int) ∈ way) && (src n E p).all fun o : Nat => decide ((o : Int) ∈ way)
def ext (n : Nat) (E : List (Int × Int)) (L : List (List Int)) : List (List Int) := L.flatMap fun way => (nxt n E way).map fun p : Nat => way ++ [(p : Int)]
def ord (n : Nat) (E : List (Int × Int)) : Nat → List (List Int)
  | 0 => [[]]
  | k + 1 => ext n E (ord n E k)
theorem src_ok (n : Nat) (E : List (Int × Int)) (p : Nat) (hn : n ≤ 100) : m_sources_in [webD n E, .int (p : Int)] = pure (.tup ((src n E p).map fun o : Nat => .int (o : Int))) := by
  simp only [m_sources_in, S_sources_in, runS, startE, sSeq, sIf, sSet, sRet, sRetN, sNil, sParV, sFor, sApp, sAppPop, tCmp, tVal, tAnd, tOr, tNot, tYes, tThaw, andB, orB, notB, andV, orV, notV, dC, dBin, dBlt, dVar, dCall, dNew, dThaw, dTup, dIf, dAnd, dOr, dNot, dIsi, dSl, dAttr, oN, oS, nLst, nList, nRng1, nRng2, nSeq, nOwn, nSorted, nThaw, gNm, vD, vN, seqV, setE, Say.pure_bind, Say.bind_assoc, List.getElem?_cons_zero, List.getElem?_cons_succ, seqA, slD, List.set_cons_succ, List.set_cons_zero, thaw, Sl.thaw, List.map_cons, List.map_nil, lift_some, truB_bl, bindT, ownL, slOwn, List.length_cons, List.length_nil, List.cons_append, List.nil_append, List.replicate, Nat.reduceAdd, Nat.reduceSub, List.all_cons, List.all_nil, mkTup0, mkTup1, mkTup2, mkLst0, mkLst1, mkLst4, mkLst5, mkLst8, wipeE, sPar, sOwnS, sStore2, sPut, dNeg, negD]
  rw [lc_nm (l := List.range n) (f := fun (k : Nat) => D.int (k : Int)) (b := fun o : Nat => decide (((o : Int), (p : Int)) ∈ E)) (y := fun (k : Nat) => D.int (k : Int))]
  · rfl
  · simp only [runS, startE, sSeq, sIf, sSet, sRet, sRetN, sNil, sParV, sFor, sApp, sAppPop, tCmp, tVal, tAnd, tOr, tNot, tYes, tThaw, andB, orB, notB, andV, orV, notV, dC, dBin, dBlt, dVar, dCall, dNew, dThaw, dTup, dIf, dAnd, dOr, dNot, dIsi, dSl, dAttr, oN, oS, nLst, nList, nRng1, nRng2, nSeq, nOwn, nSorted, nThaw, gNm, vD, vN, seqV, setE, Say.pure_bind, Say.bind_assoc, List.getElem?_cons_zero, List.getElem?_cons_succ, seqA, slD, List.set_cons_succ, List.set_cons_zero, thaw, Sl.thaw, List.map_cons, List.map_nil, lift_some, truB_bl, bindT, ownL, slOwn, List.length_cons, List.length_nil, List.cons_append, List.nil_append, List.replicate, Nat.reduceAdd, Nat.reduceSub, List.all_cons, List.all_nil, mkTup0, mkTup1, mkTup2, mkLst0, mkLst1, mkLst4, mkLst5, mkLst8, wipeE, sPar, sOwnS, sStore2, sPut, dNeg, negD, size_at]
    exact rngM_nat n (by omega)
  · rfl
  · intro o _
    simp only [runS, startE, sSeq, sIf, sSet, sRet, sRetN, sNil, sParV, sFor, sApp, sAppPop, tCmp, tVal, tAnd, tOr, tNot, tYes, tThaw, andB, orB, notB, andV, orV, notV, dC, dBin, dBlt, dVar, dCall, dNew, dThaw, dTup, dIf, dAnd, dOr, dNot, dIsi, dSl, dAttr, oN, oS, nLst, nList, nRng1, nRng2, nSeq, nOwn, nSorted, nThaw, gNm, vD, vN, seqV, setE, Say.pure_bind, Say.bind_assoc, List.getElem?_cons_zero, List.getElem?_cons_succ, seqA, slD, List.set_cons_succ, List.set_cons_zero, thaw, Sl.thaw, List.map_cons, List.map_nil, lift_some, truB_bl, bindT, ownL, slOwn, List.length_cons, List.length_nil, List.cons_append, List.nil_append, List.replicate, Nat.reduceAdd, Nat.reduceSub, List.all_cons, List.all_nil, mkTup0, mkTup1, mkTup2, mkLst0, mkLst1, mkLst4, mkLst5, mkLst8, wipeE, sPar, sOwnS, sStore2, sPut, dNeg, negD, arrows_at, in_prs']
    exact ⟨trivial, fun _ => trivial⟩
theorem nxt_len (n : Nat) (E : List (Int × Int)) (way : List Int) : (nxt n E way).length ≤ n := by
  have := List.length_filter_le (fun p : Nat => !decide ((p : Int) ∈ way) && (src n E p).all fun o : Nat => decide ((o : Int) ∈ way)) (List.range n)
  rw [List.length_range] at this
  exact this
theorem ext_len (n : Nat) (E : List (Int × Int)) : ∀ L : List (List Int), (ext n E L).length ≤ n * L.length
  | [] => Nat.le_refl _
  | w :: L => by
    have := ext_len n E L
    show (((nxt n E w).map fun p : Nat => w ++ [(p : Int)]) ++ ext n E L).length ≤ _
    rw [List.length_append, List.length_map, List.length_cons, Nat.mul_add]
    have := nxt_len n E w
    omega
theorem ord_len {n : Nat} (hn : n ≤ 6) (E : List (Int × Int)) : ∀ k, k ≤ 6 → (ord n E k).length ≤ 6 ^ k
  | 0, _ => Nat.le_refl _
  | k + 1, hk => by
    have a := ord_len hn E k (by omega)
    have b := ext_len n E (ord n E k)
    have c := Nat.mul_le_mul hn a
    show (ext n E (ord n E k)).length ≤ 6 ^ (k + 1)
    rw [Nat.pow_succ]
    omega
theorem ord_len' {n : Nat} (hn : n ≤ 6) (E : List (Int × Int)) (k : Nat) (hk : k ≤ 6) : (ord n E k).length ≤ 46656 := Nat.le_trans (ord_len hn E k hk) (Nat.le_trans (Nat.pow_le_pow_right (by decide) hk) (by decide))
theorem ord_lens {n : Nat} {E : List (Int × Int)} : ∀ k, ∀ w ∈ ord n E k, w.length = k
  | 0, w, h => by
    rw [List.mem_singleton.mp h]
    rfl
  | k + 1, w, h => by
    obtain ⟨v, hv, hw⟩ := List.mem_flatMap.mp (show w ∈ ext n E (ord n E k) from h)
    obtain ⟨p, _, rfl⟩ := List.mem_map.mp hw
    rw [List.length_append, ord_lens k v hv]
    rfl
theorem all_in (way : List Int) (l : List Nat) : (l.all fun o : Nat => decide ((o : Int) ∈ way)) = (l.all fun o : Nat => decide ((o : Int) ∈ way)) := rfl
theorem all_orders_ok {n : Nat} {E : List (Int × Int)} (hn : n ≤ 6) : m_all_orders [webD n E] = pure (.tup ((ord n E n).map ti)) := by
  simp only [m_all_orders, S_all_orders, runS, startE, sSeq, sIf, sSet, sRet, sRetN, sNil, sParV, sFor, sApp, sAppPop, tCmp, tVal, tAnd, tOr, tNot, tYes, tThaw, andB, orB, notB, andV, orV, notV, dC, dBin, dBlt, dVar, dCall, dNew, dThaw, dTup, dIf, dAnd, dOr, dNot, dIsi, dSl, dAttr, oN, oS, nLst, nList, nRng1, nRng2, nSeq, nOwn, nSorted, nThaw, gNm, vD, vN, seqV, setE, Say.pure_bind, Say.bind_assoc, List.getElem?_cons_zero, List.getElem?_cons_succ, seqA, slD, List.set_cons_succ, List.set_cons_zero, thaw, Sl.thaw, List.map_cons, List.map_nil, lift_some, truB_bl, bindT, ownL, slOwn, List.length_cons, List.length_nil, List.cons_append, List.nil_append, List.replicate, Nat.reduceAdd, Nat.reduceSub, List.all_cons, List.all_nil, mkTup0, mkTup1, mkTup2, mkLst0, mkLst1, mkLst4, mkLst5, mkLst8, wipeE, sPar, sOwnS, sStore2, sPut, dNeg, negD, size_at, rngM_nat n (by omega)]
  refine Exists.elim (forS_fold (h := gNm 2) (r := pure)
    (body := sSet 1 (dNew (lc2M [3, 4] [4] (nSeq (dVar 1)) (gNm 3) tYes (nRng1 (dAttr CS "size" (dVar 0))) (gNm 4) (tAnd (tCmp ninD (dVar 4) (dVar 3)) (tVal (dBlt allD [(dNew (lcM [5] (nSeq (dCall m_sources_in [(dVar 0), (dVar 4)])) (gNm 5) tYes (dBin inD (dVar 5) (dVar 3))))]))) (dBin addD (dVar 3) (dTup [(dVar 4)])))))
    (fun (k : Nat) => D.int (k : Int)) (fun done ρ => ∃ x2 : Sl, ρ = [.dat (webD n E), .dat (.lst ((ord n E done.length).map ti)), x2, .no, .no, .no]) (List.range n) [] [.dat (webD n E), .dat (.lst [.tup []]), .no, .no, .no, .no] ⟨.no, rfl⟩ ?H) ?fin
  case fin =>
    rintro ρ' ⟨⟨x2, e1⟩, e2⟩
    rw [List.nil_append, List.length_range] at e1
    rw [e2, e1]
    rfl
  case H =>
    rintro done a rest ρ hd ⟨x2, rfl⟩
    have hk : done.length < n := by
      have := congrArg List.length hd
      simp at this
      omega
    refine ⟨[.dat (webD n E), .dat (.lst ((ord n E (done ++ [a]).length).map ti)), .dat (.int (a : Int)), .no, .no, .no], ⟨_, rfl⟩, fun _ k' => ?_⟩
    simp only [runS, startE, sSeq, sIf, sSet, sRet, sRetN, sNil, sParV, sFor, sApp, sAppPop, tCmp, tVal, tAnd, tOr, tNot, tYes, tThaw, andB, orB, notB, andV, orV, notV, dC, dBin, dBlt, dVar, dCall, dNew, dThaw, dTup, dIf, dAnd, dOr, dNot, dIsi, dSl, dAttr, oN, oS, nLst, nList, nRng1, nRng2, nSeq, nOwn, nSorted, nThaw, gNm, vD, vN, seqV, setE, Say.pure_bind, Say.bind_assoc, List.getElem?_cons_zero, List.getElem?_cons_succ, seqA, slD, List.set_cons_succ, List.set_cons_zero, thaw, Sl.thaw, List.map_cons, List.map_nil, lift_some, truB_bl, bindT, ownL, slOwn, List.length_cons, List.length_nil, List.cons_append, List.nil_append, List.replicate, Nat.reduceAdd, Nat.reduceSub, List.all_cons, List.all_nil, mkTup0, mkTup1, mkTup2, mkLst0, mkLst1, mkLst4, mkLst5, mkLst8, wipeE, sPar, sOwnS, sStore2, sPut, dNeg, negD, lc2M, seqM]
    rw [if_pos (show okW [3, 4] [.dat (webD n E), .dat (.lst ((ord n E done.length).map ti)), .dat (.int (a : Int)), .no, .no, .no] = true from rfl)]
    rw [compO_map (α := List Int) (β := Nat) (f := ti) (u := fun (k : Nat) => D.int (k : Int)) (g := fun _ => List.range n) (B := fun (way : List Int) (p : Nat) => !decide ((p : Int) ∈ way) && (src n E p).all fun o : Nat => decide ((o : Int) ∈ way)) (y := fun (way : List Int) (p : Nat) => ti (way ++ [(p : Int)])) (n := 6)]
    · simp only [runS, startE, sSeq, sIf, sSet, sRet, sRetN, sNil, sParV, sFor, sApp, sAppPop, tCmp, tVal, tAnd, tOr, tNot, tYes, tThaw, andB, orB, notB, andV, orV, notV, dC, dBin, dBlt, dVar, dCall, dNew, dThaw, dTup, dIf, dAnd, dOr, dNot, dIsi, dSl, dAttr, oN, oS, nLst, nList, nRng1, nRng2, nSeq, nOwn, nSorted, nThaw, gNm, vD, vN, seqV, setE, Say.pure_bind, Say.bind_assoc, List.getElem?_cons_zero, List.getElem?_cons_succ, seqA, slD, List.set_cons_succ, List.set_cons_zero, thaw, Sl.thaw, List.map_cons, List.map_nil, lift_some, truB_bl, bindT, ownL, slOwn, List.length_cons, List.length_nil, List.cons_append, List.nil_append, List.replicate, Nat.reduceAdd, Nat.reduceSub, List.all_cons, List.all_nil, mkTup0, mkTup1, mkTup2, mkLst0, mkLst1, mkLst4, mkLst5, mkLst8, wipeE, sPar, sOwnS, sStore2, sPut, dNeg, negD]
      have e : ((ord n E done.length).flatMap fun way => ((List.range n).filter fun p : Nat => !decide ((p : Int) ∈ way) && (src n E p).all fun o : Nat => decide ((o : Int) ∈ way)).map fun p : Nat => ti (way ++ [(p : Int)])) = (ord n E (done ++ [a]).length).map ti := by
        rw [List.length_append]
        show _ = (ext n E (ord n E done.length)).map ti
        unfold ext nxt
        rw [List.map_flatMap]
        simp only [List.map_map]
        rfl
      rw [e]
    · have := ord_len' hn E done.length (by omega)
      simp only [List.length_nil]
      omega
    · intro w _
      rw [List.length_range]
      exact hn
    · intro w hw
      have lw := ord_lens _ w hw
      refine ⟨_, rfl, rfl, ?_, fun p hp => ⟨_, rfl, ?_, ?_⟩⟩
      · simp only [runS, startE, sSeq, sIf, sSet, sRet, sRetN, sNil, sParV, sFor, sApp, sAppPop, tCmp, tVal, tAnd, tOr, tNot, tYes, tThaw, andB, orB, notB, andV, orV, notV, dC, dBin, dBlt, dVar, dCall, dNew, dThaw, dTup, dIf, dAnd, dOr, dNot, dIsi, dSl, dAttr, oN, oS, nLst, nList, nRng1, nRng2, nSeq, nOwn, nSorted, nThaw, gNm, vD, vN, seqV, setE, Say.pure_bind, Say.bind_assoc, List.getElem?_cons_zero, List.getElem?_cons_succ, seqA, slD, List.set_cons_succ, List.set_cons_zero, thaw, Sl.thaw, List.map_cons, List.map_nil, lift_some, truB_bl, bindT, ownL, slOwn, List.length_cons, List.length_nil, List.cons_append, List.nil_append, List.replicate, Nat.reduceAdd, Nat.reduceSub, List.all_cons, List.all_nil, mkTup0, mkTup1, mkTup2, mkLst0, mkLst1, mkLst4, mkLst5, mkLst8, wipeE, sPar, sOwnS, sStore2, sPut, dNeg, negD, size_at]
        exact rngM_nat n (by omega)
      · simp only [runS, startE, sSeq, sIf, sSet, sRet, sRetN, sNil, sParV, sFor, sApp, sAppPop, tCmp, tVal, tAnd, tOr, tNot, tYes, tThaw, andB, orB, notB, andV, orV, notV, dC, dBin, dBlt, dVar, dCall, dNew, dThaw, dTup, dIf, dAnd, dOr, dNot, dIsi, dSl, dAttr, oN, oS, nLst, nList, nRng1, nRng2, nSeq, nOwn, nSorted, nThaw, gNm, vD, vN, seqV, setE, Say.pure_bind, Say.bind_assoc, List.getElem?_cons_zero, List.getElem?_cons_succ, seqA, slD, List.set_cons_succ, List.set_cons_zero, thaw, Sl.thaw, List.map_cons, List.map_nil, lift_some, truB_bl, bindT, ownL, slOwn, List.length_cons, List.length_nil, List.cons_append, List.nil_append, List.replicate, Nat.reduceAdd, Nat.reduceSub, List.all_cons, List.all_nil, mkTup0, mkTup1, mkTup2, mkLst0, mkLst1, mkLst4, mkLst5, mkLst8, wipeE, sPar, sOwnS, sStore2, sPut, dNeg, negD, nin_ints]
        by_cases z : (p : Int) ∈ w
        · simp [z]
        · simp only [z, decide_false, Bool.not_false, if_true, Bool.true_and]
          rw [lc_yes (l := src n E p) (f := fun (o : Nat) => D.int (o : Int)) (y := fun o : Nat => .bl (decide ((o : Int) ∈ w)))]
          · simp only [runS, startE, sSeq, sIf, sSet, sRet, sRetN, sNil, sParV, sFor, sApp, sAppPop, tCmp, tVal, tAnd, tOr, tNot, tYes, tThaw, andB, orB, notB, andV, orV, notV, dC, dBin, dBlt, dVar, dCall, dNew, dThaw, dTup, dIf, dAnd, dOr, dNot, dIsi, dSl, dAttr, oN, oS, nLst, nList, nRng1, nRng2, nSeq, nOwn, nSorted, nThaw, gNm, vD, vN, seqV, setE, Say.pure_bind, Say.bind_assoc, List.getElem?_cons_zero, List.getElem?_cons_succ, seqA, slD, List.set_cons_succ, List.set_cons_zero, thaw, Sl.thaw, List.map_cons, List.map_nil, lift_some, truB_bl, bindT, ownL, slOwn, List.length_cons, List.length_nil, List.cons_append, List.nil_append, List.replicate, Nat.reduceAdd, Nat.reduceSub, List.all_cons, List.all_nil, mkTup0, mkTup1, mkTup2, mkLst0, mkLst1, mkLst4, mkLst5, mkLst8, wipeE, sPar, sOwnS, sStore2, sPut, dNeg, negD]
            rw [all_map (fun o : Nat => decide ((o : Int) ∈ w))]
            rfl
          · simp only [runS, startE, sSeq, sIf, sSet, sRet, sRetN, sNil, sParV, sFor, sApp, sAppPop, tCmp, tVal, tAnd, tOr, tNot, tYes, tThaw, andB, orB, notB, andV, orV, notV, dC, dBin, dBlt, dVar, dCall, dNew, dThaw, dTup, dIf, dAnd, dOr, dNot, dIsi, dSl, dAttr, oN, oS, nLst, nList, nRng1, nRng2, nSeq, nOwn, nSorted, nThaw, gNm, vD, vN, seqV, setE, Say.pure_bind, Say.bind_assoc, List.getElem?_cons_zero, List.getElem?_cons_succ, seqA, slD, List.set_cons_succ, List.set_cons_zero, thaw, Sl.thaw, List.map_cons, List.map_nil, lift_some, truB_bl, bindT, ownL, slOwn, List.length_cons, List.length_nil, List.cons_append, List.nil_append, List.replicate, Nat.reduceAdd, Nat.reduceSub, List.all_cons, List.all_nil, mkTup0, mkTup1, mkTup2, mkLst0, mkLst1, mkLst4, mkLst5, mkLst8, wipeE, sPar, sOwnS, sStore2, sPut, dNeg, negD, src_ok n E p (by omega), seqM]
          · rfl
          · intro o _
            simp only [runS, startE, sSeq, sIf, sSet, sRet, sRetN, sNil, sParV, sFor, sApp, sAppPop, tCmp, tVal, tAnd, tOr, tNot, tYes, tThaw, andB, orB, notB, andV, orV, notV, dC, dBin, dBlt, dVar, dCall, dNew, dThaw, dTup, dIf, dAnd, dOr, dNot, dIsi, dSl, dAttr, oN, oS, nLst, nList, nRng1, nRng2, nSeq, nOwn, nSorted, nThaw, gNm, vD, vN, seqV, setE, Say.pure_bind, Say.bind_assoc, List.getElem?_cons_zero, List.getElem?_cons_succ, seqA, slD, List.set_cons_succ, List.set_cons_zero, thaw, Sl.thaw, List.map_cons, List.map_nil, lift_some, truB_bl, bindT, ownL, slOwn, List.length_cons, List.length_nil, List.cons_append, List.nil_append, List.replicate, Nat.reduceAdd, Nat.reduceSub, List.all_cons, List.all_nil, mkTup0, mkTup1, mkTup2, mkLst0, mkLst1, mkLst4, mkLst5, mkLst8, wipeE, sPar, sOwnS, sStore2, sPut, dNeg, negD, in_ints]
      · intro _
        simp only [runS, startE, sSeq, sIf, sSet, sRet, sRetN, sNil, sParV, sFor, sApp, sAppPop, tCmp, tVal, tAnd, tOr, tNot, tYes, tThaw, andB, orB, notB, andV, orV, notV, dC, dBin, dBlt, dVar, dCall, dNew, dThaw, dTup, dIf, dAnd, dOr, dNot, dIsi, dSl, dAttr, oN, oS, nLst, nList, nRng1, nRng2, nSeq, nOwn, nSorted, nThaw, gNm, vD, vN, seqV, setE, Say.pure_bind, Say.bind_assoc, List.getElem?_cons_zero, List.getElem?_cons_succ, seqA, slD, List.set_cons_succ, List.set_cons_zero, thaw, Sl.thaw, List.map_cons, List.map_nil, lift_some, truB_bl, bindT, ownL, slOwn, List.length_cons, List.length_nil, List.cons_append, List.nil_append, List.replicate, Nat.reduceAdd, Nat.reduceSub, List.all_cons, List.all_nil, mkTup0, mkTup1, mkTup2, mkLst0, mkLst1, mkLst4, mkLst5, mkLst8, wipeE, sPar, sOwnS, sStore2, sPut, dNeg, negD]
        rw [show D.tup [D.int (p : Int)] = ti [(p : Int)] from rfl, add_ti w [(p : Int)] (by simp; omega)]
        rfl
theorem add_lst (xs ys : List D) (h : xs.length + ys.length ≤ 1000000) : addD (.lst xs) (.lst ys) = some (.lst (xs ++ ys)) := by
  show (if xs.length + ys.length ≤ 16777216 then some (D.lst (xs ++ ys)) else none) = _
  rw [if_pos (by omega)]
def lastS (x : Sl) (done : List (List Int)) : Sl := match done.getLast? with
  | some w => .dat (ti w)
  | none => x
theorem law_all_ok {n : Nat} {E : List (Int × Int)} (hn : n ≤ 6) : m__law_all [.int (n : Int), .tup (E.map prD)] = pure (.lst ((ord n E n).map ti)) := by
  simp only [m__law_all, S__law_all, runS, startE, sSeq, sIf, sSet, sRet, sRetN, sNil, sParV, sFor, sApp, sAppPop, tCmp, tVal, tAnd, tOr, tNot, tYes, tThaw, andB, orB, notB, andV, orV, notV, dC, dBin, dBlt, dVar, dCall, dNew, dThaw, dTup, dIf, dAnd, dOr, dNot, dIsi, dSl, dAttr, oN, oS, nLst, nList, nRng1, nRng2, nSeq, nOwn, nSorted, nThaw, gNm, vD, vN, seqV, setE, Say.pure_bind, Say.bind_assoc, List.getElem?_cons_zero, List.getElem?_cons_succ, seqA, slD, List.set_cons_succ, List.set_cons_zero, thaw, Sl.thaw, List.map_cons, List.map_nil, lift_some, truB_bl, bindT, ownL, slOwn, List.length_cons, List.length_nil, List.cons_append, List.nil_append, List.replicate, Nat.reduceAdd, Nat.reduceSub, List.all_cons, List.all_nil, mkTup0, mkTup1, mkTup2, mkLst0, mkLst1, mkLst4, mkLst5, mkLst8, wipeE, sPar, sOwnS, sStore2, sPut, dNeg, negD, rngM_nat n (by omega)]
  refine Exists.elim (forS_fold (h := gNm 3) (r := pure)
    (body := (sSeq (sSet 4 (dNew (nLst [])))
  (sSeq (sFor (nSeq (dVar 2)) (gNm 5) (sSet 4 (dBin addD (dVar 4) (dNew (lcM [6] (nRng1 (dVar 0)) (gNm 6) (tAnd (tCmp ninD (dVar 6) (dVar 5)) (tVal (dBlt allD [(dNew (lcM [7] (nRng1 (dVar 0)) (gNm 7) (tCmp inD (dTup [(dVar 7), (dVar 6)]) (dVar 1)) (dBin inD (dVar 7) (dVar 5))))]))) (dBin addD (dVar 5) (dTup [(dVar 6)])))))))
  (sSet 2 (dVar 4)))))
    (fun (k : Nat) => D.int (k : Int)) (fun done ρ => ∃ x3 x4 x5 : Sl, ρ = [.dat (.int (n : Int)), .dat (.tup (E.map prD)), .dat (.lst ((ord n E done.length).map ti)), x3, x4, x5, .no, .no]) (List.range n) [] [.dat (.int (n : Int)), .dat (.tup (E.map prD)), .dat (.lst [.tup []]), .no, .no, .no, .no, .no] ⟨.no, .no, .no, rfl⟩ ?H) ?fin
  case fin =>
    rintro ρ' ⟨⟨x3, x4, x5, e1⟩, e2⟩
    rw [List.nil_append, List.length_range] at e1
    rw [e2, e1]
    rfl
  case H =>
    rintro done a rest ρ hd ⟨x3, x4, x5, rfl⟩
    have hk : done.length < n := by
      have := congrArg List.length hd
      simp at this
      omega
    refine ⟨[.dat (.int (n : Int)), .dat (.tup (E.map prD)), .dat (.lst ((ord n E (done ++ [a]).length).map ti)), .dat (.int (a : Int)), .dat (.lst ((ord n E (done ++ [a]).length).map ti)), lastS x5 (ord n E done.length), .no, .no], ⟨_, _, _, rfl⟩, fun k0 k' => ?_⟩
    simp only [runS, startE, sSeq, sIf, sSet, sRet, sRetN, sNil, sParV, sFor, sApp, sAppPop, tCmp, tVal, tAnd, tOr, tNot, tYes, tThaw, andB, orB, notB, andV, orV, notV, dC, dBin, dBlt, dVar, dCall, dNew, dThaw, dTup, dIf, dAnd, dOr, dNot, dIsi, dSl, dAttr, oN, oS, nLst, nList, nRng1, nRng2, nSeq, nOwn, nSorted, nThaw, gNm, vD, vN, seqV, setE, Say.pure_bind, Say.bind_assoc, List.getElem?_cons_zero, List.getElem?_cons_succ, seqA, slD, List.set_cons_succ, List.set_cons_zero, thaw, Sl.thaw, List.map_cons, List.map_nil, lift_some, truB_bl, bindT, ownL, slOwn, List.length_cons, List.length_nil, List.cons_append, List.nil_append, List.replicate, Nat.reduceAdd, Nat.reduceSub, List.all_cons, List.all_nil, mkTup0, mkTup1, mkTup2, mkLst0, mkLst1, mkLst4, mkLst5, mkLst8, wipeE, sPar, sOwnS, sStore2, sPut, dNeg, negD, seqM]
    refine Exists.elim (forS_fold (h := gNm 5) (r := pure)
      (body := (sSet 4 (dBin addD (dVar 4) (dNew (lcM [6] (nRng1 (dVar 0)) (gNm 6) (tAnd (tCmp ninD (dVar 6) (dVar 5)) (tVal (dBlt allD [(dNew (lcM [7] (nRng1 (dVar 0)) (gNm 7) (tCmp inD (dTup [(dVar 7), (dVar 6)]) (dVar 1)) (dBin inD (dVar 7) (dVar 5))))]))) (dBin addD (dVar 5) (dTup [(dVar 6)])))))))
      ti (fun done2 ρ => ρ = [.dat (.int (n : Int)), .dat (.tup (E.map prD)), .dat (.lst ((ord n E done.length).map ti)), .dat (.int (a : Int)), .dat (.lst ((ext n E done2).map ti)), lastS x5 done2, .no, .no]) (ord n E done.length) [] [.dat (.int (n : Int)), .dat (.tup (E.map prD)), .dat (.lst ((ord n E done.length).map ti)), .dat (.int (a : Int)), .dat (.lst []), x5, .no, .no] rfl ?H2) ?fin2
    case fin2 =>
      rintro ρ' ⟨e1, e2⟩
      have eo : ord n E (done ++ [a]).length = ext n E (ord n E done.length) := by
        rw [List.length_append]
        rfl
      rw [eo]
      rw [e2, e1, List.nil_append]
      simp only [runS, startE, sSeq, sIf, sSet, sRet, sRetN, sNil, sParV, sFor, sApp, sAppPop, tCmp, tVal, tAnd, tOr, tNot, tYes, tThaw, andB, orB, notB, andV, orV, notV, dC, dBin, dBlt, dVar, dCall, dNew, dThaw, dTup, dIf, dAnd, dOr, dNot, dIsi, dSl, dAttr, oN, oS, nLst, nList, nRng1, nRng2, nSeq, nOwn, nSorted, nThaw, gNm, vD, vN, seqV, setE, Say.pure_bind, Say.bind_assoc, List.getElem?_cons_zero, List.getElem?_cons_succ, seqA, slD, List.set_cons_succ, List.set_cons_zero, thaw, Sl.thaw, List.map_cons, List.map_nil, lift_some, truB_bl, bindT, ownL, slOwn, List.length_cons, List.length_nil, List.cons_append, List.nil_append, List.replicate, Nat.reduceAdd, Nat.reduceSub, List.all_cons, List.all_nil, mkTup0, mkTup1, mkTup2, mkLst0, mkLst1, mkLst4, mkLst5, mkLst8, wipeE, sPar, sOwnS, sStore2, sPut, dNeg, negD]
    case H2 =>
      rintro done2 w rest2 ρ hd2 rfl
      have hw : w ∈ ord n E done.length := by
        rw [List.nil_append] at hd2
        rw [hd2]
        simp
      have hl2 : done2.length ≤ 46656 := by
        have a1 := congrArg List.length hd2
        have a2 := ord_len' hn E done.length (by omega)
        simp at a1
        omega
      have lw := ord_lens _ w hw
      refine ⟨_, rfl, fun _ k2 => ?_⟩
      simp only [runS, startE, sSeq, sIf, sSet, sRet, sRetN, sNil, sParV, sFor, sApp, sAppPop, tCmp, tVal, tAnd, tOr, tNot, tYes, tThaw, andB, orB, notB, andV, orV, notV, dC, dBin, dBlt, dVar, dCall, dNew, dThaw, dTup, dIf, dAnd, dOr, dNot, dIsi, dSl, dAttr, oN, oS, nLst, nList, nRng1, nRng2, nSeq, nOwn, nSorted, nThaw, gNm, vD, vN, seqV, setE, Say.pure_bind, Say.bind_assoc, List.getElem?_cons_zero, List.getElem?_cons_succ, seqA, slD, List.set_cons_succ, List.set_cons_zero, thaw, Sl.thaw, List.map_cons, List.map_nil, lift_some, truB_bl, bindT, ownL, slOwn, List.length_cons, List.length_nil, List.cons_append, List.nil_append, List.replicate, Nat.reduceAdd, Nat.reduceSub, List.all_cons, List.all_nil, mkTup0, mkTup1, mkTup2, mkLst0, mkLst1, mkLst4, mkLst5, mkLst8, wipeE, sPar, sOwnS, sStore2, sPut, dNeg, negD]
      rw [lc_nm (l := List.range n) (f := fun (k : Nat) => D.int (k : Int)) (b := fun p : Nat => !decide ((p : Int) ∈ w) && (src n E p).all fun o : Nat => decide ((o : Int) ∈ w)) (y := fun p : Nat => ti (w ++ [(p : Int)]))]
      · simp only [runS, startE, sSeq, sIf, sSet, sRet, sRetN, sNil, sParV, sFor, sApp, sAppPop, tCmp, tVal, tAnd, tOr, tNot, tYes, tThaw, andB, orB, notB, andV, orV, notV, dC, dBin, dBlt, dVar, dCall, dNew, dThaw, dTup, dIf, dAnd, dOr, dNot, dIsi, dSl, dAttr, oN, oS, nLst, nList, nRng1, nRng2, nSeq, nOwn, nSorted, nThaw, gNm, vD, vN, seqV, setE, Say.pure_bind, Say.bind_assoc, List.getElem?_cons_zero, List.getElem?_cons_succ, seqA, slD, List.set_cons_succ, List.set_cons_zero, thaw, Sl.thaw, List.map_cons, List.map_nil, lift_some, truB_bl, bindT, ownL, slOwn, List.length_cons, List.length_nil, List.cons_append, List.nil_append, List.replicate, Nat.reduceAdd, Nat.reduceSub, List.all_cons, List.all_nil, mkTup0, mkTup1, mkTup2, mkLst0, mkLst1, mkLst4, mkLst5, mkLst8, wipeE, sPar, sOwnS, sStore2, sPut, dNeg, negD]
        have b1 := ext_len n E done2
        have b2 : n * done2.length ≤ 6 * 46656 := Nat.mul_le_mul hn hl2
        rw [add_lst]
        · simp only [runS, startE, sSeq, sIf, sSet, sRet, sRetN, sNil, sParV, sFor, sApp, sAppPop, tCmp, tVal, tAnd, tOr, tNot, tYes, tThaw, andB, orB, notB, andV, orV, notV, dC, dBin, dBlt, dVar, dCall, dNew, dThaw, dTup, dIf, dAnd, dOr, dNot, dIsi, dSl, dAttr, oN, oS, nLst, nList, nRng1, nRng2, nSeq, nOwn, nSorted, nThaw, gNm, vD, vN, seqV, setE, Say.pure_bind, Say.bind_assoc, List.getElem?_cons_zero, List.getElem?_cons_succ, seqA, slD, List.set_cons_succ, List.set_cons_zero, thaw, Sl.thaw, List.map_cons, List.map_nil, lift_some, truB_bl, bindT, ownL, slOwn, List.length_cons, List.length_nil, List.cons_append, List.nil_append, List.replicate, Nat.reduceAdd, Nat.reduceSub, List.all_cons, List.all_nil, mkTup0, mkTup1, mkTup2, mkLst0, mkLst1, mkLst4, mkLst5, mkLst8, wipeE, sPar, sOwnS, sStore2, sPut, dNeg, negD]
          have e : (ext n E done2).map ti ++ ((List.range n).filter fun p : Nat => !decide ((p : Int) ∈ w) && (src n E p).all fun o : Nat => decide ((o : Int) ∈ w)).map (fun p : Nat => ti (w ++ [(p : Int)])) = (ext n E (done2 ++ [w])).map ti := by
            unfold ext
            rw [List.flatMap_append, List.map_append]
            simp only [List.flatMap_cons, List.flatMap_nil, List.append_nil, List.map_map]
            rfl
          have e5 : lastS x5 (done2 ++ [w]) = .dat (ti w) := by
            unfold lastS
            rw [List.getLast?_concat]
          rw [e, e5]
        · rw [List.length_map, List.length_map]
          have := List.length_filter_le (fun p : Nat => !decide ((p : Int) ∈ w) && (src n E p).all fun o : Nat => decide ((o : Int) ∈ w)) (List.range n)
          rw [List.length_range] at this
          omega
      · simp only [runS, startE, sSeq, sIf, sSet, sRet, sRetN, sNil, sParV, sFor, sApp, sAppPop, tCmp, tVal, tAnd, tOr, tNot, tYes, tThaw, andB, orB, notB, andV, orV, notV, dC, dBin, dBlt, dVar, dCall, dNew, dThaw, dTup, dIf, dAnd, dOr, dNot, dIsi, dSl, dAttr, oN, oS, nLst, nList, nRng1, nRng2, nSeq, nOwn, nSorted, nThaw, gNm, vD, vN, seqV, setE, Say.pure_bind, Say.bind_assoc, List.getElem?_cons_zero, List.getElem?_cons_succ, seqA, slD, List.set_cons_succ, List.set_cons_zero, thaw, Sl.thaw, List.map_cons, List.map_nil, lift_some, truB_bl, bindT, ownL, slOwn, List.length_cons, List.length_nil, List.cons_append, List.nil_append, List.replicate, Nat.reduceAdd, Nat.reduceSub, List.all_cons, List.all_nil, mkTup0, mkTup1, mkTup2, mkLst0, mkLst1, mkLst4, mkLst5, mkLst8, wipeE, sPar, sOwnS, sStore2, sPut, dNeg, negD]
        exact rngM_nat n (by omega)
      · rfl
      · intro p hp
        refine ⟨?_, ?_⟩
        · simp only [runS, startE, sSeq, sIf, sSet, sRet, sRetN, sNil, sParV, sFor, sApp, sAppPop, tCmp, tVal, tAnd, tOr, tNot, tYes, tThaw, andB, orB, notB, andV, orV, notV, dC, dBin, dBlt, dVar, dCall, dNew, dThaw, dTup, dIf, dAnd, dOr, dNot, dIsi, dSl, dAttr, oN, oS, nLst, nList, nRng1, nRng2, nSeq, nOwn, nSorted, nThaw, gNm, vD, vN, seqV, setE, Say.pure_bind, Say.bind_assoc, List.getElem?_cons_zero, List.getElem?_cons_succ, seqA, slD, List.set_cons_succ, List.set_cons_zero, thaw, Sl.thaw, List.map_cons, List.map_nil, lift_some, truB_bl, bindT, ownL, slOwn, List.length_cons, List.length_nil, List.cons_append, List.nil_append, List.replicate, Nat.reduceAdd, Nat.reduceSub, List.all_cons, List.all_nil, mkTup0, mkTup1, mkTup2, mkLst0, mkLst1, mkLst4, mkLst5, mkLst8, wipeE, sPar, sOwnS, sStore2, sPut, dNeg, negD, nin_ints]
          by_cases z : (p : Int) ∈ w
          · simp [z]
          · simp only [z, decide_false, Bool.not_false, if_true, Bool.true_and]
            rw [lc_nm (l := List.range n) (f := fun (o : Nat) => D.int (o : Int)) (b := fun o : Nat => decide (((o : Int), (p : Int)) ∈ E)) (y := fun o : Nat => .bl (decide ((o : Int) ∈ w)))]
            · simp only [runS, startE, sSeq, sIf, sSet, sRet, sRetN, sNil, sParV, sFor, sApp, sAppPop, tCmp, tVal, tAnd, tOr, tNot, tYes, tThaw, andB, orB, notB, andV, orV, notV, dC, dBin, dBlt, dVar, dCall, dNew, dThaw, dTup, dIf, dAnd, dOr, dNot, dIsi, dSl, dAttr, oN, oS, nLst, nList, nRng1, nRng2, nSeq, nOwn, nSorted, nThaw, gNm, vD, vN, seqV, setE, Say.pure_bind, Say.bind_assoc, List.getElem?_cons_zero, List.getElem?_cons_succ, seqA, slD, List.set_cons_succ, List.set_cons_zero, thaw, Sl.thaw, List.map_cons, List.map_nil, lift_some, truB_bl, bindT, ownL, slOwn, List.length_cons, List.length_nil, List.cons_append, List.nil_append, List.replicate, Nat.reduceAdd, Nat.reduceSub, List.all_cons, List.all_nil, mkTup0, mkTup1, mkTup2, mkLst0, mkLst1, mkLst4, mkLst5, mkLst8, wipeE, sPar, sOwnS, sStore2, sPut, dNeg, negD]
              rw [all_map (fun o : Nat => decide ((o : Int) ∈ w))]
              rfl
            · simp only [runS, startE, sSeq, sIf, sSet, sRet, sRetN, sNil, sParV, sFor, sApp, sAppPop, tCmp, tVal, tAnd, tOr, tNot, tYes, tThaw, andB, orB, notB, andV, orV, notV, dC, dBin, dBlt, dVar, dCall, dNew, dThaw, dTup, dIf, dAnd, dOr, dNot, dIsi, dSl, dAttr, oN, oS, nLst, nList, nRng1, nRng2, nSeq, nOwn, nSorted, nThaw, gNm, vD, vN, seqV, setE, Say.pure_bind, Say.bind_assoc, List.getElem?_cons_zero, List.getElem?_cons_succ, seqA, slD, List.set_cons_succ, List.set_cons_zero, thaw, Sl.thaw, List.map_cons, List.map_nil, lift_some, truB_bl, bindT, ownL, slOwn, List.length_cons, List.length_nil, List.cons_append, List.nil_append, List.replicate, Nat.reduceAdd, Nat.reduceSub, List.all_cons, List.all_nil, mkTup0, mkTup1, mkTup2, mkLst0, mkLst1, mkLst4, mkLst5, mkLst8, wipeE, sPar, sOwnS, sStore2, sPut, dNeg, negD]
              exact rngM_nat n (by omega)
            · rfl
            · intro o _
              simp only [runS, startE, sSeq, sIf, sSet, sRet, sRetN, sNil, sParV, sFor, sApp, sAppPop, tCmp, tVal, tAnd, tOr, tNot, tYes, tThaw, andB, orB, notB, andV, orV, notV, dC, dBin, dBlt, dVar, dCall, dNew, dThaw, dTup, dIf, dAnd, dOr, dNot, dIsi, dSl, dAttr, oN, oS, nLst, nList, nRng1, nRng2, nSeq, nOwn, nSorted, nThaw, gNm, vD, vN, seqV, setE, Say.pure_bind, Say.bind_assoc, List.getElem?_cons_zero, List.getElem?_cons_succ, seqA, slD, List.set_cons_succ, List.set_cons_zero, thaw, Sl.thaw, List.map_cons, List.map_nil, lift_some, truB_bl, bindT, ownL, slOwn, List.length_cons, List.length_nil, List.cons_append, List.nil_append, List.replicate, Nat.reduceAdd, Nat.reduceSub, List.all_cons, List.all_nil, mkTup0, mkTup1, mkTup2, mkLst0, mkLst1, mkLst4, mkLst5, mkLst8, wipeE, sPar, sOwnS, sStore2, sPut, dNeg, negD, in_prs', in_ints]
              exact ⟨trivial, fun _ => trivial⟩
        · intro _
          simp only [runS, startE, sSeq, sIf, sSet, sRet, sRetN, sNil, sParV, sFor, sApp, sAppPop, tCmp, tVal, tAnd, tOr, tNot, tYes, tThaw, andB, orB, notB, andV, orV, notV, dC, dBin, dBlt, dVar, dCall, dNew, dThaw, dTup, dIf, dAnd, dOr, dNot, dIsi, dSl, dAttr, oN, oS, nLst, nList, nRng1, nRng2, nSeq, nOwn, nSorted, nThaw, gNm, vD, vN, seqV, setE, Say.pure_bind, Say.bind_assoc, List.getElem?_cons_zero, List.getElem?_cons_succ, seqA, slD, List.set_cons_succ, List.set_cons_zero, thaw, Sl.thaw, List.map_cons, List.map_nil, lift_some, truB_bl, bindT, ownL, slOwn, List.length_cons, List.length_nil, List.cons_append, List.nil_append, List.replicate, Nat.reduceAdd, Nat.reduceSub, List.all_cons, List.all_nil, mkTup0, mkTup1, mkTup2, mkLst0, mkLst1, mkLst4, mkLst5, mkLst8, wipeE, sPar, sOwnS, sStore2, sPut, dNeg, negD]
          rw [show D.tup [D.int (p : Int)] = ti [(p : Int)] from rfl, add_ti w [(p : Int)] (by simp; omega)]
          rfl
/-! ### an_order -/
theorem sub_len : ∀ {l f : List Int}, l.Nodup → (∀ x ∈ l, x ∈ f) → l.length ≤ f.length
  | [], f, _, _ => Nat.zero_le _
  | x :: l, f, nd, h => by
    obtain ⟨n1, n2⟩ :=
        List.nodup_cons.mp nd
    have hx := h x List.mem_cons_self
    have := sub_len (l := l) (f := f.erase x) n2 fun y hy => (List.mem_erase_of_ne (fun (e : y = x) => n1 (by rw [← e]; exact hy))).mpr (h y (List.mem_cons_of_mem _ hy))
    rw [List.length_erase_of_mem hx] at this
    have := List.length_pos_of_mem hx
    rw [List.length_cons]
    omega
theorem range_nodup (n : Nat) : ((List.range n).map fun k : Nat => (k : Int)).Nodup := List.pairwise_map.mpr (List.nodup_range.imp fun h e => h (by omega))
theorem nxt_some {n : Nat} {E : List (Int × Int)} (g : Good n E) {f : List Int} (hf : f.length < n) : nxt n E f ≠ [] := by
  obtain ⟨r, hr⟩ := g.rank
  have least : ∀ (l : List Nat), l ≠ [] → ∃ p ∈ l, ∀ q ∈ l, r (p : Int) ≤ r (q : Int) := by
    intro l
    induction l with
    | nil => exact fun z => absurd rfl z
    | cons a l ih =>
      intro _
      by_cases e : l = []
      · subst e
        exact ⟨a, by simp, by simp⟩
      · obtain ⟨p, hp, hq⟩ := ih e
        by_cases c : r (a : Int) ≤ r (p : Int)
        · exact ⟨a, by simp, fun q hm => by
            rcases List.mem_cons.mp
                hm with rfl | hm
            · exact Nat.le_refl _
            · exact Nat.le_trans c (hq q hm)⟩
        · exact ⟨p, List.mem_cons_of_mem _ hp, fun q hm => by
            rcases List.mem_cons.mp
                hm with rfl | hm
            · omega
            · exact hq q hm⟩
  have ne : (List.range n).filter (fun p : Nat => !decide ((p : Int) ∈ f)) ≠ [] := fun z => by
    have := sub_len (l := (List.range n).map fun k : Nat => (k : Int)) (f := f) (range_nodup n) fun x hx => by
      obtain ⟨k, hk, rfl⟩ := List.mem_map.mp hx
      have := List.filter_eq_nil_iff.mp z k hk
      simpa using this
    rw [List.length_map, List.length_range] at this
    omega
  obtain ⟨p, hp, hq⟩ := least _ ne
  obtain ⟨p1, p2⟩ := List.mem_filter.mp hp
  have : p ∈ nxt n E f := List.mem_filter.mpr ⟨p1, by
    rw [Bool.and_eq_true]
    refine ⟨p2, List.all_eq_true.mpr fun o ho => ?_⟩
    obtain ⟨o1, o2⟩ := List.mem_filter.mp ho
    rw [decide_eq_true_iff] at o2 ⊢
    refine Classical.byContradiction fun no => ?_
    have a := hr _ o2
    have b := hq o (List.mem_filter.mpr ⟨o1, by simpa using no⟩)
    simp only at a
    omega⟩
  exact fun e => by rw [e] at this; cases this
theorem ord_head {n : Nat} {E : List (Int × Int)} {k : Nat} {f : List Int} {rest : List (List Int)} {p : Nat} {ps : List Nat} (h : ord n E k = f :: rest) (hp : nxt n E f = p :: ps) : ∃ rest', ord n E (k + 1) = (f ++ [(p : Int)]) :: rest' := by
  refine ⟨ps.map (fun q : Nat => f ++ [(q : Int)]) ++ ext n E rest, ?_⟩
  show ext n E (ord n E k) = _
  rw [h]
  unfold ext
  rw [List.flatMap_cons, hp, List.map_cons, List.cons_append]
theorem an_loop {n : Nat} {E : List (Int × Int)} (g : Good n E) (hn : n ≤ 6) : ∀ (fuel : Nat) (f : List Int) (rest : List (List Int)) (x2 : Sl), x2.held = false → ord n E f.length = f :: rest → f.length ≤ n → n - f.length < fuel → ∃ f' rest' x2', ord n E n = f' :: rest' ∧ ∀ k : Say.Env → M D,
    whileS (tThaw (tCmp (odD .lt) (dBlt lenD [(dVar 1)]) (dAttr CS "size" (dVar 0)))) (sSeq (sSet 2 (dNew (lcM [3] (nRng1 (dAttr CS "size" (dVar 0))) (gNm 3) (tThaw (tAnd (tCmp ninD (dVar 3) (dVar 1)) (tVal (dBlt allD [(dNew (lcM [4] (nSeq (dCall m_sources_in [(dVar 0), (dVar 3)])) (gNm 4) tYes (dBin inD (dVar 4) (dVar 1))))])))) (dVar 3))))
  (sApp 1 (dBin ixD (dVar 2) (dC (.int 0))))) k pure fuel [.dat (webD n E), .own (.lst (f.map D.int)), x2, .no, .no] = k [.dat (webD n E), .own (.lst (f'.map D.int)), x2', .no, .no] := by
  intro fuel
  induction fuel with
  | zero => exact fun _ _ _ _ _ _ h => absurd h (Nat.not_lt_zero _)
  | succ fuel ih =>
    intro f rest x2 hx2 ho hf hl
    by_cases e : f.length < n
    · have c : Od.lt.i (f.length : Int) (n : Int) = true := decide_eq_true (p := (f.length : Int) < (n : Int)) (by omega)
      cases en : nxt n E f with
      | nil => exact absurd en (nxt_some g e)
      | cons p ps =>
        obtain ⟨rest', eo⟩ := ord_head ho en
        have el : (f ++ [(p : Int)]).length = f.length + 1 := by simp
        obtain ⟨f', r', x', z1, z2⟩ := ih (f ++ [(p : Int)]) rest' (.dat (.lst ((nxt n E f).map fun k : Nat => D.int (k : Int)))) rfl (by rw [el]; exact eo) (by omega) (by omega)
        refine ⟨f', r', x', z1, fun k => ?_⟩
        rw [whileS_succ]
        simp only [runS, startE, sSeq, sIf, sSet, sRet, sRetN, sNil, sParV, sFor, sApp, sAppPop, tCmp, tVal, tAnd, tOr, tNot, tYes, tThaw, andB, orB, notB, andV, orV, notV, dC, dBin, dBlt, dVar, dCall, dNew, dThaw, dTup, dIf, dAnd, dOr, dNot, dIsi, dSl, dAttr, oN, oS, nLst, nList, nRng1, nRng2, nSeq, nOwn, nSorted, nThaw, gNm, vD, vN, seqV, setE, Say.pure_bind, Say.bind_assoc, List.getElem?_cons_zero, List.getElem?_cons_succ, seqA, slD, List.set_cons_succ, List.set_cons_zero, thaw, Sl.thaw, List.map_cons, List.map_nil, lift_some, truB_bl, bindT, ownL, slOwn, List.length_cons, List.length_nil, List.cons_append, List.nil_append, List.replicate, Nat.reduceAdd, Nat.reduceSub, List.all_cons, List.all_nil, mkTup0, mkTup1, mkTup2, mkLst0, mkLst1, mkLst4, mkLst5, mkLst8, wipeE, sPar, sOwnS, sStore2, sPut, dNeg, negD, lenD, List.length_map, size_at, od_int]
        rw [if_pos c]
        rw [lc_nm (l := List.range n) (f := fun (k : Nat) => D.int (k : Int)) (b := fun q : Nat => !decide ((q : Int) ∈ f) && (src n E q).all fun o : Nat => decide ((o : Int) ∈ f)) (y := fun (k : Nat) => D.int (k : Int))]
        · simp only [runS, startE, sSeq, sIf, sSet, sRet, sRetN, sNil, sParV, sFor, sApp, sAppPop, tCmp, tVal, tAnd, tOr, tNot, tYes, tThaw, andB, orB, notB, andV, orV, notV, dC, dBin, dBlt, dVar, dCall, dNew, dThaw, dTup, dIf, dAnd, dOr, dNot, dIsi, dSl, dAttr, oN, oS, nLst, nList, nRng1, nRng2, nSeq, nOwn, nSorted, nThaw, gNm, vD, vN, seqV, setE, Say.pure_bind, Say.bind_assoc, List.getElem?_cons_zero, List.getElem?_cons_succ, seqA, slD, List.set_cons_succ, List.set_cons_zero, thaw, Sl.thaw, List.map_cons, List.map_nil, lift_some, truB_bl, bindT, ownL, slOwn, List.length_cons, List.length_nil, List.cons_append, List.nil_append, List.replicate, Nat.reduceAdd, Nat.reduceSub, List.all_cons, List.all_nil, mkTup0, mkTup1, mkTup2, mkLst0, mkLst1, mkLst4, mkLst5, mkLst8, wipeE, sPar, sOwnS, sStore2, sPut, dNeg, negD]
          rw [show ((List.range n).filter fun q : Nat => !decide ((q : Int) ∈ f) && (src n E q).all fun o : Nat => decide ((o : Int) ∈ f)) = nxt n E f from rfl]
          have ix : ixD (.lst ((nxt n E f).map fun k : Nat => D.int (k : Int))) (.int 0) = some (.int (p : Int)) := by
            have := ix_lst (fun k : Nat => D.int (k : Int)) (xs := nxt n E f) (r := 0) (by rw [en]; simp)
            have e0 : (nxt n E f)[0]'(by rw [en]; simp) = p := by simp [en]
            rw [e0] at this
            exact this
          rw [ix]
          simp only [runS, startE, sSeq, sIf, sSet, sRet, sRetN, sNil, sParV, sFor, sApp, sAppPop, tCmp, tVal, tAnd, tOr, tNot, tYes, tThaw, andB, orB, notB, andV, orV, notV, dC, dBin, dBlt, dVar, dCall, dNew, dThaw, dTup, dIf, dAnd, dOr, dNot, dIsi, dSl, dAttr, oN, oS, nLst, nList, nRng1, nRng2, nSeq, nOwn, nSorted, nThaw, gNm, vD, vN, seqV, setE, Say.pure_bind, Say.bind_assoc, List.getElem?_cons_zero, List.getElem?_cons_succ, seqA, slD, List.set_cons_succ, List.set_cons_zero, thaw, Sl.thaw, List.map_cons, List.map_nil, lift_some, truB_bl, bindT, ownL, slOwn, List.length_cons, List.length_nil, List.cons_append, List.nil_append, List.replicate, Nat.reduceAdd, Nat.reduceSub, List.all_cons, List.all_nil, mkTup0, mkTup1, mkTup2, mkLst0, mkLst1, mkLst4, mkLst5, mkLst8, wipeE, sPar, sOwnS, sStore2, sPut, dNeg, negD]
          rw [show pushD (f.map D.int) (.int (p : Int)) = pure ((f ++ [(p : Int)]).map D.int) from by
            unfold pushD
            rw [if_pos (by rw [List.length_map]; omega)]
            simp]
          simp only [runS, startE, sSeq, sIf, sSet, sRet, sRetN, sNil, sParV, sFor, sApp, sAppPop, tCmp, tVal, tAnd, tOr, tNot, tYes, tThaw, andB, orB, notB, andV, orV, notV, dC, dBin, dBlt, dVar, dCall, dNew, dThaw, dTup, dIf, dAnd, dOr, dNot, dIsi, dSl, dAttr, oN, oS, nLst, nList, nRng1, nRng2, nSeq, nOwn, nSorted, nThaw, gNm, vD, vN, seqV, setE, Say.pure_bind, Say.bind_assoc, List.getElem?_cons_zero, List.getElem?_cons_succ, seqA, slD, List.set_cons_succ, List.set_cons_zero, thaw, Sl.thaw, List.map_cons, List.map_nil, lift_some, truB_bl, bindT, ownL, slOwn, List.length_cons, List.length_nil, List.cons_append, List.nil_append, List.replicate, Nat.reduceAdd, Nat.reduceSub, List.all_cons, List.all_nil, mkTup0, mkTup1, mkTup2, mkLst0, mkLst1, mkLst4, mkLst5, mkLst8, wipeE, sPar, sOwnS, sStore2, sPut, dNeg, negD]
          exact z2 k
        · simp only [runS, startE, sSeq, sIf, sSet, sRet, sRetN, sNil, sParV, sFor, sApp, sAppPop, tCmp, tVal, tAnd, tOr, tNot, tYes, tThaw, andB, orB, notB, andV, orV, notV, dC, dBin, dBlt, dVar, dCall, dNew, dThaw, dTup, dIf, dAnd, dOr, dNot, dIsi, dSl, dAttr, oN, oS, nLst, nList, nRng1, nRng2, nSeq, nOwn, nSorted, nThaw, gNm, vD, vN, seqV, setE, Say.pure_bind, Say.bind_assoc, List.getElem?_cons_zero, List.getElem?_cons_succ, seqA, slD, List.set_cons_succ, List.set_cons_zero, thaw, Sl.thaw, List.map_cons, List.map_nil, lift_some, truB_bl, bindT, ownL, slOwn, List.length_cons, List.length_nil, List.cons_append, List.nil_append, List.replicate, Nat.reduceAdd, Nat.reduceSub, List.all_cons, List.all_nil, mkTup0, mkTup1, mkTup2, mkLst0, mkLst1, mkLst4, mkLst5, mkLst8, wipeE, sPar, sOwnS, sStore2, sPut, dNeg, negD, size_at]
          exact rngM_nat n (by omega)
        · cases x2 <;> rfl
        · intro q hq
          refine ⟨?_, fun _ => rfl⟩
          have wk : ∀ x2 : Sl, x2.held = false → x2.thaw.held = false := fun x h => by cases x <;> first | rfl | cases h
          simp only [runS, startE, sSeq, sIf, sSet, sRet, sRetN, sNil, sParV, sFor, sApp, sAppPop, tCmp, tVal, tAnd, tOr, tNot, tYes, tThaw, andB, orB, notB, andV, orV, notV, dC, dBin, dBlt, dVar, dCall, dNew, dThaw, dTup, dIf, dAnd, dOr, dNot, dIsi, dSl, dAttr, oN, oS, nLst, nList, nRng1, nRng2, nSeq, nOwn, nSorted, nThaw, gNm, vD, vN, seqV, setE, Say.pure_bind, Say.bind_assoc, List.getElem?_cons_zero, List.getElem?_cons_succ, seqA, slD, List.set_cons_succ, List.set_cons_zero, thaw, Sl.thaw, List.map_cons, List.map_nil, lift_some, truB_bl, bindT, ownL, slOwn, List.length_cons, List.length_nil, List.cons_append, List.nil_append, List.replicate, Nat.reduceAdd, Nat.reduceSub, List.all_cons, List.all_nil, mkTup0, mkTup1, mkTup2, mkLst0, mkLst1, mkLst4, mkLst5, mkLst8, wipeE, sPar, sOwnS, sStore2, sPut, dNeg, negD, nin_intsL]
          by_cases z : (q : Int) ∈ f
          · simp [z]
          · simp only [z, decide_false, Bool.not_false, if_true, Bool.true_and]
            rw [lc_yes (l := src n E q) (f := fun (o : Nat) => D.int (o : Int)) (y := fun o : Nat => .bl (decide ((o : Int) ∈ f)))]
            · simp only [runS, startE, sSeq, sIf, sSet, sRet, sRetN, sNil, sParV, sFor, sApp, sAppPop, tCmp, tVal, tAnd, tOr, tNot, tYes, tThaw, andB, orB, notB, andV, orV, notV, dC, dBin, dBlt, dVar, dCall, dNew, dThaw, dTup, dIf, dAnd, dOr, dNot, dIsi, dSl, dAttr, oN, oS, nLst, nList, nRng1, nRng2, nSeq, nOwn, nSorted, nThaw, gNm, vD, vN, seqV, setE, Say.pure_bind, Say.bind_assoc, List.getElem?_cons_zero, List.getElem?_cons_succ, seqA, slD, List.set_cons_succ, List.set_cons_zero, thaw, Sl.thaw, List.map_cons, List.map_nil, lift_some, truB_bl, bindT, ownL, slOwn, List.length_cons, List.length_nil, List.cons_append, List.nil_append, List.replicate, Nat.reduceAdd, Nat.reduceSub, List.all_cons, List.all_nil, mkTup0, mkTup1, mkTup2, mkLst0, mkLst1, mkLst4, mkLst5, mkLst8, wipeE, sPar, sOwnS, sStore2, sPut, dNeg, negD]
              rw [all_map (fun o : Nat => decide ((o : Int) ∈ f))]
              rfl
            · simp only [runS, startE, sSeq, sIf, sSet, sRet, sRetN, sNil, sParV, sFor, sApp, sAppPop, tCmp, tVal, tAnd, tOr, tNot, tYes, tThaw, andB, orB, notB, andV, orV, notV, dC, dBin, dBlt, dVar, dCall, dNew, dThaw, dTup, dIf, dAnd, dOr, dNot, dIsi, dSl, dAttr, oN, oS, nLst, nList, nRng1, nRng2, nSeq, nOwn, nSorted, nThaw, gNm, vD, vN, seqV, setE, Say.pure_bind, Say.bind_assoc, List.getElem?_cons_zero, List.getElem?_cons_succ, seqA, slD, List.set_cons_succ, List.set_cons_zero, thaw, Sl.thaw, List.map_cons, List.map_nil, lift_some, truB_bl, bindT, ownL, slOwn, List.length_cons, List.length_nil, List.cons_append, List.nil_append, List.replicate, Nat.reduceAdd, Nat.reduceSub, List.all_cons, List.all_nil, mkTup0, mkTup1, mkTup2, mkLst0, mkLst1, mkLst4, mkLst5, mkLst8, wipeE, sPar, sOwnS, sStore2, sPut, dNeg, negD, src_ok n E q (by omega), seqM]
            · cases x2 <;> rfl
            · intro o _
              simp only [runS, startE, sSeq, sIf, sSet, sRet, sRetN, sNil, sParV, sFor, sApp, sAppPop, tCmp, tVal, tAnd, tOr, tNot, tYes, tThaw, andB, orB, notB, andV, orV, notV, dC, dBin, dBlt, dVar, dCall, dNew, dThaw, dTup, dIf, dAnd, dOr, dNot, dIsi, dSl, dAttr, oN, oS, nLst, nList, nRng1, nRng2, nSeq, nOwn, nSorted, nThaw, gNm, vD, vN, seqV, setE, Say.pure_bind, Say.bind_assoc, List.getElem?_cons_zero, List.getElem?_cons_succ, seqA, slD, List.set_cons_succ, List.set_cons_zero, thaw, Sl.thaw, List.map_cons, List.map_nil, lift_some, truB_bl, bindT, ownL, slOwn, List.length_cons, List.length_nil, List.cons_append, List.nil_append, List.replicate, Nat.reduceAdd, Nat.reduceSub, List.all_cons, List.all_nil, mkTup0, mkTup1, mkTup2, mkLst0, mkLst1, mkLst4, mkLst5, mkLst8, wipeE, sPar, sOwnS, sStore2, sPut, dNeg, negD, in_intsL]
    · have en : f.length = n := by omega
      have c : ¬ Od.lt.i (f.length : Int) (n : Int) = true := fun z => by
        have := of_decide_eq_true (p := (f.length : Int) < (n : Int)) z
        omega
      rw [en] at ho
      refine ⟨f, rest, x2, ho, fun k => ?_⟩
      rw [whileS_succ]
      simp only [runS, startE, sSeq, sIf, sSet, sRet, sRetN, sNil, sParV, sFor, sApp, sAppPop, tCmp, tVal, tAnd, tOr, tNot, tYes, tThaw, andB, orB, notB, andV, orV, notV, dC, dBin, dBlt, dVar, dCall, dNew, dThaw, dTup, dIf, dAnd, dOr, dNot, dIsi, dSl, dAttr, oN, oS, nLst, nList, nRng1, nRng2, nSeq, nOwn, nSorted, nThaw, gNm, vD, vN, seqV, setE, Say.pure_bind, Say.bind_assoc, List.getElem?_cons_zero, List.getElem?_cons_succ, seqA, slD, List.set_cons_succ, List.set_cons_zero, thaw, Sl.thaw, List.map_cons, List.map_nil, lift_some, truB_bl, bindT, ownL, slOwn, List.length_cons, List.length_nil, List.cons_append, List.nil_append, List.replicate, Nat.reduceAdd, Nat.reduceSub, List.all_cons, List.all_nil, mkTup0, mkTup1, mkTup2, mkLst0, mkLst1, mkLst4, mkLst5, mkLst8, wipeE, sPar, sOwnS, sStore2, sPut, dNeg, negD, lenD, List.length_map, size_at, od_int]
      rw [if_neg c]
theorem an_order_ok {n : Nat} {E : List (Int × Int)} (g : Good n E) (hn : n ≤ 6) : ∃ f rest, ord n E n = f :: rest ∧ m_an_order [webD n E] = pure (ti f) := by
  obtain ⟨f, rest, x', h1, h2⟩ := an_loop g hn 1000 [] [] .no rfl rfl (Nat.zero_le _) (by simp; omega)
  refine ⟨f, rest, h1, ?_⟩
  simp only [m_an_order, S_an_order, sOwnS, sWhile, runS, startE, sSeq, sIf, sSet, sRet, sRetN, sNil, sParV, sFor, sApp, sAppPop, tCmp, tVal, tAnd, tOr, tNot, tYes, tThaw, andB, orB, notB, andV, orV, notV, dC, dBin, dBlt, dVar, dCall, dNew, dThaw, dTup, dIf, dAnd, dOr, dNot, dIsi, dSl, dAttr, oN, oS, nLst, nList, nRng1, nRng2, nSeq, nOwn, nSorted, nThaw, gNm, vD, vN, seqV, setE, Say.pure_bind, Say.bind_assoc, List.getElem?_cons_zero, List.getElem?_cons_succ, seqA, slD, List.set_cons_succ, List.set_cons_zero, thaw, Sl.thaw, List.map_cons, List.map_nil, lift_some, truB_bl, bindT, ownL, slOwn, List.length_cons, List.length_nil, List.cons_append, List.nil_append, List.replicate, Nat.reduceAdd, Nat.reduceSub, List.all_cons, List.all_nil, mkTup0, mkTup1, mkTup2, mkLst0, mkLst1, mkLst4, mkLst5, mkLst8, wipeE, sPar, sOwnS, sStore2, sPut, dNeg, negD, Nat.reduceLT, if_true]
  rw [show ([] : List D) = ([] : List Int).map D.int from rfl, h2]
  rfl
/-! ### is_order, plainly -/
theorem ord_succ {n : Nat} {E : List (Int × Int)} {k : Nat} {w : List Int} : w ∈ ord n E (k + 1) ↔ ∃ v ∈ ord n E k, ∃ p ∈ nxt n E v, w = v ++ [(p : Int)] := by
  show w ∈ ext n E (ord n E k) ↔ _
  unfold ext
  rw [List.mem_flatMap]
  constructor
  · rintro ⟨v, hv, hw⟩
    obtain ⟨p, hp, rfl⟩ := List.mem_map.mp hw
    exact ⟨v, hv, p, hp, rfl⟩
  · rintro ⟨v, hv, p, hp, rfl⟩
    exact ⟨v, hv, List.mem_map.mpr ⟨p, hp, rfl⟩⟩
theorem nxt_iff {n : Nat} {E : List (Int × Int)} {v : List Int} {p : Nat} : p ∈ nxt n E v ↔ p < n ∧ (p : Int) ∉ v ∧ ∀ o : Nat, o < n → ((o : Int), (p : Int)) ∈ E → (o : Int) ∈ v := by
  unfold nxt src
  rw [List.mem_filter, List.mem_range, Bool.and_eq_true, List.all_eq_true]
  constructor
  · rintro ⟨h1, h2, h3⟩
    refine ⟨h1, by simpa using h2, fun o ho he => ?_⟩
    exact of_decide_eq_true (h3 o (List.mem_filter.mpr ⟨List.mem_range.mpr ho, decide_eq_true he⟩))
  · rintro ⟨h1, h2, h3⟩
    refine ⟨h1, by simpa using h2, fun o ho => ?_⟩
    obtain ⟨o1, o2⟩ := List.mem_filter.mp ho
    exact decide_eq_true (h3 o (List.mem_range.mp o1) (of_decide_eq_true o2))
/-- what such a way is -/
theorem ord_way {n : Nat} {E : List (Int × Int)} (g : Good n E) : ∀ (k : Nat) (w : List Int), w ∈ ord n E k → w.length = k ∧ w.Nodup ∧ (∀ x ∈ w, 0 ≤ x ∧ x < (n : Int)) ∧ ∀ x ∈ E, ∀ j : Nat, w[j]? = some x.2 → ∃ i, i < j ∧ w[i]? = some x.1
  | 0, w, h => by
    rw [List.mem_singleton.mp h]
    exact ⟨rfl, .nil, fun x hx => (by cases hx), fun x _ j hj => (by simp at hj)⟩
  | k + 1, w, h => by
    obtain ⟨v, hv, p, hp, rfl⟩ := ord_succ.mp h
    obtain ⟨p1, p2, p3⟩ := nxt_iff.mp hp
    obtain ⟨v1, v2, v3, v4⟩ := ord_way g k v hv
    refine ⟨by simp [v1], ?_, ?_, ?_⟩
    · rw [List.nodup_append]
      refine ⟨v2, by simp, fun a ha b hb => ?_⟩
      rw [List.mem_singleton.mp hb]
      exact fun e => p2 (e ▸ ha)
    · intro x hx
      rcases List.mem_append.mp
          hx with hx | hx
      · exact v3 x hx
      · rw [List.mem_singleton.mp hx]
        omega
    · intro x hx j hj
      by_cases hjk : j < v.length
      · rw [List.getElem?_append_left hjk] at hj
        obtain ⟨i, i1, i2⟩ := v4 x hx j hj
        exact ⟨i, i1, by rw [List.getElem?_append_left (by omega)]; exact i2⟩
      · rw [List.getElem?_append_right (by omega)] at hj
        have ej : j - v.length = 0 := by
          refine Classical.byContradiction fun ne => ?_
          rw [List.getElem?_eq_none (by simp; omega)] at hj
          cases hj
        rw [ej] at hj
        have e2 : (p : Int) = x.2 := by simpa using hj
        have r1 := (g.rng x hx).1
        have mo := p3 x.1.toNat (by omega) (by rw [Int.toNat_of_nonneg r1.1, e2]; exact hx)
        rw [Int.toNat_of_nonneg r1.1] at mo
        obtain ⟨i, hi, e⟩ := List.mem_iff_getElem.mp mo
        exact ⟨i, by omega, by rw [List.getElem?_append_left hi, List.getElem?_eq_getElem hi, e]⟩
/-- the other way round -/
theorem way_ord {n : Nat} {E : List (Int × Int)} {w : List Int} (nd : w.Nodup) (rng : ∀ x ∈ w, 0 ≤ x ∧ x < (n : Int)) (before : ∀ x ∈ E, ∀ j : Nat, w[j]? = some x.2 → ∃ i, i < j ∧ w[i]? = some x.1) : ∀ k, k ≤ w.length → w.take k ∈ ord n E k
  | 0, _ => by
    rw [List.take_zero]
    exact List.mem_singleton.mpr rfl
  | k + 1, hk => by
    have hk' : k < w.length := hk
    have ih := way_ord nd rng before k (by omega)
    have rk := rng _ (List.getElem_mem hk')
    rw [List.take_succ_eq_append_getElem hk']
    refine ord_succ.mpr ⟨_, ih, (w[k]).toNat, nxt_iff.mpr ⟨by omega, ?_, fun o ho he => ?_⟩, by rw [Int.toNat_of_nonneg rk.1]⟩
    · rw [Int.toNat_of_nonneg rk.1]
      intro z
      obtain ⟨i, hi, e⟩ := List.mem_iff_getElem.mp z
      rw [List.length_take] at hi
      rw [List.getElem_take] at e
      have := List.pairwise_iff_getElem.mp nd i k (by omega) hk' (by omega)
      exact this e
    · rw [Int.toNat_of_nonneg rk.1] at he
      obtain ⟨i, h1, h2⟩ := before _ he k (List.getElem?_eq_getElem hk')
      refine List.mem_iff_getElem?.mpr ⟨i, ?_⟩
      rw [List.getElem?_take_of_lt h1]
      exact h2
theorem ord_iff {n : Nat} {E : List (Int × Int)} (g : Good n E) {w : List Int} : w ∈ ord n E n ↔ w.length = n ∧ w.Nodup ∧ (∀ x ∈ w, 0 ≤ x ∧ x < (n : Int)) ∧ ∀ x ∈ E, ∀ j : Nat, w[j]? = some x.2 → ∃ i, i < j ∧ w[i]? = some x.1 := by
  refine ⟨ord_way g n w, fun ⟨h1, h2, h3, h4⟩ => ?_⟩
  have := way_ord (n := n) h2 h3 h4 n (by omega)
  rw [← h1, List.take_length] at this
  rw [← h1]
  exact this
/-- sorted(w) == list(range(n)) -/
theorem sort_range {n : Nat} {w : List Int} : sortI w = (List.range n).map (fun k : Nat => (k : Int)) ↔ w.Perm ((List.range n).map fun k : Nat => (k : Int)) := by
  constructor
  · intro h
    rw [← h]
    exact (sortI_perm w).symm
  · intro h
    refine (sortI_uniq h.symm (List.pairwise_map.mpr ?_)).symm
    exact List.pairwise_lt_range.imp fun a => by omega
theorem perm_range {n : Nat} {w : List Int} : w.Perm ((List.range n).map fun k : Nat => (k : Int)) ↔ w.length = n ∧ w.Nodup ∧ ∀ x ∈ w, 0 ≤ x ∧ x < (n : Int) := by
  constructor
  · intro h
    refine ⟨by rw [h.length_eq]; simp, h.nodup_iff.mpr (range_nodup n), fun x hx => ?_⟩
    obtain ⟨k, hk, rfl⟩ := List.mem_map.mp (h.mem_iff.mp hx)
    have := List.mem_range.mp hk
    omega
  · rintro ⟨h1, h2, h3⟩
    have key : ∀ (l m : List Int), l.Nodup → m.Nodup → (∀ x ∈ l, x ∈ m) → l.length = m.length → l.Perm m := by
      intro l
      induction l with
      | nil => intro m _ _ _ e; rw [List.length_eq_zero_iff.mp e.symm]
      | cons a l ih =>
        intro m nl nm sub e
        have ha := sub a List.mem_cons_self
        obtain ⟨n1, n2⟩ := List.nodup_cons.mp nl
        refine (List.Perm.cons a (ih (m.erase a) n2 (nm.erase a) (fun x hx => (List.mem_erase_of_ne fun (e : x = a) => n1 (by rw [← e]; exact hx)).mpr (sub x (List.mem_cons_of_mem _ hx))) ?_)).trans (List.perm_cons_erase ha).symm
        rw [List.length_erase_of_mem ha, ← e]
        rfl
    refine key w _ h2 (range_nodup n) (fun x hx => ?_) (by rw [h1]; simp)
    obtain ⟨a, b⟩ := h3 x hx
    exact List.mem_map.mpr ⟨x.toNat, List.mem_range.mpr (by omega), Int.toNat_of_nonneg a⟩
theorem idx_some {z : Int} : ∀ {w : List Int}, z ∈ w → ∃ j, idxI z w = some j
  | y :: w, h => by
    unfold idxI
    by_cases e : y = z
    · exact ⟨0, if_pos e⟩
    · rw [if_neg e]
      rcases List.mem_cons.mp
          h with q | q
      · exact absurd q.symm e
      · obtain ⟨j, hj⟩ := idx_some q
        exact ⟨j + 1, by rw [hj]; rfl⟩
theorem idx_at {z : Int} {w : List Int} (nd : w.Nodup) {i j : Nat} (hi : idxI z w = some i) (hj : w[j]? = some z) : i = j := by
  obtain ⟨h1, h2⟩ := idxI_ok hi
  obtain ⟨i1, e1⟩ := List.getElem?_eq_some_iff.mp h1
  obtain ⟨j1, e2⟩ := List.getElem?_eq_some_iff.mp hj
  refine Classical.byContradiction fun ne => ?_
  rcases Nat.lt_or_gt_of_ne ne with h | h
  · exact List.pairwise_iff_getElem.mp nd i j i1 j1 h (e1.trans e2.symm)
  · exact List.pairwise_iff_getElem.mp nd j i j1 i1 h (e2.trans e1.symm)
/-- the places of an arrow's ends -/
def ahead (w : List Int) (x : Int × Int) : Bool := match idxI x.1 w, idxI x.2 w with
  | some i, some j => decide (i < j)
  | _, _ => false
theorem ahead_iff {n : Nat} {E : List (Int × Int)} (g : Good n E) {w : List Int} (pm : w.Perm ((List.range n).map fun k : Nat => (k : Int))) : (E.all (ahead w) = true) ↔ ∀ x ∈ E, ∀ j : Nat, w[j]? = some x.2 → ∃ i, i < j ∧ w[i]? = some x.1 := by
  obtain ⟨h1, h2, h3⟩ := perm_range.mp pm
  have mem : ∀ i : Int, 0 ≤ i ∧ i < (n : Int) → i ∈ w := fun i hi => pm.mem_iff.mpr (List.mem_map.mpr ⟨i.toNat, List.mem_range.mpr (by omega), Int.toNat_of_nonneg hi.1⟩)
  rw [List.all_eq_true]
  refine ⟨fun H x hx j hj => ?_, fun H x hx => ?_⟩
  · obtain ⟨a, ha⟩ := idx_some (mem x.1 (g.rng x hx).1)
    obtain ⟨b, hb⟩ := idx_some (mem x.2 (g.rng x hx).2)
    have := H x hx
    unfold ahead at this
    rw [ha, hb] at this
    have lt := of_decide_eq_true this
    have eb := idx_at h2 hb hj
    exact ⟨a, by omega, (idxI_ok ha).1⟩
  · obtain ⟨a, ha⟩ := idx_some (mem x.1 (g.rng x hx).1)
    obtain ⟨b, hb⟩ := idx_some (mem x.2 (g.rng x hx).2)
    unfold ahead
    rw [ha, hb]
    obtain ⟨i, i1, i2⟩ := H x hx b (idxI_ok hb).1
    have := idx_at h2 ha i2
    exact decide_eq_true
        (by omega)
/-! ### is_order -/
theorem ints_of_idx {n : Nat} : ∀ {xs : List D}, xs.all (idx n) = true → ∃ ns : List Int, xs = ns.map D.int ∧ ∀ x ∈ ns, 0 ≤ x ∧ x < (n : Int)
  | [], _ => ⟨[], rfl, fun x hx => (by cases hx)⟩
  | d :: xs, h => by
    rw [List.all_cons,
        Bool.and_eq_true] at h
    obtain ⟨ns, e, r⟩ := ints_of_idx h.2
    cases d with
    | int i =>
      refine ⟨i :: ns, by rw [e]; rfl, fun x hx => ?_⟩
      rcases List.mem_cons.mp
          hx with rfl | hx
      · exact of_decide_eq_true h.1
      · exact r x hx
    | _ => cases h.1
/-- the answer that is due -/
def dueB (n : Nat) (E : List (Int × Int)) : D → Bool
  | .tup xs => match intsOf xs with
    | some ns => decide (ns ∈ ord n E n)
    | none => false
  | _ => false
theorem ne_ints (xs ys : List Int) : neD (.lst (xs.map D.int)) (.lst (ys.map D.int)) = some (.bl (!decide (xs = ys))) := by
  have hp : ∀ zs : List Int, (D.lst (zs.map D.int)).plain = true := fun zs => by
    show (D.lst (zs.map D.int)).plainN 60 = true
    simp only [D.plainN]
    exact plainL_map D.int (plain_int 59) zs
  show (if ((D.lst (xs.map D.int)).plain && (D.lst (ys.map D.int)).plain) = true then some (D.bl (!eqV (.lst (xs.map D.int)) (.lst (ys.map D.int)))) else none) = _
  rw [if_pos (by rw [hp, hp]; rfl), eqV_lst]
  refine congrArg some (congrArg D.bl (congrArg not ?_))
  rw [Bool.eq_iff_iff, eqL_map D.int (fun a b => by rw [eqV_int]; exact decide_eq_true_iff), decide_eq_true_iff]
theorem is_order_tup {n : Nat} {E : List (Int × Int)} (g : Good n E) (hn : n ≤ 6) {xs : List D} (hs : ∀ d ∈ xs, scal d = true) : m_is_order [webD n E, .tup xs] = pure (.bl (dueB n E (.tup xs))) := by
  simp only [m_is_order, S_is_order, runS, startE, sSeq, sIf, sSet, sRet, sRetN, sNil, sParV, sFor, sApp, sAppPop, tCmp, tVal, tAnd, tOr, tNot, tYes, tThaw, andB, orB, notB, andV, orV, notV, dC, dBin, dBlt, dVar, dCall, dNew, dThaw, dTup, dIf, dAnd, dOr, dNot, dIsi, dSl, dAttr, oN, oS, nLst, nList, nRng1, nRng2, nSeq, nOwn, nSorted, nThaw, gNm, vD, vN, seqV, setE, Say.pure_bind, Say.bind_assoc, List.getElem?_cons_zero, List.getElem?_cons_succ, seqA, slD, List.set_cons_succ, List.set_cons_zero, thaw, Sl.thaw, List.map_cons, List.map_nil, lift_some, truB_bl, bindT, ownL, slOwn, List.length_cons, List.length_nil, List.cons_append, List.nil_append, List.replicate, Nat.reduceAdd, Nat.reduceSub, List.all_cons, List.all_nil, mkTup0, mkTup1, mkTup2, mkLst0, mkLst1, mkLst4, mkLst5, mkLst8, wipeE, sPar, sOwnS, sStore2, sPut, dNeg, negD, show isiD CS TS [.ty "tuple"] (.tup xs) = pure (.bl true) from rfl, Bool.not_true, Bool.false_eq_true, if_false]
  rw [lc_yes (l := xs) (f := id) (y := fun d => .bl (idx n d))]
  · simp only [runS, startE, sSeq, sIf, sSet, sRet, sRetN, sNil, sParV, sFor, sApp, sAppPop, tCmp, tVal, tAnd, tOr, tNot, tYes, tThaw, andB, orB, notB, andV, orV, notV, dC, dBin, dBlt, dVar, dCall, dNew, dThaw, dTup, dIf, dAnd, dOr, dNot, dIsi, dSl, dAttr, oN, oS, nLst, nList, nRng1, nRng2, nSeq, nOwn, nSorted, nThaw, gNm, vD, vN, seqV, setE, Say.pure_bind, Say.bind_assoc, List.getElem?_cons_zero, List.getElem?_cons_succ, seqA, slD, List.set_cons_succ, List.set_cons_zero, thaw, Sl.thaw, List.map_cons, List.map_nil, lift_some, truB_bl, bindT, ownL, slOwn, List.length_cons, List.length_nil, List.cons_append, List.nil_append, List.replicate, Nat.reduceAdd, Nat.reduceSub, List.all_cons, List.all_nil, mkTup0, mkTup1, mkTup2, mkLst0, mkLst1, mkLst4, mkLst5, mkLst8, wipeE, sPar, sOwnS, sStore2, sPut, dNeg, negD]
    rw [all_map (idx n) xs]
    simp only [runS, startE, sSeq, sIf, sSet, sRet, sRetN, sNil, sParV, sFor, sApp, sAppPop, tCmp, tVal, tAnd, tOr, tNot, tYes, tThaw, andB, orB, notB, andV, orV, notV, dC, dBin, dBlt, dVar, dCall, dNew, dThaw, dTup, dIf, dAnd, dOr, dNot, dIsi, dSl, dAttr, oN, oS, nLst, nList, nRng1, nRng2, nSeq, nOwn, nSorted, nThaw, gNm, vD, vN, seqV, setE, Say.pure_bind, Say.bind_assoc, List.getElem?_cons_zero, List.getElem?_cons_succ, seqA, slD, List.set_cons_succ, List.set_cons_zero, thaw, Sl.thaw, List.map_cons, List.map_nil, lift_some, truB_bl, bindT, ownL, slOwn, List.length_cons, List.length_nil, List.cons_append, List.nil_append, List.replicate, Nat.reduceAdd, Nat.reduceSub, List.all_cons, List.all_nil, mkTup0, mkTup1, mkTup2, mkLst0, mkLst1, mkLst4, mkLst5, mkLst8, wipeE, sPar, sOwnS, sStore2, sPut, dNeg, negD]
    by_cases ha : xs.all (idx n) = true
    · obtain ⟨ns, rfl, rng⟩ := ints_of_idx ha
      rw [ha]
      simp only [Bool.not_true, Bool.false_eq_true, if_false, sortedM, intsOf_map, Option.map_some, runS, startE, sSeq, sIf, sSet, sRet, sRetN, sNil, sParV, sFor, sApp, sAppPop, tCmp, tVal, tAnd, tOr, tNot, tYes, tThaw, andB, orB, notB, andV, orV, notV, dC, dBin, dBlt, dVar, dCall, dNew, dThaw, dTup, dIf, dAnd, dOr, dNot, dIsi, dSl, dAttr, oN, oS, nLst, nList, nRng1, nRng2, nSeq, nOwn, nSorted, nThaw, gNm, vD, vN, seqV, setE, Say.pure_bind, Say.bind_assoc, List.getElem?_cons_zero, List.getElem?_cons_succ, seqA, slD, List.set_cons_succ, List.set_cons_zero, thaw, Sl.thaw, List.map_cons, List.map_nil, lift_some, truB_bl, bindT, ownL, slOwn, List.length_cons, List.length_nil, List.cons_append, List.nil_append, List.replicate, Nat.reduceAdd, Nat.reduceSub, List.all_cons, List.all_nil, mkTup0, mkTup1, mkTup2, mkLst0, mkLst1, mkLst4, mkLst5, mkLst8, wipeE, sPar, sOwnS, sStore2, sPut, dNeg, negD, size_at, rngM_nat n (by omega)]
      have er : ((List.range n).map fun k : Nat => D.int (k : Int)) = ((List.range n).map fun k : Nat => (k : Int)).map D.int := by rw [List.map_map]; rfl
      rw [er, ne_ints]
      simp only [runS, startE, sSeq, sIf, sSet, sRet, sRetN, sNil, sParV, sFor, sApp, sAppPop, tCmp, tVal, tAnd, tOr, tNot, tYes, tThaw, andB, orB, notB, andV, orV, notV, dC, dBin, dBlt, dVar, dCall, dNew, dThaw, dTup, dIf, dAnd, dOr, dNot, dIsi, dSl, dAttr, oN, oS, nLst, nList, nRng1, nRng2, nSeq, nOwn, nSorted, nThaw, gNm, vD, vN, seqV, setE, Say.pure_bind, Say.bind_assoc, List.getElem?_cons_zero, List.getElem?_cons_succ, seqA, slD, List.set_cons_succ, List.set_cons_zero, thaw, Sl.thaw, List.map_cons, List.map_nil, lift_some, truB_bl, bindT, ownL, slOwn, List.length_cons, List.length_nil, List.cons_append, List.nil_append, List.replicate, Nat.reduceAdd, Nat.reduceSub, List.all_cons, List.all_nil, mkTup0, mkTup1, mkTup2, mkLst0, mkLst1, mkLst4, mkLst5, mkLst8, wipeE, sPar, sOwnS, sStore2, sPut, dNeg, negD]
      have due : dueB n E (.tup (ns.map D.int)) = decide (ns ∈ ord n E n) := by
        show (match intsOf (ns.map D.int) with | some ns => decide (ns ∈ ord n E n) | none => false) = _
        rw [intsOf_map]
      rw [due]
      by_cases hp : sortI ns = (List.range n).map fun k : Nat => (k : Int)
      · rw [decide_eq_true hp]
        simp only [Bool.not_true,
            Bool.false_eq_true, if_false]
        have pm := sort_range.mp hp
        rw [lc_two (l := E) (y := fun x => .bl (ahead ns x))]
        · simp only [runS, startE, sSeq, sIf, sSet, sRet, sRetN, sNil, sParV, sFor, sApp, sAppPop, tCmp, tVal, tAnd, tOr, tNot, tYes, tThaw, andB, orB, notB, andV, orV, notV, dC, dBin, dBlt, dVar, dCall, dNew, dThaw, dTup, dIf, dAnd, dOr, dNot, dIsi, dSl, dAttr, oN, oS, nLst, nList, nRng1, nRng2, nSeq, nOwn, nSorted, nThaw, gNm, vD, vN, seqV, setE, Say.pure_bind, Say.bind_assoc, List.getElem?_cons_zero, List.getElem?_cons_succ, seqA, slD, List.set_cons_succ, List.set_cons_zero, thaw, Sl.thaw, List.map_cons, List.map_nil, lift_some, truB_bl, bindT, ownL, slOwn, List.length_cons, List.length_nil, List.cons_append, List.nil_append, List.replicate, Nat.reduceAdd, Nat.reduceSub, List.all_cons, List.all_nil, mkTup0, mkTup1, mkTup2, mkLst0, mkLst1, mkLst4, mkLst5, mkLst8, wipeE, sPar, sOwnS, sStore2, sPut, dNeg, negD]
          rw [all_map (ahead ns) E]
          simp only [lift_some]
          refine congrArg (fun b : D => (pure b : M D)) (congrArg D.bl ?_)
          rw [Bool.eq_iff_iff, decide_eq_true_iff, ahead_iff g pm, ord_iff g]
          obtain ⟨p1, p2, p3⟩ := perm_range.mp pm
          exact ⟨fun h => ⟨p1, p2, p3, h⟩, fun h => h.2.2.2⟩
        · simp only [runS, startE, sSeq, sIf, sSet, sRet, sRetN, sNil, sParV, sFor, sApp, sAppPop, tCmp, tVal, tAnd, tOr, tNot, tYes, tThaw, andB, orB, notB, andV, orV, notV, dC, dBin, dBlt, dVar, dCall, dNew, dThaw, dTup, dIf, dAnd, dOr, dNot, dIsi, dSl, dAttr, oN, oS, nLst, nList, nRng1, nRng2, nSeq, nOwn, nSorted, nThaw, gNm, vD, vN, seqV, setE, Say.pure_bind, Say.bind_assoc, List.getElem?_cons_zero, List.getElem?_cons_succ, seqA, slD, List.set_cons_succ, List.set_cons_zero, thaw, Sl.thaw, List.map_cons, List.map_nil, lift_some, truB_bl, bindT, ownL, slOwn, List.length_cons, List.length_nil, List.cons_append, List.nil_append, List.replicate, Nat.reduceAdd, Nat.reduceSub, List.all_cons, List.all_nil, mkTup0, mkTup1, mkTup2, mkLst0, mkLst1, mkLst4, mkLst5, mkLst8, wipeE, sPar, sOwnS, sStore2, sPut, dNeg, negD, arrows_at]
          rfl
        · rfl
        · intro x hx
          have mem : ∀ i : Int, 0 ≤ i ∧ i < (n : Int) → i ∈ ns := fun i hi => pm.mem_iff.mpr (List.mem_map.mpr ⟨i.toNat, List.mem_range.mpr (by omega), Int.toNat_of_nonneg hi.1⟩)
          obtain ⟨a, ea⟩ := idx_some (mem x.1 (g.rng x hx).1)
          obtain ⟨b, eb⟩ := idx_some (mem x.2 (g.rng x hx).2)
          simp only [dIndexT, runS, startE, sSeq, sIf, sSet, sRet, sRetN, sNil, sParV, sFor, sApp, sAppPop, tCmp, tVal, tAnd, tOr, tNot, tYes, tThaw, andB, orB, notB, andV, orV, notV, dC, dBin, dBlt, dVar, dCall, dNew, dThaw, dTup, dIf, dAnd, dOr, dNot, dIsi, dSl, dAttr, oN, oS, nLst, nList, nRng1, nRng2, nSeq, nOwn, nSorted, nThaw, gNm, vD, vN, seqV, setE, Say.pure_bind, Say.bind_assoc, List.getElem?_cons_zero, List.getElem?_cons_succ, seqA, slD, List.set_cons_succ, List.set_cons_zero, thaw, Sl.thaw, List.map_cons, List.map_nil, lift_some, truB_bl, bindT, ownL, slOwn, List.length_cons, List.length_nil, List.cons_append, List.nil_append, List.replicate, Nat.reduceAdd, Nat.reduceSub, List.all_cons, List.all_nil, mkTup0, mkTup1, mkTup2, mkLst0, mkLst1, mkLst4, mkLst5, mkLst8, wipeE, sPar, sOwnS, sStore2, sPut, dNeg, negD, tupI, indexM, intsOf_map, ea, eb, Option.bind_eq_bind, Option.bind_some, Option.pure_def, Option.map_some, od_int]
          unfold ahead
          rw [ea, eb]
          refine congrArg (fun b : D => (pure b : M D)) (congrArg D.bl ?_)
          rw [Bool.eq_iff_iff]
          show decide ((a : Int) < (b : Int)) = true ↔ decide (a < b) = true
          rw [decide_eq_true_iff, decide_eq_true_iff]
          omega
      · rw [decide_eq_false hp]
        simp only
            [Bool.not_false, if_true]
        refine congrArg (fun b : D => (pure b : M D)) (congrArg D.bl (decide_eq_false fun h => ?_).symm)
        obtain ⟨h1, h2, h3, _⟩ := (ord_iff g).mp h
        exact hp (sort_range.mpr (perm_range.mpr ⟨h1, h2, h3⟩))
    · have hf : xs.all (idx n) = false := by simpa using ha
      rw [hf]
      simp only
          [Bool.not_false, if_true]
      refine congrArg (fun b : D => (pure b : M D)) (congrArg D.bl ?_)
      symm
      show (match intsOf xs with | some ns => decide (ns ∈ ord n E n) | none => false) = false
      cases e : intsOf xs with
      | none => rfl
      | some ns =>
        refine decide_eq_false fun h => ha ?_
        rw [intsOf_ok e, List.all_map]
        exact List.all_eq_true.mpr fun x hx => decide_eq_true (((ord_iff g).mp h).2.2.1 x hx)
  · simp only [runS, startE, sSeq, sIf, sSet, sRet, sRetN, sNil, sParV, sFor, sApp, sAppPop, tCmp, tVal, tAnd, tOr, tNot, tYes, tThaw, andB, orB, notB, andV, orV, notV, dC, dBin, dBlt, dVar, dCall, dNew, dThaw, dTup, dIf, dAnd, dOr, dNot, dIsi, dSl, dAttr, oN, oS, nLst, nList, nRng1, nRng2, nSeq, nOwn, nSorted, nThaw, gNm, vD, vN, seqV, setE, Say.pure_bind, Say.bind_assoc, List.getElem?_cons_zero, List.getElem?_cons_succ, seqA, slD, List.set_cons_succ, List.set_cons_zero, thaw, Sl.thaw, List.map_cons, List.map_nil, lift_some, truB_bl, bindT, ownL, slOwn, List.length_cons, List.length_nil, List.cons_append, List.nil_append, List.replicate, Nat.reduceAdd, Nat.reduceSub, List.all_cons, List.all_nil, mkTup0, mkTup1, mkTup2, mkLst0, mkLst1, mkLst4, mkLst5, mkLst8, wipeE, sPar, sOwnS, sStore2, sPut, dNeg, negD, seqM, List.map_id]
  · rfl
  · intro d hd
    simp only [runS, startE, sSeq, sIf, sSet, sRet, sRetN, sNil, sParV, sFor, sApp, sAppPop, tCmp, tVal, tAnd, tOr, tNot, tYes, tThaw, andB, orB, notB, andV, orV, notV, dC, dBin, dBlt, dVar, dCall, dNew, dThaw, dTup, dIf, dAnd, dOr, dNot, dIsi, dSl, dAttr, oN, oS, nLst, nList, nRng1, nRng2, nSeq, nOwn, nSorted, nThaw, gNm, vD, vN, seqV, setE, Say.pure_bind, Say.bind_assoc, List.getElem?_cons_zero, List.getElem?_cons_succ, seqA, slD, List.set_cons_succ, List.set_cons_zero, thaw, Sl.thaw, List.map_cons, List.map_nil, lift_some, truB_bl, bindT, ownL, slOwn, List.length_cons, List.length_nil, List.cons_append, List.nil_append, List.replicate, Nat.reduceAdd, Nat.reduceSub, List.all_cons, List.all_nil, mkTup0, mkTup1, mkTup2, mkLst0, mkLst1, mkLst4, mkLst5, mkLst8, wipeE, sPar, sOwnS, sStore2, sPut, dNeg, negD, size_at, id]
    exact index_ok n (hs d hd)
theorem is_order_not {n : Nat} {E : List (Int × Int)} {d : D} (h : isiD CS TS [.ty "tuple"] d = pure (.bl false)) (hd : dueB n E d = false) : m_is_order [webD n E, d] = pure (.bl (dueB n E d)) := by
  simp only [m_is_order, S_is_order, runS, startE, sSeq, sIf, sSet, sRet, sRetN, sNil, sParV, sFor, sApp, sAppPop, tCmp, tVal, tAnd, tOr, tNot, tYes, tThaw, andB, orB, notB, andV, orV, notV, dC, dBin, dBlt, dVar, dCall, dNew, dThaw, dTup, dIf, dAnd, dOr, dNot, dIsi, dSl, dAttr, oN, oS, nLst, nList, nRng1, nRng2, nSeq, nOwn, nSorted, nThaw, gNm, vD, vN, seqV, setE, Say.pure_bind, Say.bind_assoc, List.getElem?_cons_zero, List.getElem?_cons_succ, seqA, slD, List.set_cons_succ, List.set_cons_zero, thaw, Sl.thaw, List.map_cons, List.map_nil, lift_some, truB_bl, bindT, ownL, slOwn, List.length_cons, List.length_nil, List.cons_append, List.nil_append, List.replicate, Nat.reduceAdd, Nat.reduceSub, List.all_cons, List.all_nil, mkTup0, mkTup1, mkTup2, mkLst0, mkLst1, mkLst4, mkLst5, mkLst8, wipeE, sPar, sOwnS, sStore2, sPut, dNeg, negD, h, Bool.not_false, if_true, hd]
theorem size_ok : Tr 1 (m__law_size [.pen]) (fun d => ∃ n : Nat, d = .int (n : Int) ∧ 1 ≤ n ∧ n ≤ 6) := by
  simp only [m__law_size, S__law_size, runS, startE, sSeq, sIf, sSet, sRet, sRetN, sNil, sParV, sFor, sApp, sAppPop, tCmp, tVal, tAnd, tOr, tNot, tYes, tThaw, andB, orB, notB, andV, orV, notV, dC, dBin, dBlt, dVar, dCall, dNew, dThaw, dTup, dIf, dAnd, dOr, dNot, dIsi, dSl, dAttr, oN, oS, nLst, nList, nRng1, nRng2, nSeq, nOwn, nSorted, nThaw, gNm, vD, vN, seqV, setE, Say.pure_bind, Say.bind_assoc, List.getElem?_cons_zero, List.getElem?_cons_succ, seqA, slD, List.set_cons_succ, List.set_cons_zero, thaw, Sl.thaw, List.map_cons, List.map_nil, lift_some, truB_bl, bindT, ownL, slOwn, List.length_cons, List.length_nil, List.cons_append, List.nil_append, List.replicate, Nat.reduceAdd, Nat.reduceSub, List.all_cons, List.all_nil, mkTup0, mkTup1, mkTup2, mkLst0, mkLst1, mkLst4, mkLst5, mkLst8, wipeE, sPar, sOwnS, sStore2, sPut, dNeg, negD, Say.bind_pure]
  refine (pick_ok (by show 1 ≤ 8; decide) (by show 8 < 1073741824; decide)).mono (fun d hd => ?_)
  simp only [List.mem_cons, List.not_mem_nil, or_false] at hd
  rcases hd with rfl | rfl | rfl | rfl | rfl | rfl | rfl | rfl
  · exact ⟨4, rfl, by decide, by decide⟩
  · exact ⟨3, rfl, by decide, by decide⟩
  · exact ⟨5, rfl, by decide, by decide⟩
  · exact ⟨4, rfl, by decide, by decide⟩
  · exact ⟨2, rfl, by decide, by decide⟩
  · exact ⟨5, rfl, by decide, by decide⟩
  · exact ⟨1, rfl, by decide, by decide⟩
  · exact ⟨6, rfl, by decide, by decide⟩
/-- a loop over m numbers -/
theorem forN {h : D → Say.Env → Option Say.Env} {body : S} {k : Say.Env → M D} {r : D → M D} {P : D → Prop} {C C0 : Nat} (m : Nat) (f : Nat → D) (I : Nat → Say.Env → Prop) (fin : ∀ ρ, I m ρ → Tr C0 (k ρ) P)
    (step : ∀ j, j < m → ∀ ρ, I j ρ → ∀ (n : Nat) (k' : Say.Env → M D), (∀ ρ', I (j + 1) ρ' → Tr n (k' ρ') P) → Tr (C + n) (bindT (h (f j) ρ) fun ρ' => body k' r k k' ρ') P) (ρ : Say.Env) (i0 : I 0 ρ) : Tr (C * m + C0) (forS h body k r ((List.range m).map f) ρ) P := by
  refine Tr.mono (Tr.for (C := C) (C0 := C0) (fun xs ρ => ∃ j, j ≤ m ∧ xs = (List.range' j (m - j)).map f ∧ I j ρ) ?_ ?_ _ _ ⟨0, Nat.zero_le _, by rw [List.range_eq_range', Nat.sub_zero], i0⟩) (fun _ z => z) (by simp)
  · rintro ρ ⟨j, hj, e, i⟩
    have ej : j = m := by
      have := congrArg List.length e
      simp at this
      omega
    subst ej
    exact fin ρ i
  · rintro x xs ρ ⟨j, hj, e, i⟩ n k' hk
    have lt : j < m := by
      have := congrArg List.length e
      simp at this
      omega
    rw [show m - j = (m - (j + 1)) + 1 by omega, List.range'_succ, List.map_cons] at e
    obtain ⟨rfl, rfl⟩ := List.cons.inj e
    exact step j lt ρ i n k' fun ρ' i' => hk ρ' ⟨j + 1, lt, rfl, i'⟩
/-- an arrow by the places of its ends in the order -/
def arw (ms : List Int) (p : Nat × Nat) : Int × Int := (ms.getD p.1 0, ms.getD p.2 0)
theorem ix_ms {ms : List Int} {i : Nat} (h : i < ms.length) : ixD (.lst (ms.map D.int)) (.int (i : Int)) = some (.int (ms.getD i 0)) := by
  rw [ix_lst D.int h]
  simp [List.getD,
      List.getElem?_eq_getElem h]
/-- the places so far -/
structure Pl (n : Nat) (is : List (Nat × Nat)) : Prop where
  nd : is.Nodup
  rng : ∀ p ∈ is, p.1 < n ∧ p.2 < n
  rank : ∃ r : Nat → Nat, ∀ p ∈ is, r p.1 < r p.2
  len : is.length ≤ 100
theorem Pl.good {n : Nat} {ms : List Int} (pm : ms.Perm ((List.range n).map fun k : Nat => (k : Int))) {is : List (Nat × Nat)} (p : Pl n is) : Good n ((sortP (is.map (arw ms))).take 12) := by
  obtain ⟨h1, h2, h3⟩ := perm_range.mp pm
  have inj : ∀ i j : Nat, i < n → j < n → ms.getD i 0 = ms.getD j 0 → i = j := fun i j hi hj e => by
    have ei : ms.getD i 0 = ms[i]'(by omega) := by simp [List.getD, List.getElem?_eq_getElem (show i < ms.length by omega)]
    have ej : ms.getD j 0 = ms[j]'(by omega) := by simp [List.getD, List.getElem?_eq_getElem (show j < ms.length by omega)]
    rw [ei, ej] at e
    refine Classical.byContradiction fun ne => ?_
    rcases Nat.lt_or_gt_of_ne ne with h | h
    · exact List.pairwise_iff_getElem.mp h2 i j (by omega) (by omega) h e
    · exact List.pairwise_iff_getElem.mp h2 j i (by omega) (by omega) h e.symm
  have mem : ∀ i : Nat, i < n → 0 ≤ ms.getD i 0 ∧ ms.getD i 0 < (n : Int) := fun i hi => by
    have ei : ms.getD i 0 = ms[i]'(by omega) := by simp [List.getD, List.getElem?_eq_getElem (show i < ms.length by omega)]
    rw [ei]
    exact h3 _ (List.getElem_mem _)
  have back : ∀ x ∈ (sortP (is.map (arw ms))).take 12, ∃ q ∈ is, x = arw ms q := fun x hx => by
    have := (sortP_perm _).mem_iff.mp (List.mem_of_mem_take hx)
    obtain ⟨q, hq, rfl⟩ := List.mem_map.mp this
    exact ⟨q, hq, rfl⟩
  have nd : (is.map (arw ms)).Nodup := by
    refine List.pairwise_map.mpr (List.Pairwise.imp_of_mem ?_ p.nd)
    intro a b ha hb ne e
    obtain ⟨a1, a2⟩ := p.rng a ha
    obtain ⟨b1, b2⟩ := p.rng b hb
    have e1 := inj _ _ a1 b1 (congrArg Prod.fst e)
    have e2 := inj _ _ a2 b2 (congrArg Prod.snd e)
    exact ne (Prod.ext e1 e2)
  refine ⟨fun x hx => ?_, ?_, ?_, ?_⟩
  · obtain ⟨q, hq, rfl⟩ := back x hx
    exact ⟨mem _ (p.rng q hq).1, mem _ (p.rng q hq).2⟩
  · have a := (sortP_pw (is.map (arw ms))).and ((sortP_perm (is.map (arw ms))).nodup_iff.mpr nd)
    refine (List.Pairwise.imp ?_ a).sublist (List.take_sublist _ _)
    rintro x y ⟨l, ne⟩
    unfold leP at l
    simp at l
    rcases l with l | ⟨l1, l2⟩
    · exact .inl l
    · refine .inr ⟨l1, ?_⟩
      rcases Int.lt_or_eq_of_le l2 with q | q
      · exact q
      · exact absurd (Prod.ext l1 q) ne
  · obtain ⟨r, hr⟩ := p.rank
    refine ⟨fun v => r ((idxI v ms).getD 0), fun x hx => ?_⟩
    obtain ⟨q, hq, rfl⟩ := back x hx
    have at_ : ∀ i : Nat, i < n → (idxI (ms.getD i 0) ms).getD 0 = i := fun i hi => by
      have ei : ms[i]? = some (ms.getD i 0) := by simp [List.getD, List.getElem?_eq_getElem (show i < ms.length by omega)]
      obtain ⟨j, hj⟩ := idx_some (List.mem_of_getElem? ei)
      rw [hj]
      exact idx_at h2 hj ei
    show r ((idxI (ms.getD q.1 0) ms).getD 0) < r ((idxI (ms.getD q.2 0) ms).getD 0)
    rw [at_ _ (p.rng q hq).1, at_ _ (p.rng q hq).2]
    exact hr q hq
  · rw [List.length_take]
    omega
def stE (n : Nat) (ms : List Int) (way much : Nat) (is : List (Nat × Nat)) (x3 x7 x8 : Sl) : Say.Env := [.dat .pen, .dat (.int (n : Int)), .dat (.int (much : Int)), x3, .dat (.lst (ms.map D.int)), .dat (.int (way : Int)), .own (.lst ((is.map (arw ms)).map prD)), x7, x8]
theorem push_prs {ms : List Int} {is : List (Nat × Nat)} (h : is.length ≤ 1000) (p : Nat × Nat) : pushD ((is.map (arw ms)).map prD) (prD (arw ms p)) = pure (((is ++ [p]).map (arw ms)).map prD) := by
  unfold pushD
  rw [if_pos (by simp; omega)]
  simp
/-- keep and way != 4: the arrow joins -/
theorem keep_ok {n : Nat} {ms : List Int} {way much a l : Nat} {is : List (Nat × Nat)} {b : Bool} {N : Nat} {k' kk : Say.Env → M D} {P : D → Prop} (hl : is.length ≤ 1000) (ha : a < ms.length) (hb : l < ms.length) (hk : ∀ is', (is' = is ∨ (way ≠ 4 ∧ is' = is ++ [(a, l)])) → Tr N (k' (stE n ms way much is' (.dat (.int (a : Int))) (.dat (.int (l : Int))) (.dat (.bl b)))) P) :
    Tr N ((sIf (tAnd (tVal (dVar 8)) (tCmp neD (dVar 5) (dC (.int 4)))) (sApp 6 (dTup [(dBin ixD (dVar 4) (dVar 3)), (dBin ixD (dVar 4) (dVar 7))])) sNil) k' pure kk k' (stE n ms way much is (.dat (.int (a : Int))) (.dat (.int (l : Int))) (.dat (.bl b)))) P := by
  simp only [stE, runS, startE, sSeq, sIf, sSet, sRet, sRetN, sNil, sParV, sFor, sApp, sAppPop, tCmp, tVal, tAnd, tOr, tNot, tYes, tThaw, andB, orB, notB, andV, orV, notV, dC, dBin, dBlt, dVar, dCall, dNew, dThaw, dTup, dIf, dAnd, dOr, dNot, dIsi, dSl, dAttr, oN, oS, nLst, nList, nRng1, nRng2, nSeq, nOwn, nSorted, nThaw, gNm, vD, vN, seqV, setE, Say.pure_bind, Say.bind_assoc, List.getElem?_cons_zero, List.getElem?_cons_succ, seqA, slD, List.set_cons_succ, List.set_cons_zero, thaw, Sl.thaw, List.map_cons, List.map_nil, lift_some, truB_bl, bindT, ownL, slOwn, List.length_cons, List.length_nil, List.cons_append, List.nil_append, List.replicate, Nat.reduceAdd, Nat.reduceSub, List.all_cons, List.all_nil, mkTup0, mkTup1, mkTup2, mkLst0, mkLst1, mkLst4, mkLst5, mkLst8, wipeE, sPar, sOwnS, sStore2, sPut, dNeg, negD, ne_int, ix_ms ha, ix_ms hb]
  cases b with
  | false =>
    simp only [Bool.false_eq_true, if_false, Say.pure_bind]
    exact hk is (.inl rfl)
  | true =>
    simp only [if_true, Say.pure_bind]
    by_cases w : (way : Int) = 4
    · simp only [w, decide_true, Bool.not_true, Bool.false_eq_true, if_false]
      have := hk is (.inl rfl)
      unfold stE at this
      rw [w] at this
      exact this
    · simp only [w, decide_false, Bool.not_false, if_true]
      rw [show D.tup [D.int (ms.getD a 0), D.int (ms.getD l 0)] = prD (arw ms (a, l)) from rfl, push_prs hl]
      simp only [Say.pure_bind, runS, startE, sSeq, sIf, sSet, sRet, sRetN, sNil, sParV, sFor, sApp, sAppPop, tCmp, tVal, tAnd, tOr, tNot, tYes, tThaw, andB, orB, notB, andV, orV, notV, dC, dBin, dBlt, dVar, dCall, dNew, dThaw, dTup, dIf, dAnd, dOr, dNot, dIsi, dSl, dAttr, oN, oS, nLst, nList, nRng1, nRng2, nSeq, nOwn, nSorted, nThaw, gNm, vD, vN, seqV, setE, Say.pure_bind, Say.bind_assoc, List.getElem?_cons_zero, List.getElem?_cons_succ, seqA, slD, List.set_cons_succ, List.set_cons_zero, thaw, Sl.thaw, List.map_cons, List.map_nil, lift_some, truB_bl, bindT, ownL, slOwn, List.length_cons, List.length_nil, List.cons_append, List.nil_append, List.replicate, Nat.reduceAdd, Nat.reduceSub, List.all_cons, List.all_nil, mkTup0, mkTup1, mkTup2, mkLst0, mkLst1, mkLst4, mkLst5, mkLst8, wipeE, sPar, sOwnS, sStore2, sPut, dNeg, negD]
      exact hk _ (.inr ⟨by omega, rfl⟩)
theorem turn_ok {n : Nat} {ms : List Int} {way much a l : Nat} {is : List (Nat × Nat)} {x8 : Sl} {N : Nat} {k' kk : Say.Env → M D} {P : D → Prop} (hm : 1 ≤ much) (hm2 : much ≤ 4) (hl : is.length ≤ 1000) (ha : a < ms.length) (hb : l < ms.length) (hk : ∀ is', (is' = is ∨ (way ≠ 4 ∧ is' = is ++ [(a, l)])) → ∀ x8, Tr N (k' (stE n ms way much is' (.dat (.int (a : Int))) (.dat (.int (l : Int))) x8)) P) :
    Tr (2 + N) ((sSeq (sSet 8 (dBin eqD (dCall m__law_draw [(dVar 0), (dVar 2)]) (dC (.int 0))))
  (sSeq (sIf (tCmp eqD (dVar 5) (dC (.int 2))) (sSet 8 (dOr (dBin eqD (dVar 3) (dBin (iiD fun i j => .int (i - j)) (dVar 7) (dC (.int 1)))) (dBin eqD (dCall m__law_draw [(dVar 0), (dC (.int 9))]) (dC (.int 0))))) (sIf (tCmp eqD (dVar 5) (dC (.int 3))) (sSet 8 (dBin (odD .gt) (dCall m__law_draw [(dVar 0), (dC (.int 5))]) (dC (.int 0)))) sNil))
  (sIf (tAnd (tVal (dVar 8)) (tCmp neD (dVar 5) (dC (.int 4)))) (sApp 6 (dTup [(dBin ixD (dVar 4) (dVar 3)), (dBin ixD (dVar 4) (dVar 7))])) sNil))) k' pure kk k' (stE n ms way much is (.dat (.int (a : Int))) (.dat (.int (l : Int))) x8)) P := by
  have tail : ∀ b : Bool, Tr N ((sIf (tAnd (tVal (dVar 8)) (tCmp neD (dVar 5) (dC (.int 4)))) (sApp 6 (dTup [(dBin ixD (dVar 4) (dVar 3)), (dBin ixD (dVar 4) (dVar 7))])) sNil) k' pure kk k' (stE n ms way much is (.dat (.int (a : Int))) (.dat (.int (l : Int))) (.dat (.bl b)))) P := fun b => keep_ok hl ha hb fun is' h => hk is' h _
  generalize (sIf (tAnd (tVal (dVar 8)) (tCmp neD (dVar 5) (dC (.int 4)))) (sApp 6 (dTup [(dBin ixD (dVar 4) (dVar 3)), (dBin ixD (dVar 4) (dVar 7))])) sNil : S) = C at tail ⊢
  unfold stE at tail ⊢
  simp only [runS, startE, sSeq, sIf, sSet, sRet, sRetN, sNil, sParV, sFor, sApp, sAppPop, tCmp, tVal, tAnd, tOr, tNot, tYes, tThaw, andB, orB, notB, andV, orV, notV, dC, dBin, dBlt, dVar, dCall, dNew, dThaw, dTup, dIf, dAnd, dOr, dNot, dIsi, dSl, dAttr, oN, oS, nLst, nList, nRng1, nRng2, nSeq, nOwn, nSorted, nThaw, gNm, vD, vN, seqV, setE, Say.pure_bind, Say.bind_assoc, List.getElem?_cons_zero, List.getElem?_cons_succ, seqA, slD, List.set_cons_succ, List.set_cons_zero, thaw, Sl.thaw, List.map_cons, List.map_nil, lift_some, truB_bl, bindT, ownL, slOwn, List.length_cons, List.length_nil, List.cons_append, List.nil_append, List.replicate, Nat.reduceAdd, Nat.reduceSub, List.all_cons, List.all_nil, mkTup0, mkTup1, mkTup2, mkLst0, mkLst1, mkLst4, mkLst5, mkLst8, wipeE, sPar, sOwnS, sStore2, sPut, dNeg, negD]
  refine Tr.bind (C2 := 1 + N) (draw_ok hm (by omega)) fun d ⟨r, ed, hr⟩ => ?_
  subst ed
  simp only [runS, startE, sSeq, sIf, sSet, sRet, sRetN, sNil, sParV, sFor, sApp, sAppPop, tCmp, tVal, tAnd, tOr, tNot, tYes, tThaw, andB, orB, notB, andV, orV, notV, dC, dBin, dBlt, dVar, dCall, dNew, dThaw, dTup, dIf, dAnd, dOr, dNot, dIsi, dSl, dAttr, oN, oS, nLst, nList, nRng1, nRng2, nSeq, nOwn, nSorted, nThaw, gNm, vD, vN, seqV, setE, Say.pure_bind, Say.bind_assoc, List.getElem?_cons_zero, List.getElem?_cons_succ, seqA, slD, List.set_cons_succ, List.set_cons_zero, thaw, Sl.thaw, List.map_cons, List.map_nil, lift_some, truB_bl, bindT, ownL, slOwn, List.length_cons, List.length_nil, List.cons_append, List.nil_append, List.replicate, Nat.reduceAdd, Nat.reduceSub, List.all_cons, List.all_nil, mkTup0, mkTup1, mkTup2, mkLst0, mkLst1, mkLst4, mkLst5, mkLst8, wipeE, sPar, sOwnS, sStore2, sPut, dNeg, negD, eq_int, ii_int, od_int]
  by_cases w2 : (way : Int) = 2
  · simp only [w2, decide_true, if_true]
    rw [w2] at tail
    by_cases e : (a : Int) = (l : Int) - 1
    · simp only [e, decide_true, if_true, Say.pure_bind]
      rw [e] at tail
      exact (tail true).mono (fun _ z => z)
    · simp only [e, decide_false, Bool.false_eq_true, if_false, Say.bind_assoc]
      refine Tr.bind (C1 := 1) (C2 := N) (draw_ok (many := 9) (by decide) (by decide)) fun d ⟨r, ed, hr⟩ => ?_
      subst ed
      simp only [runS, startE, sSeq, sIf, sSet, sRet, sRetN, sNil, sParV, sFor, sApp, sAppPop, tCmp, tVal, tAnd, tOr, tNot, tYes, tThaw, andB, orB, notB, andV, orV, notV, dC, dBin, dBlt, dVar, dCall, dNew, dThaw, dTup, dIf, dAnd, dOr, dNot, dIsi, dSl, dAttr, oN, oS, nLst, nList, nRng1, nRng2, nSeq, nOwn, nSorted, nThaw, gNm, vD, vN, seqV, setE, Say.pure_bind, Say.bind_assoc, List.getElem?_cons_zero, List.getElem?_cons_succ, seqA, slD, List.set_cons_succ, List.set_cons_zero, thaw, Sl.thaw, List.map_cons, List.map_nil, lift_some, truB_bl, bindT, ownL, slOwn, List.length_cons, List.length_nil, List.cons_append, List.nil_append, List.replicate, Nat.reduceAdd, Nat.reduceSub, List.all_cons, List.all_nil, mkTup0, mkTup1, mkTup2, mkLst0, mkLst1, mkLst4, mkLst5, mkLst8, wipeE, sPar, sOwnS, sStore2, sPut, dNeg, negD, eq_int]
      exact tail _
  · simp only [w2, decide_false, Bool.false_eq_true, if_false]
    by_cases w3 : (way : Int) = 3
    · simp only [w3, decide_true, if_true]
      rw [w3] at tail
      refine Tr.bind (C1 := 1) (C2 := N) (draw_ok (many := 5) (by decide) (by decide)) fun d ⟨r, ed, hr⟩ => ?_
      subst ed
      simp only [runS, startE, sSeq, sIf, sSet, sRet, sRetN, sNil, sParV, sFor, sApp, sAppPop, tCmp, tVal, tAnd, tOr, tNot, tYes, tThaw, andB, orB, notB, andV, orV, notV, dC, dBin, dBlt, dVar, dCall, dNew, dThaw, dTup, dIf, dAnd, dOr, dNot, dIsi, dSl, dAttr, oN, oS, nLst, nList, nRng1, nRng2, nSeq, nOwn, nSorted, nThaw, gNm, vD, vN, seqV, setE, Say.pure_bind, Say.bind_assoc, List.getElem?_cons_zero, List.getElem?_cons_succ, seqA, slD, List.set_cons_succ, List.set_cons_zero, thaw, Sl.thaw, List.map_cons, List.map_nil, lift_some, truB_bl, bindT, ownL, slOwn, List.length_cons, List.length_nil, List.cons_append, List.nil_append, List.replicate, Nat.reduceAdd, Nat.reduceSub, List.all_cons, List.all_nil, mkTup0, mkTup1, mkTup2, mkLst0, mkLst1, mkLst4, mkLst5, mkLst8, wipeE, sPar, sOwnS, sStore2, sPut, dNeg, negD, od_int]
      exact tail _
    · simp only [w3, decide_false, Bool.false_eq_true, if_false]
      exact (tail _).mono (fun _ z => z)
theorem sortD_prs (l : List (Int × Int)) : sortD (l.map prD) = some ((sortP l).map prD) := by
  cases l with
  | nil => simp [sortD, intsOf, sortI, sortP]
  | cons x l =>
    show (match intsOf (prD x :: l.map prD) with | some ns => some ((sortI ns).map D.int) | none => (pairsOf ((x :: l).map prD)).map fun ns => (sortP ns).map prD) = _
    rw [pairsOf_map]
    rfl
theorem cut12 {α : Type} (xs : List α) : cutG xs none (some 12) = xs.take 12 := by
  unfold cutG
  rw [show (12 : Int) = ((12 : Nat) : Int) from rfl, HT.sIx_none, HT.sIx_nat, List.drop_zero, Nat.sub_zero]
  by_cases h : 12 ≤ xs.length
  · rw [Nat.min_eq_left h]
  · rw [Nat.min_eq_right (by omega), List.take_length, List.take_of_length_le (by omega)]
/-- the end: sorted, cut -/
theorem arrows_end {n : Nat} {ms : List Int} (pm : ms.Perm ((List.range n).map fun k : Nat => (k : Int))) {way much : Nat} {is : List (Nat × Nat)} (p : Pl n is) (x3 x7 x8 : Sl) :
    Tr 0 (sRet (dBlt tupleD [(dSl (dNew (nSorted [(dVar 6)])) oN (oS (dC (.int 12))))]) (fun _ => pure .non) pure (fun _ => bad) (fun _ => bad) (stE n ms way much is x3 x7 x8)) (fun d => ∃ E, d = .tup (E.map prD) ∧ Good n E) := by
  simp only [stE, runS, startE, sSeq, sIf, sSet, sRet, sRetN, sNil, sParV, sFor, sApp, sAppPop, tCmp, tVal, tAnd, tOr, tNot, tYes, tThaw, andB, orB, notB, andV, orV, notV, dC, dBin, dBlt, dVar, dCall, dNew, dThaw, dTup, dIf, dAnd, dOr, dNot, dIsi, dSl, dAttr, oN, oS, nLst, nList, nRng1, nRng2, nSeq, nOwn, nSorted, nThaw, gNm, vD, vN, seqV, setE, Say.pure_bind, Say.bind_assoc, List.getElem?_cons_zero, List.getElem?_cons_succ, seqA, slD, List.set_cons_succ, List.set_cons_zero, thaw, Sl.thaw, List.map_cons, List.map_nil, lift_some, truB_bl, bindT, ownL, slOwn, List.length_cons, List.length_nil, List.cons_append, List.nil_append, List.replicate, Nat.reduceAdd, Nat.reduceSub, List.all_cons, List.all_nil, mkTup0, mkTup1, mkTup2, mkLst0, mkLst1, mkLst4, mkLst5, mkLst8, wipeE, sPar, sOwnS, sStore2, sPut, dNeg, negD, sortedM, sortD_prs, intM, sliceD, cut12]
  rw [← List.map_take]
  simp only [tupleD, lift_some]
  exact Tr.pure ⟨_, rfl, p.good pm⟩
theorem loop4 {n : Nat} {ms : List Int} (h1n : 1 ≤ n) (hn : n ≤ 6) (hms : ms.length = n) {way much N : Nat} {k : Say.Env → M D} {P : D → Prop} (hk : ∀ is x3 x7 x8, Pl n is → Tr N (k (stE n ms way much is x3 x7 x8)) P) (x3 x7 x8 : Sl) :
    Tr (2 * (n - 1) + N) (forS (gNm 7) (sSeq (sSet 3 (dCall m__law_draw [(dVar 0), (dVar 7)]))
  (sApp 6 (dIf (tCmp (odD .gt) (dCall m__law_draw [(dVar 0), (dC (.int 3))]) (dC (.int 0))) (dTup [(dBin ixD (dVar 4) (dVar 3)), (dBin ixD (dVar 4) (dVar 7))]) (dTup [(dBin ixD (dVar 4) (dVar 7)), (dBin ixD (dVar 4) (dVar 3))])))) k pure ((List.range (n - 1)).map fun (j : Nat) => D.int ((1 + j : Nat) : Int)) (stE n ms way much [] x3 x7 x8)) P := by
  refine forN (C := 2) (n - 1) (fun (j : Nat) => D.int ((1 + j : Nat) : Int)) (fun j ρ => ∃ is x3 x7 x8, ρ = stE n ms way much is x3 x7 x8 ∧ is.Nodup ∧ (∀ p ∈ is, p.1 < 1 + j ∧ p.2 < 1 + j) ∧ (∃ r : Nat → Nat, ∀ p ∈ is, r p.1 < r p.2) ∧ is.length ≤ j) ?_ ?_ _ ⟨[], x3, x7, x8, rfl, .nil, fun p h => (by cases h), ⟨fun _ => 0, fun p h => (by cases h)⟩, Nat.le_refl _⟩
  · rintro ρ ⟨is, x3, x7, x8, rfl, h1, h2, h3, h4⟩
    refine hk is _ _ _ ⟨h1, fun p hp => ?_, h3, ?_⟩
    · have := h2 p hp
      omega
    · omega
  · rintro j hj ρ ⟨is, x3, x7, x8, rfl, h1, h2, ⟨r, h3⟩, h4⟩ N' k' hk'
    simp only [stE, runS, startE, sSeq, sIf, sSet, sRet, sRetN, sNil, sParV, sFor, sApp, sAppPop, tCmp, tVal, tAnd, tOr, tNot, tYes, tThaw, andB, orB, notB, andV, orV, notV, dC, dBin, dBlt, dVar, dCall, dNew, dThaw, dTup, dIf, dAnd, dOr, dNot, dIsi, dSl, dAttr, oN, oS, nLst, nList, nRng1, nRng2, nSeq, nOwn, nSorted, nThaw, gNm, vD, vN, seqV, setE, Say.pure_bind, Say.bind_assoc, List.getElem?_cons_zero, List.getElem?_cons_succ, seqA, slD, List.set_cons_succ, List.set_cons_zero, thaw, Sl.thaw, List.map_cons, List.map_nil, lift_some, truB_bl, bindT, ownL, slOwn, List.length_cons, List.length_nil, List.cons_append, List.nil_append, List.replicate, Nat.reduceAdd, Nat.reduceSub, List.all_cons, List.all_nil, mkTup0, mkTup1, mkTup2, mkLst0, mkLst1, mkLst4, mkLst5, mkLst8, wipeE, sPar, sOwnS, sStore2, sPut, dNeg, negD]
    refine Tr.bind (C1 := 1) (C2 := 1 + N') (draw_ok (many := 1 + j) (by omega) (by omega)) fun d ⟨a, ed, ha⟩ => ?_
    subst ed
    refine Tr.bind (C1 := 1) (C2 := N') (draw_ok (many := 3) (by decide) (by decide)) fun d ⟨b, ed, hb⟩ => ?_
    subst ed
    simp only [runS, startE, sSeq, sIf, sSet, sRet, sRetN, sNil, sParV, sFor, sApp, sAppPop, tCmp, tVal, tAnd, tOr, tNot, tYes, tThaw, andB, orB, notB, andV, orV, notV, dC, dBin, dBlt, dVar, dCall, dNew, dThaw, dTup, dIf, dAnd, dOr, dNot, dIsi, dSl, dAttr, oN, oS, nLst, nList, nRng1, nRng2, nSeq, nOwn, nSorted, nThaw, gNm, vD, vN, seqV, setE, Say.pure_bind, Say.bind_assoc, List.getElem?_cons_zero, List.getElem?_cons_succ, seqA, slD, List.set_cons_succ, List.set_cons_zero, thaw, Sl.thaw, List.map_cons, List.map_nil, lift_some, truB_bl, bindT, ownL, slOwn, List.length_cons, List.length_nil, List.cons_append, List.nil_append, List.replicate, Nat.reduceAdd, Nat.reduceSub, List.all_cons, List.all_nil, mkTup0, mkTup1, mkTup2, mkLst0, mkLst1, mkLst4, mkLst5, mkLst8, wipeE, sPar, sOwnS, sStore2, sPut, dNeg, negD, od_int, ix_ms (show a < ms.length by omega), ix_ms (show 1 + j < ms.length by omega)]
    have both : ∀ q : Nat × Nat, (q = (a, 1 + j) ∨ q = (1 + j, a)) → (∃ r' : Nat → Nat, ∀ p ∈ is ++ [q], r' p.1 < r' p.2) → Tr N' (k' [.dat .pen, .dat (.int (n : Int)), .dat (.int (much : Int)), .dat (.int (a : Int)), .dat (.lst (ms.map D.int)), .dat (.int (way : Int)), .own (.lst (((is ++ [q]).map (arw ms)).map prD)), .dat (.int ((1 + j : Nat) : Int)), x8]) P := fun q hq hr => by
      refine hk' _ ⟨is ++ [q], _, _, _, rfl, ?_, fun p hp => ?_, hr, by simp; omega⟩
      · rw [List.nodup_append]
        refine ⟨h1, by simp, fun p hp z hz e => ?_⟩
        rw [List.mem_singleton.mp hz] at e
        have := h2 p hp
        rcases hq with rfl | rfl <;> (rw [e] at this; simp only at this; omega)
      · rcases List.mem_append.mp
            hp with hp | hp
        · have := h2 p hp
          omega
        · rw
              [List.mem_singleton.mp hp]
          rcases hq with rfl | rfl <;> (simp only; omega)
    cases Od.gt.i (b : Int) 0 with
    | true =>
      simp only [if_true]
      rw [show D.tup [D.int (ms.getD a 0), D.int (ms.getD (1 + j) 0)] = prD (arw ms (a, 1 + j)) from rfl, Say.pure_bind, push_prs (by omega)]
      simp only [runS, startE, sSeq, sIf, sSet, sRet, sRetN, sNil, sParV, sFor, sApp, sAppPop, tCmp, tVal, tAnd, tOr, tNot, tYes, tThaw, andB, orB, notB, andV, orV, notV, dC, dBin, dBlt, dVar, dCall, dNew, dThaw, dTup, dIf, dAnd, dOr, dNot, dIsi, dSl, dAttr, oN, oS, nLst, nList, nRng1, nRng2, nSeq, nOwn, nSorted, nThaw, gNm, vD, vN, seqV, setE, Say.pure_bind, Say.bind_assoc, List.getElem?_cons_zero, List.getElem?_cons_succ, seqA, slD, List.set_cons_succ, List.set_cons_zero, thaw, Sl.thaw, List.map_cons, List.map_nil, lift_some, truB_bl, bindT, ownL, slOwn, List.length_cons, List.length_nil, List.cons_append, List.nil_append, List.replicate, Nat.reduceAdd, Nat.reduceSub, List.all_cons, List.all_nil, mkTup0, mkTup1, mkTup2, mkLst0, mkLst1, mkLst4, mkLst5, mkLst8, wipeE, sPar, sOwnS, sStore2, sPut, dNeg, negD]
      refine both (a, 1 + j) (.inl rfl) ⟨fun v => if v = 1 + j then r a + 1 else r v, fun p hp => ?_⟩
      rcases List.mem_append.mp
          hp with hp | hp
      · have := h2 p hp
        simp only [if_neg (show ¬ p.1 = 1 + j by omega), if_neg (show ¬ p.2 = 1 + j by omega)]
        exact h3 p hp
      · rw
            [List.mem_singleton.mp hp]
        simp only [if_neg (show ¬ a = 1 + j by omega), if_true]
        omega
    | false =>
      simp only [Bool.false_eq_true,
          if_false]
      rw [show D.tup [D.int (ms.getD (1 + j) 0), D.int (ms.getD a 0)] = prD (arw ms (1 + j, a)) from rfl, Say.pure_bind, push_prs (by omega)]
      simp only [runS, startE, sSeq, sIf, sSet, sRet, sRetN, sNil, sParV, sFor, sApp, sAppPop, tCmp, tVal, tAnd, tOr, tNot, tYes, tThaw, andB, orB, notB, andV, orV, notV, dC, dBin, dBlt, dVar, dCall, dNew, dThaw, dTup, dIf, dAnd, dOr, dNot, dIsi, dSl, dAttr, oN, oS, nLst, nList, nRng1, nRng2, nSeq, nOwn, nSorted, nThaw, gNm, vD, vN, seqV, setE, Say.pure_bind, Say.bind_assoc, List.getElem?_cons_zero, List.getElem?_cons_succ, seqA, slD, List.set_cons_succ, List.set_cons_zero, thaw, Sl.thaw, List.map_cons, List.map_nil, lift_some, truB_bl, bindT, ownL, slOwn, List.length_cons, List.length_nil, List.cons_append, List.nil_append, List.replicate, Nat.reduceAdd, Nat.reduceSub, List.all_cons, List.all_nil, mkTup0, mkTup1, mkTup2, mkLst0, mkLst1, mkLst4, mkLst5, mkLst8, wipeE, sPar, sOwnS, sStore2, sPut, dNeg, negD]
      refine both (1 + j, a) (.inr rfl) ⟨fun v => if v = 1 + j then 0 else r v + 1, fun p hp => ?_⟩
      rcases List.mem_append.mp
          hp with hp | hp
      · have := h2 p hp
        simp only [if_neg (show ¬ p.1 = 1 + j by omega), if_neg (show ¬ p.2 = 1 + j by omega)]
        have := h3 p hp
        omega
      · rw
            [List.mem_singleton.mp hp]
        simp only [if_neg (show ¬ a = 1 + j by omega), if_true]
        omega
theorem arrows_made {n : Nat} (h1n : 1 ≤ n) (hn : n ≤ 6) : Tr 120 (m__law_web_arrows [.pen, .int (n : Int)]) (fun d => ∃ E, d = .tup (E.map prD) ∧ Good n E) := by
  simp only [m__law_web_arrows, S__law_web_arrows, runS, startE, sSeq, sIf, sSet, sRet, sRetN, sNil, sParV, sFor, sApp, sAppPop, tCmp, tVal, tAnd, tOr, tNot, tYes, tThaw, andB, orB, notB, andV, orV, notV, dC, dBin, dBlt, dVar, dCall, dNew, dThaw, dTup, dIf, dAnd, dOr, dNot, dIsi, dSl, dAttr, oN, oS, nLst, nList, nRng1, nRng2, nSeq, nOwn, nSorted, nThaw, gNm, vD, vN, seqV, setE, Say.pure_bind, Say.bind_assoc, List.getElem?_cons_zero, List.getElem?_cons_succ, seqA, slD, List.set_cons_succ, List.set_cons_zero, thaw, Sl.thaw, List.map_cons, List.map_nil, lift_some, truB_bl, bindT, ownL, slOwn, List.length_cons, List.length_nil, List.cons_append, List.nil_append, List.replicate, Nat.reduceAdd, Nat.reduceSub, List.all_cons, List.all_nil, mkTup0, mkTup1, mkTup2, mkLst0, mkLst1, mkLst4, mkLst5, mkLst8, wipeE, sPar, sOwnS, sStore2, sPut, dNeg, negD, rngM_nat n (by omega), Nat.reduceLT, decide_true, Bool.and_self, if_true]
  rw [show ((List.range n).map fun k : Nat => D.int (k : Int)) = ((List.range n).map fun k : Nat => (k : Int)).map D.int from by rw [List.map_map]; rfl]
  refine Tr.bind (C1 := 6) (C2 := 114) ((shuffled_ok (ns := (List.range n).map fun k : Nat => (k : Int)) (by simp; omega)).mono (fun _ z => z) (by simp; omega)) fun d ⟨ms, ed, pm⟩ => ?_
  subst ed
  refine Tr.bind (C1 := 1) (C2 := 113) (draw_ok (many := 6) (by decide) (by decide)) fun d ⟨way, ed, hway⟩ => ?_
  subst ed
  refine Tr.bind (C1 := 1) (C2 := 112) (pick_ok (by show 1 ≤ 4; decide) (by show 4 < 1073741824; decide)) fun d hd => ?_
  obtain ⟨much, rfl, hm1, hm2⟩ : ∃ much : Nat, d = .int (much : Int) ∧ 1 ≤ much ∧ much ≤ 4 := by
    simp only [List.mem_cons, List.not_mem_nil, or_false] at hd
    rcases hd with rfl | rfl | rfl | rfl
    · exact ⟨2, rfl, by decide, by decide⟩
    · exact ⟨3, rfl, by decide, by decide⟩
    · exact ⟨2, rfl, by decide, by decide⟩
    · exact ⟨4, rfl, by decide, by decide⟩
  have hms : ms.length = n := (perm_range.mp pm).1
  rw [show (((List.range n).map fun k : Nat => (k : Int)).map D.int) = ((List.range n).map fun k : Nat => D.int (k : Int)) from by rw [List.map_map]; rfl]
  refine Tr.mono (forN (C := 12) (C0 := 10) n (fun (k : Nat) => D.int (k : Int)) (fun j ρ => ∃ is x3 x7 x8, ρ = stE n ms way much is x3 x7 x8 ∧ is.Nodup ∧ (∀ p ∈ is, p.1 < p.2 ∧ p.2 < n ∧ p.1 < j) ∧ (way = 4 → is = []) ∧ is.length ≤ 6 * j) ?_ ?_ _ ⟨[], .no, .no, .no, rfl, .nil, fun p h => (by cases h), fun _ => rfl, Nat.zero_le _⟩) (fun _ z => z) (by omega)
  · rintro ρ ⟨is, x3, x7, x8, rfl, h1, h2, h3, h4⟩
    by_cases w : (way : Int) = 4
    · have e := h3 (by omega)
      subst e
      have L := loop4 (way := way) (much := much) (N := 0) h1n hn hms (k := fun ρ => sRet (dBlt tupleD [(dSl (dNew (nSorted [(dVar 6)])) oN (oS (dC (.int 12))))]) (fun _ => pure .non) pure (fun _ => bad) (fun _ => bad) ρ) (P := fun d => ∃ E, d = .tup (E.map prD) ∧ Good n E) (fun is x3 x7 x8 p => arrows_end pm p x3 x7 x8) x3 x7 x8
      have e0 : sSeq (sIf (tCmp eqD (dVar 5) (dC (.int 4))) (sFor (nRng2 (dC (.int 1)) (dVar 1)) (gNm 7) (sSeq (sSet 3 (dCall m__law_draw [(dVar 0), (dVar 7)]))
  (sApp 6 (dIf (tCmp (odD .gt) (dCall m__law_draw [(dVar 0), (dC (.int 3))]) (dC (.int 0))) (dTup [(dBin ixD (dVar 4) (dVar 3)), (dBin ixD (dVar 4) (dVar 7))]) (dTup [(dBin ixD (dVar 4) (dVar 7)), (dBin ixD (dVar 4) (dVar 3))]))))) sNil) (sRet (dBlt tupleD [(dSl (dNew (nSorted [(dVar 6)])) oN (oS (dC (.int 12))))])) (fun _ => pure .non) pure (fun _ => bad) (fun _ => bad) (stE n ms way much [] x3 x7 x8) = forS (gNm 7) (sSeq (sSet 3 (dCall m__law_draw [(dVar 0), (dVar 7)]))
  (sApp 6 (dIf (tCmp (odD .gt) (dCall m__law_draw [(dVar 0), (dC (.int 3))]) (dC (.int 0))) (dTup [(dBin ixD (dVar 4) (dVar 3)), (dBin ixD (dVar 4) (dVar 7))]) (dTup [(dBin ixD (dVar 4) (dVar 7)), (dBin ixD (dVar 4) (dVar 3))])))) (fun ρ => sRet (dBlt tupleD [(dSl (dNew (nSorted [(dVar 6)])) oN (oS (dC (.int 12))))]) (fun _ => pure .non) pure (fun _ => bad) (fun _ => bad) ρ) pure ((List.range (n - 1)).map fun (j : Nat) => D.int ((1 + j : Nat) : Int)) (stE n ms way much [] x3 x7 x8) := by
        rw [sSeq, sIf]
        have t1 : tCmp eqD (dVar 5) (dC (.int 4)) (stE n ms way much [] x3 x7 x8) = pure true := by
          simp only [stE, runS, startE, sSeq, sIf, sSet, sRet, sRetN, sNil, sParV, sFor, sApp, sAppPop, tCmp, tVal, tAnd, tOr, tNot, tYes, tThaw, andB, orB, notB, andV, orV, notV, dC, dBin, dBlt, dVar, dCall, dNew, dThaw, dTup, dIf, dAnd, dOr, dNot, dIsi, dSl, dAttr, oN, oS, nLst, nList, nRng1, nRng2, nSeq, nOwn, nSorted, nThaw, gNm, vD, vN, seqV, setE, Say.pure_bind, Say.bind_assoc, List.getElem?_cons_zero, List.getElem?_cons_succ, seqA, slD, List.set_cons_succ, List.set_cons_zero, thaw, Sl.thaw, List.map_cons, List.map_nil, lift_some, truB_bl, bindT, ownL, slOwn, List.length_cons, List.length_nil, List.cons_append, List.nil_append, List.replicate, Nat.reduceAdd, Nat.reduceSub, List.all_cons, List.all_nil, mkTup0, mkTup1, mkTup2, mkLst0, mkLst1, mkLst4, mkLst5, mkLst8, wipeE, sPar, sOwnS, sStore2, sPut, dNeg, negD, eq_int, w, decide_true]
        rw [t1, Say.pure_bind, if_pos rfl, sFor]
        have t2 : nRng2 (dC (.int 1)) (dVar 1) (stE n ms way much [] x3 x7 x8) = pure ((List.range (n - 1)).map fun (j : Nat) => D.int ((1 + j : Nat) : Int)) := by
          simp only [stE, runS, startE, sSeq, sIf, sSet, sRet, sRetN, sNil, sParV, sFor, sApp, sAppPop, tCmp, tVal, tAnd, tOr, tNot, tYes, tThaw, andB, orB, notB, andV, orV, notV, dC, dBin, dBlt, dVar, dCall, dNew, dThaw, dTup, dIf, dAnd, dOr, dNot, dIsi, dSl, dAttr, oN, oS, nLst, nList, nRng1, nRng2, nSeq, nOwn, nSorted, nThaw, gNm, vD, vN, seqV, setE, Say.pure_bind, Say.bind_assoc, List.getElem?_cons_zero, List.getElem?_cons_succ, seqA, slD, List.set_cons_succ, List.set_cons_zero, thaw, Sl.thaw, List.map_cons, List.map_nil, lift_some, truB_bl, bindT, ownL, slOwn, List.length_cons, List.length_nil, List.cons_append, List.nil_append, List.replicate, Nat.reduceAdd, Nat.reduceSub, List.all_cons, List.all_nil, mkTup0, mkTup1, mkTup2, mkLst0, mkLst1, mkLst4, mkLst5, mkLst8, wipeE, sPar, sOwnS, sStore2, sPut, dNeg, negD]
          exact rngM_two 1 n (by omega) (by decide)
        rw [t2, Say.pure_bind]
      exact (Tr.eq e0 L).mono (fun _ z => z) (by omega)
    · have e0 : sSeq (sIf (tCmp eqD (dVar 5) (dC (.int 4))) (sFor (nRng2 (dC (.int 1)) (dVar 1)) (gNm 7) (sSeq (sSet 3 (dCall m__law_draw [(dVar 0), (dVar 7)]))
  (sApp 6 (dIf (tCmp (odD .gt) (dCall m__law_draw [(dVar 0), (dC (.int 3))]) (dC (.int 0))) (dTup [(dBin ixD (dVar 4) (dVar 3)), (dBin ixD (dVar 4) (dVar 7))]) (dTup [(dBin ixD (dVar 4) (dVar 7)), (dBin ixD (dVar 4) (dVar 3))]))))) sNil) (sRet (dBlt tupleD [(dSl (dNew (nSorted [(dVar 6)])) oN (oS (dC (.int 12))))])) (fun _ => pure .non) pure (fun _ => bad) (fun _ => bad) (stE n ms way much is x3 x7 x8) = sRet (dBlt tupleD [(dSl (dNew (nSorted [(dVar 6)])) oN (oS (dC (.int 12))))]) (fun _ => pure .non) pure (fun _ => bad) (fun _ => bad) (stE n ms way much is x3 x7 x8) := by
        rw [sSeq, sIf]
        have t1 : tCmp eqD (dVar 5) (dC (.int 4)) (stE n ms way much is x3 x7 x8) = pure false := by
          simp only [stE, runS, startE, sSeq, sIf, sSet, sRet, sRetN, sNil, sParV, sFor, sApp, sAppPop, tCmp, tVal, tAnd, tOr, tNot, tYes, tThaw, andB, orB, notB, andV, orV, notV, dC, dBin, dBlt, dVar, dCall, dNew, dThaw, dTup, dIf, dAnd, dOr, dNot, dIsi, dSl, dAttr, oN, oS, nLst, nList, nRng1, nRng2, nSeq, nOwn, nSorted, nThaw, gNm, vD, vN, seqV, setE, Say.pure_bind, Say.bind_assoc, List.getElem?_cons_zero, List.getElem?_cons_succ, seqA, slD, List.set_cons_succ, List.set_cons_zero, thaw, Sl.thaw, List.map_cons, List.map_nil, lift_some, truB_bl, bindT, ownL, slOwn, List.length_cons, List.length_nil, List.cons_append, List.nil_append, List.replicate, Nat.reduceAdd, Nat.reduceSub, List.all_cons, List.all_nil, mkTup0, mkTup1, mkTup2, mkLst0, mkLst1, mkLst4, mkLst5, mkLst8, wipeE, sPar, sOwnS, sStore2, sPut, dNeg, negD, eq_int, w, decide_false]
        rw [t1, Say.pure_bind, if_neg (by decide)]
        rfl
      refine (Tr.eq e0 (arrows_end pm ⟨h1, fun p hp => ?_, ⟨id, fun p hp => (h2 p hp).1⟩, by omega⟩ x3 x7 x8)).mono (fun _ z => z)
      have := h2 p hp
      omega
  · rintro j hj ρ ⟨is, x3, x7, x8, rfl, h1, h2, h3, h4⟩ N' k' hk
    have t2 : nRng2 (dBin addD (dVar 3) (dC (.int 1))) (dVar 1) (stE n ms way much is (.dat (.int (j : Int))) x7 x8) = pure ((List.range (n - (j + 1))).map fun (i : Nat) => D.int ((j + 1 + i : Nat) : Int)) := by
      simp only [stE, runS, startE, sSeq, sIf, sSet, sRet, sRetN, sNil, sParV, sFor, sApp, sAppPop, tCmp, tVal, tAnd, tOr, tNot, tYes, tThaw, andB, orB, notB, andV, orV, notV, dC, dBin, dBlt, dVar, dCall, dNew, dThaw, dTup, dIf, dAnd, dOr, dNot, dIsi, dSl, dAttr, oN, oS, nLst, nList, nRng1, nRng2, nSeq, nOwn, nSorted, nThaw, gNm, vD, vN, seqV, setE, Say.pure_bind, Say.bind_assoc, List.getElem?_cons_zero, List.getElem?_cons_succ, seqA, slD, List.set_cons_succ, List.set_cons_zero, thaw, Sl.thaw, List.map_cons, List.map_nil, lift_some, truB_bl, bindT, ownL, slOwn, List.length_cons, List.length_nil, List.cons_append, List.nil_append, List.replicate, Nat.reduceAdd, Nat.reduceSub, List.all_cons, List.all_nil, mkTup0, mkTup1, mkTup2, mkLst0, mkLst1, mkLst4, mkLst5, mkLst8, wipeE, sPar, sOwnS, sStore2, sPut, dNeg, negD, add_int]
      exact rngM_two (j + 1) n (by omega) (by omega)
    show Tr (12 + N') (sFor _ _ _ k' pure k' k' (stE n ms way much is (.dat (.int (j : Int))) x7 x8)) _
    rw [sFor, t2, Say.pure_bind]
    refine Tr.mono (forN (C := 2) (C0 := N') (n - (j + 1)) (fun (i : Nat) => D.int ((j + 1 + i : Nat) : Int)) (fun i ρ => ∃ is x7 x8, ρ = stE n ms way much is (.dat (.int (j : Int))) x7 x8 ∧ is.Nodup ∧ (∀ p ∈ is, p.1 < p.2 ∧ p.2 < n ∧ (p.1 < j ∨ (p.1 = j ∧ p.2 < j + 1 + i))) ∧ (way = 4 → is = []) ∧ is.length ≤ 6 * j + i) ?_ ?_ _ ⟨is, x7, x8, rfl, h1, fun p hp => ?_, h3, h4⟩) (fun _ z => z) (by omega)
    · rintro ρ ⟨is, x7, x8, rfl, g1, g2, g3, g4⟩
      refine hk _ ⟨is, _, x7, x8, rfl, g1, fun p hp => ?_, g3, by omega⟩
      have := g2 p hp
      omega
    · rintro i hi ρ ⟨is, x7, x8, rfl, g1, g2, g3, g4⟩ M k2 hk2
      refine turn_ok (a := j) (l := j + 1 + i) hm1 hm2 (by omega) (by omega) (by omega) fun is' his x8 => hk2 _ ?_
      rcases his with rfl | ⟨w, rfl⟩
      · refine ⟨is', _, x8, rfl, g1, fun p hp => ?_, g3, by omega⟩
        have := g2 p hp
        omega
      · refine ⟨_, _, x8, rfl, ?_, fun p hp => ?_, fun z => absurd z w, by simp; omega⟩
        · rw [List.nodup_append]
          refine ⟨g1, by simp, fun p hp z hz e => ?_⟩
          rw [List.mem_singleton.mp hz] at e
          have := g2 p hp
          rw [e] at this
          simp only at this
          omega
        · rcases List.mem_append.mp
              hp with hp | hp
          · have := g2 p hp
            omega
          · rw
                [List.mem_singleton.mp hp]
            exact ⟨by show j < j + 1 + i; omega, by show j + 1 + i < n; omega, .inr ⟨rfl, by show j + 1 + i < j + 1 + (i + 1); omega⟩⟩
    · have := h2 p hp
      omega
/-- what the law asks about -/
inductive Fine : D → Prop
  | tup {xs : List D} (h : ∀ d ∈ xs, scal d = true) : Fine (.tup xs)
  | lst (xs : List Int) : Fine (.lst (xs.map D.int))
  | non : Fine .non
  | int (i : Int) : Fine (.int i)
theorem fine_ti (xs : List Int) : Fine (ti xs) := .tup fun d hd => by
  obtain ⟨i, _, rfl⟩ := List.mem_map.mp hd
  rfl
theorem isorder_ok {n : Nat} {E : List (Int × Int)} (g : Good n E) (hn : n ≤ 6) {d : D} (f : Fine d) : m_is_order [webD n E, d] = pure (.bl (dueB n E d)) := by
  cases f with
  | tup h => exact is_order_tup g hn h
  | lst xs => exact is_order_not rfl rfl
  | non => exact is_order_not rfl rfl
  | int i => exact is_order_not rfl rfl
theorem plain_scal {m : Nat} {d : D} (h : scal d = true) : d.plainN m = true := by
  cases d <;> first | (cases h; done) | simp [D.plainN]
theorem plainL_scal {m : Nat} : ∀ {xs : List D}, (∀ d ∈ xs, scal d = true) → plainL m xs = true
  | [], _ => by simp [plainL]
  | d :: xs, h => by simp [plainL, plain_scal (m := m) (h d List.mem_cons_self), plainL_scal (m := m) fun e he => h e (List.mem_cons_of_mem _ he)]
theorem all_isInt : ∀ {xs : List D}, xs.all isInt = true → ∃ ns : List Int, xs = ns.map D.int
  | [], _ => ⟨[], rfl⟩
  | d :: xs, h => by
    rw [List.all_cons,
        Bool.and_eq_true] at h
    obtain ⟨ns, e⟩ := all_isInt h.2
    cases d with
    | int i => exact ⟨i :: ns, by rw [e]; rfl⟩
    | _ => cases h.1
/-- the law's own answer -/
theorem due_ok {n : Nat} {E : List (Int × Int)} (g : Good n E) (hn : n ≤ 6) {d : D} (f : Fine d) (x0 x1 x2 x3 x4 x5 x7 x8 x10 x11 x12 : Sl) :
    dAnd (dIsi CS TS [.ty "tuple"] (dVar 9)) (dAnd (dBin inD (dVar 9) (dVar 6)) (dBlt allD [(dNew (lcM [13] (nSeq (dVar 9)) (gNm 13) tYes (dCall m__law_is_int [(dVar 13)])))])) [x0, x1, x2, x3, x4, x5, .dat (.lst ((ord n E n).map ti)), x7, x8, .dat d, x10, x11, x12, .no] = pure (.bl (dueB n E d)) := by
  simp only [runS, startE, sSeq, sIf, sSet, sRet, sRetN, sNil, sParV, sFor, sApp, sAppPop, tCmp, tVal, tAnd, tOr, tNot, tYes, tThaw, andB, orB, notB, andV, orV, notV, dC, dBin, dBlt, dVar, dCall, dNew, dThaw, dTup, dIf, dAnd, dOr, dNot, dIsi, dSl, dAttr, oN, oS, nLst, nList, nRng1, nRng2, nSeq, nOwn, nSorted, nThaw, gNm, vD, vN, seqV, setE, Say.pure_bind, Say.bind_assoc, List.getElem?_cons_zero, List.getElem?_cons_succ, seqA, slD, List.set_cons_succ, List.set_cons_zero, thaw, Sl.thaw, List.map_cons, List.map_nil, lift_some, truB_bl, bindT, ownL, slOwn, List.length_cons, List.length_nil, List.cons_append, List.nil_append, List.replicate, Nat.reduceAdd, Nat.reduceSub, List.all_cons, List.all_nil, mkTup0, mkTup1, mkTup2, mkLst0, mkLst1, mkLst4, mkLst5, mkLst8, wipeE, sPar, sOwnS, sStore2, sPut, dNeg, negD]
  cases f with
  | lst xs => rfl
  | non => rfl
  | int i => rfl
  | @tup xs h =>
    rw [show isiD CS TS [.ty "tuple"] (.tup xs) = pure (.bl true) from rfl]
    simp only [runS, startE, sSeq, sIf, sSet, sRet, sRetN, sNil, sParV, sFor, sApp, sAppPop, tCmp, tVal, tAnd, tOr, tNot, tYes, tThaw, andB, orB, notB, andV, orV, notV, dC, dBin, dBlt, dVar, dCall, dNew, dThaw, dTup, dIf, dAnd, dOr, dNot, dIsi, dSl, dAttr, oN, oS, nLst, nList, nRng1, nRng2, nSeq, nOwn, nSorted, nThaw, gNm, vD, vN, seqV, setE, Say.pure_bind, Say.bind_assoc, List.getElem?_cons_zero, List.getElem?_cons_succ, seqA, slD, List.set_cons_succ, List.set_cons_zero, thaw, Sl.thaw, List.map_cons, List.map_nil, lift_some, truB_bl, bindT, ownL, slOwn, List.length_cons, List.length_nil, List.cons_append, List.nil_append, List.replicate, Nat.reduceAdd, Nat.reduceSub, List.all_cons, List.all_nil, mkTup0, mkTup1, mkTup2, mkLst0, mkLst1, mkLst4, mkLst5, mkLst8, wipeE, sPar, sOwnS, sStore2, sPut, dNeg, negD, if_true]
    have pl : ((D.tup xs).plain && plainL 59 ((ord n E n).map ti)) = true := by
      rw [Bool.and_eq_true]
      refine ⟨?_, plainL_map ti (plain_ti 58) _⟩
      show (D.tup xs).plainN 60 = true
      simp only [D.plainN]
      exact plainL_scal h
    have ein : inD (.tup xs) (.lst ((ord n E n).map ti)) = some (.bl (((ord n E n).map ti).any fun y => eqV y (.tup xs))) := by
      show (if ((D.tup xs).plain && plainL 59 ((ord n E n).map ti)) = true then some (D.bl (((ord n E n).map ti).any fun y => eqV y (.tup xs))) else none) = _
      rw [if_pos pl]
    rw [ein]
    simp only [runS, startE, sSeq, sIf, sSet, sRet, sRetN, sNil, sParV, sFor, sApp, sAppPop, tCmp, tVal, tAnd, tOr, tNot, tYes, tThaw, andB, orB, notB, andV, orV, notV, dC, dBin, dBlt, dVar, dCall, dNew, dThaw, dTup, dIf, dAnd, dOr, dNot, dIsi, dSl, dAttr, oN, oS, nLst, nList, nRng1, nRng2, nSeq, nOwn, nSorted, nThaw, gNm, vD, vN, seqV, setE, Say.pure_bind, Say.bind_assoc, List.getElem?_cons_zero, List.getElem?_cons_succ, seqA, slD, List.set_cons_succ, List.set_cons_zero, thaw, Sl.thaw, List.map_cons, List.map_nil, lift_some, truB_bl, bindT, ownL, slOwn, List.length_cons, List.length_nil, List.cons_append, List.nil_append, List.replicate, Nat.reduceAdd, Nat.reduceSub, List.all_cons, List.all_nil, mkTup0, mkTup1, mkTup2, mkLst0, mkLst1, mkLst4, mkLst5, mkLst8, wipeE, sPar, sOwnS, sStore2, sPut, dNeg, negD]
    rw [lc_yes (l := xs) (f := id) (y := fun d => .bl (isInt d))]
    · simp only [runS, startE, sSeq, sIf, sSet, sRet, sRetN, sNil, sParV, sFor, sApp, sAppPop, tCmp, tVal, tAnd, tOr, tNot, tYes, tThaw, andB, orB, notB, andV, orV, notV, dC, dBin, dBlt, dVar, dCall, dNew, dThaw, dTup, dIf, dAnd, dOr, dNot, dIsi, dSl, dAttr, oN, oS, nLst, nList, nRng1, nRng2, nSeq, nOwn, nSorted, nThaw, gNm, vD, vN, seqV, setE, Say.pure_bind, Say.bind_assoc, List.getElem?_cons_zero, List.getElem?_cons_succ, seqA, slD, List.set_cons_succ, List.set_cons_zero, thaw, Sl.thaw, List.map_cons, List.map_nil, lift_some, truB_bl, bindT, ownL, slOwn, List.length_cons, List.length_nil, List.cons_append, List.nil_append, List.replicate, Nat.reduceAdd, Nat.reduceSub, List.all_cons, List.all_nil, mkTup0, mkTup1, mkTup2, mkLst0, mkLst1, mkLst4, mkLst5, mkLst8, wipeE, sPar, sOwnS, sStore2, sPut, dNeg, negD]
      rw [all_map isInt xs]
      simp only [runS, startE, sSeq, sIf, sSet, sRet, sRetN, sNil, sParV, sFor, sApp, sAppPop, tCmp, tVal, tAnd, tOr, tNot, tYes, tThaw, andB, orB, notB, andV, orV, notV, dC, dBin, dBlt, dVar, dCall, dNew, dThaw, dTup, dIf, dAnd, dOr, dNot, dIsi, dSl, dAttr, oN, oS, nLst, nList, nRng1, nRng2, nSeq, nOwn, nSorted, nThaw, gNm, vD, vN, seqV, setE, Say.pure_bind, Say.bind_assoc, List.getElem?_cons_zero, List.getElem?_cons_succ, seqA, slD, List.set_cons_succ, List.set_cons_zero, thaw, Sl.thaw, List.map_cons, List.map_nil, lift_some, truB_bl, bindT, ownL, slOwn, List.length_cons, List.length_nil, List.cons_append, List.nil_append, List.replicate, Nat.reduceAdd, Nat.reduceSub, List.all_cons, List.all_nil, mkTup0, mkTup1, mkTup2, mkLst0, mkLst1, mkLst4, mkLst5, mkLst8, wipeE, sPar, sOwnS, sStore2, sPut, dNeg, negD]
      cases ea : ((ord n E n).map ti).any fun y => eqV y (.tup xs) with
      | true =>
        simp only [if_true]
        refine congrArg (fun b : D => (pure b : M D)) (congrArg D.bl ?_)
        show xs.all isInt = (match intsOf xs with | some ns => decide (ns ∈ ord n E n) | none => false)
        cases ei : xs.all isInt with
        | true =>
          obtain ⟨ns, rfl⟩ := all_isInt ei
          rw [intsOf_map]
          rw [show D.tup (ns.map D.int) = ti ns from rfl, any_eq ti eqV_ti] at ea
          exact ea.symm.trans (decide_eq_decide.mpr Iff.rfl)
        | false =>
          cases eo : intsOf xs with
          | none => rfl
          | some ns =>
            rw [intsOf_ok eo, List.all_map] at ei
            have all : ns.all (isInt ∘ D.int) = true := List.all_eq_true.mpr fun _ _ => rfl
            rw [all] at ei
            cases ei
      | false =>
        simp only [Bool.false_eq_true,
            if_false]
        refine congrArg (fun b : D => (pure b : M D)) (congrArg D.bl ?_)
        show false = (match intsOf xs with | some ns => decide (ns ∈ ord n E n) | none => false)
        cases eo : intsOf xs with
        | none => rfl
        | some ns =>
          rw [intsOf_ok eo, show D.tup (ns.map D.int) = ti ns from rfl, any_eq ti eqV_ti] at ea
          exact ea.symm.trans (decide_eq_decide.mpr Iff.rfl)
    · simp only [runS, startE, sSeq, sIf, sSet, sRet, sRetN, sNil, sParV, sFor, sApp, sAppPop, tCmp, tVal, tAnd, tOr, tNot, tYes, tThaw, andB, orB, notB, andV, orV, notV, dC, dBin, dBlt, dVar, dCall, dNew, dThaw, dTup, dIf, dAnd, dOr, dNot, dIsi, dSl, dAttr, oN, oS, nLst, nList, nRng1, nRng2, nSeq, nOwn, nSorted, nThaw, gNm, vD, vN, seqV, setE, Say.pure_bind, Say.bind_assoc, List.getElem?_cons_zero, List.getElem?_cons_succ, seqA, slD, List.set_cons_succ, List.set_cons_zero, thaw, Sl.thaw, List.map_cons, List.map_nil, lift_some, truB_bl, bindT, ownL, slOwn, List.length_cons, List.length_nil, List.cons_append, List.nil_append, List.replicate, Nat.reduceAdd, Nat.reduceSub, List.all_cons, List.all_nil, mkTup0, mkTup1, mkTup2, mkLst0, mkLst1, mkLst4, mkLst5, mkLst8, wipeE, sPar, sOwnS, sStore2, sPut, dNeg, negD, seqM, List.map_id]
    · rfl
    · intro d hd
      simp only [runS, startE, sSeq, sIf, sSet, sRet, sRetN, sNil, sParV, sFor, sApp, sAppPop, tCmp, tVal, tAnd, tOr, tNot, tYes, tThaw, andB, orB, notB, andV, orV, notV, dC, dBin, dBlt, dVar, dCall, dNew, dThaw, dTup, dIf, dAnd, dOr, dNot, dIsi, dSl, dAttr, oN, oS, nLst, nList, nRng1, nRng2, nSeq, nOwn, nSorted, nThaw, gNm, vD, vN, seqV, setE, Say.pure_bind, Say.bind_assoc, List.getElem?_cons_zero, List.getElem?_cons_succ, seqA, slD, List.set_cons_succ, List.set_cons_zero, thaw, Sl.thaw, List.map_cons, List.map_nil, lift_some, truB_bl, bindT, ownL, slOwn, List.length_cons, List.length_nil, List.cons_append, List.nil_append, List.replicate, Nat.reduceAdd, Nat.reduceSub, List.all_cons, List.all_nil, mkTup0, mkTup1, mkTup2, mkLst0, mkLst1, mkLst4, mkLst5, mkLst8, wipeE, sPar, sOwnS, sStore2, sPut, dNeg, negD, id]
      exact isint_ok (h d hd)
theorem ix_ti {w : List Int} {i : Nat} (h : i < w.length) : ixD (ti w) (.int (i : Int)) = some (.int (w.getD i 0)) := by
  have := ix_ms (ms := w) h
  exact this
theorem put_at {w : List Int} {i : Nat} (h : i < w.length) (v : Int) : putAt (w.map D.int) (.int (i : Int)) (.int v) = pure ((w.set i v).map D.int) := by
  unfold putAt
  simp only [List.length_map]
  have e : L2.ixN w.length (i : Int) = some i := by
    unfold L2.ixN
    rw [if_pos (by omega), if_pos (by omega), Int.toNat_natCast]
  rw [e]
  simp only
  rw [List.map_set]
theorem imm_ints : ∀ w : List Int, immL (w.map D.int) = true
  | [] => by simp [immL]
  | x :: w => by simp [immL, D.imm, imm_ints w]
theorem cut_ints (w : List Int) (a b : Option Int) : ∃ v : List Int, cutG (w.map D.int) a b = v.map D.int ∧ v.length ≤ w.length := by
  refine ⟨cutG w a b, ?_, cutG_len w a b⟩
  unfold cutG
  rw [List.length_map, List.map_take, List.map_drop]
theorem fine_tup_of {xs : List D} (h : ∀ d ∈ xs, scal d = true) : Fine (.tup xs) := .tup h
theorem scal_ints (w : List Int) : ∀ d ∈ w.map D.int, scal d = true := fun d hd => by
  obtain ⟨i, _, rfl⟩ := List.mem_map.mp hd
  rfl
theorem add_tup (xs ys : List D) (h : xs.length + ys.length ≤ 1000000) : addD (.tup xs) (.tup ys) = some (.tup (xs ++ ys)) := by
  show (if xs.length + ys.length ≤ 16777216 then some (D.tup (xs ++ ys)) else none) = _
  rw [if_pos (by omega)]
theorem turn15 {n : Nat} {E : List (Int × Int)} (g : Good n E) (h1 : 1 ≤ n) (hn : n ≤ 6) (he : ord n E n ≠ []) (x0 x3 x7 x8 x9 x10 x11 x12 : Sl) (j N : Nat) (k' kk : Say.Env → M D) (P : D → Prop)
    (hk : ∀ x7 x8 x9 x10 x11 x12 : Sl, Tr N (k' [x0, .dat .pen, .dat (.int (n : Int)), x3, .dat (.int (j : Int)), .dat (webD n E), .dat (.lst ((ord n E n).map ti)), x7, x8, x9, x10, x11, x12, .no]) P) :
    Tr (10 + N) ((sSeq (sSet 7 (dIf (tCmp (odD .lt) (dVar 4) (dC (.int 5))) (dCall m__law_pick [(dVar 1), (dVar 6)]) (dBlt tupleD [(dCall m__law_shuffled [(dVar 1), (dNew (nRng1 (dVar 2)))])])))
  (sSeq (sPar 11 12 (dCall m__law_draw [(dVar 1), (dVar 2)]) (dCall m__law_draw [(dVar 1), (dVar 2)]))
  (sSeq (sOwnS 8 (nList [(dVar 7)]))
  (sSeq (sStore2 8 (dVar 11) (dVar 12) (dBin ixD (dVar 7) (dVar 12)) (dBin ixD (dVar 7) (dVar 11)))
  (sSeq (sSet 9 (dCall m__law_pick [(dVar 1), (dNew (nLst [(dVar 7), (dThaw (dBlt tupleD [(dVar 8)])), (dNew (nList [(dVar 7)])), (dSl (dVar 7) (oS (dC (.int 1))) oN), (dBin addD (dVar 7) (dTup [(dC (.int 0))])), (dBin addD (dBin addD (dSl (dVar 7) oN (oS (dVar 11))) (dTup [(dCall m__law_pick [(dVar 1), (dNew (nLst [(dVar 2), (dC (.bl true)), (dC .non), (dNeg (dC (.int 1))), (dC (.int 0))]))])])) (dSl (dVar 7) (oS (dBin addD (dVar 11) (dC (.int 1)))) oN)), (dC .non), (dC (.int 0))]))]))
  (sSeq (sSet 10 (dAnd (dIsi CS TS [.ty "tuple"] (dVar 9)) (dAnd (dBin inD (dVar 9) (dVar 6)) (dBlt allD [(dNew (lcM [13] (nSeq (dVar 9)) (gNm 13) tYes (dCall m__law_is_int [(dVar 13)])))]))))
  (sIf (tOr (tCmp neD (dCall m_is_order [(dVar 5), (dVar 9)]) (dVar 10)) (tNot (tVal (dIsi CS TS [.ty "bool"] (dCall m_is_order [(dVar 5), (dVar 9)]))))) (sRet (dC (.bl false))) sNil))))))) k' pure kk k'
    [x0, .dat .pen, .dat (.int (n : Int)), x3, .dat (.int (j : Int)), .dat (webD n E), .dat (.lst ((ord n E n).map ti)), x7, x8, x9, x10, x11, x12, .no]) P := by
  have tail : ∀ (d : D) (x7 x8 x11 x12 : Sl), Fine d → Tr N ((sSeq (sSet 10 (dAnd (dIsi CS TS [.ty "tuple"] (dVar 9)) (dAnd (dBin inD (dVar 9) (dVar 6)) (dBlt allD [(dNew (lcM [13] (nSeq (dVar 9)) (gNm 13) tYes (dCall m__law_is_int [(dVar 13)])))]))))
  (sIf (tOr (tCmp neD (dCall m_is_order [(dVar 5), (dVar 9)]) (dVar 10)) (tNot (tVal (dIsi CS TS [.ty "bool"] (dCall m_is_order [(dVar 5), (dVar 9)]))))) (sRet (dC (.bl false))) sNil)) k' pure kk k' [x0, .dat .pen, .dat (.int (n : Int)), x3, .dat (.int (j : Int)), .dat (webD n E), .dat (.lst ((ord n E n).map ti)), x7, x8, .dat d, x10, x11, x12, .no]) P := fun d x7 x8 x11 x12 f => by
    have due := due_ok g hn f x0 (.dat .pen) (.dat (.int (n : Int))) x3 (.dat (.int (j : Int))) (.dat (webD n E)) x7 x8 x10 x11 x12
    generalize (dAnd (dIsi CS TS [.ty "tuple"] (dVar 9)) (dAnd (dBin inD (dVar 9) (dVar 6)) (dBlt allD [(dNew (lcM [13] (nSeq (dVar 9)) (gNm 13) tYes (dCall m__law_is_int [(dVar 13)])))])) : En) = DU at due ⊢
    rw [sSeq, sSet, due]
    simp only [runS, startE, sSeq, sIf, sSet, sRet, sRetN, sNil, sParV, sFor, sApp, sAppPop, tCmp, tVal, tAnd, tOr, tNot, tYes, tThaw, andB, orB, notB, andV, orV, notV, dC, dBin, dBlt, dVar, dCall, dNew, dThaw, dTup, dIf, dAnd, dOr, dNot, dIsi, dSl, dAttr, oN, oS, nLst, nList, nRng1, nRng2, nSeq, nOwn, nSorted, nThaw, gNm, vD, vN, seqV, setE, Say.pure_bind, Say.bind_assoc, List.getElem?_cons_zero, List.getElem?_cons_succ, seqA, slD, List.set_cons_succ, List.set_cons_zero, thaw, Sl.thaw, List.map_cons, List.map_nil, lift_some, truB_bl, bindT, ownL, slOwn, List.length_cons, List.length_nil, List.cons_append, List.nil_append, List.replicate, Nat.reduceAdd, Nat.reduceSub, List.all_cons, List.all_nil, mkTup0, mkTup1, mkTup2, mkLst0, mkLst1, mkLst4, mkLst5, mkLst8, wipeE, sPar, sOwnS, sStore2, sPut, dNeg, negD, isorder_ok g hn f]
    have nb : ∀ b : Bool, neD (.bl b) (.bl b) = some (.bl false) := fun b => by cases b <;> rfl
    have ib : ∀ b : Bool, isiD CS TS [.ty "bool"] (.bl b) = pure (.bl true) := fun b => by cases b <;> rfl
    rw [nb, ib]
    simp only [runS, startE, sSeq, sIf, sSet, sRet, sRetN, sNil, sParV, sFor, sApp, sAppPop, tCmp, tVal, tAnd, tOr, tNot, tYes, tThaw, andB, orB, notB, andV, orV, notV, dC, dBin, dBlt, dVar, dCall, dNew, dThaw, dTup, dIf, dAnd, dOr, dNot, dIsi, dSl, dAttr, oN, oS, nLst, nList, nRng1, nRng2, nSeq, nOwn, nSorted, nThaw, gNm, vD, vN, seqV, setE, Say.pure_bind, Say.bind_assoc, List.getElem?_cons_zero, List.getElem?_cons_succ, seqA, slD, List.set_cons_succ, List.set_cons_zero, thaw, Sl.thaw, List.map_cons, List.map_nil, lift_some, truB_bl, bindT, ownL, slOwn, List.length_cons, List.length_nil, List.cons_append, List.nil_append, List.replicate, Nat.reduceAdd, Nat.reduceSub, List.all_cons, List.all_nil, mkTup0, mkTup1, mkTup2, mkLst0, mkLst1, mkLst4, mkLst5, mkLst8, wipeE, sPar, sOwnS, sStore2, sPut, dNeg, negD, Bool.false_eq_true, if_false, Bool.not_true]
    exact hk _ _ _ _ _ _
  generalize (sSeq (sSet 10 (dAnd (dIsi CS TS [.ty "tuple"] (dVar 9)) (dAnd (dBin inD (dVar 9) (dVar 6)) (dBlt allD [(dNew (lcM [13] (nSeq (dVar 9)) (gNm 13) tYes (dCall m__law_is_int [(dVar 13)])))]))))
  (sIf (tOr (tCmp neD (dCall m_is_order [(dVar 5), (dVar 9)]) (dVar 10)) (tNot (tVal (dIsi CS TS [.ty "bool"] (dCall m_is_order [(dVar 5), (dVar 9)]))))) (sRet (dC (.bl false))) sNil) : S) = T at tail ⊢
  simp only [runS, startE, sSeq, sIf, sSet, sRet, sRetN, sNil, sParV, sFor, sApp, sAppPop, tCmp, tVal, tAnd, tOr, tNot, tYes, tThaw, andB, orB, notB, andV, orV, notV, dC, dBin, dBlt, dVar, dCall, dNew, dThaw, dTup, dIf, dAnd, dOr, dNot, dIsi, dSl, dAttr, oN, oS, nLst, nList, nRng1, nRng2, nSeq, nOwn, nSorted, nThaw, gNm, vD, vN, seqV, setE, Say.pure_bind, Say.bind_assoc, List.getElem?_cons_zero, List.getElem?_cons_succ, seqA, slD, List.set_cons_succ, List.set_cons_zero, thaw, Sl.thaw, List.map_cons, List.map_nil, lift_some, truB_bl, bindT, ownL, slOwn, List.length_cons, List.length_nil, List.cons_append, List.nil_append, List.replicate, Nat.reduceAdd, Nat.reduceSub, List.all_cons, List.all_nil, mkTup0, mkTup1, mkTup2, mkLst0, mkLst1, mkLst4, mkLst5, mkLst8, wipeE, sPar, sOwnS, sStore2, sPut, dNeg, negD, od_int, rngM_nat n (by omega)]
  refine Tr.bind (C1 := 6) (C2 := 4 + N) (P := fun d => ∃ w : List Int, d = ti w ∧ w.length = n) ?_ fun d ⟨w, ed, hw⟩ => ?_
  · by_cases c : Od.lt.i (j : Int) 5 = true
    · rw [if_pos c]
      have len : ((ord n E n).map ti).length ≤ 46656 := by rw [List.length_map]; exact ord_len' hn E n hn
      have pos : 1 ≤ ((ord n E n).map ti).length := by rw [List.length_map]; exact List.length_pos_iff.mpr he
      refine (pick_ok pos (by omega)).mono (fun d hd => ?_) (by decide)
      obtain ⟨w, hw, rfl⟩ := List.mem_map.mp hd
      exact ⟨w, rfl, ord_lens n w hw⟩
    · rw [if_neg c]
      rw [show ((List.range n).map fun k : Nat => D.int (k : Int)) = ((List.range n).map fun k : Nat => (k : Int)).map D.int from by rw [List.map_map]; rfl]
      refine Tr.bind (C1 := 6) (C2 := 0) ((shuffled_ok (ns := (List.range n).map fun k : Nat => (k : Int)) (by simp; omega)).mono (fun _ z => z) (by simp; omega)) fun d ⟨ms, ed, pm⟩ => ?_
      subst ed
      exact Tr.pure ⟨ms, rfl, (perm_range.mp pm).1⟩
  subst ed
  refine Tr.bind (C1 := 1) (C2 := 3 + N) (draw_ok h1 (by omega)) fun d ⟨a, ed, ha⟩ => ?_
  subst ed
  refine Tr.bind (C1 := 1) (C2 := 2 + N) (draw_ok h1 (by omega)) fun d ⟨o, ed, ho⟩ => ?_
  subst ed
  simp only [runS, startE, sSeq, sIf, sSet, sRet, sRetN, sNil, sParV, sFor, sApp, sAppPop, tCmp, tVal, tAnd, tOr, tNot, tYes, tThaw, andB, orB, notB, andV, orV, notV, dC, dBin, dBlt, dVar, dCall, dNew, dThaw, dTup, dIf, dAnd, dOr, dNot, dIsi, dSl, dAttr, oN, oS, nLst, nList, nRng1, nRng2, nSeq, nOwn, nSorted, nThaw, gNm, vD, vN, seqV, setE, Say.pure_bind, Say.bind_assoc, List.getElem?_cons_zero, List.getElem?_cons_succ, seqA, slD, List.set_cons_succ, List.set_cons_zero, thaw, Sl.thaw, List.map_cons, List.map_nil, lift_some, truB_bl, bindT, ownL, slOwn, List.length_cons, List.length_nil, List.cons_append, List.nil_append, List.replicate, Nat.reduceAdd, Nat.reduceSub, List.all_cons, List.all_nil, mkTup0, mkTup1, mkTup2, mkLst0, mkLst1, mkLst4, mkLst5, mkLst8, wipeE, sPar, sOwnS, sStore2, sPut, dNeg, negD, Nat.reduceLT, if_true]
  have wz : w.length ≤ 6 := by omega
  rw [show listD [ti w] = pure (w.map D.int) from rfl, ix_ti (show o < w.length by omega), ix_ti (show a < w.length by omega)]
  simp only [lift_some, Say.pure_bind]
  rw [put_at (show a < w.length by omega), Say.pure_bind, put_at (show o < (w.set a (w.getD o 0)).length by rw [List.length_set]; omega), Say.pure_bind]
  generalize (w.set a (w.getD o 0)).set o (w.getD a 0) = m
  rw [show tupleD [D.lst (m.map D.int)] = some (ti m) from rfl]
  have im : immD (ti m) = pure (ti m) := by
    unfold immD
    rw [if_pos (by simp only [ti, D.imm]; exact imm_ints m)]
  simp only [lift_some, Say.pure_bind, im, intM, add_int]
  obtain ⟨c1, e1, l1⟩ := cut_ints w (some 1) none
  obtain ⟨c2, e2, l2⟩ := cut_ints w none (some (a : Int))
  obtain ⟨c3, e3, l3⟩ := cut_ints w (some ((a : Int) + 1)) none
  rw [show sliceD (ti w) (some 1) none = pure (.tup (cutG (w.map D.int) (some 1) none)) from rfl, show sliceD (ti w) none (some (a : Int)) = pure (.tup (cutG (w.map D.int) none (some (a : Int)))) from rfl, show sliceD (ti w) (some ((a : Int) + 1)) none = pure (.tup (cutG (w.map D.int) (some ((a : Int) + 1)) none)) from rfl, e1, e2, e3]
  rw [show ti w = D.tup (w.map D.int) from rfl, add_tup (w.map D.int) [.int 0] (by simp; omega)]
  simp only [lift_some, Say.pure_bind]
  refine Tr.bind (C1 := 1) (C2 := 1 + N) (pick_ok (by show 1 ≤ 5; decide) (by show 5 < 1073741824; decide)) fun v hv => ?_
  have sv : scal v = true := by
    simp only [List.mem_cons, List.not_mem_nil, or_false] at hv
    rcases hv with rfl | rfl | rfl | rfl | rfl <;> rfl
  rw [add_tup (c2.map D.int) [v] (by simp; omega)]
  simp only [lift_some, Say.pure_bind]
  rw [add_tup (c2.map D.int ++ [v]) (c3.map D.int) (by simp; omega)]
  simp only [lift_some, Say.pure_bind]
  refine Tr.bind (C1 := 1) (C2 := N) (pick_ok (by show 1 ≤ 8; decide) (by show 8 < 1073741824; decide)) fun d hd => tail d _ _ _ _ ?_
  have sc : ∀ (xs ys : List D), (∀ d ∈ xs, scal d = true) → (∀ d ∈ ys, scal d = true) → ∀ d ∈ xs ++ ys, scal d = true := fun xs ys h1 h2 d hd => (List.mem_append.mp hd).elim (h1 d) (h2 d)
  have s1 : ∀ v : D, scal v = true → ∀ d ∈ [v], scal d = true := fun v h d hd => by rw [List.mem_singleton.mp hd]; exact h
  simp only [List.mem_cons, List.not_mem_nil, or_false] at hd
  rcases hd with rfl | rfl | rfl | rfl | rfl | rfl | rfl | rfl
  · exact fine_ti w
  · exact fine_ti m
  · exact .lst w
  · exact fine_ti c1
  · exact .tup (sc _ _ (scal_ints w) (s1 _ rfl))
  · exact .tup (sc _ _ (sc _ _ (scal_ints c2) (s1 _ sv)) (scal_ints c3))
  · exact .non
  · exact .int 0
theorem eqL_same {α : Type} (f : α → D) (h : ∀ a, eqV (f a) (f a) = true) : ∀ xs : List α, eqL (xs.map f) (xs.map f) = true
  | [] => rfl
  | x :: xs => by
    show (eqV (f x) (f x) && eqL (xs.map f) (xs.map f)) = true
    rw [h x, eqL_same f h xs]
    rfl
theorem ne_same (xs : List (List Int)) : neD (.tup (xs.map ti)) (.tup (xs.map ti)) = some (.bl false) := by
  have hp : (D.tup (xs.map ti)).plain = true := by
    show (D.tup (xs.map ti)).plainN 60 = true
    simp only [D.plainN]
    exact plainL_map ti (plain_ti 58) xs
  show (if ((D.tup (xs.map ti)).plain && (D.tup (xs.map ti)).plain) = true then some (D.bl (!eqV (.tup (xs.map ti)) (.tup (xs.map ti)))) else none) = _
  rw [if_pos (by rw [hp]; rfl), eqV_tup, eqL_same ti fun a => (eqV_ti a a).mpr rfl]
  rfl
theorem ne_ti (w : List Int) : neD (ti w) (ti w) = some (.bl false) := by
  have hp : (ti w).plain = true := plain_ti 59 w
  show (if ((ti w).plain && (ti w).plain) = true then some (D.bl (!eqV (ti w) (ti w))) else none) = _
  rw [if_pos (by rw [hp]; rfl), (eqV_ti w w).mpr rfl]
  rfl
theorem r10 : rngM (.int 0) (.int 10) = pure ((List.range 10).map fun (k : Nat) => D.int (k : Int)) := rngM_nat 10 (by decide)
theorem law_tr : Tr 400 (runL N_law S_law) (fun d => d = .bl true) := by
  simp only [runL, envL, N_law, S_law, runS, startE, sSeq, sIf, sSet, sRet, sRetN, sNil, sParV, sFor, sApp, sAppPop, tCmp, tVal, tAnd, tOr, tNot, tYes, tThaw, andB, orB, notB, andV, orV, notV, dC, dBin, dBlt, dVar, dCall, dNew, dThaw, dTup, dIf, dAnd, dOr, dNot, dIsi, dSl, dAttr, oN, oS, nLst, nList, nRng1, nRng2, nSeq, nOwn, nSorted, nThaw, gNm, vD, vN, seqV, setE, Say.pure_bind, Say.bind_assoc, List.getElem?_cons_zero, List.getElem?_cons_succ, seqA, slD, List.set_cons_succ, List.set_cons_zero, thaw, Sl.thaw, List.map_cons, List.map_nil, lift_some, truB_bl, bindT, ownL, slOwn, List.length_cons, List.length_nil, List.cons_append, List.nil_append, List.replicate, Nat.reduceAdd, Nat.reduceSub, List.all_cons, List.all_nil, mkTup0, mkTup1, mkTup2, mkLst0, mkLst1, mkLst4, mkLst5, mkLst8, wipeE, sPar, sOwnS, sStore2, sPut, dNeg, negD, r10]
  refine Tr.bind (C1 := 1) (C2 := 399) size_ok fun d ⟨n, ed, h1, hn⟩ => ?_
  subst ed
  refine Tr.bind (C1 := 120) (C2 := 279) (arrows_made h1 hn) fun d ⟨E, ed, g⟩ => ?_
  subst ed
  obtain ⟨f, rest, eo, ea⟩ := an_order_ok g hn
  have ix : ixD (.lst ((ord n E n).map ti)) (.int 0) = some (ti f) := by
    have := ix_lst ti (xs := ord n E n) (r := 0) (by rw [eo]; simp)
    have e0 : (ord n E n)[0]'(by rw [eo]; simp) = f := by simp [eo]
    rw [e0] at this
    exact this
  rw [web_ok g h1 (by omega), Say.pure_bind, law_all_ok hn, Say.pure_bind, all_orders_ok hn, ea]
  rw [show tupleD [D.lst ((ord n E n).map ti)] = some (.tup ((ord n E n).map ti)) from rfl]
  simp only [runS, startE, sSeq, sIf, sSet, sRet, sRetN, sNil, sParV, sFor, sApp, sAppPop, tCmp, tVal, tAnd, tOr, tNot, tYes, tThaw, andB, orB, notB, andV, orV, notV, dC, dBin, dBlt, dVar, dCall, dNew, dThaw, dTup, dIf, dAnd, dOr, dNot, dIsi, dSl, dAttr, oN, oS, nLst, nList, nRng1, nRng2, nSeq, nOwn, nSorted, nThaw, gNm, vD, vN, seqV, setE, Say.pure_bind, Say.bind_assoc, List.getElem?_cons_zero, List.getElem?_cons_succ, seqA, slD, List.set_cons_succ, List.set_cons_zero, thaw, Sl.thaw, List.map_cons, List.map_nil, lift_some, truB_bl, bindT, ownL, slOwn, List.length_cons, List.length_nil, List.cons_append, List.nil_append, List.replicate, Nat.reduceAdd, Nat.reduceSub, List.all_cons, List.all_nil, mkTup0, mkTup1, mkTup2, mkLst0, mkLst1, mkLst4, mkLst5, mkLst8, wipeE, sPar, sOwnS, sStore2, sPut, dNeg, negD, ne_same, ix, ne_ti, show isiD CS TS [.ty "tuple"] (ti f) = pure (.bl true) from rfl, Bool.false_eq_true, if_false, Bool.not_true]
  refine Tr.mono (forN (C := 10) (C0 := 0) 10 (fun (k : Nat) => D.int (k : Int)) (fun j ρ => ∃ x4 x7 x8 x9 x10 x11 x12 : Sl, ρ = [.no, .dat .pen, .dat (.int (n : Int)), .dat (.tup (E.map prD)), x4, .dat (webD n E), .dat (.lst ((ord n E n).map ti)), x7, x8, x9, x10, x11, x12, .no]) ?_ ?_ _ ⟨.no, .no, .no, .no, .no, .no, .no, rfl⟩) (fun _ z => z) (by decide)
  · rintro ρ ⟨x4, x7, x8, x9, x10, x11, x12, rfl⟩
    simp only [runS, startE, sSeq, sIf, sSet, sRet, sRetN, sNil, sParV, sFor, sApp, sAppPop, tCmp, tVal, tAnd, tOr, tNot, tYes, tThaw, andB, orB, notB, andV, orV, notV, dC, dBin, dBlt, dVar, dCall, dNew, dThaw, dTup, dIf, dAnd, dOr, dNot, dIsi, dSl, dAttr, oN, oS, nLst, nList, nRng1, nRng2, nSeq, nOwn, nSorted, nThaw, gNm, vD, vN, seqV, setE, Say.pure_bind, Say.bind_assoc, List.getElem?_cons_zero, List.getElem?_cons_succ, seqA, slD, List.set_cons_succ, List.set_cons_zero, thaw, Sl.thaw, List.map_cons, List.map_nil, lift_some, truB_bl, bindT, ownL, slOwn, List.length_cons, List.length_nil, List.cons_append, List.nil_append, List.replicate, Nat.reduceAdd, Nat.reduceSub, List.all_cons, List.all_nil, mkTup0, mkTup1, mkTup2, mkLst0, mkLst1, mkLst4, mkLst5, mkLst8, wipeE, sPar, sOwnS, sStore2, sPut, dNeg, negD]
    rw [lc_yes (l := f) (f := D.int) (y := fun _ => .bl true)]
    · simp only [runS, startE, sSeq, sIf, sSet, sRet, sRetN, sNil, sParV, sFor, sApp, sAppPop, tCmp, tVal, tAnd, tOr, tNot, tYes, tThaw, andB, orB, notB, andV, orV, notV, dC, dBin, dBlt, dVar, dCall, dNew, dThaw, dTup, dIf, dAnd, dOr, dNot, dIsi, dSl, dAttr, oN, oS, nLst, nList, nRng1, nRng2, nSeq, nOwn, nSorted, nThaw, gNm, vD, vN, seqV, setE, Say.pure_bind, Say.bind_assoc, List.getElem?_cons_zero, List.getElem?_cons_succ, seqA, slD, List.set_cons_succ, List.set_cons_zero, thaw, Sl.thaw, List.map_cons, List.map_nil, lift_some, truB_bl, bindT, ownL, slOwn, List.length_cons, List.length_nil, List.cons_append, List.nil_append, List.replicate, Nat.reduceAdd, Nat.reduceSub, List.all_cons, List.all_nil, mkTup0, mkTup1, mkTup2, mkLst0, mkLst1, mkLst4, mkLst5, mkLst8, wipeE, sPar, sOwnS, sStore2, sPut, dNeg, negD]
      rw [all_map (fun _ : Int => true) f]
      simp only [runS, startE, sSeq, sIf, sSet, sRet, sRetN, sNil, sParV, sFor, sApp, sAppPop, tCmp, tVal, tAnd, tOr, tNot, tYes, tThaw, andB, orB, notB, andV, orV, notV, dC, dBin, dBlt, dVar, dCall, dNew, dThaw, dTup, dIf, dAnd, dOr, dNot, dIsi, dSl, dAttr, oN, oS, nLst, nList, nRng1, nRng2, nSeq, nOwn, nSorted, nThaw, gNm, vD, vN, seqV, setE, Say.pure_bind, Say.bind_assoc, List.getElem?_cons_zero, List.getElem?_cons_succ, seqA, slD, List.set_cons_succ, List.set_cons_zero, thaw, Sl.thaw, List.map_cons, List.map_nil, lift_some, truB_bl, bindT, ownL, slOwn, List.length_cons, List.length_nil, List.cons_append, List.nil_append, List.replicate, Nat.reduceAdd, Nat.reduceSub, List.all_cons, List.all_nil, mkTup0, mkTup1, mkTup2, mkLst0, mkLst1, mkLst4, mkLst5, mkLst8, wipeE, sPar, sOwnS, sStore2, sPut, dNeg, negD]
      exact Tr.pure (congrArg D.bl (List.all_eq_true.mpr fun _ _ => rfl))
    · simp only [runS, startE, sSeq, sIf, sSet, sRet, sRetN, sNil, sParV, sFor, sApp, sAppPop, tCmp, tVal, tAnd, tOr, tNot, tYes, tThaw, andB, orB, notB, andV, orV, notV, dC, dBin, dBlt, dVar, dCall, dNew, dThaw, dTup, dIf, dAnd, dOr, dNot, dIsi, dSl, dAttr, oN, oS, nLst, nList, nRng1, nRng2, nSeq, nOwn, nSorted, nThaw, gNm, vD, vN, seqV, setE, Say.pure_bind, Say.bind_assoc, List.getElem?_cons_zero, List.getElem?_cons_succ, seqA, slD, List.set_cons_succ, List.set_cons_zero, thaw, Sl.thaw, List.map_cons, List.map_nil, lift_some, truB_bl, bindT, ownL, slOwn, List.length_cons, List.length_nil, List.cons_append, List.nil_append, List.replicate, Nat.reduceAdd, Nat.reduceSub, List.all_cons, List.all_nil, mkTup0, mkTup1, mkTup2, mkLst0, mkLst1, mkLst4, mkLst5, mkLst8, wipeE, sPar, sOwnS, sStore2, sPut, dNeg, negD, ea]
      rfl
    · cases x4 <;> cases x7 <;> rfl
    · intro i _
      simp only [runS, startE, sSeq, sIf, sSet, sRet, sRetN, sNil, sParV, sFor, sApp, sAppPop, tCmp, tVal, tAnd, tOr, tNot, tYes, tThaw, andB, orB, notB, andV, orV, notV, dC, dBin, dBlt, dVar, dCall, dNew, dThaw, dTup, dIf, dAnd, dOr, dNot, dIsi, dSl, dAttr, oN, oS, nLst, nList, nRng1, nRng2, nSeq, nOwn, nSorted, nThaw, gNm, vD, vN, seqV, setE, Say.pure_bind, Say.bind_assoc, List.getElem?_cons_zero, List.getElem?_cons_succ, seqA, slD, List.set_cons_succ, List.set_cons_zero, thaw, Sl.thaw, List.map_cons, List.map_nil, lift_some, truB_bl, bindT, ownL, slOwn, List.length_cons, List.length_nil, List.cons_append, List.nil_append, List.replicate, Nat.reduceAdd, Nat.reduceSub, List.all_cons, List.all_nil, mkTup0, mkTup1, mkTup2, mkLst0, mkLst1, mkLst4, mkLst5, mkLst8, wipeE, sPar, sOwnS, sStore2, sPut, dNeg, negD]
      exact isint_ok rfl
  · rintro j hj ρ ⟨x4, x7, x8, x9, x10, x11, x12, rfl⟩ N k' hk
    exact turn15 g h1 hn (by rw [eo]; simp) .no (.dat (.tup (E.map prD))) x7 x8 x9 x10 x11 x12 j N k' _ _ fun x7 x8 x9 x10 x11 x12 => hk _ ⟨_, x7, x8, x9, x10, x11, x12, rfl⟩
theorem law_main : ∀ ns : List Int, ns.length ≤ 63 → wpM (runL N_law S_law) (pen0 ns) (fun d _ => d = .bl true) fun _ _ _ => False := by
  intro ns hns
  refine wp_mono (law_tr (pen0 ns) (pen0_ok hns) (by show (0 : Int) + ((400 : Nat) : Int) ≤ 1000000000; omega)) (fun d s h => h.1) fun _ _ _ z => z
end SayLaw

set_option maxHeartbeats 0

namespace SayLaw
open PySem PySem.Spec PyProof.Rows L2 Say
abbrev R : PySem.W.OpenRow := PySem.W.OpenLaw.row PySem.Challenge.rw_sayalike_k04_orders
abbrev qv : Program := PySem.W.view R.prog [34]
def names : List PySem.Str := (["SayError", "BadWeb", "BadLine", "Rounded", "is_whole", "MOST_READ", "is_list", "is_index", "is_arrow", "are_arrows", "least_round", "has_round", "arrows_looked", "Web", "number_read", "size_read", "arrow_read", "web_read", "sources_in", "an_order", "is_order", "all_orders", "_law_size", "_law_web_arrows", "_law_pen"] : List PySem.Str) ++ (["_law_draw", "_law_pick", "_law_shuffled", "_law_is_int", "_law_all"] : List PySem.Str)
abbrev hk : PySem.W.Hook := hookT 4 chkL LS fa fn
def ob (s : PySem.W.SharedT) : ObE := obsT 4 chkL LS fa fn (HandSHeadRun.getT s)
theorem ob_eq (s : PySem.W.SharedT) : ob s = hk.obs s.abs := obsT_eq (HandSHeadRun.getT_eq s)
theorem run (w : World) : HandSHeadRun.RunEq R qv hk ob 4000 names w := by
  intro os
  kernel_rfl
end SayLaw
open PyProof.Rows PySem.Calls PySem.W PySem
theorem PySem.Challenge.cw_sayalike_k04_orders_holds : PySem.Challenge.rw_sayalike_k04_orders.Holds := by
  w_on; o_law
  refine HandSHeadRun.head_any (r := SayLaw.R) (q := SayLaw.qv) (H := SayLaw.hk) (ob := SayLaw.ob) (M := 4000) (loose := SayLaw.names) (d := HandSHeadRun.topDef SayLaw.R.prog 34) (kwd := []) SayLaw.ob_eq
    (by kernel_rfl) (fun s => by kernel_rfl) SayLaw.run (by kernel_rfl) (by kernel_rfl) (by kernel_rfl) (by rfl) (by first | assumption | decide +kernel) (by decide +kernel) ⟨rfl, rfl, rfl, rfl, rfl, by decide +kernel⟩ ?hw ?hc
  case hw => w_witness2
  case hc =>
    refine Say.walkT (l := PySem.Challenge.rw_sayalike_k04_orders) (n := 63) (k := 8) (x := "script") (ls := SayLaw.LS) rfl (by decide) (by decide) (by kernel_rfl) ⟨rfl, by decide, by decide⟩ ?F
    intro w mg fa h Y G hmg0
    obtain ⟨K, KX, c⟩ := Y
    have hmg : mg ("law" : PySem.Str)
        = some (.ref fa) := by
      have e : (HandSHeadRun.topDef SayLaw.R.prog 34).name = ("law" : PySem.Str) := by kernel_rfl
      rw [← e]
      exact hmg0
    have H : SayLaw.HdS K mg := ⟨c.says, h, KX, G⟩
    have e := (H.inK.elim fun _ z => He.glo_ok z.1 z.2 (H.says.2.fact 19 (f := .glo "law") rfl) : mg ("law" : PySem.Str) = some (.ref (He.ga K "law"))).symm.trans hmg
    cases e
    obtain ⟨fd, hb, hF⟩ := SayLaw.h_law (P := PySem.Challenge.rw_sayalike_k04_orders.prog) (w := w) H SayLaw.law_main
    exact ⟨K, fd, KX, c.code, hb, fun base _ _ TB => hF base TB⟩

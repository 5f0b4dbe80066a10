import PyProof.Rows.All
import Wide.All
import OpenK.AllK
import Wide.FinOn
import KE.KStateDown
import Lean
import HandS.ForMost
import HandS.WordsExc
import HandS.ExcInit
import HandS.HeadHook1
import HandS.Defaults
import HandS.Wide
import HandS.Deep
import HandS.TupAny
import HandS.IsInst
import HandS.SortInts
import HandS.SortRule
import HandS.Strs
import HandS.TupLe
import HandS.Conv
import HandS.HeadHook2
import HandS.Style
import HandS.HeadHook4
import HandS.HeadEnd
import HandS.Head0
import HandS.Head1
import HandS.Head2
import HandS.DictComp
import HandS.SetFor
import HandS.List
import KE.KSortTup
import HandS.OwnEq
import HandS.Iter
import HandS.Zip0
import PyProof.Draws
import PySem.Challenge.RW_sayalike_k17_whole_places_struck
set_option Elab.async false
set_option linter.all false
set_option maxRecDepth 100000
set_option maxHeartbeats 4000000
namespace DSep
section
variable {α : Type} {E : α → α → Prop}
/-! ### ways that are open, in a web of arrows without rounds -/
inductive An (E : α → α → Prop) (S : α → Prop) : α → Prop
  | base {x : α} (h : S x) : An E S x
  | step {x y : α} (e : E x y) (h : An E S y) : An E S x
theorem An.mono {S T : α → Prop} (h : ∀ x, S x → T x) {x : α} (a : An E S x) : An E T x := by
  induction a with
  | base q => exact .base (h _ q)
  | step e _ ih => exact .step e ih
theorem An.trans {S T : α → Prop} (h : ∀ x, S x → An E T x) {x : α} (a : An E S x) : An E T x := by
  induction a with
  | base q => exact h _ q
  | step e _ ih => exact .step e ih
def Tie (E : α → α → Prop) (x y : α) : Prop := E x y ∨ E y x
theorem Tie.symm {x y : α} (h : Tie E x y) : Tie E y x := Or.symm h
def Pass (E : α → α → Prop) (C : α → Prop) (w x y : α) : Prop := (E w x ∧ E y x ∧ An E C x) ∨ (¬ (E w x ∧ E y x) ∧ ¬ C x)
theorem Pass.symm {C : α → Prop} {w x y : α} (h : Pass E C w x y) : Pass E C y x w := by
  unfold Pass at *
  rcases h with ⟨a, b, c⟩ | ⟨a, b⟩
  · exact .inl ⟨b, a, c⟩
  · exact .inr ⟨fun z => a ⟨z.2, z.1⟩, b⟩
def Opn (E : α → α → Prop) (C : α → Prop) : List α → Prop
  | [] => True
  | [_] => True
  | [x, y] => Tie E x y
  | x :: y :: z :: r => Tie E x y ∧ Pass E C x y z ∧ Opn E C (y :: z :: r)
theorem Opn.tail {C : α → Prop} {x : α} : ∀ {l : List α}, Opn E C (x :: l) → Opn E C l
  | [], _ => trivial
  | [_], _ => trivial
  | _ :: _ :: _, h => h.2.2
theorem Opn.tie {C : α → Prop} {x y : α} : ∀ {l : List α}, Opn E C (x :: y :: l) → Tie E x y
  | [], h => h
  | _ :: _, h => h.1
theorem Opn.suffix {C : α → Prop} {l2 : List α} : ∀ {l1 : List α}, Opn E C (l1 ++ l2) → Opn E C l2
  | [], h => h
  | _ :: _, h => Opn.suffix (Opn.tail h)
theorem opn_iff {C : α → Prop} : ∀ {l : List α}, Opn E C l ↔ (∀ (i : Nat) (x y : α), l[i]? = some x → l[i + 1]? = some y → Tie E x y) ∧ (∀ (i : Nat) (x y z : α), l[i]? = some x → l[i + 1]? = some y → l[i + 2]? = some z → Pass E C x y z)
  | [] => by simp [Opn]
  | [a] => by simp [Opn]
  | [a, b] => by
    simp only [Opn]
    constructor
    · intro h
      refine ⟨fun i x y h1 h2 => ?_, fun i x y z h1 h2 h3 => ?_⟩
      · cases i with
        | zero => simp at h1 h2; subst h1; subst h2; exact h
        | succ i => simp at h2
      · simp at h3
    · intro h
      exact h.1 0 a b rfl rfl
  | a :: b :: c :: r => by
    have ih := opn_iff (C := C) (l := b :: c :: r)
    simp only [Opn]
    rw [ih]
    constructor
    · rintro ⟨h1, h2, h3, h4⟩
      refine ⟨fun i x y q1 q2 => ?_, fun i x y z q1 q2 q3 => ?_⟩
      · cases i with
        | zero => simp at q1 q2; subst q1; subst q2; exact h1
        | succ i => exact h3 i x y (by simpa using q1) (by simpa using q2)
      · cases i with
        | zero => simp at q1 q2 q3; subst q1; subst q2; subst q3; exact h2
        | succ i => exact h4 i x y z (by simpa using q1) (by simpa using q2) (by simpa using q3)
    · rintro ⟨h1, h2⟩
      exact ⟨h1 0 a b rfl rfl, h2 0 a b c rfl rfl rfl, fun i x y q1 q2 => h1 (i + 1) x y (by simpa using q1) (by simpa using q2), fun i x y z q1 q2 q3 => h2 (i + 1) x y z (by simpa using q1) (by simpa using q2) (by simpa using q3)⟩
theorem rev_get {l : List α} {i : Nat} {x : α} (h : l.reverse[i]? = some x) : i < l.length ∧ l[l.length - 1 - i]? = some x := by
  have hi : i < l.length := by
    have := (List.getElem?_eq_some_iff.mp h).1
    simpa using this
  refine ⟨hi, ?_⟩
  rw [List.getElem?_reverse hi] at h
  exact h
theorem Opn.rev {C : α → Prop} {l : List α} (h : Opn E C l) : Opn E C l.reverse := by
  rw [opn_iff] at h ⊢
  refine ⟨fun i x y h1 h2 => ?_, fun i x y z h1 h2 h3 => ?_⟩
  · obtain ⟨_, a⟩ := rev_get h1
    obtain ⟨hl, b⟩ := rev_get h2
    refine (h.1 (l.length - 1 - (i + 1)) y x b ?_).symm
    rw [show l.length - 1 - (i + 1) + 1 = l.length - 1 - i by omega]
    exact a
  · obtain ⟨_, a⟩ := rev_get h1
    obtain ⟨_, b⟩ := rev_get h2
    obtain ⟨hl, c⟩ := rev_get h3
    refine (h.2 (l.length - 1 - (i + 2)) z y x c ?_ ?_).symm
    · rw [show l.length - 1 - (i + 2) + 1 = l.length - 1 - (i + 1) by omega]
      exact b
    · rw [show l.length - 1 - (i + 2) + 2 = l.length - 1 - i by omega]
      exact a
theorem nodup_rev {l : List α} (h : l.Nodup) : l.reverse.Nodup := List.nodup_iff_pairwise_ne.mpr (List.pairwise_reverse.mpr ((List.nodup_iff_pairwise_ne.mp h).imp fun h => h.symm))
/-! near places, sides -/
def Near (E : α → α → Prop) (F : α → Prop) (x y : α) : Prop := F x ∧ F y ∧ (Tie E x y ∨ ∃ c, F c ∧ E x c ∧ E y c)
inductive Side (E : α → α → Prop) (A C F : α → Prop) : α → Prop
  | base {x : α} (h : A x) : Side E A C F x
  | step {x y : α} (h : Side E A C F x) (n : Near E F x y) (c : ¬ C y) : Side E A C F y
/-- walks that are open: the place, and whether the last arrow leads into it -/
inductive Wk (E : α → α → Prop) (A C : α → Prop) : α → Bool → Prop
  | nil {x : α} (h : A x) : Wk E A C x false
  | down {x y : α} {d : Bool} (h : Wk E A C x d) (e : E x y) (c : ¬ C x) : Wk E A C y true
  | up {x y : α} {d : Bool} (h : Wk E A C x d) (e : E y x) (c1 : d = true → An E C x) (c2 : d = false → ¬ C x) : Wk E A C y false
def Fld (E : α → α → Prop) (A B C : α → Prop) : α → Prop := An E fun x => A x ∨ B x ∨ C x
section
variable {A B C : α → Prop}
theorem esc {z : α} (f : Fld E A B C z) : ∀ {d : Bool}, Wk E A C z d → ¬ An E C z → (∃ b d, B b ∧ Wk E A C b d) ∨ Wk E A C z false := by
  induction f with
  | base h =>
    intro d w n
    rcases h with h | h | h
    · exact .inr (.nil h)
    · exact .inl ⟨_, _, h, w⟩
    · exact (n (.base h)).elim
  | step e h ih =>
    intro d w n
    rename_i x y
    have nc : ¬ C x := fun z => n (.base z)
    have ny : ¬ An E C y := fun z => n (.step e z)
    rcases ih (.down w e nc) ny with q | q
    · exact .inl q
    · exact .inr (.up q e (fun z => by cases z) fun _ z => ny (.base z))
theorem leaveUp {x y : α} {d : Bool} (f : Fld E A B C x) (w : Wk E A C x d) (nc : ¬ C x) (e : E y x) : (∃ b d, B b ∧ Wk E A C b d) ∨ Wk E A C y false := by
  cases d with
  | false => exact .inr (.up w e (fun z => by cases z) fun _ => nc)
  | true =>
    by_cases h : An E C x
    · exact .inr (.up w e (fun _ => h) fun z => by cases z)
    · rcases esc f w h with q | q
      · exact .inl q
      · exact .inr (.up q e (fun z => by cases z) fun _ => nc)
theorem side_not (ha : ∀ x, A x → ¬ C x) {F : α → Prop} {x : α} (s : Side E A C F x) : ¬ C x := by
  cases s with
  | base h => exact ha _ h
  | step _ _ c => exact c
theorem side_walk (ha : ∀ x, A x → ¬ C x) {x : α} (s : Side E A C (Fld E A B C) x) : (∃ b d, B b ∧ Wk E A C b d) ∨ ∃ d, Wk E A C x d := by
  induction s with
  | base h => exact .inr ⟨_, .nil h⟩
  | step h n c ih =>
    rename_i x y
    have nx := side_not ha h
    rcases ih with q | ⟨d, w⟩
    · exact .inl q
    obtain ⟨fx, fy, t | ⟨c, fc, e1, e2⟩⟩ := n
    · rcases t with e | e
      · exact .inr ⟨_, .down w e nx⟩
      · rcases leaveUp fx w nx e with q | q
        · exact .inl q
        · exact .inr ⟨_, q⟩
    · have wc := Wk.down w e1 nx
      by_cases h : An E C c
      · exact .inr ⟨_, .up wc e2 (fun _ => h) fun z => by cases z⟩
      · rcases esc fc wc h with q | q
        · exact .inl q
        · exact .inr ⟨_, .up q e2 (fun z => by cases z) fun _ z => h (.base z)⟩
/-! from walks to ways -/
def Hd (E : α → α → Prop) : List α → Prop
  | x :: w :: _ => E w x
  | _ => False
structure Way (E : α → α → Prop) (A C : α → Prop) (x : α) (p : List α) : Prop where
  opn : Opn E C (x :: p)
  nd : (x :: p).Nodup
  last : ∃ a, (x :: p).getLast? = some a ∧ A a
theorem Way.cut {x y : α} {l1 l2 p : List α} (h : Way E A C x p) (e : x :: p = l1 ++ y :: l2) : Way E A C y l2 where
  opn := by
    have := h.opn
    rw [e] at this
    exact this.suffix
  nd := by
    have := h.nd
    rw [e] at this
    exact (List.nodup_append.mp this).2.1
  last := by
    obtain ⟨a, h1, h2⟩ := h.last
    refine ⟨a, ?_, h2⟩
    rw [e] at h1
    rw [List.getLast?_append] at h1
    cases q : (y :: l2).getLast? with
    | none => simp at q
    | some b =>
      rw [q] at h1
      simpa using h1
theorem inv_down {C : α → Prop} : ∀ {l1 : List α} {x : α} {p : List α} {y : α} {l2 : List α}, Opn E C (x :: p) → (Hd E (x :: p) → An E C x) → x :: p = l1 ++ y :: l2 → Hd E (y :: l2) → An E C y
  | [], x, p, y, l2, _, i, e, hy => by
    cases e
    exact i hy
  | u :: l1, x, p, y, l2, o, i, e, hy => by
    have e0 : x = u ∧ p = l1 ++ y :: l2 := by simpa using e
    cases p with
    | nil => simp at e0
    | cons z q =>
      refine inv_down (l1 := l1) (x := z) (p := q) o.tail (fun hz => ?_) e0.2 hy
      cases q with
      | nil => exact hz.elim
      | cons w q =>
        have hz : E w z := hz
        rcases o.1 with t | t
        · rcases o.2.1 with ⟨_, _, a⟩ | ⟨n, _⟩
          · exact a
          · exact (n ⟨t, hz⟩).elim
        · exact .step t (i t)
theorem walk_way (ha : ∀ x, A x → ¬ C x) (asy : ∀ x y, E x y → ¬ E y x) {x : α} {d : Bool} (w : Wk E A C x d) : ∃ p, Way E A C x p ∧ (d = true → Hd E (x :: p) ∨ ¬ C x) ∧ (d = false → ¬ Hd E (x :: p) ∨ An E C x) := by
  induction w with
  | nil h => exact ⟨[], ⟨trivial, List.nodup_cons.mpr ⟨by simp, List.nodup_nil⟩, _, rfl, h⟩, (fun z => by cases z), fun _ => .inl fun z => z.elim⟩
  | down w e c ih =>
    rename_i x y d
    obtain ⟨p, wy, h1, h2⟩ := ih
    by_cases m : y ∈ x :: p
    · obtain ⟨l1, l2, el⟩ := List.append_of_mem m
      refine ⟨l2, wy.cut el, fun _ => ?_, fun z => by cases z⟩
      cases l2 with
      | nil =>
        obtain ⟨a, q1, q2⟩ := (wy.cut el).last
        simp at q1
        subst q1
        exact .inr (ha _ q2)
      | cons w l2 =>
        by_cases hw : E w y
        · exact .inl hw
        · refine .inr ?_
          rcases List.eq_nil_or_concat l1 with rfl | ⟨l1, u, rfl⟩
          · simp at el
            obtain ⟨e1, _⟩ := el
            subst e1
            exact (asy _ _ e e).elim
          · have o := wy.opn
            rw [el, List.concat_eq_append, List.append_assoc] at o
            have o : Opn E C (u :: y :: w :: l2) := o.suffix
            rcases o.2.1 with ⟨_, q, _⟩ | ⟨_, q⟩
            · exact (hw q).elim
            · exact q
    · refine ⟨x :: p, ⟨?_, List.nodup_cons.mpr ⟨m, wy.nd⟩, ?_⟩, fun _ => .inl e, fun z => by cases z⟩
      · cases p with
        | nil => exact .inr e
        | cons w p => exact ⟨.inr e, .inr ⟨fun z => asy x y e z.1, c⟩, wy.opn⟩
      · obtain ⟨a, q1, q2⟩ := wy.last
        exact ⟨a, by rw [List.getLast?_cons_cons]; exact q1, q2⟩
  | up w e c1 c2 ih =>
    rename_i x y d
    obtain ⟨p, wy, h1, h2⟩ := ih
    have hc : Hd E (x :: p) → An E C x := fun h => by
      cases d with
      | true => exact c1 rfl
      | false => exact (h2 rfl).resolve_left fun n => n h
    have hn : ¬ Hd E (x :: p) → ¬ C x := fun h => by
      cases d with
      | true => exact (h1 rfl).resolve_left h
      | false => exact c2 rfl
    by_cases m : y ∈ x :: p
    · obtain ⟨l1, l2, el⟩ := List.append_of_mem m
      refine ⟨l2, wy.cut el, (fun z => by cases z), fun _ => ?_⟩
      by_cases h : Hd E (y :: l2)
      · exact .inr (inv_down wy.opn hc el h)
      · exact .inl h
    · refine ⟨x :: p, ⟨?_, List.nodup_cons.mpr ⟨m, wy.nd⟩, ?_⟩, (fun z => by cases z), fun _ => .inl (asy _ _ e)⟩
      · cases p with
        | nil => exact .inl e
        | cons w p =>
          refine ⟨.inl e, ?_, wy.opn⟩
          by_cases h : E w x
          · exact .inl ⟨e, h, hc h⟩
          · exact .inr ⟨fun z => h z.2, hn h⟩
      · obtain ⟨a, q1, q2⟩ := wy.last
        exact ⟨a, by rw [List.getLast?_cons_cons]; exact q1, q2⟩
/-! from ways to sides -/
theorem fld_an {x y : α} (e : E x y) (h : Fld E A B C y) : Fld E A B C x := .step e h
theorem fld_c {x : α} (h : An E C x) : Fld E A B C x := h.mono fun _ z => .inr (.inr z)
theorem head_in {A B C : α → Prop} : ∀ {x : α} {r : List α}, Opn E C (x :: r) → (∃ b, (x :: r).getLast? = some b ∧ B b) → Fld E A B C x ∨ ∃ n r', r = n :: r' ∧ E n x
  | x, [], _, ⟨b, h1, h2⟩ => by
    simp at h1
    subst h1
    exact .inl (.base (.inr (.inl h2)))
  | x, n :: r, o, ⟨b, h1, h2⟩ => by
    rw [List.getLast?_cons_cons] at h1
    rcases o.tie with e | e
    · rcases head_in o.tail ⟨b, h1, h2⟩ with f | ⟨m, r', er, em⟩
      · exact .inl (fld_an e f)
      · subst er
        rcases o.2.1 with ⟨_, _, q⟩ | ⟨q, _⟩
        · exact .inl (fld_an e (fld_c q))
        · exact (q ⟨e, em⟩).elim
    · exact .inr ⟨n, r, rfl, e⟩
theorem next_in {x n : α} {r : List α} (f : Fld E A B C x) (o : Opn E C (x :: n :: r)) (hb : ∃ b, (x :: n :: r).getLast? = some b ∧ B b) : Fld E A B C n := by
  obtain ⟨b, h1, h2⟩ := hb
  rw [List.getLast?_cons_cons] at h1
  rcases head_in o.tail ⟨b, h1, h2⟩ with q | ⟨m, r', er, em⟩
  · exact q
  · subst er
    rcases o.tie with e | e
    · rcases o.2.1 with ⟨_, _, q⟩ | ⟨q, _⟩
      · exact fld_c q
      · exact (q ⟨e, em⟩).elim
    · exact fld_an e f
theorem way_side (hb : ∀ x, B x → ¬ C x) (asy : ∀ x y, E x y → ¬ E y x) : ∀ (n : Nat) {x : α} {r : List α}, r.length ≤ n → Fld E A B C x → Side E A C (Fld E A B C) x → Opn E C (x :: r) → (∃ b, (x :: r).getLast? = some b ∧ B b) → ∃ b, B b ∧ Side E A C (Fld E A B C) b
  | _, x, [], _, f, s, o, ⟨b, h1, h2⟩ => by
    simp at h1
    subst h1
    exact ⟨x, h2, s⟩
  | 0, x, _ :: _, hl, _, _, _, _ => by simp at hl
  | k + 1, x, n :: r, hl, f, s, o, hbb => by
    have fn := next_in f o hbb
    obtain ⟨b, h1, h2⟩ := hbb
    rw [List.getLast?_cons_cons] at h1
    have hl : r.length ≤ k := by simpa using hl
    cases r with
    | nil =>
      simp at h1
      subst h1
      exact ⟨n, h2, .step s ⟨f, fn, .inl o.tie⟩ (hb _ h2)⟩
    | cons z r =>
      have fz := next_in fn o.tail ⟨b, h1, h2⟩
      rcases o.2.1 with ⟨e1, e2, q⟩ | ⟨_, q⟩
      · have nz : ¬ C z := by
          cases r with
          | nil =>
            simp at h1
            subst h1
            exact hb _ h2
          | cons u r =>
            rcases o.2.2.2.1 with ⟨e3, _⟩ | ⟨_, q⟩
            · exact (asy _ _ e2 e3).elim
            · exact q
        rw [List.getLast?_cons_cons] at h1
        exact way_side hb asy k (by simp at hl; omega) fz (.step s ⟨f, fz, .inr ⟨n, fn, e1, e2⟩⟩ nz) o.2.2.tail ⟨b, h1, h2⟩
      · exact way_side hb asy k hl fn (.step s ⟨f, fn, .inl o.tie⟩ q) o.2.2 ⟨b, h1, h2⟩
/-- an open way from a place of A to one of B -/
def Con (E : α → α → Prop) (A B C : α → Prop) : Prop := ∃ l a b, l.head? = some a ∧ l.getLast? = some b ∧ A a ∧ B b ∧ l.Nodup ∧ Opn E C l
theorem con_side (ha : ∀ x, A x → ¬ C x) (hb : ∀ x, B x → ¬ C x) (asy : ∀ x y, E x y → ¬ E y x) : Con E A B C ↔ ∃ b, B b ∧ Side E A C (Fld E A B C) b := by
  constructor
  · rintro ⟨l, a, b, h1, h2, h3, h4, _, h6⟩
    cases l with
    | nil => simp at h1
    | cons x r =>
      simp at h1
      subst h1
      exact way_side hb asy r.length (Nat.le_refl _) (.base (.inl h3)) (.base h3) h6 ⟨b, h2, h4⟩
  · rintro ⟨b, h1, h2⟩
    have : ∃ b d, B b ∧ Wk E A C b d := by
      rcases side_walk ha h2 with q | ⟨d, q⟩
      · exact q
      · exact ⟨b, d, h1, q⟩
    obtain ⟨b, d, hb1, w⟩ := this
    obtain ⟨p, wy, _⟩ := walk_way ha asy w
    obtain ⟨a, q1, q2⟩ := wy.last
    refine ⟨(b :: p).reverse, a, b, ?_, ?_, q2, hb1, nodup_rev wy.nd, wy.opn.rev⟩
    · rw [List.head?_reverse]
      exact q1
    · rw [List.getLast?_reverse]
      rfl
theorem con_symm : Con E A B C → Con E B A C := by
  rintro ⟨l, a, b, h1, h2, h3, h4, h5, h6⟩
  exact ⟨l.reverse, b, a, by rw [List.head?_reverse]; exact h2, by rw [List.getLast?_reverse]; exact h1, h4, h3, nodup_rev h5, h6.rev⟩
end
end
end DSep

namespace DSep
section
variable {α : Type} {E : α → α → Prop} {A B C D : α → Prop}
theorem Side.mono {C' F F' : α → Prop} (hc : ∀ x, C' x → C x) (hf : ∀ x, F x → F' x) {x : α} (s : Side E A C F x) : Side E A C' F' x := by
  induction s with
  | base h => exact .base h
  | step h n c ih => exact .step ih ⟨hf _ n.1, hf _ n.2.1, n.2.2.imp id fun ⟨c, q, e⟩ => ⟨c, hf _ q, e⟩⟩ fun z => c (hc _ z)
theorem con_left : Con E A B C → Con E A (fun x => B x ∨ D x) C := fun ⟨l, a, b, h1, h2, h3, h4, h5⟩ => ⟨l, a, b, h1, h2, h3, .inl h4, h5⟩
theorem con_right : Con E A D C → Con E A (fun x => B x ∨ D x) C := fun ⟨l, a, b, h1, h2, h3, h4, h5⟩ => ⟨l, a, b, h1, h2, h3, .inr h4, h5⟩
theorem con_or : Con E A (fun x => B x ∨ D x) C ↔ Con E A B C ∨ Con E A D C := ⟨fun ⟨l, a, b, h1, h2, h3, h4, h5⟩ => h4.elim (fun q => .inl ⟨l, a, b, h1, h2, h3, q, h5⟩) fun q => .inr ⟨l, a, b, h1, h2, h3, q, h5⟩, fun h => h.elim con_left con_right⟩
theorem con_single : Con E A B C ↔ ∃ b, B b ∧ Con E A (· = b) C := ⟨fun ⟨l, a, b, h1, h2, h3, h4, h5⟩ => ⟨b, h4, l, a, b, h1, h2, h3, rfl, h5⟩, fun ⟨b, hb, l, a, b', h1, h2, h3, h4, h5⟩ => ⟨l, a, b', h1, h2, h3, by rw [h4]; exact hb, h5⟩⟩
theorem Con.congr {A' B' C' : α → Prop} (h : Con E A B C) (ha : ∀ x, A x ↔ A' x) (hb : ∀ x, B x ↔ B' x) (hc : ∀ x, C x ↔ C' x) : Con E A' B' C' := by
  rw [← funext fun x => propext (ha x), ← funext fun x => propext (hb x), ← funext fun x => propext (hc x)]
  exact h
theorem Opn.prefix {l1 l2 : List α} (h : Opn E C (l1 ++ l2)) : Opn E C l1 := by
  have := h.rev
  rw [List.reverse_append] at this
  have := this.suffix.rev
  rwa [List.reverse_reverse] at this
theorem opn_more (h : Opn E C l) (hb : ∀ x ∈ l, ¬ B x) : Opn E (fun x => C x ∨ B x) l := by
  rw [opn_iff] at h ⊢
  refine ⟨h.1, fun i x y z h1 h2 h3 => ?_⟩
  rcases h.2 i x y z h1 h2 h3 with ⟨a, b, c⟩ | ⟨a, b⟩
  · exact .inl ⟨a, b, c.mono fun _ z => .inl z⟩
  · exact .inr ⟨a, fun q => q.elim b (hb _ (List.mem_of_getElem? h2))⟩
/-- what is open given more -/
theorem con_contract (h : Con E A D C) : Con E A B C ∨ Con E A D (fun x => C x ∨ B x) := by
  obtain ⟨l, a, d, h1, h2, h3, h4, h5, h6⟩ := h
  by_cases q : ∃ x ∈ l, B x
  · obtain ⟨x, m, bx⟩ := q
    obtain ⟨l1, l2, e⟩ := List.append_of_mem m
    refine .inl ⟨l1 ++ [x], a, x, ?_, by simp, h3, bx, ?_, ?_⟩
    · rw [e] at h1
      cases l1 with
      | nil => simpa using h1
      | cons y l1 => simpa using h1
    · rw [e, show l1 ++ x :: l2 = (l1 ++ [x]) ++ l2 by simp] at h5
      exact (List.nodup_append.mp h5).1
    · rw [e, show l1 ++ x :: l2 = (l1 ++ [x]) ++ l2 by simp] at h6
      exact h6.prefix
  · exact .inr ⟨l, a, d, h1, h2, h3, h4, h5, opn_more h6 fun x m z => q ⟨x, m, z⟩⟩
theorem fld_swap {x : α} : Fld E A D (fun x => C x ∨ B x) x ↔ Fld E A (fun x => B x ∨ D x) C x := ⟨fun h => h.mono fun _ z => by rcases z with z | z | z | z <;> simp [z], fun h => h.mono fun _ z => by rcases z with z | (z | z) | z <;> simp [z]⟩
theorem fld_swap2 {x : α} : Fld E A B (fun x => C x ∨ D x) x ↔ Fld E A (fun x => B x ∨ D x) C x := ⟨fun h => h.mono fun _ z => by rcases z with z | z | z | z <;> simp [z], fun h => h.mono fun _ z => by rcases z with z | (z | z) | z <;> simp [z]⟩
section
variable (ac : ∀ x, A x → ¬ C x) (bc : ∀ x, B x → ¬ C x) (dc : ∀ x, D x → ¬ C x) (ab : ∀ x, A x → ¬ B x) (ad : ∀ x, A x → ¬ D x) (bd : ∀ x, B x → ¬ D x) (asy : ∀ x y, E x y → ¬ E y x)
include ac bc dc ab ad bd asy
/-- moved to what is known -/
theorem con_weak (h : Con E A D (fun x => C x ∨ B x)) : Con E A (fun x => B x ∨ D x) C := by
  rw [con_side (fun x z q => q.elim (ac x z) (ab x z)) (fun x z q => q.elim (dc x z) fun q => bd x q z) asy] at h
  rw [con_side ac (fun x z => z.elim (bc x) (dc x)) asy]
  obtain ⟨d, hd, s⟩ := h
  exact ⟨d, .inr hd, s.mono (fun _ z => .inl z) fun _ z => fld_swap.mp z⟩
theorem con_weak2 (h : Con E A B (fun x => C x ∨ D x)) : Con E A (fun x => B x ∨ D x) C := by
  rw [con_side (fun x z q => q.elim (ac x z) (ad x z)) (fun x z q => q.elim (bc x z) (bd x z)) asy] at h
  rw [con_side ac (fun x z => z.elim (bc x) (dc x)) asy]
  obtain ⟨d, hd, s⟩ := h
  exact ⟨d, .inl hd, s.mono (fun _ z => .inl z) fun _ z => fld_swap2.mp z⟩
/-- both -/
theorem con_both (h : Con E A (fun x => B x ∨ D x) C) : Con E A B (fun x => C x ∨ D x) ∨ Con E A D (fun x => C x ∨ B x) := by
  rw [con_side (fun x z q => q.elim (ac x z) (ad x z)) (fun x z q => q.elim (bc x z) (bd x z)) asy, con_side (fun x z q => q.elim (ac x z) (ab x z)) (fun x z q => q.elim (dc x z) fun q => bd x q z) asy]
  rw [con_side ac (fun x z => z.elim (bc x) (dc x)) asy] at h
  rw [show (Fld E A B fun x => C x ∨ D x) = Fld E A (fun x => B x ∨ D x) C from funext fun x => propext fld_swap2, show (Fld E A D fun x => C x ∨ B x) = Fld E A (fun x => B x ∨ D x) C from funext fun x => propext fld_swap]
  generalize Fld E A (fun x => B x ∨ D x) C = F at *
  have key : ∀ x, Side E A C F x → (Side E A (fun x => C x ∨ B x ∨ D x) F x ∧ ¬ B x ∧ ¬ D x) ∨ (∃ b, B b ∧ Side E A (fun x => C x ∨ D x) F b) ∨ ∃ b, D b ∧ Side E A (fun x => C x ∨ B x) F b := by
    intro x s
    induction s with
    | base h => exact .inl ⟨.base h, ab _ h, ad _ h⟩
    | step h n c ih =>
      rename_i x y
      rcases ih with ⟨q1, q2, q3⟩ | q
      · by_cases hB : B y
        · exact .inr (.inl ⟨y, hB, .step (q1.mono (fun _ z => z.elim .inl fun z => .inr (.inr z)) fun _ z => z) n fun z => z.elim c (bd y hB)⟩)
        · by_cases hD : D y
          · exact .inr (.inr ⟨y, hD, .step (q1.mono (fun _ z => z.elim .inl fun z => .inr (.inl z)) fun _ z => z) n fun z => z.elim c hB⟩)
          · exact .inl ⟨.step q1 n fun z => by rcases z with z | z | z; exact c z; exact hB z; exact hD z, hB, hD⟩
      · exact .inr q
  obtain ⟨b, hb, s⟩ := h
  rcases key b s with ⟨_, q2, q3⟩ | q
  · exact (hb.elim q2 q3).elim
  · exact q
end
/-- a place, given its sources -/
theorem con_local (rk : α → Nat) (hrk : ∀ x y, E x y → rk x < rk y) {i : α} (hB : ∀ x, B x → ¬ E x i ∧ ¬ An (fun x y => E y x) (· = i) x) : ¬ Con E (· = i) B (fun x => E x i) := by
  have asy : ∀ x y, E x y → ¬ E y x := fun x y h h' => by have := hrk _ _ h; have := hrk _ _ h'; omega
  have up : ∀ x, An E (fun x => E x i) x → rk x < rk i := fun x h => by
    induction h with
    | base q => exact hrk _ _ q
    | step e _ ih => have := hrk _ _ e; omega
  have dn : ∀ x, An (fun x y => E y x) (· = i) x → rk i ≤ rk x := fun x h => by
    induction h with
    | base q => rw [q]; exact Nat.le_refl _
    | step e _ ih => have := hrk _ _ e; omega
  have go : ∀ (r : List α) (x n : α), Opn E (fun x => E x i) (x :: n :: r) → E x n → An (fun x y => E y x) (· = i) n → (∃ b, (x :: n :: r).getLast? = some b ∧ B b) → False := by
    intro r
    induction r with
    | nil =>
      rintro x n _ _ a ⟨b, h1, h2⟩
      simp at h1
      subst h1
      exact (hB _ h2).2 a
    | cons z r ih =>
      rintro x n o e a ⟨b, h1, h2⟩
      rw [List.getLast?_cons_cons] at h1
      rcases o.2.1 with ⟨_, _, q⟩ | ⟨q, _⟩
      · have := up _ q
        have := dn _ a
        omega
      · rcases o.2.2.tie with e2 | e2
        · exact ih n z o.2.2 e2 (.step e2 a) ⟨b, h1, h2⟩
        · exact q ⟨e, e2⟩
  rintro ⟨l, a, b, h1, h2, h3, h4, _, o⟩
  cases l with
  | nil => simp at h1
  | cons x r =>
    simp at h1
    subst h1
    subst h3
    cases r with
    | nil =>
      simp at h2
      subst h2
      exact (hB _ h4).2 (.base rfl)
    | cons n r =>
      rcases o.tie with e | e
      · exact go r x n o e (.step e (.base rfl)) ⟨b, h2, h4⟩
      · cases r with
        | nil =>
          simp at h2
          subst h2
          exact (hB _ h4).1 e
        | cons z r =>
          rcases o.2.1 with ⟨q, _⟩ | ⟨_, q⟩
          · exact asy _ _ e q
          · exact q e
theorem tie_con {i j : α} (h : Tie E i j) (n : i ≠ j) : Con E (· = i) (· = j) C := ⟨[i, j], i, j, rfl, rfl, rfl, rfl, by simpa using n, h⟩
end
end DSep

namespace DSep
section
variable {α : Type} {E M : α → α → Prop}
theorem near_symm {F : α → Prop} {x y : α} (h : Near E F x y) : Near E F y x := ⟨h.2.1, h.1, h.2.2.imp Tie.symm fun ⟨c, q, e1, e2⟩ => ⟨c, q, e2, e1⟩⟩
theorem side_trans {C F : α → Prop} {x u y : α} (h1 : Side E (· = x) C F u) (h2 : Side E (· = u) C F y) : Side E (· = x) C F y := by
  induction h2 with
  | base q => rw [q]; exact h1
  | step _ n c ih => exact .step ih n c
theorem side_symm {C F : α → Prop} {x y : α} (hx : ¬ C x) (h : Side E (· = x) C F y) : Side E (· = y) C F x := by
  induction h with
  | base q => subst q; exact .base rfl
  | step h n c ih =>
    rename_i u v
    have hu : ¬ C u := side_not (fun z q => by rw [q]; exact hx) h
    exact side_trans (.step (.base rfl) (near_symm n) hu) ih
theorem side_congr {A A' C F : α → Prop} (ha : ∀ x, A x → A' x) {x : α} (h : Side E A C F x) : Side E A' C F x := by
  induction h with
  | base q => exact .base (ha _ q)
  | step _ n c ih => exact .step ih n c
/-- lists of causes: the webs that an order and its sources make say nothing more -/
theorem imap (pos : α → Nat) (inj : ∀ x y, pos x = pos y → x = y) (asyE : ∀ x y, E x y → ¬ E y x) (up : ∀ x y, M x y → pos x < pos y)
    (H : ∀ v, ¬ Con E (· = v) (fun x => pos x < pos v ∧ ¬ M x v) (fun x => M x v)) : ∀ (k : Nat) (x y : α) (Z : α → Prop), x ≠ y → ¬ Z x → ¬ Z y → pos x < k → pos y < k → (∀ z, Z z → pos z < k) → Con E (· = x) (· = y) Z → Con M (· = x) (· = y) Z := by
  have asyM : ∀ x y, M x y → ¬ M y x := fun x y h h' => by have := up _ _ h; have := up _ _ h'; omega
  have anPos : ∀ (S : α → Prop) (k : Nat), (∀ z, S z → pos z < k) → ∀ x, An M S x → pos x < k := fun S k hS x h => by
    induction h with
    | base q => exact hS _ q
    | step e _ ih => have := up _ _ e; omega
  have cs : ∀ {x y : α} {Z : α → Prop}, ¬ Z x → ¬ Z y → (Con M (· = x) (· = y) Z ↔ Side M (· = x) Z (Fld M (· = x) (· = y) Z) y) := fun {x y Z} hx hy => by
    rw [con_side (fun z q => by rw [q]; exact hx) (fun z q => by rw [q]; exact hy) asyM]
    exact ⟨fun ⟨b, hb, s⟩ => Eq.mp (congrArg (Side M (· = x) Z (Fld M (· = x) (· = y) Z)) hb) s, fun s => ⟨y, rfl, s⟩⟩
  intro k
  induction k with
  | zero => intro x y Z _ _ _ h; exact absurd h (Nat.not_lt_zero _)
  | succ k ih =>
    -- the last place at an end
    have endV : ∀ (x v : α) (Z : α → Prop), pos v = k → pos x < k → (∀ z, Z z → pos z < k) → ¬ Z x → Con E (· = x) (· = v) Z → Con M (· = x) (· = v) Z := by
      intro x v Z hv hx hZ nx con
      have nv : ¬ Z v := fun z => by have := hZ v z; omega
      have ne : x ≠ v := fun e => by rw [e] at hx; omega
      refine Classical.byContradiction fun nc => ?_
      have nP : ¬ M x v := fun e => nc (tie_con (.inl e) ne)
      have hp : ∀ p, M p v → ¬ Z p → ¬ Con E (· = x) (· = p) Z := fun p e np c => by
        have hpk : pos p < k := by have := up _ _ e; omega
        have nep : x ≠ p := fun q => nP (by rw [q]; exact e)
        have c1 := ih x p Z nep nx np hx hpk hZ c
        rw [cs nx np] at c1
        refine nc ((cs nx nv).mpr (.step (c1.mono (fun _ z => z) fun z f => ?_) ⟨?_, ?_, .inl (.inl e)⟩ nv))
        · exact f.trans fun u hu => by
            rcases hu with rfl | rfl | hu
            · exact .base (.inl rfl)
            · exact .step e (.base (.inr (.inl rfl)))
            · exact .base (.inr (.inr hu))
        · exact .step e (.base (.inr (.inl rfl)))
        · exact .base (.inr (.inl rfl))
      rcases con_contract (B := fun p => M p v ∧ ¬ Z p) con with c | c
      · obtain ⟨p, ⟨h1, h2⟩, h3⟩ := con_single.mp c
        exact hp p h1 h2 h3
      · -- given all sources as well
        have c2 : Con E (· = v) (· = x) (fun z => M z v ∨ (Z z ∧ ¬ M z v)) := (con_symm c).congr (fun _ => Iff.rfl) (fun _ => Iff.rfl) fun z => by
          constructor
          · rintro (h | h)
            · by_cases q : M z v
              · exact .inl q
              · exact .inr ⟨h, q⟩
            · exact .inl h.1
          · rintro (h | h)
            · by_cases q : Z z
              · exact .inl q
              · exact .inr ⟨h, q⟩
            · exact .inl h.1
        have c3 := con_weak (A := (· = v)) (B := fun z => Z z ∧ ¬ M z v) (C := fun z => M z v) (D := (· = x)) (fun z q h => by rw [q] at h; exact asyM _ _ h h) (fun z q h => q.2 h) (fun z q h => nP (by rw [← q]; exact h)) (fun z q h => by rw [q] at h; exact nv h.1) (fun z q h => ne (by rw [← h]; exact q)) (fun z h q => nx (by rw [← q]; exact h.1)) asyE c2
        obtain ⟨b, hb, c4⟩ := con_single.mp c3
        refine H v (con_single.mpr ⟨b, ?_, c4⟩)
        rcases hb with hb | hb
        · exact ⟨by have := hZ b hb.1; omega, hb.2⟩
        · rw [hb]
          exact ⟨by omega, nP⟩
    intro x y Z ne nx ny hx hy hZ con
    by_cases ex : pos x = k
    · have hyk : pos y < k := by
        have : pos y ≠ k := fun e => ne (inj _ _ (ex.trans e.symm))
        omega
      exact con_symm (endV y x Z ex hyk (fun z hz => by
        have := hZ z hz
        have : pos z ≠ k := fun e => nx (by rw [inj x z (ex.trans e.symm)]; exact hz)
        omega) ny (con_symm con))
    by_cases ey : pos y = k
    · exact endV x y Z ey (by omega) (fun z hz => by
        have := hZ z hz
        have : pos z ≠ k := fun e => ny (by rw [inj y z (ey.trans e.symm)]; exact hz)
        omega) nx con
    have hxk : pos x < k := by omega
    have hyk : pos y < k := by omega
    by_cases ev : ∃ v, Z v ∧ pos v = k
    · obtain ⟨v, hv, pv⟩ := ev
      refine Classical.byContradiction fun nc => ?_
      -- without the last place
      have hZ' : ∀ z, (Z z ∧ z ≠ v) → pos z < k := fun z hz => by
        have := hZ z hz.1
        have : pos z ≠ k := fun e => hz.2 (inj _ _ (e.trans pv.symm))
        omega
      have nx' : ¬ (Z x ∧ x ≠ v) := fun h => nx h.1
      have ny' : ¬ (Z y ∧ y ≠ v) := fun h => ny h.1
      have nv' : ¬ (Z v ∧ v ≠ v) := fun h => h.2 rfl
      have fldUp : ∀ z, Fld M (· = x) (· = y) (fun z => Z z ∧ z ≠ v) z → Fld M (· = x) (· = y) Z z := fun z f => f.mono fun u hu => hu.imp id fun hu => hu.imp id fun h => h.1
      have na : ¬ Con M (· = x) (· = y) (fun z => Z z ∧ z ≠ v) := fun c => by
        rw [cs nx' ny'] at c
        refine nc ((cs nx ny).mpr ?_)
        have key : ∀ u, Side M (· = x) (fun z => Z z ∧ z ≠ v) (Fld M (· = x) (· = y) fun z => Z z ∧ z ≠ v) u → Side M (· = x) Z (Fld M (· = x) (· = y) Z) u := fun u s => by
          induction s with
          | base q => exact .base q
          | step _ n c ih =>
            rename_i a b _
            refine .step ih ⟨fldUp _ n.1, fldUp _ n.2.1, n.2.2.imp id fun ⟨c, q, e⟩ => ⟨c, fldUp _ q, e⟩⟩ fun hb => c ⟨hb, fun e => ?_⟩
            have := anPos _ k (fun z hz => by
              rcases hz with hz | hz | hz
              · rw [hz]; exact hxk
              · rw [hz]; exact hyk
              · exact hZ' z hz) b n.2.1
            rw [e] at this
            omega
        exact key y c
      -- the last step to the last place
      have last : ∀ a, pos a < k → ¬ (Z a ∧ a ≠ v) → a ≠ v → Con M (· = a) (· = v) (fun z => Z z ∧ z ≠ v) → ∃ u, M u v ∧ Side M (· = a) (fun z => Z z ∧ z ≠ v) (Fld M (· = a) (· = v) fun z => Z z ∧ z ≠ v) u := fun a ha na' nav c => by
        rw [cs na' nv'] at c
        have inF : ∀ z, Fld M (· = a) (· = v) (fun z => Z z ∧ z ≠ v) z → pos z < k + 1 := anPos _ _ fun z hz => by
          rcases hz with hz | hz | hz
          · rw [hz]; omega
          · rw [hz]; omega
          · have := hZ' z hz; omega
        generalize hF : Fld M (· = a) (· = v) (fun z => Z z ∧ z ≠ v) = F at c inF
        cases c with
        | base q => exact (nav q.symm).elim
        | @step u _ h n _ =>
          refine ⟨u, ?_, h⟩
          obtain ⟨f1, f2, (e | e) | ⟨d, fd, e1, e2⟩⟩ := n
          · exact e
          · have := up _ _ e; have := inF u f1; omega
          · have := up _ _ e2; have := inF d fd; omega
      have or : ¬ Con M (· = x) (· = v) (fun z => Z z ∧ z ≠ v) ∨ ¬ Con M (· = y) (· = v) (fun z => Z z ∧ z ≠ v) := by
        refine Classical.byContradiction fun no => ?_
        rw [not_or, Classical.not_not, Classical.not_not] at no
        obtain ⟨u, eu, su⟩ := last x hxk nx' (fun e => by rw [e] at hxk; omega) no.1
        obtain ⟨t, et, st⟩ := last y hyk ny' (fun e => by rw [e] at hyk; omega) no.2
        refine nc ((cs nx ny).mpr ?_)
        have lift : ∀ a, (a = x ∨ a = y) → pos a < k → ∀ z, Side M (· = a) (fun z => Z z ∧ z ≠ v) (Fld M (· = a) (· = v) fun z => Z z ∧ z ≠ v) z → pos z < k → Side M (· = a) Z (Fld M (· = x) (· = y) Z) z := fun a hax ha z s hz => by
          have fup : ∀ w, Fld M (· = a) (· = v) (fun z => Z z ∧ z ≠ v) w → Fld M (· = x) (· = y) Z w := fun w f => f.mono fun q hq => by
            rcases hq with hq | hq | hq
            · rcases hax with e | e
              · exact .inl (hq.trans e)
              · exact .inr (.inl (hq.trans e))
            · exact .inr (.inr (by rw [hq]; exact hv))
            · exact .inr (.inr hq.1)
          -- a walk that passes v passes two of its sources
          have gen : ∀ w, Side M (· = a) (fun z => Z z ∧ z ≠ v) (Fld M (· = a) (· = v) fun z => Z z ∧ z ≠ v) w → (w ≠ v → Side M (· = a) Z (Fld M (· = x) (· = y) Z) w) ∧ (w = v → ∃ q, M q v ∧ Side M (· = a) Z (Fld M (· = x) (· = y) Z) q) := fun w s => by
            induction s with
            | base q => exact ⟨fun _ => .base q, fun e => by rw [q] at e; rw [e] at ha; omega⟩
            | step _ n c ih =>
              rename_i b d _
              have inF : ∀ z, Fld M (· = a) (· = v) (fun z => Z z ∧ z ≠ v) z → pos z < k + 1 := anPos _ _ fun z hz => by
                rcases hz with hz | hz | hz
                · rw [hz]; omega
                · rw [hz]; omega
                · have := hZ' z hz; omega
              have n' : Near M (Fld M (· = x) (· = y) Z) b d := ⟨fup _ n.1, fup _ n.2.1, n.2.2.imp id fun ⟨c, q, e⟩ => ⟨c, fup _ q, e⟩⟩
              have nearV : ∀ {b d : α}, Near M (Fld M (· = a) (· = v) fun z => Z z ∧ z ≠ v) b d → d = v → M b v := fun {b d} n e => by
                subst e
                obtain ⟨f1, f2, (e | e) | ⟨g, fg, e1, e2⟩⟩ := n
                · exact e
                · have := up _ _ e; have := inF b f1; omega
                · have := up _ _ e2; have := inF g fg; omega
              refine ⟨fun nd => ?_, fun e => ?_⟩
              · by_cases eb : b = v
                · obtain ⟨q, eq, sq⟩ := ih.2 eb
                  have ed : M d v := nearV (near_symm n) eb
                  have fq : Fld M (· = x) (· = y) Z q := .step eq (.base (.inr (.inr hv)))
                  have fd : Fld M (· = x) (· = y) Z d := .step ed (.base (.inr (.inr hv)))
                  exact .step sq ⟨fq, fd, .inr ⟨v, .base (.inr (.inr hv)), eq, ed⟩⟩ fun hz => c ⟨hz, nd⟩
                · exact .step (ih.1 eb) n' fun hz => c ⟨hz, nd⟩
              · by_cases eb : b = v
                · exact ih.2 eb
                · exact ⟨b, nearV n e, ih.1 eb⟩
          exact (gen z s).1 fun e => by rw [e] at hz; omega
        have hu := lift x (.inl rfl) hxk u su (by have := up _ _ eu; omega)
        have ht := lift y (.inr rfl) hyk t st (by have := up _ _ et; omega)
        have nt : ¬ Z t := side_not (fun z q => by rw [q]; exact ny) ht
        have fu : Fld M (· = x) (· = y) Z u := .step eu (.base (.inr (.inr hv)))
        have ft : Fld M (· = x) (· = y) Z t := .step et (.base (.inr (.inr hv)))
        exact side_trans (.step hu ⟨fu, ft, .inr ⟨v, .base (.inr (.inr hv)), eu, et⟩⟩ nt) (side_symm ny ht)
      have fin : ∀ a b, pos a < k → pos b < k → a ≠ b → ¬ Z a → ¬ Z b → ¬ Con M (· = a) (· = v) (fun z => Z z ∧ z ≠ v) → ¬ Con M (· = a) (· = b) (fun z => Z z ∧ z ≠ v) → ¬ Con E (· = a) (· = b) Z := fun a b ha hb nab na nb n1 n2 c => by
        have nav : a ≠ v := fun e => by rw [e] at ha; omega
        have nbv : b ≠ v := fun e => by rw [e] at hb; omega
        have c2 : Con E (· = a) (· = b) (fun z => (Z z ∧ z ≠ v) ∨ z = v) := c.congr (fun _ => Iff.rfl) (fun _ => Iff.rfl) fun z => by
          constructor
          · intro h
            by_cases q : z = v
            · exact .inr q
            · exact .inl ⟨h, q⟩
          · rintro (h | h)
            · exact h.1
            · rw [h]; exact hv
        have c3 := con_weak (A := (· = a)) (B := (· = v)) (C := fun z => Z z ∧ z ≠ v) (D := (· = b)) (fun z q h => na (by rw [← q]; exact h.1)) (fun z q h => h.2 q) (fun z q h => nb (by rw [← q]; exact h.1)) (fun z q h => nav (q.symm.trans h)) (fun z q h => nab (q.symm.trans h)) (fun z q h => nbv (h.symm.trans q)) asyE c2
        rcases con_or.mp c3 with q | q
        · exact n1 (endV a v _ pv ha hZ' (fun h => na h.1) q)
        · exact n2 (ih a b _ nab (fun h => na h.1) (fun h => nb h.1) ha hb hZ' q)
      rcases or with o | o
      · exact fin x y hxk hyk ne nx ny o na con
      · exact fin y x hyk hxk (Ne.symm ne) ny nx o (fun c => na (con_symm c)) (con_symm con)
    · exact ih x y Z ne nx ny hxk hyk (fun z hz => by
        have := hZ z hz
        have : pos z ≠ k := fun e => ev ⟨z, hz, e⟩
        omega) con
end
end DSep

namespace DSep
section
variable {α : Type} {E E' : α → α → Prop} {A B C : α → Prop}
theorem An.sub (h : ∀ x y, E' x y → E x y) {S : α → Prop} {x : α} (a : An E' S x) : An E S x := by
  induction a with
  | base q => exact .base q
  | step e _ ih => exact .step (h _ _ e) ih
/-- an arrow less says no less -/
theorem con_less (h : ∀ x y, E' x y → E x y) (asy : ∀ x y, E x y → ¬ E y x) : Con E' A B C → Con E A B C := by
  rintro ⟨l, a, b, h1, h2, h3, h4, h5, h6⟩
  refine ⟨l, a, b, h1, h2, h3, h4, h5, ?_⟩
  rw [opn_iff] at h6 ⊢
  have tie : ∀ {x y}, Tie E' x y → Tie E x y := fun t => t.imp (h _ _) (h _ _)
  have back : ∀ {x y}, Tie E' x y → E x y → E' x y := fun t e => t.resolve_right fun q => asy _ _ e (h _ _ q)
  refine ⟨fun i x y q1 q2 => tie (h6.1 i x y q1 q2), fun i x y z q1 q2 q3 => ?_⟩
  have t1 := h6.1 i x y q1 q2
  have t2 := h6.1 (i + 1) y z q2 q3
  rcases h6.2 i x y z q1 q2 q3 with ⟨a, b, c⟩ | ⟨a, b⟩
  · exact .inl ⟨h _ _ a, h _ _ b, c.sub h⟩
  · exact .inr ⟨fun q => a ⟨back t1 q.1, back t2.symm q.2⟩, b⟩
end
section
variable {α β : Type} {E : β → β → Prop} {E' : α → α → Prop} {φ : α → β} {dom : α → Prop} {A B C S : β → Prop} {A' B' C' S' : α → Prop}
/-- the image of a lot -/
def Img (φ : α → β) (dom S' : α → Prop) (S : β → Prop) : Prop := (∀ x, S' x → dom x) ∧ ∀ y, S y ↔ ∃ x, S' x ∧ φ x = y
variable (inj : ∀ x y, dom x → dom y → φ x = φ y → x = y) (hE : ∀ x y, dom x → dom y → (E' x y ↔ E (φ x) (φ y))) (hD : ∀ x y, E' x y → dom x ∧ dom y) (cl : ∀ y x, dom x → E y (φ x) → ∃ z, dom z ∧ φ z = y)
include inj hE hD cl
theorem an_up (h : Img φ dom S' S) {x : α} (a : An E' S' x) : dom x ∧ An E S (φ x) := by
  induction a with
  | base q => exact ⟨h.1 _ q, .base ((h.2 _).mpr ⟨_, q, rfl⟩)⟩
  | step e _ ih =>
    obtain ⟨d1, d2⟩ := hD _ _ e
    exact ⟨d1, .step ((hE _ _ d1 d2).mp e) ih.2⟩
theorem an_dn (h : Img φ dom S' S) {y : β} (a : An E S y) : ∃ x, dom x ∧ φ x = y ∧ An E' S' x := by
  induction a with
  | base q =>
    obtain ⟨x, q1, q2⟩ := (h.2 _).mp q
    exact ⟨x, h.1 _ q1, q2, .base q1⟩
  | step e _ ih =>
    obtain ⟨x, d, rfl, a⟩ := ih
    obtain ⟨z, dz, rfl⟩ := cl _ _ d e
    exact ⟨z, dz, rfl, .step ((hE _ _ dz d).mpr e) a⟩
theorem con_map (hA : Img φ dom A' A) (hB : Img φ dom B' B) (hC : Img φ dom C' C) (ac : ∀ x, A x → ¬ C x) (bc : ∀ x, B x → ¬ C x) (asy : ∀ x y, E x y → ¬ E y x) : Con E' A' B' C' ↔ Con E A B C := by
  have back : ∀ {S' : α → Prop} {S : β → Prop}, Img φ dom S' S → ∀ {x : α}, dom x → S (φ x) → S' x := @fun S' S h x d q => by
    obtain ⟨z, q1, q2⟩ := (h.2 _).mp q
    rw [inj _ _ d (h.1 _ q1) q2.symm]
    exact q1
  have asy' : ∀ x y, E' x y → ¬ E' y x := fun x y e e' => by
    obtain ⟨d1, d2⟩ := hD _ _ e
    exact asy _ _ ((hE _ _ d1 d2).mp e) ((hE _ _ d2 d1).mp e')
  have hF : Img φ dom (fun x => A' x ∨ B' x ∨ C' x) (fun x => A x ∨ B x ∨ C x) := by
    refine ⟨fun x q => ?_, fun y => ⟨fun q => ?_, ?_⟩⟩
    · rcases q with q | q | q
      · exact hA.1 _ q
      · exact hB.1 _ q
      · exact hC.1 _ q
    · rcases q with q | q | q
      · obtain ⟨x, a, b⟩ := (hA.2 _).mp q; exact ⟨x, .inl a, b⟩
      · obtain ⟨x, a, b⟩ := (hB.2 _).mp q; exact ⟨x, .inr (.inl a), b⟩
      · obtain ⟨x, a, b⟩ := (hC.2 _).mp q; exact ⟨x, .inr (.inr a), b⟩
    · rintro ⟨x, q | q | q, rfl⟩
      · exact .inl ((hA.2 _).mpr ⟨x, q, rfl⟩)
      · exact .inr (.inl ((hB.2 _).mpr ⟨x, q, rfl⟩))
      · exact .inr (.inr ((hC.2 _).mpr ⟨x, q, rfl⟩))
  rw [con_side (fun x a c => ac _ ((hA.2 _).mpr ⟨x, a, rfl⟩) ((hC.2 _).mpr ⟨x, c, rfl⟩)) (fun x b c => bc _ ((hB.2 _).mpr ⟨x, b, rfl⟩) ((hC.2 _).mpr ⟨x, c, rfl⟩)) asy', con_side ac bc asy]
  constructor
  · rintro ⟨b, hb, s⟩
    refine ⟨φ b, (hB.2 _).mpr ⟨b, hb, rfl⟩, ?_⟩
    have key : ∀ x, Side E' A' C' (Fld E' A' B' C') x → dom x ∧ Side E A C (Fld E A B C) (φ x) := fun x s => by
      induction s with
      | base q => exact ⟨hA.1 _ q, .base ((hA.2 _).mpr ⟨_, q, rfl⟩)⟩
      | step _ n c ih =>
        obtain ⟨f1, f2, t⟩ := n
        obtain ⟨d1, g1⟩ := an_up inj hE hD cl hF f1
        obtain ⟨d2, g2⟩ := an_up inj hE hD cl hF f2
        refine ⟨d2, .step ih.2 ⟨g1, g2, ?_⟩ fun q => c (back hC d2 q)⟩
        rcases t with (e | e) | ⟨w, fw, e1, e2⟩
        · exact .inl (.inl ((hE _ _ d1 d2).mp e))
        · exact .inl (.inr ((hE _ _ d2 d1).mp e))
        · obtain ⟨dw, gw⟩ := an_up inj hE hD cl hF fw
          exact .inr ⟨_, gw, (hE _ _ d1 dw).mp e1, (hE _ _ d2 dw).mp e2⟩
    exact (key b s).2
  · rintro ⟨y, hy, s⟩
    have key : ∀ y, Side E A C (Fld E A B C) y → ∃ x, dom x ∧ φ x = y ∧ Side E' A' C' (Fld E' A' B' C') x := fun y s => by
      induction s with
      | base q =>
        obtain ⟨x, q1, q2⟩ := (hA.2 _).mp q
        exact ⟨x, hA.1 _ q1, q2, .base q1⟩
      | step _ n c ih =>
        obtain ⟨x, dx, rfl, sx⟩ := ih
        obtain ⟨f1, f2, t⟩ := n
        obtain ⟨x1, d1, e1, g1⟩ := an_dn inj hE hD cl hF f1
        rw [inj _ _ d1 dx e1] at g1
        obtain ⟨x2, d2, rfl, g2⟩ := an_dn inj hE hD cl hF f2
        refine ⟨x2, d2, rfl, .step sx ⟨g1, g2, ?_⟩ fun q => c ((hC.2 _).mpr ⟨_, q, rfl⟩)⟩
        rcases t with (e | e) | ⟨w, fw, e1, e2⟩
        · exact .inl (.inl ((hE _ _ dx d2).mpr e))
        · exact .inl (.inr ((hE _ _ d2 dx).mpr e))
        · obtain ⟨w', dw, rfl, gw⟩ := an_dn inj hE hD cl hF fw
          exact .inr ⟨w', gw, (hE _ _ dx dw).mpr e1, (hE _ _ d2 dw).mpr e2⟩
    obtain ⟨x, dx, e, sx⟩ := key y s
    exact ⟨x, back hB dx (by rw [e]; exact hy), sx⟩
end
end DSep

namespace Say
open L2 PyProof.Rows PySem.Spec PySem
/-- a tuple whose object is known to have no dict -/
def Tp (H : Hp) (a : Addr) (vs : List V) : Prop := ∃ o, H a = some (.frz o (.tup vs)) ∧ o.dict = none
theorem Tp.sq {K : PySem.W.Frag} {H : Hp} {a : Addr} {vs : List V} (h : Tp H a vs) : SqT K H a vs := by
  obtain ⟨o, e, _⟩ := h
  exact .inl (.inr ⟨o, e⟩)
/-- a new one at q -/
def NewT (H : Hp) (vs : List V) (Q : VK) : Prop := ∀ q o, H q = none → o.dict = none → Q (.ref q) (upd H q (.frz o (.tup vs)))
section
variable {X : Cx} {es : List Expr} {t : TA} {pos : Pos}
theorem laidT {pins : List (Addr × Obj)} {σ : L2.St} {H : Hp} {s : Shared} {Q : VK} {vs : List V} {us : List Value} (I : Inv X pins σ H s) (z : vs.length ≤ sizeLine) (r : Vals vs us) (q : NewT H vs Q) :
    EP X pins σ Q (.ref s.heap.objs.size) { s with heap := s.heap.push { cls := .type "tuple", data := .seq us.toArray } } := by
  have g : (s.heap.push { cls := .type "tuple", data := .seq us.toArray }).get? s.heap.objs.size = some { cls := .type "tuple", data := .seq us.toArray } := Heap.get?_push_size _ rfl
  refine ⟨.ref s.heap.objs.size, _, I.laid (t' := s.toks) (o := .frz { cls := .type "tuple", data := .seq us.toArray } (.tup vs)) (fun b ob w => Heap.get?_push_of_some _ w) (Nat.le_refl _) ?_, rfl, q _ _ (I.hok.fresh (Nat.le_refl _)) rfl⟩
  exact ⟨g, z, us, r, ⟨_, g, rfl, _, rfl⟩⟩
theorem pe_tupF {x1} (h : PA X es t) : PE X (.Tuple es x1 pos) (fun σ H Q => t σ H fun xs H1 => xs.length ≤ sizeLine ∧ NewT H1 xs Q) := by
  refine ⟨fun pins s σ H Q I hq => wpAny_Tuple_spliced (thn (h.run pos pins s σ H _ I hq) fun us s1 ⟨xs, H1, I1, r, z, q⟩ => ⟨by rw [← r.length]; exact z, laidT I1 z r q⟩)⟩
theorem call_tupleF : CallR X (.type "tuple") (fun xs H Q => ∃ p ys, xs = [.ref p] ∧ ((SqL X.K H p ys ∧ NewT H ys Q) ∨ (SqT X.K H p ys ∧ Q (.ref p) H))) := by
  intro pins s σ
      H xs us Q I r h
  obtain ⟨p, ys, e, h⟩ := h
  rcases h with ⟨sq, q⟩ | ⟨sq, q⟩
  · subst e
    obtain ⟨u, rfl, w⟩ := vals1 r
    cases w
    obtain ⟨its, rv, pl, z⟩ := I.list sq
    have n := rv.length
    exact call_tuple_list pl.isList (fun h' kp => laidT (I.kept (t' := s.toks) kp) z rv q) (by simp only [List.size_toArray] <;> omega)
  · exact call_tuple_of pins s σ H xs us Q I r ⟨p, ys, e, .inr ⟨sq, q⟩⟩
def rSlF (K : PySem.W.Frag) : V → Option Int → Option Int → Hp → VK → Prop := fun x lo hi H Q => ∃ a xs, x = .ref a ∧ SqT K H a xs ∧
  (HT.sIx xs.length 0 lo = 0 ∧ HT.sIx xs.length xs.length hi = xs.length → Q (.ref a) H) ∧ (¬ (HT.sIx xs.length 0 lo = 0 ∧ HT.sIx xs.length xs.length hi = xs.length) → NewT H (cutV xs lo hi) Q)
theorem sl_tupF : SlR X (rSlF X.K) := by
  intro pins s σ H x v vl vu
      lo hi sl Q I rx hs pl pu h
  obtain ⟨a, xs, e, sq, q1, q2⟩ := h
  by_cases hw : HT.sIx xs.length 0 lo = 0 ∧
      HT.sIx xs.length xs.length hi = xs.length
  · exact sl_tupA pins s σ H x v vl vu lo hi sl Q I rx hs pl pu ⟨a, xs, e, sq, q1, fun n => absurd hw n⟩
  · subst e
    cases rx
    obtain ⟨its, r, tp, z⟩ := I.tuple sq
    have n : its.toArray.size = xs.length := by rw [List.size_toArray, r.length]
    refine ⟨"tuple", _, PyProof.Rows.slot_tuple_getitem.lookup, tp.typeIs, HT.getItem_tuple_cut tp hs pl pu (by rw [n]; exact hw) ?_ (by rw [n]; exact z)⟩
    rw [n]
    exact laidT I (Nat.le_trans (cutV_length xs lo hi) z) ((r.drop (HT.sIx xs.length 0 lo)).take _) (q2 hw)
def rCatF (K : PySem.W.Frag) : R2 := fun x y H Q => ∃ a b xs ys, x = .ref a ∧ y = .ref b ∧ SqT K H a xs ∧ SqT K H b ys ∧ xs.length + ys.length ≤ sizeLine ∧
  (xs = [] → Q (.ref b) H) ∧ (xs ≠ [] → ys = [] → Q (.ref a) H) ∧ (xs ≠ [] → ys ≠ [] → NewT H (xs ++ ys) Q)
theorem op_catF : OpR X (binaryOp .Add) (rCatF X.K) := by
  intro pins s σ H x
      y v u Q I rx ry h
  obtain ⟨a, b, xs, ys, e1, e2, ha, hb, z, q0, q1, q2⟩ := h
  by_cases two : xs ≠ [] ∧ ys ≠ []
  · subst e1
    subst e2
    cases rx
    cases ry
    obtain ⟨us, r1, p1, _⟩ := I.tuple ha
    obtain ⟨ws, r2, p2, _⟩ := I.tuple hb
    refine HT.cat_tup p1 p2 (fun w => two.1 (r1.nil_iff.mp w)) (fun w => absurd (r2.nil_iff.mp w) two.2) (fun w => ?_) (by rw [← r1.length, ← r2.length]; exact z)
    exact laidT I (by rw [List.length_append]; exact z) (r1.append r2) (q2 two.1 two.2)
  · exact op_catA pins s σ H x y v u Q I rx ry ⟨a, b, xs, ys, e1, e2, ha, hb, z, q0, q1, fun w1 w2 => absurd ⟨w1, w2⟩ two⟩
/-- a method of such a tuple -/
theorem pe_tm {o e : Expr} {es : List Expr} {to : TE} {t : TA} {name : Str} {apos cpos : Pos} {id : String} {r : V → List V → Hp → VK → Prop} (slot : Slot "tuple" name id) (hty : typeOf (.builtin id) = pure (.type "method_descriptor")) (hm : MtR X id r) (ho : PE X o to) (ha : PA X (e :: es) t)
    (hbase : attributeBase o name X.env (eval o X.env) = eval o X.env :=
        by rfl)
    (few : ((backTo cpos (starEach (e :: es) X.env)).all (fun x => !x.1) && (backToKw cpos (keywordEach [] X.env)).all (fun x => x.1.isSome) && decide ((e :: es).length + ([] : List Keyword).length + (if ([] : List Keyword).isEmpty then 0 else 1) < 30)) = true := by rfl)
    (line : (apos.endLine == cpos.line) = true := by rfl) (hs : starEach (e :: es) X.env = (false, eval e X.env) :: starEach es X.env := by rfl) (plain : (backTo cpos (starEach es X.env)).any (·.1) = false := by rfl) :
    PE X (.Call (.Attribute o name apos) (e :: es) [] cpos) (fun σ H Q => to σ H fun x H1 => (∃ a vs, x = .ref a ∧ Tp H1 a vs) ∧ t σ H1 fun xs H2 => r x xs H2 Q) := by
  refine ⟨fun pins s σ H Q I h => wpAny_Call_method_late hbase few line rfl (thn (ho.run pins s σ H _ I h) fun v s1 ⟨x, H1, I1, r1, ty, q1⟩ => ?_)⟩
  obtain ⟨a, vs, e1, ob, e2, nd⟩ := ty
  have g := I1.hok _ _ e2
  obtain ⟨g1, g2, g3, g4, o2, g5, g6, g7⟩ := (show s1.heap.get? a = some ob ∧ ObjOk X.prog X.w H1 s1.heap a (.tup vs) from g)
  have g8 : o2 = ob := Option.some.inj (g5.symm.trans g1)
  subst g8
  have ev : v = .ref a := by rw [e1] at r1; exact r1
  refine ⟨"tuple", id, PySem.F.plainAttrs_tuple, slot, hty, by rw [ev]; exact ⟨_, g1, g6⟩, fun b eb => ⟨_, by rw [ev] at eb; cases eb; exact g1, nd⟩, ?_⟩
  have got := ha.run cpos pins s1 σ H1 _ I1 q1
  rw [hs] at got ⊢
  refine Calls.callWith_builtin (by show (false || (backTo cpos (starEach es X.env)).any (·.1)) = false; rw [plain] <;> rfl) (Calls.evalArgs_plain (thn got fun us s2 ⟨ws, H2, I2, r2, q2⟩ => hm pins s2 σ H2 x ws v us Q I2 r1 r2 q2))
end
end Say

namespace Say
open L2 PyProof.Rows PySem.Spec PySem

/-! ### data -/
inductive D where
  | non | bl (b : Bool) | int (i : Int) | str (s : Str)
  | tup (xs : List D) | itm (xs : List D) | lst (xs : List D) | dct (kvs : List (D × D)) | ins (c : Str) (fs : List (Str × D))
  | pen | fn (x : Str)
deriving Inhabited

def putD (f : Str) (d : D) : List (Str × D) → List (Str × D)
  | [] => [(f, d)]
  | (g, x) :: r => if g = f then (g, d) :: r else (g, x) :: putD f d r
/-- the law's pen -/
structure Pen where
  cells : List Int
  pos : Nat
  digits : Int
  count : Int
  fold : Int

inductive Out (α : Type) where
  | ok (a : α) (s : Pen)
  | exc (c : Str) (fs : List (Str × D)) (s : Pen)
  | bad
def M (α : Type) : Type := Pen → Out α
def M.pure {α : Type} (a : α) : M α := fun s => .ok a s
def M.bind {α β : Type} (m : M α) (f : α → M β) : M β := fun s => match m s with
  | .ok a s' => f a s'
  | .exc c fs s' => .exc c fs s'
  | .bad => .bad
instance : Monad M where
  pure := M.pure
  bind := M.bind
def bad {α : Type} : M α := fun _ => .bad
def raise {α : Type} (c : Str) (fs : List (Str × D)) : M α := fun s => .exc c fs s
@[simp] theorem pure_bind {α β : Type} (a : α) (f : α → M β) : ((pure a : M α) >>= f) = f a := by
  funext s
  rfl
@[simp] theorem bind_pure {α : Type} (m : M α) : (m >>= fun a => (pure a : M α)) = m := by
  funext s
  show (match m s with | .ok a s' => Out.ok a s' | .exc c fs s' => .exc c fs s' | .bad => .bad) = m s
  cases m s <;> rfl
@[simp] theorem bind_assoc {α β γ : Type} (m : M α) (f : α → M β) (g : β → M γ) : ((m >>= f) >>= g) = (m >>= fun a => f a >>= g) := by
  funext s
  show (match (match m s with | .ok a s' => f a s' | .exc c fs s' => .exc c fs s' | .bad => .bad) with | .ok a s' => g a s' | .exc c fs s' => .exc c fs s' | .bad => .bad) = (match m s with | .ok a s' => (f a >>= g) s' | .exc c fs s' => .exc c fs s' | .bad => .bad)
  cases m s <;> rfl
@[simp] theorem bad_bind {α β : Type} (f : α → M β) : ((bad : M α) >>= f) = bad := by
  funext s
  rfl

def wpM {α : Type} (m : M α) (s : Pen) (R : α → Pen → Prop) (Ex : Str → List (Str × D) → Pen → Prop) : Prop := match m s with
  | .ok a s' => R a s'
  | .exc c fs s' => Ex c fs s'
  | .bad => False
theorem wp_pure {α : Type} {a : α} {s : Pen} {R : α → Pen → Prop} {Ex : Str → List (Str × D) → Pen → Prop} : wpM (pure a) s R Ex = R a s := rfl
theorem wp_bad {α : Type} {s : Pen} {R : α → Pen → Prop} {Ex : Str → List (Str × D) → Pen → Prop} : wpM bad s R Ex = False := rfl
theorem wp_bind {α β : Type} {m : M α} {f : α → M β} {s : Pen} {R : β → Pen → Prop} {Ex : Str → List (Str × D) → Pen → Prop} : wpM (m >>= f) s R Ex = wpM m s (fun a s' => wpM (f a) s' R Ex) Ex := by
  show (match (match m s with | .ok a s' => f a s' | .exc c fs s' => .exc c fs s' | .bad => .bad) with | .ok a s' => R a s' | .exc c fs s' => Ex c fs s' | .bad => False) = (match m s with | .ok a s' => wpM (f a) s' R Ex | .exc c fs s' => Ex c fs s' | .bad => False)
  cases m s <;> rfl
theorem wp_mono {α : Type} {m : M α} {s : Pen} {R R' : α → Pen → Prop} {Ex Ex' : Str → List (Str × D) → Pen → Prop} (h : wpM m s R Ex) (hR : ∀ a s, R a s → R' a s) (hE : ∀ c fs s, Ex c fs s → Ex' c fs s) : wpM m s R' Ex' := by
  unfold wpM at h ⊢
  cases e : m s with
  | ok a s' => rw [e] at h; exact hR _ _ h
  | exc c fs s' => rw [e] at h; exact hE _ _ _ h
  | bad => rw [e] at h; exact h

/-! ### data in the heap -/
structure PL where
  pa : Addr
  ca : Addr
  /-- the instance that an __init__ fills -/
  sx : Addr
section
variable (K : PySem.W.Frag) (p : PL) (H : Hp) (F : Addr → Prop)
mutual
inductive Rep : V → D → Prop
  | non : Rep .non .non
  | bl (b : Bool) : Rep (.bl b) (.bl b)
  | int (i : Int) : Rep (.int i) (.int i)
  | str (s : Str) (h : s.length ≤ sizeLine) : Rep (.str s) (.str s)
  | tup {a : Addr} {vs : List V} {ds : List D} (h : Tp H a vs ∧ ¬ F a) (hz : ds.length ≤ 16777216) (r : RepL vs ds) : Rep (.ref a) (.tup ds)
  | itm {a : Addr} {vs : List V} {ds : List D} (h : H a = some (.tup vs) ∧ ¬ F a) (hz : ds.length ≤ 16777216) (r : RepL vs ds) : Rep (.ref a) (.itm ds)
  | lst {a : Addr} {vs : List V} {ds : List D} (h : H a = some (.lst vs)) (hF : ¬ F a) (hz : ds.length ≤ 16777216) (r : RepL vs ds) : Rep (.ref a) (.lst ds)
  | ins {a dx : Addr} {c : Str} {vfs : List (Str × V)} {fs : List (Str × D)} (h : H a = some (.ins (He.ga K c) dx vfs)) (hF : ¬ F a) (r : RepF vfs fs) : Rep (.ref a) (.ins c fs)
  | dct {a : Addr} {kvs : List (Key × V)} {ds : List (D × D)} (h : H a = some (.dK kvs)) (hF : ¬ F a) (r : RepK kvs ds) : Rep (.ref a) (.dct ds)
  | pen : Rep (.ref p.pa) .pen
inductive RepL : List V → List D → Prop
  | nil : RepL [] []
  | cons {v : V} {vs : List V} {d : D} {ds : List D} (h : Rep v d) (r : RepL vs ds) : RepL (v :: vs) (d :: ds)
inductive RepF : List (Str × V) → List (Str × D) → Prop
  | nil : RepF [] []
  | cons {f : Str} {v : V} {vs : List (Str × V)} {d : D} {ds : List (Str × D)} (h : Rep v d) (r : RepF vs ds) : RepF ((f, v) :: vs) ((f, d) :: ds)
inductive RepK : List (Key × V) → List (D × D) → Prop
  | nil : RepK [] []
  | int {i : Int} {v : V} {vs : List (Key × V)} {d : D} {ds : List (D × D)} (h : Rep v d) (r : RepK vs ds) : RepK ((.inl i, v) :: vs) ((.int i, d) :: ds)
  | str {x : Str} {v : V} {vs : List (Key × V)} {d : D} {ds : List (D × D)} (h : Rep v d) (r : RepK vs ds) : RepK ((.inr x, v) :: vs) ((.str x, d) :: ds)
end
end
/-- all but what stands in F is as it was -/
def StepF (F : Addr → Prop) (H H' : Hp) : Prop := ∀ a o, H a = some o → ¬ F a → H' a = some o
def Step (p : PL) (H H' : Hp) : Prop := ∀ a o, H a = some o → a ≠ p.pa → H' a = some o
theorem Step.refl {p : PL} {H : Hp} : Step p H H := fun _ _ h _ => h
theorem Step.trans {p : PL} {H H1 H2 : Hp} (a : Step p H H1) (b : Step p H1 H2) : Step p H H2 := fun x o h n => b x o (a x o h n) n
theorem Step.toF {p : PL} {F : Addr → Prop} {H H' : Hp} (h : Step p H H') (hF : F p.pa) : StepF F H H' := fun a o e n => h a o e fun z => n (by rw [z]; exact hF)
theorem Step.new {p : PL} {H : Hp} {q : Addr} {o : HO} (h : H q = none) : Step p H (upd H q o) := fun a u e _ => by
  rw [upd_ne (ne_of_none e h)]
  exact e

section
variable {K : PySem.W.Frag} {p : PL} {H H' : Hp} {F F' : Addr → Prop}
mutual
theorem Rep.mono (st : StepF F H H') (hs : ∀ a, F' a → F a) : ∀ {v : V} {d : D}, Rep K p H F v d → Rep K p H' F' v d
  | _, _, .non => .non
  | _, _, .bl b => .bl b
  | _, _, .int i => .int i
  | _, _, .str s h => .str s h
  | _, _, .tup h hz r => .tup ⟨h.1.elim fun o e => ⟨o, st _ _ e.1 h.2, e.2⟩, fun q => h.2 (hs _ q)⟩ hz (RepL.mono st hs r)
  | _, _, .itm h hz r => .itm ⟨st _ _ h.1 h.2, fun q => h.2 (hs _ q)⟩ hz (RepL.mono st hs r)
  | _, _, .lst h n hz r => .lst (st _ _ h n) (fun q => n (hs _ q)) hz (RepL.mono st hs r)
  | _, _, .ins h n r => .ins (st _ _ h n) (fun q => n (hs _ q)) (RepF.mono st hs r)
  | _, _, .dct h n r => .dct (st _ _ h n) (fun q => n (hs _ q)) (RepK.mono st hs r)
  | _, _, .pen => .pen
theorem RepL.mono (st : StepF F H H') (hs : ∀ a, F' a → F a) : ∀ {v : List V} {d : List D}, RepL K p H F v d → RepL K p H' F' v d
  | _, _, .nil => .nil
  | _, _, .cons h r => .cons (Rep.mono st hs h) (RepL.mono st hs r)
theorem RepF.mono (st : StepF F H H') (hs : ∀ a, F' a → F a) : ∀ {v : List (Str × V)} {d : List (Str × D)}, RepF K p H F v d → RepF K p H' F' v d
  | _, _, .nil => .nil
  | _, _, .cons h r => .cons (Rep.mono st hs h) (RepF.mono st hs r)
theorem RepK.mono (st : StepF F H H') (hs : ∀ a, F' a → F a) : ∀ {v : List (Key × V)} {d : List (D × D)}, RepK K p H F v d → RepK K p H' F' v d
  | _, _, .nil => .nil
  | _, _, .int h r => .int (Rep.mono st hs h) (RepK.mono st hs r)
  | _, _, .str h r => .str (Rep.mono st hs h) (RepK.mono st hs r)
end
mutual
theorem Rep.more {N : Addr → Prop} (hq : ∀ a, N a → H a = none) : ∀ {v : V} {d : D}, Rep K p H F v d → Rep K p H (fun a => F a ∨ N a) v d
  | _, _, .non => .non
  | _, _, .bl b => .bl b
  | _, _, .int i => .int i
  | _, _, .str s h => .str s h
  | _, _, .tup h hz r => .tup ⟨h.1, fun w => w.elim h.2 fun q => h.1.elim fun o e => ne_of_none e.1 (hq _ q) rfl⟩ hz (RepL.more hq r)
  | _, _, .itm h hz r => .itm ⟨h.1, fun w => w.elim h.2 fun q => ne_of_none h.1 (hq _ q) rfl⟩ hz (RepL.more hq r)
  | _, _, .lst h n hz r => .lst h (fun w => w.elim n fun q => ne_of_none h (hq _ q) rfl) hz (RepL.more hq r)
  | _, _, .ins h n r => .ins h (fun w => w.elim n fun q => ne_of_none h (hq _ q) rfl) (RepF.more hq r)
  | _, _, .dct h n r => .dct h (fun w => w.elim n fun q => ne_of_none h (hq _ q) rfl) (RepK.more hq r)
  | _, _, .pen => .pen
theorem RepL.more {N : Addr → Prop} (hq : ∀ a, N a → H a = none) : ∀ {v : List V} {d : List D}, RepL K p H F v d → RepL K p H (fun a => F a ∨ N a) v d
  | _, _, .nil => .nil
  | _, _, .cons h r => .cons (Rep.more hq h) (RepL.more hq r)
theorem RepF.more {N : Addr → Prop} (hq : ∀ a, N a → H a = none) : ∀ {v : List (Str × V)} {d : List (Str × D)}, RepF K p H F v d → RepF K p H (fun a => F a ∨ N a) v d
  | _, _, .nil => .nil
  | _, _, .cons h r => .cons (Rep.more hq h) (RepF.more hq r)
theorem RepK.more {N : Addr → Prop} (hq : ∀ a, N a → H a = none) : ∀ {v : List (Key × V)} {d : List (D × D)}, RepK K p H F v d → RepK K p H (fun a => F a ∨ N a) v d
  | _, _, .nil => .nil
  | _, _, .int h r => .int (Rep.more hq h) (RepK.more hq r)
  | _, _, .str h r => .str (Rep.more hq h) (RepK.more hq r)
end
theorem RepL.length : ∀ {vs : List V} {ds : List D}, RepL K p H F vs ds → vs.length = ds.length
  | _, _, .nil => rfl
  | _, _, .cons _ r => by rw [List.length_cons, List.length_cons, RepL.length r]
theorem RepL.get : ∀ {vs : List V} {ds : List D} {i : Nat} {d : D}, RepL K p H F vs ds → ds[i]? = some d → ∃ v, vs[i]? = some v ∧ Rep K p H F v d
  | _, _, _, _, .nil, e =>
      by simp at e
  | _, _, 0, _, .cons h _, e => by simp at e; subst e; exact ⟨_, rfl, h⟩
  | _, _, i + 1, d, .cons _ r, e => by
    obtain ⟨v, h1, h2⟩ := RepL.get (i := i) (d := d) r (by simpa using e)
    exact ⟨v, by simpa using h1, h2⟩
theorem RepL.append : ∀ {vs ws : List V} {ds es : List D}, RepL K p H F vs ds → RepL K p H F ws es → RepL K p H F (vs ++ ws) (ds ++ es)
  | _, _, _, _, .nil, h => h
  | _, _, _, _, .cons h r, q => .cons h (RepL.append r q)
theorem RepL.take : ∀ {vs : List V} {ds : List D} (n : Nat), RepL K p H F vs ds → RepL K p H F (vs.take n) (ds.take n)
  | _, _, 0, _ => .nil
  | _, _, _ + 1, .nil => .nil
  | _, _, n + 1, .cons h r => .cons h (RepL.take n r)
theorem RepL.drop : ∀ {vs : List V} {ds : List D} (n : Nat), RepL K p H F vs ds → RepL K p H F (vs.drop n) (ds.drop n)
  | _, _, 0, r => r
  | _, _, _ + 1, .nil => .nil
  | _, _, n + 1, .cons _ r => RepL.drop n r
theorem RepL.set {v : V} {d : D} (h : Rep K p H F v d) : ∀ {vs : List V} {ds : List D} (i : Nat), RepL K p H F vs ds → RepL K p H F (vs.set i v) (ds.set i d)
  | _, _, _, .nil => .nil
  | _, _, 0, .cons _ r => .cons h r
  | _, _, i + 1, .cons q r => .cons q (RepL.set h i r)
theorem RepL.eraseIdx : ∀ {vs : List V} {ds : List D} (i : Nat), RepL K p H F vs ds → RepL K p H F (vs.eraseIdx i) (ds.eraseIdx i)
  | _, _, _, .nil => .nil
  | _, _, 0, .cons _ r => r
  | _, _, i + 1, .cons q r => .cons q (RepL.eraseIdx i r)
theorem RepL.reverse : ∀ {vs : List V} {ds : List D}, RepL K p H F vs ds → RepL K p H F vs.reverse ds.reverse
  | _, _, .nil => .nil
  | _, _, .cons h r => by
    rw [List.reverse_cons,
        List.reverse_cons]
    exact RepL.append (RepL.reverse r) (.cons h .nil)
theorem RepL.ints : ∀ (is : List Int), RepL K p H F (is.map V.int) (is.map D.int)
  | [] => .nil
  | i :: r => .cons (.int i) (RepL.ints r)
theorem RepF.lookup {x : Str} {d : D} : ∀ {vs : List (Str × V)} {ds : List (Str × D)}, RepF K p H F vs ds → ds.lookup x = some d → ∃ v, vs.lookup x = some v ∧ Rep K p H F v d
  | _, _, .nil, e => by simp at e
  | _, _, .cons (f := f) h r, e => by
    rw [List.lookup_cons] at e
    cases q : (x == f) with
    | true =>
      rw [q] at e
      cases e
      exact ⟨_, by rw [List.lookup_cons, q], h⟩
    | false =>
      rw [q] at e
      obtain ⟨v, h1, h2⟩ := RepF.lookup r e
      exact ⟨v, by rw [List.lookup_cons, q]; exact h1, h2⟩
end
/-! ### data without lists, dicts -/
mutual
def D.imm : D → Bool
  | .non | .bl _ | .int _ | .str _ | .pen => true
  | .tup xs => immL xs
  | .itm xs => immL xs
  | .ins _ fs => immF fs
  | .lst _ | .dct _ | .fn _ => false
def immL : List D → Bool
  | [] => true
  | d :: ds => d.imm && immL ds
def immF : List (Str × D) → Bool
  | [] => true
  | d :: ds => d.2.imm && immF ds
end
/-- what a def may own and change -/
def MtO : HO → Prop
  | .lst _ | .dK _ | .dT _ | .set _ _ => True
  | _ => False
section
variable {K : PySem.W.Frag} {p : PL} {H : Hp} {F F' : Addr → Prop}
mutual
theorem Rep.free (hm : ∀ a o, F' a → ¬ F a → H a = some o → MtO o) : ∀ {v : V} {d : D}, Rep K p H F v d → d.imm = true → Rep K p H F' v d
  | _, _, .non, _ => .non
  | _, _, .bl b, _ => .bl b
  | _, _, .int i, _ => .int i
  | _, _, .str s h, _ => .str s h
  | _, _, .tup h hz r, e => .tup ⟨h.1, fun q => h.1.elim fun o w => (show MtO (.frz _ _) from hm _ _ q h.2 w.1)⟩ hz (RepL.free hm r e)
  | _, _, .itm h hz r, e => .itm ⟨h.1, fun q => (show MtO (.tup _) from hm _ _ q h.2 h.1)⟩ hz (RepL.free hm r e)
  | _, _, .ins h n r, e => .ins h (fun q => (show MtO (.ins _ _ _) from hm _ _ q n h)) (RepF.free hm r e)
  | _, _, .pen, _ => .pen
theorem RepL.free (hm : ∀ a o, F' a → ¬ F a → H a = some o → MtO o) : ∀ {v : List V} {d : List D}, RepL K p H F v d → immL d = true → RepL K p H F' v d
  | _, _, .nil, _ => .nil
  | _, _, .cons h r, e => .cons (Rep.free hm h (Bool.and_eq_true_iff.mp e).1) (RepL.free hm r (Bool.and_eq_true_iff.mp e).2)
theorem RepF.free (hm : ∀ a o, F' a → ¬ F a → H a = some o → MtO o) : ∀ {v : List (Str × V)} {d : List (Str × D)}, RepF K p H F v d → immF d = true → RepF K p H F' v d
  | _, _, .nil, _ => .nil
  | _, _, .cons h r, e => .cons (Rep.free hm h (Bool.and_eq_true_iff.mp e).1) (RepF.free hm r (Bool.and_eq_true_iff.mp e).2)
end
end
section
variable {K : PySem.W.Frag} {p p' : PL} {H : Hp} {F : Addr → Prop}
mutual
theorem Rep.swap (e : p.pa = p'.pa) : ∀ {v : V} {d : D}, Rep K p H F v d → Rep K p' H F v d
  | _, _, .non => .non
  | _, _, .bl b => .bl b
  | _, _, .int i => .int i
  | _, _, .str s h => .str s h
  | _, _, .tup h hz r => .tup h hz (RepL.swap e r)
  | _, _, .itm h hz r => .itm h hz (RepL.swap e r)
  | _, _, .lst h n hz r => .lst h n hz (RepL.swap e r)
  | _, _, .ins h n r => .ins h n (RepF.swap e r)
  | _, _, .dct h n r => .dct h n (RepK.swap e r)
  | _, _, .pen => by rw [e]; exact .pen
theorem RepL.swap (e : p.pa = p'.pa) : ∀ {v : List V} {d : List D}, RepL K p H F v d → RepL K p' H F v d
  | _, _, .nil => .nil
  | _, _, .cons h r => .cons (Rep.swap e h) (RepL.swap e r)
theorem RepF.swap (e : p.pa = p'.pa) : ∀ {v : List (Str × V)} {d : List (Str × D)}, RepF K p H F v d → RepF K p' H F v d
  | _, _, .nil => .nil
  | _, _, .cons h r => .cons (Rep.swap e h) (RepF.swap e r)
theorem RepK.swap (e : p.pa = p'.pa) : ∀ {v : List (Key × V)} {d : List (D × D)}, RepK K p H F v d → RepK K p' H F v d
  | _, _, .nil => .nil
  | _, _, .int h r => .int (Rep.swap e h) (RepK.swap e r)
  | _, _, .str h r => .str (Rep.swap e h) (RepK.swap e r)
end
/-- fields stored -/
theorem RepF.put {f : Str} {v : V} {d : D} (h : Rep K p H F v d) : ∀ {vs : List (Str × V)} {ds : List (Str × D)}, RepF K p H F vs ds → RepF K p H F (putF f v vs) (putD f d ds)
  | _, _, .nil => .cons h .nil
  | _, _, .cons (f := g) q r => by
    show RepF K p H F (if g = f then (g, v) :: _ else (g, _) :: putF f v _) (if g = f then (g, d) :: _ else (g, _) :: putD f d _)
    by_cases e : g = f
    · rw [if_pos e, if_pos e]
      exact .cons h r
    · rw [if_neg e, if_neg e]
      exact .cons q (RepF.put h r)
theorem RepF.length : ∀ {vs : List (Str × V)} {ds : List (Str × D)}, RepF K p H F vs ds → vs.length = ds.length
  | _, _, .nil => rfl
  | _, _, .cons _ r => by rw [List.length_cons, List.length_cons, RepF.length r]
end
end Say

namespace Say
open L2 PyProof.Rows PySem.Spec PySem

/-! ### the pen in the heap -/
structure Pen.Ok (s : Pen) : Prop where
  cl : s.cells.length ≤ 63
  d0 : 0 ≤ s.digits
  c0 : 0 ≤ s.count
  f0 : 0 ≤ s.fold
  fb : s.fold < 2147483563
def penKV (p : PL) (s : Pen) : List (Key × V) := [(.inr "cells", .ref p.ca), (.inr "at", .int (s.pos : Int)), (.inr "digits", .int s.digits), (.inr "count", .int s.count), (.inr "fold", .int s.fold)]
structure PenAt (H : Hp) (p : PL) (s : Pen) : Prop where
  dict : H p.pa = some (.dK (penKV p s))
  cells : H p.ca = some (.lst (s.cells.map V.int))
  ok : s.Ok
theorem PenAt.ne {H : Hp} {p : PL} {s : Pen} (h : PenAt H p s) : p.ca ≠ p.pa := fun e => by
  have h1 := h.cells
  rw [e, h.dict] at h1
  cases h1
/-- all that was tracked is as it was, the pen too -/
theorem PenAt.same {H H' : Hp} {p : PL} {s : Pen} (h : PenAt H p s) (st : Same H H') : PenAt H' p s := ⟨st _ _ h.dict, st _ _ h.cells, h.ok⟩
theorem same_step {H H' : Hp} {p : PL} (st : Same H H') : Step p H H' := fun a o e _ => st a o e
theorem same_new {H : Hp} {q : Addr} {o : HO} (h : H q = none) : Same H (upd H q o) := fun a u e => by
  rw [upd_ne (ne_of_none e h)]
  exact e

/-! ### the environment of a def -/
inductive Sl where
  | no | dat (d : D) | own (d : D) | self (c : Str) (fs : List (Str × D))
deriving Inhabited
abbrev Env := List Sl
def OwnAt (K : PySem.W.Frag) (p : PL) (H : Hp) (F : Addr → Prop) (a : Addr) : Sl → Prop
  | .own (.lst ds) => ∃ vs, H a = some (.lst vs) ∧ ds.length ≤ 16777216 ∧ RepL K p H F vs ds
  | .own (.dct ds) => ∃ vs, H a = some (.dK vs) ∧ RepK K p H F vs ds
  | .self c fs => a = p.sx ∧ ∃ dx vfs, H a = some (.ins (He.ga K c) dx vfs) ∧ vfs.length ≤ 900 ∧ RepF K p H F vfs fs
  | _ => False
def Sl.held : Sl → Bool
  | .own _ | .self _ _ => true
  | _ => false
/-- what must not be touched by what is carried: G and the objects that the def owns -/
def Fo (G : Addr → Prop) (ρ : Env) (σ : L2.St) : Addr → Prop := fun a => G a ∨ ∃ (i : Nat) (x : Sl), ρ[i]? = some x ∧ x.held = true ∧ σ[i]? = some (some (.ref a))
structure Rel (K : PySem.W.Frag) (p : PL) (G : Addr → Prop) (H0 : Hp) (ρ : Env) (σ : L2.St) (H : Hp) (s : Pen) : Prop where
  len : ρ.length = σ.length
  dat : ∀ (i : Nat) (d : D), ρ[i]? = some (.dat d) → ∃ v, σ[i]? = some (some v) ∧ Rep K p H (Fo G ρ σ) v d
  own : ∀ (i : Nat) (x : Sl), ρ[i]? = some x → x.held = true → ∃ a, σ[i]? = some (some (.ref a)) ∧ H0 a = none ∧ OwnAt K p H (Fo G ρ σ) a x
  inj : ∀ (i j : Nat) (x y : Sl) (a : Addr), ρ[i]? = some x → x.held = true → ρ[j]? = some y → y.held = true → σ[i]? = some (some (.ref a)) → σ[j]? = some (some (.ref a)) → i = j
  old : Step p H0 H
  pen : PenAt H p s
  gpa : G p.pa
  gca : G p.ca
  gex : ∀ a, G a → ∃ o, H a = some o
  gne : ∀ (i : Nat) (x : Sl) (a : Addr), ρ[i]? = some x → x.held = true → σ[i]? = some (some (.ref a)) → ¬ G a
theorem OwnAt.mono {K : PySem.W.Frag} {p : PL} {H H' : Hp} {F F' : Addr → Prop} {a : Addr} {x : Sl} (h : OwnAt K p H F a x) (e : ∀ o, H a = some o → H' a = some o) (st : StepF F H H') (hs : ∀ a, F' a → F a) : OwnAt K p H' F' a x := by
  cases x with
  | no => exact h.elim
  | dat d => exact h.elim
  | self c fs =>
    obtain ⟨hx, dx, vs, h1, h0, h2⟩ := h
    exact ⟨hx, dx, vs, e _ h1, h0, h2.mono st hs⟩
  | own d =>
    cases d with
    | lst ds =>
      obtain ⟨vs, h1, hz, h2⟩ := h
      exact ⟨vs, e _ h1, hz, h2.mono st hs⟩
    | dct ds =>
      obtain ⟨vs, h1, h2⟩ := h
      exact ⟨vs, e _ h1, h2.mono st hs⟩
    | _ => exact h.elim
theorem OwnAt.there {K : PySem.W.Frag} {p : PL} {H : Hp} {F : Addr → Prop} {a : Addr} {x : Sl} (h : OwnAt K p H F a x) : ∃ o, H a = some o ∧ (∀ d, x = .own d → MtO o) := by
  cases x with
  | no => exact h.elim
  | dat d => exact h.elim
  | self c fs =>
    obtain ⟨hx, dx, vs, h1, h0, h2⟩ := h
    exact ⟨_, h1, fun d e => by cases e⟩
  | own d =>
    cases d with
    | lst ds =>
      obtain ⟨vs, h1, hz, h2⟩ := h
      exact ⟨_, h1, fun _ _ => trivial⟩
    | dct ds =>
      obtain ⟨vs, h1, h2⟩ := h
      exact ⟨_, h1, fun _ _ => trivial⟩
    | _ => exact h.elim
section
variable {K : PySem.W.Frag} {p : PL} {G : Addr → Prop} {H0 H H' : Hp} {ρ : Env} {σ : L2.St} {s s' : Pen}
theorem Rel.fpa (r : Rel K p G H0 ρ σ H s) : Fo G ρ σ p.pa := .inl r.gpa
theorem Rel.ownNe (r : Rel K p G H0 ρ σ H s) {i : Nat} {x : Sl} {a : Addr} (e : ρ[i]? = some x) (hx : x.held = true) (e2 : σ[i]? = some (some (.ref a))) : ¬ G a := r.gne i x a e hx e2
theorem gex_step (gex : ∀ a, G a → ∃ o, H a = some o) (st : Step p H H') (pn : PenAt H' p s') : ∀ a, G a → ∃ o, H' a = some o := fun a ha => by
  obtain ⟨o, ho⟩ := gex a ha
  by_cases hp : a = p.pa
  · rw [hp]
    exact ⟨_, pn.dict⟩
  · exact ⟨o, st a o ho hp⟩
/-- behind an expression -/
theorem Rel.step (r : Rel K p G H0 ρ σ H s) (st : Step p H H') (pn : PenAt H' p s') : Rel K p G H0 ρ σ H' s' where
  len := r.len
  dat := fun i d e => by
    obtain ⟨v, h1, h2⟩ := r.dat i d e
    exact ⟨v, h1, h2.mono (st.toF r.fpa) fun _ z => z⟩
  own := fun i d e hx => by
    obtain ⟨a, h1, h2, h3⟩ := r.own i d e hx
    refine ⟨a, h1, h2, h3.mono (fun o ho => st a o ho fun z => ?_) (st.toF r.fpa) fun _ z => z⟩
    exact r.ownNe e hx h1 (by rw [z]; exact r.gpa)
  inj := r.inj
  old := r.old.trans st
  pen := pn
  gpa := r.gpa
  gca := r.gca
  gex := gex_step r.gex st pn
  gne := r.gne
end
def Sl.thaw : Sl → Sl
  | .own d => .dat d
  | x => x
def thaw (ρ : Env) : Env := ρ.map Sl.thaw
theorem thaw_get {ρ : Env} {i : Nat} {d : D} (h : (thaw ρ)[i]? = some (.dat d)) : ρ[i]? = some (.dat d) ∨ ρ[i]? = some (.own d) := by
  unfold thaw at h
  rw [List.getElem?_map] at h
  cases e : ρ[i]? with
  | none => rw [e]
      at h; cases h
  | some x =>
    rw [e] at h
    cases x with
    | no => cases h
    | dat z => cases h; exact .inl rfl
    | own z => cases h; exact .inr rfl
    | self c fs => cases h
theorem thaw_held {ρ : Env} {i : Nat} {x : Sl} (h : (thaw ρ)[i]? = some x) (hx : x.held = true) : ρ[i]? = some x ∧ ∀ d, x ≠ .own d := by
  unfold thaw at h
  rw [List.getElem?_map] at h
  cases e : ρ[i]? with
  | none => rw [e]
      at h; cases h
  | some y =>
    rw [e] at h
    cases y with
    | no => cases h; cases hx
    | dat z => cases h; cases hx
    | own z => cases h; cases hx
    | self c fs =>
      cases h
      exact ⟨rfl, fun d e => by cases e⟩
section
variable {K : PySem.W.Frag} {p : PL} {G : Addr → Prop} {H0 H H' : Hp} {ρ : Env} {σ : L2.St} {s s' : Pen}
theorem fo_thaw {a : Addr} (h : Fo G (thaw ρ) σ a) : Fo G ρ σ a := by
  rcases h with h | ⟨i, x, h, hx, e⟩
  · exact .inl h
  · exact .inr ⟨i, x, (thaw_held h hx).1, hx, e⟩
theorem Rel.thaw (r : Rel K p G H0 ρ σ H s) : Rel K p G H0 (thaw ρ) σ H s where
  len := by
    unfold Say.thaw
    rw [List.length_map]
    exact r.len
  dat := fun i d e => by
    rcases thaw_get e with e | e
    · obtain ⟨v, h1, h2⟩ := r.dat i d e
      exact ⟨v, h1, h2.mono (fun _ _ z _ => z) fun _ => fo_thaw⟩
    · obtain ⟨a, h1, h2, h3⟩ := r.own i (.own d) e rfl
      refine ⟨_, h1, ?_⟩
      have n : ¬ Fo G (Say.thaw ρ) σ a := fun z => by
        rcases z with z | ⟨j, x, q1, hx, q2⟩
        · exact r.ownNe e rfl h1 z
        · obtain ⟨q3, q4⟩ := thaw_held q1 hx
          have ej := r.inj i j _ _ a e rfl q3 hx h1 q2
          subst ej
          rw [e] at q3
          exact q4 d (Option.some.inj q3).symm
      cases d with
      | lst ds =>
        obtain ⟨vs, q1, hz, q2⟩ := h3
        exact .lst q1 n hz (q2.mono (fun _ _ z _ => z) fun _ => fo_thaw)
      | dct ds =>
        obtain ⟨vs, q1, q2⟩ := h3
        exact .dct q1 n (q2.mono (fun _ _ z _ => z) fun _ => fo_thaw)
      | _ => exact h3.elim
  own := fun i x e hx => by
    obtain ⟨q, _⟩ := thaw_held e hx
    obtain ⟨a, h1, h2, h3⟩ := r.own i x q hx
    exact ⟨a, h1, h2, h3.mono (fun _ z => z) (fun _ _ z _ => z) fun _ => fo_thaw⟩
  inj := fun i j x y a h hx h' hy => r.inj i j x y a (thaw_held h hx).1 hx (thaw_held h' hy).1 hy
  old := r.old
  pen := r.pen
  gpa := r.gpa
  gca := r.gca
  gex := r.gex
  gne := fun i x a h hx => r.gne i x a (thaw_held h hx).1 hx
/-- what is owned, not by self, is a list or a dict -/
theorem Rel.mt (r : Rel K p G H0 ρ σ H s) : ∀ a o, Fo G ρ σ a → ¬ Fo G (Say.thaw ρ) σ a → H a = some o → MtO o := fun a o f n e => by
  rcases f with g | ⟨i, x, e1, hx, e2⟩
  · exact (n (.inl g)).elim
  · obtain ⟨b, h1, h2, h3⟩ := r.own i x e1 hx
    rw [e2] at h1
    cases h1
    obtain ⟨u, hu, hm⟩ := h3.there
    rw [hu] at e
    cases e
    cases x with
    | own d => exact hm d rfl
    | no => cases hx
    | dat d => cases hx
    | self c fs =>
      refine (n (.inr ⟨i, .self c fs, ?_, rfl, e2⟩)).elim
      unfold Say.thaw
      rw [List.getElem?_map, e1]
      rfl
theorem Rel.fresh (r : Rel K p G H0 ρ σ H s) {q : Addr} (h : H q = none) : ¬ Fo G ρ σ q := fun z => by
  rcases z with g | ⟨i, d, e1, hx, e2⟩
  · obtain ⟨u, hu⟩ := r.gex q g
    rw [hu] at h
    cases h
  · obtain ⟨b, h1, h2, h3⟩ := r.own i d e1 hx
    rw [e2] at h1
    cases h1
    obtain ⟨u, hu, hm⟩ := h3.there
    rw [hu] at h
    cases h
end

/-! ### judgements -/
section
variable (X : Cx) (p : PL)
def tE (e : Expr) : TE := fun σ H Q => ∀ (pins : List (Addr × Obj)) (s : Shared), Inv X pins σ H s → wpAny (model X.prog X.w) X.A (eval e X.env) (EP X pins σ Q) X.xe s
def tT (e : Expr) : TT := fun σ H Q => ∀ (pins : List (Addr × Obj)) (s : Shared), Inv X pins σ H s → wpAny (model X.prog X.w) X.A (isTrue e X.env (eval e X.env)) (TP X pins σ Q) X.xe s
def tW (e : Expr) : TT := fun σ H Q => ∀ (whole : Sem Value) (pins : List (Addr × Obj)) (s : Shared), Inv X pins σ H s → wpAny (model X.prog X.w) X.A (isTrue e X.env whole) (TP X pins σ Q) X.xe s
def tA (es : List Expr) : TA := fun σ H Q => ∀ (pos : Pos) (pins : List (Addr × Obj)) (s : Shared), Inv X pins σ H s → wpAny (model X.prog X.w) X.A (spliced (backTo pos (starEach es X.env))) (AP X pins σ Q) X.xe s
def tS (st : Stmt) : TS := fun D σ H => ∀ (pins : List (Addr × Obj)) (s : Shared), Inv X pins σ H s → wpAny (model X.prog X.w) X.A (exec st X.env) (SP X pins D) X.xe s
def tSs (st : List Stmt) : TS := fun D σ H => ∀ (pins : List (Addr × Obj)) (s : Shared), Inv X pins σ H s → wpAny (model X.prog X.w) X.A (execs st X.env) (SP X pins D) X.xe s
variable {X}
theorem pe_self {e : Expr} : PE X e (tE X e) := ⟨fun pins s σ H Q I h => h pins s I⟩
theorem pt_self {e : Expr} : PT X e (tT X e) := ⟨fun pins s σ H Q I h => h pins s I⟩
theorem pw_self {e : Expr} : PW X e (tW X e) := ⟨fun wh pins s σ H Q I h => h wh pins s I⟩
theorem pa_self {es : List Expr} : PA X es (tA X es) := ⟨fun pos pins s σ H Q I h => h pos pins s I⟩
theorem ps_self {st : Stmt} : PS X st (tS X st) := ⟨fun pins s σ H Q I h => h pins s I⟩
theorem pss_self {st : List Stmt} : PSs X st (tSs X st) := ⟨fun pins s σ H Q I h => h pins s I⟩
theorem tE_of {e : Expr} {t : TE} {σ : L2.St} {H : Hp} {Q : VK} (h : PE X e t) (q : t σ H Q) : tE X e σ H Q := fun pins s I => h.run pins s σ H Q I q
theorem tT_of {e : Expr} {t : TT} {σ : L2.St} {H : Hp} {Q : Bool → Hp → Prop} (h : PT X e t) (q : t σ H Q) : tT X e σ H Q := fun pins s I => h.run pins s σ H Q I q
theorem tW_of {e : Expr} {t : TT} {σ : L2.St} {H : Hp} {Q : Bool → Hp → Prop} (h : PW X e t) (q : t σ H Q) : tW X e σ H Q := fun wh pins s I => h.run wh pins s σ H Q I q
theorem tA_of {es : List Expr} {t : TA} {σ : L2.St} {H : Hp} {Q : List V → Hp → Prop} (h : PA X es t) (q : t σ H Q) : tA X es σ H Q := fun pos pins s I => h.run pos pins s σ H Q I q
theorem tS_of {st : Stmt} {t : TS} {σ : L2.St} {H : Hp} {D : Ends} (h : PS X st t) (q : t D σ H) : tS X st D σ H := fun pins s I => h.run pins s σ H D I q
theorem tSs_of {st : List Stmt} {t : TS} {σ : L2.St} {H : Hp} {D : Ends} (h : PSs X st t) (q : t D σ H) : tSs X st D σ H := fun pins s I => h.run pins s σ H D I q
end
/-- an exception's own dict -/
def ExD (H : Hp) (dx : Addr) (vfs : List (Str × V)) : Prop := H dx = some (.xd vfs) ∨ H dx = some (exd dx vfs)
/-- behind: the heap has grown, the pen may have moved -/
structure Af (p : PL) (H H' : Hp) (s' : Pen) : Prop where
  st : Step p H H'
  pen : PenAt H' p s'
theorem Af.trans {p : PL} {H H1 H2 : Hp} {s1 s2 : Pen} (a : Af p H H1 s1) (b : Af p H1 H2 s2) : Af p H H2 s2 := ⟨a.st.trans b.st, b.pen⟩
theorem Af.same {p : PL} {H H' : Hp} {s : Pen} (h : PenAt H p s) (st : Same H H') : Af p H H' s := ⟨same_step st, h.same st⟩
theorem Af.refl {p : PL} {H : Hp} {s : Pen} (h : PenAt H p s) : Af p H H s := ⟨.refl, h⟩
/-- what is wanted of an exception -/
def PX (X : Cx) (p : PL) (W : WX) (F : Addr → Prop) (σ : L2.St) (H : Hp) (Ex : Str → List (Str × D) → Pen → Prop) : Prop :=
  ∀ c fs s' dx vfs H', Ex c fs s' → Af p H H' s' → ExD H' dx vfs → RepF X.K p H' F vfs fs → W (.ref (He.ga X.K c)) (some dx) σ H'
theorem PX.at {X : Cx} {p : PL} {W : WX} {F : Addr → Prop} {σ : L2.St} {H H1 : Hp} {s1 : Pen} {Ex : Str → List (Str × D) → Pen → Prop} (h : PX X p W F σ H Ex) (a : Af p H H1 s1) : PX X p W F σ H1 Ex :=
  fun c fs s' dx vfs H' e a' => h c fs s' dx vfs H' e (a.trans a')
abbrev XR := Str → List (Str × D) → Pen → Prop
structure DE (X : Cx) (p : PL) (e : Expr) (f : Env → M D) : Prop where
  run : ∀ (W : WX) (G : Addr → Prop) (H0 : Hp) (ρ : Env) (σ : L2.St) (H : Hp) (s : Pen) (R : D → Pen → Prop) (Ex : XR) (Q : VK), Takes X W → Rel X.K p G H0 ρ σ H s → wpM (f ρ) s R Ex →
    (∀ d s' v H', R d s' → Af p H H' s' → Rep X.K p H' (Fo G ρ σ) v d → Q v H') → PX X p W G σ H Ex → tE X e σ H Q
/-- a new list -/
structure DN (X : Cx) (p : PL) (e : Expr) (f : Env → M (List D)) : Prop where
  run : ∀ (W : WX) (G : Addr → Prop) (H0 : Hp) (ρ : Env) (σ : L2.St) (H : Hp) (s : Pen) (R : List D → Pen → Prop) (Ex : XR) (Q : VK), Takes X W → Rel X.K p G H0 ρ σ H s → wpM (f ρ) s R Ex →
    (∀ ds s' a vs H', R ds s' → Af p H H' s' → H a = none → H' a = some (.lst vs) → ds.length ≤ 16777216 → RepL X.K p H' (fun b => Fo G ρ σ b ∨ b = a) vs ds → Q (.ref a) H') → PX X p W G σ H Ex → tE X e σ H Q
structure DT (X : Cx) (p : PL) (e : Expr) (f : Env → M Bool) : Prop where
  run : ∀ (W : WX) (G : Addr → Prop) (H0 : Hp) (ρ : Env) (σ : L2.St) (H : Hp) (s : Pen) (R : Bool → Pen → Prop) (Ex : XR) (Q : Bool → Hp → Prop), Takes X W → Rel X.K p G H0 ρ σ H s → wpM (f ρ) s R Ex →
    (∀ d s' H', R d s' → Af p H H' s' → Q d H') → PX X p W G σ H Ex → tT X e σ H Q
structure DW (X : Cx) (p : PL) (e : Expr) (f : Env → M Bool) : Prop where
  run : ∀ (W : WX) (G : Addr → Prop) (H0 : Hp) (ρ : Env) (σ : L2.St) (H : Hp) (s : Pen) (R : Bool → Pen → Prop) (Ex : XR) (Q : Bool → Hp → Prop), Takes X W → Rel X.K p G H0 ρ σ H s → wpM (f ρ) s R Ex →
    (∀ d s' H', R d s' → Af p H H' s' → Q d H') → PX X p W G σ H Ex → tW X e σ H Q
/-- one after another -/
def seqA {β : Type} : List (Env → M D) → Env → (List D → M β) → M β
  | [], _, k => k []
  | f :: fs, ρ, k => f ρ >>= fun x => seqA fs ρ fun xs => k (x :: xs)
structure DA (X : Cx) (p : PL) (es : List Expr) (fs : List (Env → M D)) : Prop where
  run : ∀ (β : Type) (k : List D → M β) (W : WX) (G : Addr → Prop) (H0 : Hp) (ρ : Env) (σ : L2.St) (H : Hp) (s : Pen) (R : β → Pen → Prop) (Ex : XR) (Q : List V → Hp → Prop), Takes X W → Rel X.K p G H0 ρ σ H s → wpM (seqA fs ρ k) s R Ex →
    (∀ ds s' vs H', wpM (k ds) s' R Ex → Af p H H' s' → RepL X.K p H' (Fo G ρ σ) vs ds → ds.length = fs.length → Q vs H') → PX X p W G σ H Ex → tA X es σ H Q

/-! ### names, constants -/
def lift {α : Type} : Option α → M α
  | some a => pure a
  | none => bad
@[simp] theorem lift_some {α : Type} (a : α) : (lift (some a) : M α) = pure a := rfl
@[simp] theorem lift_none {α : Type} : (lift (none : Option α) : M α) = bad := rfl
def slD : Option Sl → M D
  | some (.dat d) => pure d
  | _ => bad
section
variable {X : Cx} {p : PL} {e a b : Expr} {f g : Env → M D} {pos : Pos}
theorem de_var (i : Nat) {x : Str} (hN : X.N[i]? = some x := by rfl) (hv : Vis X.env.scope x := by first | exact Or.inl rfl | exact Or.inr (Or.inl rfl) | exact Or.inr (Or.inr rfl)) (hd : (x == ("__debug__" : Str)) = false := by decide)
    (hcd : (x == ("__classdict__" : Str)) = false := by decide) : DE X p (.Name x pos) (fun ρ => slD ρ[i]?) := by
  refine ⟨fun W G H0 ρ σ H s R Ex Q tk r h q px => ?_⟩
  have h : wpM (slD ρ[i]?) s R Ex := h
  cases e : ρ[i]? with
  | none => rw [e] at h; exact h.elim
  | some x =>
    rw [e] at h
    cases x with
    | no => exact h.elim
    | own d => exact h.elim
    | self c fs => exact h.elim
    | dat d =>
      obtain ⟨v, h1, h2⟩ := r.dat i d e
      exact tE_of (pe_var hN hv hd hcd) ⟨v, h1, q d s v H h (.refl r.pen) h2⟩
theorem de_const {v : V} {d : D} (h : PE X e (tC v)) (hr : ∀ K p H F, Rep K p H F v d) : DE X p e (fun _ => pure d) :=
  ⟨fun W G H0 ρ σ H s R Ex Q tk r h1 q px => tE_of h (show Q v H from q d s v H h1 (.refl r.pen) (hr _ _ _ _))⟩
theorem de_int {i : Int} {j : Nat} : DE X p (.Constant (.int i) j pos) (fun _ => pure (.int i)) := de_const pe_int fun _ _ _ _ => .int i
theorem de_bl {i : Bool} {j : Nat} : DE X p (.Constant (.bool i) j pos) (fun _ => pure (.bl i)) := de_const pe_bl fun _ _ _ _ => .bl i
theorem de_non {j : Nat} : DE X p (.Constant .none j pos) (fun _ => pure .non) := de_const pe_non fun _ _ _ _ => .non
theorem de_str {x : Str} {j : Nat} (h : x.length ≤ sizeLine := by decide +kernel) : DE X p (.Constant (.str x) j pos) (fun _ => pure (.str x)) := de_const pe_str fun _ _ _ _ => .str x h
theorem de_glob {x : Str} {v : V} {u : Value} {d : D} (hg : Gl X x) (hm : X.mg x = some u) (r : RelV v u) (hr : ∀ K p H F, Rep K p H F v d) (hd : (x == ("__debug__" : Str)) = false := by decide) : DE X p (.Name x pos) (fun _ => pure d) := de_const (pe_glob hg hm r hd) hr

/-! ### operators: by values -/
def OpS (K : PySem.W.Frag) (p : PL) (r : R2) (g : D → D → Option D) : Prop :=
  ∀ (F : Addr → Prop) (H : Hp) (v1 v2 : V) (d1 d2 d : D) (Q : VK), F p.pa → (∀ a, H a = none → ¬ F a) → Rep K p H F v1 d1 → Rep K p H F v2 d2 → g d1 d2 = some d → (∀ v H', Same H H' → Rep K p H' F v d → Q v H') → r v1 v2 H Q
def BinS (X : Cx) (p : PL) (op : Value → Value → Sem Value) (g : D → D → Option D) : Prop := ∃ r, OpR X op r ∧ OpS X.K p r g
theorem BinS.or {op : Value → Value → Sem Value} {g h : D → D → Option D} (a : BinS X p op g) (b : BinS X p op h) : BinS X p op (fun x y => (g x y).or (h x y)) := by
  obtain ⟨r, h1, h2⟩ := a
  obtain ⟨t, h3, h4⟩ := b
  refine ⟨_, h1.or h3, fun F H v1 v2 d1 d2 d Q hp hf r1 r2 e q => ?_⟩
  cases e1 : g d1 d2 with
  | some z =>
    have e : (g d1 d2).or (h d1 d2) = some d := e
    rw [e1] at e
    cases e
    exact .inl (h2 F H v1 v2 d1 d2 _ Q hp hf r1 r2 e1 q)
  | none =>
    have e : (g d1 d2).or (h d1 d2) = some d := e
    rw [e1] at e
    exact .inr (h4 F H v1 v2 d1 d2 _ Q hp hf r1 r2 e q)
theorem bin_run {r : R2} {k : D → D → Option D} (hs : OpS X.K p r k) (ha : DE X p a f) (hb : DE X p b g) {W : WX} {G : Addr → Prop} {H0 : Hp} {ρ : Env} {σ : L2.St} {H : Hp} {s : Pen} {R : D → Pen → Prop} {Ex : XR} {Q : VK} (tk : Takes X W) (rl : Rel X.K p G H0 ρ σ H s)
    (h : wpM (f ρ >>= fun x => g ρ >>= fun y => lift (k x y)) s R Ex) (q : ∀ d s' v H', R d s' → Af p H H' s' → Rep X.K p H' (Fo G ρ σ) v d → Q v H') (px : PX X p W G σ H Ex) : tOp r (tE X a) (tE X b) σ H Q := by
  rw [wp_bind] at h
  refine ha.run W G H0 ρ σ H s _ Ex _ tk rl h (fun d1 s1 v1 H1 h1 a1 r1 => ?_) px
  rw [wp_bind] at h1
  refine hb.run W G H0 ρ σ H1 s1 _ Ex _ tk (rl.step a1.st a1.pen) h1 (fun d2 s2 v2 H2 h2 a2 r2 => ?_) (px.at a1)
  cases e : k d1 d2 with
  | none => rw [e] at h2; exact h2.elim
  | some d =>
    rw [e] at h2
    exact hs _ H2 v1 v2 d1 d2 d Q rl.fpa (fun _ z => ((rl.step a1.st a1.pen).step a2.st a2.pen).fresh z) (r1.mono (a2.st.toF rl.fpa) fun _ z => z) r2 e fun v H3 sm r3 => q d s2 v H3 h2 ((a1.trans a2).trans (.same a2.pen sm)) r3
theorem de_bin {op : Operator} {k : D → D → Option D} (h : BinS X p (binaryOp op) k) (ha : DE X p a f) (hb : DE X p b g) : DE X p (.BinOp a op b pos) (fun ρ => f ρ >>= fun x => g ρ >>= fun y => lift (k x y)) := by
  obtain ⟨r, h1, h2⟩ := h
  exact ⟨fun W G H0 ρ σ H s R Ex Q tk rl hw q px => tE_of (pe_op h1 pe_self pe_self) (bin_run h2 ha hb tk rl hw q px)⟩
theorem de_cmp {op : CmpOp} {k : D → D → Option D} (h : BinS X p (compareOp op) k) (ha : DE X p a f) (hb : DE X p b g) (hm : behindInMarks op b = false := by first | exact nomark _ | rfl) : DE X p (.Compare a [op] [b] pos) (fun ρ => f ρ >>= fun x => g ρ >>= fun y => lift (k x y)) := by
  obtain ⟨r, h1, h2⟩ := h
  exact ⟨fun W G H0 ρ σ H s R Ex Q tk rl hw q px => tE_of (pe_cmpR h1 pe_self pe_self hm) (bin_run h2 ha hb tk rl hw q px)⟩
/-- a value as a truth -/
def truB : D → M Bool
  | .bl b => pure b
  | _ => bad
theorem bl_of {K : PySem.W.Frag} {H : Hp} {F : Addr → Prop} {v : V} {b : Bool} (r : Rep K p H F v (.bl b)) : v = .bl b := by
  cases r
  rfl
theorem tB_run {t : TE} {G : Addr → Prop} {ρ : Env} {σ : L2.St} {H : Hp} {s : Pen} {R : Bool → Pen → Prop} {Ex : XR} {Q : Bool → Hp → Prop}
    (h : wpM (f ρ >>= truB) s R Ex) (q : ∀ d s' H', R d s' → Af p H H' s' → Q d H')
    (run : ∀ (R' : D → Pen → Prop) (Q' : VK), wpM (f ρ) s R' Ex → (∀ d s' v H', R' d s' → Af p H H' s' → Rep X.K p H' (Fo G ρ σ) v d → Q' v H') → t σ H Q') : t σ H (fun x H' => ∃ k, x = .bl k ∧ Q k H') := by
  rw [wp_bind] at h
  refine run _ _ h fun d s' v H' hr a rp => ?_
  cases d with
  | bl k =>
    refine ⟨k, bl_of rp, q k s' H' hr a⟩
  | _ => exact hr.elim
theorem dt_cmp {op : CmpOp} {k : D → D → Option D} (h : BinS X p (compareOp op) k) (ha : DE X p a f) (hb : DE X p b g) (hm : behindInMarks op b = false := by first | exact nomark _ | rfl) : DT X p (.Compare a [op] [b] pos) (fun ρ => f ρ >>= fun x => g ρ >>= fun y => lift (k x y) >>= truB) := by
  obtain ⟨r, h1, h2⟩ := h
  exact ⟨fun W G H0 ρ σ H s R Ex Q tk rl hw q px => tT_of (pt_cmpR h1 pe_self pe_self hm) (tB_run (f := fun ρ => f ρ >>= fun x => g ρ >>= fun y => lift (k x y)) (by rw [bind_assoc]; simp only [bind_assoc]; exact hw) q fun R' Q' hw' q' => bin_run h2 ha hb tk rl hw' q' px)⟩
/-- an expression of another form as a test -/
theorem dt_val (ha : DE X p e f) (he : ∀ whole, isTrue e X.env whole = (do let v ← whole; standAt e.pos; holding [v] (truthy v)) := by intro _; rfl) : DT X p e (fun ρ => f ρ >>= truB) :=
  ⟨fun W G H0 ρ σ H s R Ex Q tk rl hw q px => tT_of (pt_val pe_self he) (tB_run hw q fun R' Q' hw' q' => ha.run W G H0 ρ σ H s R' Ex Q' tk rl hw' q' px)⟩
theorem dt_of {t : Env → M Bool} (h : DW X p e t) : DT X p e t := ⟨fun W G H0 ρ σ H s R Ex Q tk rl hw q px => tT_of pw_self.pt (h.run W G H0 ρ σ H s R Ex Q tk rl hw q px)⟩
/-! ### and, or, not: tests -/
variable {t u : Env → M Bool} {rest : List Expr}
def andB (a b : M Bool) : M Bool := a >>= fun x => if x = true then b else pure false
def orB (a b : M Bool) : M Bool := a >>= fun x => if x = true then pure true else b
def notB (a : M Bool) : M Bool := a >>= fun x => pure (!x)
theorem dw_and1 (ha : DT X p a t) : DW X p (.BoolOp .And [a] pos) t := ⟨fun W G H0 ρ σ H s R Ex Q tk rl hw q px => tW_of (pw_and1 pt_self) (ha.run W G H0 ρ σ H s R Ex Q tk rl hw q px)⟩
theorem dw_or1 (ha : DT X p a t) : DW X p (.BoolOp .Or [a] pos) t := ⟨fun W G H0 ρ σ H s R Ex Q tk rl hw q px => tW_of (pw_or1 pt_self) (ha.run W G H0 ρ σ H s R Ex Q tk rl hw q px)⟩
theorem dw_and (ha : DT X p a t) (hb : DW X p (.BoolOp .And (b :: rest) pos) u) : DW X p (.BoolOp .And (a :: b :: rest) pos) (fun ρ => andB (t ρ) (u ρ)) := by
  refine ⟨fun W G H0 ρ σ H s R Ex Q tk rl hw q px => tW_of (pw_and pt_self pw_self) ?_⟩
  have hw : wpM (t ρ >>= fun x => if x = true then u ρ else pure false) s R Ex := hw
  rw [wp_bind] at hw
  refine ha.run W G H0 ρ σ H s _ Ex _ tk rl hw (fun d s1 H1 h1 a1 => ?_) px
  cases d with
  | true =>
    rw [if_pos rfl]
    exact hb.run W G H0 ρ σ H1 s1 R Ex Q tk (rl.step a1.st a1.pen) h1 (fun d s2 H2 h2 a2 => q d s2 H2 h2 (a1.trans a2)) (px.at a1)
  | false =>
    rw [if_neg (by decide)]
    exact q false s1 H1 h1 a1
theorem dw_or (ha : DT X p a t) (hb : DW X p (.BoolOp .Or (b :: rest) pos) u) : DW X p (.BoolOp .Or (a :: b :: rest) pos) (fun ρ => orB (t ρ) (u ρ)) := by
  refine ⟨fun W G H0 ρ σ H s R Ex Q tk rl hw q px => tW_of (pw_or pt_self pw_self) ?_⟩
  have hw : wpM (t ρ >>= fun x => if x = true then pure true else u ρ) s R Ex := hw
  rw [wp_bind] at hw
  refine ha.run W G H0 ρ σ H s _ Ex _ tk rl hw (fun d s1 H1 h1 a1 => ?_) px
  cases d with
  | true =>
    rw [if_pos rfl]
    exact q true s1 H1 h1 a1
  | false =>
    rw [if_neg (by decide)]
    exact hb.run W G H0 ρ σ H1 s1 R Ex Q tk (rl.step a1.st a1.pen) h1 (fun d s2 H2 h2 a2 => q d s2 H2 h2 (a1.trans a2)) (px.at a1)
theorem dt_not (ha : DT X p a t) : DT X p (.UnaryOp .Not a pos) (fun ρ => notB (t ρ)) := by
  refine ⟨fun W G H0 ρ σ H s R Ex Q tk rl hw q px => tT_of (pt_not pt_self) ?_⟩
  have hw : wpM (t ρ >>= fun x => pure (!x)) s R Ex := hw
  rw [wp_bind] at hw
  exact ha.run W G H0 ρ σ H s _ Ex _ tk rl hw (fun d s1 H1 h1 a1 => q _ s1 H1 h1 a1) px
/-! ### .. as values -/
def andV (a b : M D) : M D := a >>= fun x => truB x >>= fun k => if k = true then b else pure (.bl false)
def orV (a b : M D) : M D := a >>= fun x => truB x >>= fun k => if k = true then pure (.bl true) else b
def notV (a : M D) : M D := a >>= fun x => truB x >>= fun k => pure (.bl (!k))
theorem de_one {op : BoolOp} (ha : DE X p a f) : DE X p (.BoolOp op [a] pos) f := ⟨fun W G H0 ρ σ H s R Ex Q tk rl hw q px => tE_of (pe_one pe_self) (ha.run W G H0 ρ σ H s R Ex Q tk rl hw q px)⟩
theorem de_and (ha : DE X p a f) (hb : DE X p (.BoolOp .And (b :: rest) pos) g) : DE X p (.BoolOp .And (a :: b :: rest) pos) (fun ρ => andV (f ρ) (g ρ)) := by
  refine ⟨fun W G H0 ρ σ H s R Ex Q tk rl hw q px => tE_of (pe_and pe_self pe_self) ?_⟩
  have hw : wpM (f ρ >>= fun x => truB x >>= fun k => if k = true then g ρ else pure (.bl false)) s R Ex := hw
  rw [wp_bind] at hw
  refine ha.run W G H0 ρ σ H s _ Ex _ tk rl hw (fun d s1 v H1 h1 a1 r1 => ?_) px
  rw [wp_bind] at h1
  cases d with
  | bl k =>
    refine ⟨k, bl_of r1, ?_⟩
    have h1 : wpM (if k = true then g ρ else pure (.bl false)) s1 R Ex := h1
    cases k with
    | true =>
      rw [if_pos rfl] at h1 ⊢
      exact hb.run W G H0 ρ σ H1 s1 R Ex Q tk (rl.step a1.st a1.pen) h1 (fun d s2 v2 H2 h2 a2 r2 => q d s2 v2 H2 h2 (a1.trans a2) r2) (px.at a1)
    | false =>
      rw [if_neg (by decide)] at h1 ⊢
      exact q _ s1 _ H1 h1 a1 (.bl false)
  | _ => exact h1.elim
theorem de_or (ha : DE X p a f) (hb : DE X p (.BoolOp .Or (b :: rest) pos) g) : DE X p (.BoolOp .Or (a :: b :: rest) pos) (fun ρ => orV (f ρ) (g ρ)) := by
  refine ⟨fun W G H0 ρ σ H s R Ex Q tk rl hw q px => tE_of (pe_or pe_self pe_self) ?_⟩
  have hw : wpM (f ρ >>= fun x => truB x >>= fun k => if k = true then pure (.bl true) else g ρ) s R Ex := hw
  rw [wp_bind] at hw
  refine ha.run W G H0 ρ σ H s _ Ex _ tk rl hw (fun d s1 v H1 h1 a1 r1 => ?_) px
  rw [wp_bind] at h1
  cases d with
  | bl k =>
    refine ⟨k, bl_of r1, ?_⟩
    have h1 : wpM (if k = true then pure (.bl true) else g ρ) s1 R Ex := h1
    cases k with
    | true =>
      rw [if_pos rfl] at h1 ⊢
      exact q _ s1 _ H1 h1 a1 (.bl true)
    | false =>
      rw [if_neg (by decide)] at h1 ⊢
      exact hb.run W G H0 ρ σ H1 s1 R Ex Q tk (rl.step a1.st a1.pen) h1 (fun d s2 v2 H2 h2 a2 r2 => q d s2 v2 H2 h2 (a1.trans a2) r2) (px.at a1)
  | _ => exact h1.elim
theorem de_not (ha : DE X p a f) : DE X p (.UnaryOp .Not a pos) (fun ρ => notV (f ρ)) := by
  refine ⟨fun W G H0 ρ σ H s R Ex Q tk rl hw q px => tE_of (pe_not pe_self) ?_⟩
  have hw : wpM (f ρ >>= fun x => truB x >>= fun k => pure (.bl (!k))) s R Ex := hw
  rw [wp_bind] at hw
  refine ha.run W G H0 ρ σ H s _ Ex _ tk rl hw (fun d s1 v H1 h1 a1 r1 => ?_) px
  rw [wp_bind] at h1
  cases d with
  | bl k => exact ⟨k, bl_of r1, q _ s1 _ H1 h1 a1 (.bl _)⟩
  | _ => exact h1.elim
theorem de_if {c : Expr} (hc : DT X p c t) (ha : DE X p a f) (hb : DE X p b g) : DE X p (.IfExp c a b pos) (fun ρ => t ρ >>= fun k => if k = true then f ρ else g ρ) := by
  refine ⟨fun W G H0 ρ σ H s R Ex Q tk rl hw q px => tE_of (pe_ifExp pt_self pe_self pe_self) ?_⟩
  rw [wp_bind] at hw
  refine hc.run W G H0 ρ σ H s _ Ex _ tk rl hw (fun k s1 H1 h1 a1 => ?_) px
  cases k with
  | true =>
    rw [if_pos rfl] at h1 ⊢
    exact ha.run W G H0 ρ σ H1 s1 R Ex Q tk (rl.step a1.st a1.pen) h1 (fun d s2 v2 H2 h2 a2 r2 => q d s2 v2 H2 h2 (a1.trans a2) r2) (px.at a1)
  | false =>
    rw [if_neg (by decide)] at h1 ⊢
    exact hb.run W G H0 ρ σ H1 s1 R Ex Q tk (rl.step a1.st a1.pen) h1 (fun d s2 v2 H2 h2 a2 r2 => q d s2 v2 H2 h2 (a1.trans a2) r2) (px.at a1)
/-! ### lists of arguments, displays -/
variable {es : List Expr} {fs : List (Env → M D)} {k : Env → M (List D)}
theorem da_nil : DA X p [] [] := ⟨fun β k W G H0 ρ σ H s R Ex Q tk rl hw q px => tA_of pa_nil (show Q [] H from q [] s [] H hw (.refl rl.pen) .nil rfl)⟩
theorem da_cons (ha : DE X p e f) (hr : DA X p es fs) (hs : starEach (e :: es) X.env = (false, eval e X.env) :: starEach es X.env := by rfl) : DA X p (e :: es) (f :: fs) := by
  refine ⟨fun β k W G H0 ρ σ H s R Ex Q tk rl hw q px => tA_of (pa_cons pe_self pa_self hs) ?_⟩
  have hw : wpM (f ρ >>= fun x => seqA fs ρ fun xs => k (x :: xs)) s R Ex := hw
  rw [wp_bind] at hw
  refine ha.run W G H0 ρ σ H s _ Ex _ tk rl hw (fun d s1 v H1 h1 a1 r1 => ?_) px
  exact hr.run β (fun xs => k (d :: xs)) W G H0 ρ σ H1 s1 R Ex _ tk (rl.step a1.st a1.pen) h1 (fun ds s2 vs H2 h2 a2 r2 e2 => q (d :: ds) s2 (v :: vs) H2 h2 (a1.trans a2) (.cons (r1.mono (a2.st.toF rl.fpa) fun _ z => z) r2) (congrArg (· + 1) e2)) (px.at a1)
def szL (xs : List D) : Bool := decide (xs.length ≤ 16777216)
theorem szL_ok {xs : List D} {n : Nat} (h : szL xs = true) (e : n = xs.length) : n ≤ sizeLine := by
  rw [sizeLine_eq, e]
  exact of_decide_eq_true h
def mkTup (xs : List D) : M D := if szL xs = true then pure (.tup xs) else bad
def mkLst (xs : List D) : M (List D) := if szL xs = true then pure xs else bad
theorem de_tup {x1 : Nat} (ha : DA X p es fs) : DE X p (.Tuple es x1 pos) (fun ρ => seqA fs ρ mkTup) := by
  refine ⟨fun W G H0 ρ σ H s R Ex Q tk rl hw q px => tE_of (pe_tupF pa_self) ?_⟩
  refine ha.run D mkTup W G H0 ρ σ H s R Ex _ tk rl hw (fun ds s1 vs H1 h1 a1 r1 _ => ?_) px
  unfold mkTup at h1
  cases e : szL ds with
  | false => rw [e] at h1; exact h1.elim
  | true =>
    rw [e] at h1
    refine ⟨szL_ok e r1.length, fun q' o hq nd => ?_⟩
    have sm := same_new (o := .frz o (.tup vs)) hq
    exact q (.tup ds) s1 _ _ h1 (a1.trans (.same a1.pen sm)) (.tup (⟨⟨o, upd_same, nd⟩, (rl.step a1.st a1.pen).fresh hq⟩) (of_decide_eq_true e) (r1.mono ((same_step (p := p) sm).toF rl.fpa) fun _ z => z))
theorem back_none {H H1 : Hp} {s1 : Pen} (a : Af p H H1 s1) {q : Addr} (hq : H1 q = none) : H q = none := by
  cases z : H q with
  | none => rfl
  | some o =>
    by_cases hp : q = p.pa
    · subst hp
      rw [a.pen.dict] at hq
      cases hq
    · have := a.st q o z hp
      rw [this] at hq
      cases hq
theorem dn_lst (ha : DA X p es fs) : DN X p (.List es pos) (fun ρ => seqA fs ρ mkLst) := by
  refine ⟨fun W G H0 ρ σ H s R Ex Q tk rl hw q px => tE_of (pe_lst pa_self) ?_⟩
  refine ha.run _ mkLst W G H0 ρ σ H s R Ex _ tk rl hw (fun ds s1 vs H1 h1 a1 r1 _ => ?_) px
  unfold mkLst at h1
  cases e : szL ds with
  | false => rw [e] at h1; exact h1.elim
  | true =>
    rw [e] at h1
    refine ⟨szL_ok e r1.length, fun q' hq => ?_⟩
    have sm := same_new (o := .lst vs) hq
    exact q ds s1 _ vs _ h1 (a1.trans (.same a1.pen sm)) (back_none a1 hq) upd_same (of_decide_eq_true e) ((r1.more (N := fun a => a = q') fun a z => by rw [z]; exact hq).mono ((same_step (p := p) sm).toF (.inl rl.fpa)) fun _ z => z)
/-- a new list as data -/
theorem de_new (ha : DN X p e k) : DE X p e (fun ρ => k ρ >>= fun xs => pure (.lst xs)) := by
  refine ⟨fun W G H0 ρ σ H s R Ex Q tk rl hw q px => ?_⟩
  rw [wp_bind] at hw
  refine ha.run W G H0 ρ σ H s _ Ex _ tk rl hw (fun ds s1 a vs H1 h1 a1 n1 e1 hz r1 => ?_) px
  exact q (.lst ds) s1 _ H1 h1 a1 (.lst e1 (rl.fresh n1) hz (r1.mono (fun _ _ z _ => z) fun _ z => .inl z))
/-- what is owned, read as data: only what holds no list may come out -/
def immD (d : D) : M D := if d.imm = true then pure d else bad
theorem de_thaw (ha : DE X p e f) : DE X p e (fun ρ => f (thaw ρ) >>= immD) := by
  refine ⟨fun W G H0 ρ σ H s R Ex Q tk rl hw q px => ?_⟩
  rw [wp_bind] at hw
  refine ha.run W G H0 (thaw ρ) σ H s _ Ex _ tk rl.thaw hw (fun d s1 v H1 h1 a1 r1 => ?_) px
  unfold immD at h1
  cases e : d.imm with
  | false => rw [e] at h1; exact h1.elim
  | true =>
    rw [e] at h1
    exact q d s1 v H1 h1 a1 (r1.free (rl.step a1.st a1.pen).mt e)
theorem dt_thaw (ha : DT X p e t) : DT X p e (fun ρ => t (thaw ρ)) :=
  ⟨fun W G H0 ρ σ H s R Ex Q tk rl hw q px => ha.run W G H0 (thaw ρ) σ H s R Ex Q tk rl.thaw hw q px⟩
end
end Say

namespace Say
open L2 PyProof.Rows PySem.Spec PySem

/-! ### equality -/
mutual
def D.toPy : D → PyData
  | .bl b => .bool b
  | .int i => .int i
  | .str s => .str s
  | .tup xs => .tuple (toPyL xs)
  | .lst xs => .list (toPyL xs)
  | _ => .none
def toPyL : List D → List PyData
  | [] => []
  | d :: ds => d.toPy :: toPyL ds
end
mutual
def D.plainN : Nat → D → Bool
  | _, .non | _, .bl _ | _, .int _ => true
  | _, .str s => PyData.strOk s
  | 0, _ => false
  | n + 1, .tup xs => plainL n xs
  | n + 1, .lst xs => plainL n xs
  | _ + 1, _ => false
def plainL : Nat → List D → Bool
  | _, [] => true
  | n, d :: ds => d.plainN n && plainL n ds
end
def D.plain (d : D) : Bool := d.plainN 60
def eqV (d e : D) : Bool := PyData.eqv d.toPy e.toPy
theorem plainN_ok : ∀ (n : Nat) (d : D), d.plainN n = true → d.toPy.canLay0 = true ∧ d.toPy.depth ≤ n := by
  have main : ∀ (n : Nat), (∀ d : D, d.plainN n = true → d.toPy.canLay0 = true ∧ d.toPy.depth ≤ n) ∧ (∀ ds : List D, plainL n ds = true → PyData.canLayAll0 (toPyL ds) = true ∧ PyData.depthAll (toPyL ds) ≤ n) := by
    intro n
    induction n with
    | zero =>
      have h1 : ∀ d : D, d.plainN 0 = true → d.toPy.canLay0 = true ∧ d.toPy.depth ≤ 0 := by
        intro d h
        cases d <;> first | (simp [D.plainN] at h; done) | simp_all [D.toPy, PyData.canLay0, PyData.depth, D.plainN]
      refine ⟨h1, fun ds => ?_⟩
      induction ds with
      | nil => intro _; simp [toPyL, PyData.canLayAll0, PyData.depthAll]
      | cons d ds ih =>
        intro h
        simp only [plainL, Bool.and_eq_true] at h
        have a := h1 d h.1
        have b := ih h.2
        simp only [toPyL, PyData.canLayAll0, PyData.depthAll, a.1, b.1, Bool.and_self, true_and]
        omega
    | succ n ih =>
      have h1 : ∀ d : D, d.plainN (n + 1) = true → d.toPy.canLay0 = true ∧ d.toPy.depth ≤ n + 1 := by
        intro d h
        cases d with
        | tup xs =>
          have q := ih.2 xs (by simpa [D.plainN] using h)
          simp only [D.toPy, PyData.canLay0, PyData.depth, q.1, true_and]
          omega
        | lst xs =>
          have q := ih.2 xs (by simpa [D.plainN] using h)
          simp only [D.toPy, PyData.canLay0, PyData.depth, q.1, true_and]
          omega
        | _ => first | (simp [D.plainN] at h; done) | simp_all [D.toPy, PyData.canLay0, PyData.depth, D.plainN]
      refine ⟨h1, fun ds => ?_⟩
      induction ds with
      | nil => intro _; simp [toPyL, PyData.canLayAll0, PyData.depthAll]
      | cons d ds ih =>
        intro h
        simp only [plainL, Bool.and_eq_true] at h
        have a := h1 d h.1
        have b := ih h.2
        simp only [toPyL, PyData.canLayAll0, PyData.depthAll, a.1, b.1, Bool.and_self, true_and]
        omega
  exact fun n => (main n).1
theorem plain_shaped {d : D} (h : d.plain = true) : SeqAt.shaped d.toPy = true := by
  have q := plainN_ok 60 d h
  unfold SeqAt.shaped
  rw [q.1, decide_eq_true (by omega)]
  rfl
section
variable {K : PySem.W.Frag} {p : PL} {H : Hp} {F : Addr → Prop}
theorem Rep.toDp : ∀ (n : Nat) {v : V} {d : D}, Rep K p H F v d → d.plainN n = true → Dp K H v d.toPy := by
  have main : ∀ (n : Nat), (∀ (d : D) (v : V), Rep K p H F v d → d.plainN n = true → Dp K H v d.toPy) ∧ (∀ (ds : List D) (vs : List V), RepL K p H F vs ds → plainL n ds = true → DpAll K H vs (toPyL ds)) := by
    have lists : ∀ n, (∀ (d : D) (v : V), Rep K p H F v d → d.plainN n = true → Dp K H v d.toPy) → ∀ (ds : List D) (vs : List V), RepL K p H F vs ds → plainL n ds = true → DpAll K H vs (toPyL ds) := by
      intro n h1 ds
      induction ds with
      | nil =>
        intro vs r _
        cases r
        exact .nil
      | cons d ds ih =>
        intro vs r h
        cases r with
        | cons r1 r2 =>
          simp only [plainL, Bool.and_eq_true] at h
          exact .cons (h1 d _ r1 h.1) (ih _ r2 h.2)
    intro n
    induction n with
    | zero =>
      have h1 : ∀ (d : D) (v : V), Rep K p H F v d → d.plainN 0 = true → Dp K H v d.toPy := by
        intro d v r h
        cases r <;> first | (simp [D.plainN] at h; done) | (simp only [D.toPy]; constructor)
      exact ⟨h1, lists 0 h1⟩
    | succ n ih =>
      have h1 : ∀ (d : D) (v : V), Rep K p H F v d → d.plainN (n + 1) = true → Dp K H v d.toPy := by
        intro d v r h
        cases r with
        | tup q hz r =>
          simp only [D.toPy]
          exact .tup q.1.sq (ih.2 _ _ r (by simpa [D.plainN] using h))
        | lst q hF hz r =>
          simp only [D.toPy]
          exact .lst (.inl (.inl q)) (ih.2 _ _ r (by simpa [D.plainN] using h))
        | _ => first | (simp [D.plainN] at h; done) | (simp only [D.toPy]; constructor)
      exact ⟨h1, lists (n + 1) h1⟩
  exact fun n {v d} r h => (main n).1 d v r h
end
def eqD (x y : D) : Option D := if (x.plain && y.plain) = true then some (.bl (eqV x y)) else none
def neD (x y : D) : Option D := if (x.plain && y.plain) = true then some (.bl (!eqV x y)) else none
def inD (x c : D) : Option D := match c with
  | .lst xs => if (x.plain && plainL 59 xs) = true then some (.bl (xs.any fun y => eqV y x)) else none
  | .tup xs => if (x.plain && plainL 59 xs) = true then some (.bl (xs.any fun y => eqV y x)) else none
  | _ => none
def ninD (x c : D) : Option D := match c with
  | .lst xs => if (x.plain && plainL 59 xs) = true then some (.bl (!xs.any fun y => eqV y x)) else none
  | .tup xs => if (x.plain && plainL 59 xs) = true then some (.bl (!xs.any fun y => eqV y x)) else none
  | _ => none
def iiD (g : Int → Int → D) (x y : D) : Option D := match x, y with
  | .int i, .int j => some (g i j)
  | _, _ => none
def iicD (c : Int → Int → Bool) (g : Int → Int → D) (x y : D) : Option D := match x, y with
  | .int i, .int j => if c i j = true then some (g i j) else none
  | _, _ => none
theorem iteSome {α : Type} {c : Prop} [Decidable c] {a b : α} (h : (if c then some a else none) = some b) : c ∧ a = b := by
  by_cases e : c
  · rw [if_pos e] at h
    exact ⟨e, Option.some.inj h⟩
  · rw [if_neg e] at h
    cases h
theorem toPyL_any (x : PyData) : ∀ ds : List D, ((toPyL ds).any fun y => PyData.eqv y x) = ds.any fun d => PyData.eqv d.toPy x
  | [] => rfl
  | d :: ds => by simp only [toPyL, List.any_cons, toPyL_any x ds]
section
variable {X : Cx} {p : PL} {k : Nat}
/-- what a rule of two ints gives -/
theorem bs_ii {op : Value → Value → Sem Value} {g : Int → Int → V} {g' : Int → Int → D} (h : OpR X op (rI0 g)) (hg : ∀ K p H F i j, Rep K p H F (g i j) (g' i j)) : BinS X p op (iiD g') := by
  refine ⟨_, h, fun F H v1 v2 d1 d2 d Q hp hf r1 r2 e q => ?_⟩
  unfold iiD at e
  split at e
  · cases e
    cases r1
    cases r2
    exact ⟨_, _, rfl, rfl, q _ H (Same.refl H) (hg _ _ _ _ _ _)⟩
  · cases e
theorem bs_iic {op : Value → Value → Sem Value} {C : Int → Int → Prop} {c : Int → Int → Bool} {g : Int → Int → V} {g' : Int → Int → D} (h : OpR X op (rI C g)) (hc : ∀ i j, c i j = true → C i j) (hg : ∀ K p H F i j, Rep K p H F (g i j) (g' i j)) : BinS X p op (iicD c g') := by
  refine ⟨_, h, fun F H v1 v2 d1 d2 d Q hp hf r1 r2 e q => ?_⟩
  unfold iicD at e
  split at e
  · obtain ⟨e1, e2⟩ := iteSome e
    subst e2
    cases r1
    cases r2
    exact ⟨_, _, rfl, rfl, hc _ _ e1, q _ H (Same.refl H) (hg _ _ _ _ _ _)⟩
  · cases e
def cMul (i j : Int) : Bool := decide (-(2 ^ 64) < i ∧ i < 2 ^ 64) || decide (-(2 ^ 64) < j ∧ j < 2 ^ 64)
def cPos (_ j : Int) : Bool := decide (0 < j)
def cDiv (_ j : Int) : Bool := decide (0 < j ∧ j < 1073741824)
def cPow (i j : Int) : Bool := decide (0 ≤ j ∧ j ≤ 1000000 ∧ i.natAbs < 2 ^ 64)
theorem bs_sub : BinS X p (binaryOp .Sub) (iiD fun i j => .int (i - j)) := bs_ii op_sub fun _ _ _ _ _ _ => .int _
theorem bs_mul : BinS X p (binaryOp .Mult) (iicD cMul fun i j => .int (i * j)) := bs_iic op_mul (fun i j h => by
  unfold cMul at h
  rw [Bool.or_eq_true, decide_eq_true_eq,
      decide_eq_true_eq] at h
  exact h) fun _ _ _ _ _ _ => .int _
theorem bs_mod : BinS X p (binaryOp .Mod) (iicD cPos fun i j => .int (i % j)) := bs_iic op_mod (fun i j h => of_decide_eq_true (p := 0 < j) h) fun _ _ _ _ _ _ => .int _
theorem bs_fdiv : BinS X p (binaryOp .FloorDiv) (iicD cDiv fun i j => .int (i / j)) := bs_iic op_fdiv (fun i j h => of_decide_eq_true (p := 0 < j ∧ j < 1073741824) h) fun _ _ _ _ _ _ => .int _
theorem bs_pow : BinS X p (binaryOp .Pow) (iicD cPow fun i j => .int (i ^ j.toNat)) := bs_iic op_pow (fun i j h => of_decide_eq_true (p := 0 ≤ j ∧ j ≤ 1000000 ∧ i.natAbs < 2 ^ 64) h) fun _ _ _ _ _ _ => .int _
/-! ### +, by the kinds -/
def catT (x y : D) : Option D := match x, y with
  | .tup xs, .tup ys => if xs.length + ys.length ≤ 16777216 then some (.tup (xs ++ ys)) else none
  | _, _ => none
def catL (x y : D) : Option D := match x, y with
  | .lst xs, .lst ys => if xs.length + ys.length ≤ 16777216 then some (.lst (xs ++ ys)) else none
  | _, _ => none
def catS (x y : D) : Option D := match x, y with
  | .str xs, .str ys => if xs.length + ys.length ≤ 16777216 ∧ (xs ++ ys).length ≤ 16777216 then some (.str (xs ++ ys)) else none
  | _, _ => none
theorem tupSq {K : PySem.W.Frag} {H : Hp} {F : Addr → Prop} {a : Addr} {vs : List V} (h : Tp H a vs ∧ ¬ F a) : SqT K H a vs := h.1.sq
theorem bs_catT : BinS X p (binaryOp .Add) catT := by
  refine ⟨_, op_catF, fun F H v1 v2 d1 d2 d Q hp hf r1 r2 e q => ?_⟩
  unfold catT at e
  split at e
  · obtain ⟨e1, e2⟩ := iteSome e
    subst e2
    cases r1 with
    | tup h1 hz1 l1 =>
    cases r2 with
    | tup h2 hz2 l2 =>
    refine ⟨_, _, _, _, rfl, rfl, tupSq h1, tupSq h2, by rw [l1.length, l2.length, sizeLine_eq]; exact e1, fun z => ?_, fun z z2 => ?_, fun z z2 a o ha nd => ?_⟩
    · subst z
      cases l1
      exact q _ H (Same.refl H) (.tup h2 hz2 l2)
    · subst z2
      cases l2
      rw [List.append_nil] at q
      exact q _ H (Same.refl H) (.tup h1 hz1 l1)
    · exact q _ _ (same_new ha) (.tup (⟨⟨o, upd_same, nd⟩, hf a ha⟩) (by rw [List.length_append]; exact e1) ((l1.append l2).mono ((same_step (p := p) (same_new ha)).toF hp) fun _ z => z))
  · cases e
theorem bs_catL : BinS X p (binaryOp .Add) catL := by
  refine ⟨_, op_cat, fun F H v1 v2 d1 d2 d Q hp hf r1 r2 e q => ?_⟩
  unfold catL at e
  split at e
  · obtain ⟨e1, e2⟩ := iteSome e
    subst e2
    cases r1 with
    | lst h1 n1 hz1 l1 =>
    cases r2 with
    | lst h2 n2 hz2 l2 =>
    refine ⟨_, _, _, _, rfl, rfl, h1, h2, by rw [l1.length, l2.length, sizeLine_eq]; exact e1, fun a ha => ?_⟩
    exact q _ _ (same_new ha) (.lst upd_same (hf a ha) (by rw [List.length_append]; exact e1) ((l1.append l2).mono ((same_step (p := p) (same_new ha)).toF hp) fun _ z => z))
  · cases e
theorem bs_catS : BinS X p (binaryOp .Add) catS := by
  refine ⟨_, op_add_str, fun F H v1 v2 d1 d2 d Q hp hf r1 r2 e q => ?_⟩
  unfold catS at e
  split at e
  · obtain ⟨e1, e2⟩ := iteSome e
    subst e2
    cases r1
    cases r2
    exact ⟨_, _, rfl, rfl, by rw [sizeLine_eq]; exact e1.1, q _ H (Same.refl H) (.str _ (by rw [sizeLine_eq]; exact e1.2))⟩
  · cases e
def addD (x y : D) : Option D := match x, y with
  | .int i, .int j => some (.int (i + j))
  | .tup xs, .tup ys => if xs.length + ys.length ≤ 16777216 then some (.tup (xs ++ ys)) else none
  | .lst xs, .lst ys => if xs.length + ys.length ≤ 16777216 then some (.lst (xs ++ ys)) else none
  | .str xs, .str ys => if xs.length + ys.length ≤ 16777216 ∧ (xs ++ ys).length ≤ 16777216 then some (.str (xs ++ ys)) else none
  | _, _ => none
theorem BinS.eq {op : Value → Value → Sem Value} {g h : D → D → Option D} (a : BinS X p op g) (e : ∀ x y d, h x y = some d → g x y = some d) : BinS X p op h := by
  obtain ⟨r, h1, h2⟩ := a
  exact ⟨r, h1, fun F H v1 v2 d1 d2 d Q hp hf r1 r2 e' q => h2 F H v1 v2 d1 d2 d Q hp hf r1 r2 (e _ _ _ e') q⟩
theorem bs_add : BinS X p (binaryOp .Add) addD := by
  refine (((bs_ii (g' := fun i j => .int (i + j)) op_add fun _ _ _ _ _ _ => .int _).or bs_catT).or (bs_catL.or bs_catS)).eq fun x y d e => ?_
  unfold addD at e
  split at e
  · exact (by rw [← e]; rfl)
  · obtain ⟨e1, e2⟩ := iteSome e
    subst e2
    simp [iiD, catT, catL, catS, e1]
  · obtain ⟨e1, e2⟩ := iteSome e
    subst e2
    simp [iiD, catT, catL, catS, e1]
  · obtain ⟨e1, e2⟩ := iteSome e
    subst e2
    simp only [iiD, catT, catL, catS, if_pos e1]
    rfl
  · cases e
/-! ### comparisons -/
theorem bs_eq (hr : Room k X.A) : BinS X p (compareOp .Eq) eqD := by
  refine ⟨_, op_eqD (by have := hr.un; omega), fun F H v1 v2 d1 d2 d Q hp hf r1 r2 e q => ?_⟩
  unfold eqD at e
  obtain ⟨e1, e2⟩ := iteSome e
  subst e2
  obtain ⟨p1, p2⟩ := Bool.and_eq_true_iff.mp e1
  exact ⟨_, _, r1.toDp 60 p1, r2.toDp 60 p2, plain_shaped p1, plain_shaped p2, q _ H (Same.refl H) (.bl _)⟩
theorem bs_ne (hr : Room k X.A) : BinS X p (compareOp .NotEq) neD := by
  refine ⟨_, op_neD (by have := hr.un; omega), fun F H v1 v2 d1 d2 d Q hp hf r1 r2 e q => ?_⟩
  unfold neD at e
  obtain ⟨e1, e2⟩ := iteSome e
  subst e2
  obtain ⟨p1, p2⟩ := Bool.and_eq_true_iff.mp e1
  exact ⟨_, _, r1.toDp 60 p1, r2.toDp 60 p2, plain_shaped p1, plain_shaped p2, q _ H (Same.refl H) (.bl _)⟩
/-- in, by data: the container a list or a tuple -/
def rInA (K : PySem.W.Frag) (neg : Bool) : R2 := fun x y H Q => ∃ d ds, Dp K H x d ∧ (Dp K H y (.list ds) ∨ Dp K H y (.tuple ds)) ∧ SeqAt.shaped d = true ∧ PyData.canLayAll0 ds = true ∧ Q (.bl (if neg = true then !(ds.any fun z => PyData.eqv z d) else ds.any fun z => PyData.eqv z d)) H
theorem op_inA (hu : X.A.units + 65 < cLine) : OpR X (compareOp .In) (rInA X.K false) := by
  intro pins s σ H x
      y v u Q I rx ry h
  obtain ⟨d, ds, hd,
      he, sd, se, q⟩ := h
  obtain ⟨as, r1⟩ :=
      Dp.reads I d x v hd rx
  rcases he with he | he
  · obtain ⟨bs, r2⟩ := Dp.reads I (.list ds) y u he ry
    exact SeqAt.in_list_reads r2 r1 se (SeqAt.canLay_of_shaped sd) (room_in_shaped sd hu) ⟨.bl _, H, I, rfl, q⟩
  · obtain ⟨bs, r2⟩ := Dp.reads I (.tuple ds) y u he ry
    exact SeqAt.in_tuple_reads r2 r1 se (SeqAt.canLay_of_shaped sd) (room_in_shaped sd hu) ⟨.bl _, H, I, rfl, q⟩
theorem op_ninA (hu : X.A.units + 65 < cLine) : OpR X (compareOp .NotIn) (rInA X.K true) := by
  intro pins s σ H x
      y v u Q I rx ry h
  obtain ⟨d, ds, hd,
      he, sd, se, q⟩ := h
  obtain ⟨as, r1⟩ :=
      Dp.reads I d x v hd rx
  rcases he with he | he
  · obtain ⟨bs, r2⟩ := Dp.reads I (.list ds) y u he ry
    exact SeqAt.notIn_list_reads r2 r1 se (SeqAt.canLay_of_shaped sd) (room_in_shaped sd hu) ⟨.bl _, H, I, rfl, q⟩
  · obtain ⟨bs, r2⟩ := Dp.reads I (.tuple ds) y u he ry
    exact SeqAt.notIn_tuple_reads r2 r1 se (SeqAt.canLay_of_shaped sd) (room_in_shaped sd hu) ⟨.bl _, H, I, rfl, q⟩
theorem plainL_lay {xs : List D} (h : plainL 59 xs = true) : PyData.canLayAll0 (toPyL xs) = true := by
  have q := (plainN_ok 60 (.tup xs) (by simpa [D.plainN] using h)).1
  simpa [D.toPy, PyData.canLay0] using q
theorem in_run {neg : Bool} {F : Addr → Prop} {H : Hp} {v1 v2 : V} {d1 d2 d : D} {Q : VK} (r1 : Rep X.K p H F v1 d1) (r2 : Rep X.K p H F v2 d2) (e : (if neg = true then ninD d1 d2 else inD d1 d2) = some d)
    (q : ∀ v H', Same H H' → Rep X.K p H' F v d → Q v H') : rInA X.K neg v1 v2 H Q := by
  have main : ∀ xs : List D, (d2 = .lst xs ∨ d2 = .tup xs) → (d1.plain && plainL 59 xs) = true → d = .bl (if neg = true then !(xs.any fun y => eqV y d1) else xs.any fun y => eqV y d1) → rInA X.K neg v1 v2 H Q := by
    intro xs hx h1 h2
    obtain ⟨p1, p2⟩ := Bool.and_eq_true_iff.mp h1
    refine ⟨_, toPyL xs, r1.toDp 60 p1, ?_, plain_shaped p1, plainL_lay p2, ?_⟩
    · rcases hx with hx | hx
      · subst hx
        have := r2.toDp 60 (show D.plainN 60 (.lst xs) = true by simpa [D.plainN] using p2)
        simp only [D.toPy] at this
        exact .inl this
      · subst hx
        have := r2.toDp 60 (show D.plainN 60 (.tup xs) = true by simpa [D.plainN] using p2)
        simp only [D.toPy] at this
        exact .inr this
    · rw [toPyL_any]
      subst h2
      exact q _ H (Same.refl H) (.bl _)
  cases neg with
  | true =>
    rw [if_pos rfl] at e
    unfold ninD at e
    split at e
    · obtain ⟨e1, e2⟩ := iteSome e
      exact main _ (.inl rfl) e1 e2.symm
    · obtain ⟨e1, e2⟩ := iteSome e
      exact main _ (.inr rfl) e1 e2.symm
    · cases e
  | false =>
    rw [if_neg (by decide)] at e
    unfold inD at e
    split at e
    · obtain ⟨e1, e2⟩ := iteSome e
      exact main _ (.inl rfl) e1 e2.symm
    · obtain ⟨e1, e2⟩ := iteSome e
      exact main _ (.inr rfl) e1 e2.symm
    · cases e
theorem bs_in (hr : Room k X.A) : BinS X p (compareOp .In) inD := ⟨_, op_inA (by have := hr.un; omega), fun F H v1 v2 d1 d2 d Q hp hf r1 r2 e q => in_run (neg := false) r1 r2 e q⟩
theorem bs_nin (hr : Room k X.A) : BinS X p (compareOp .NotIn) ninD := ⟨_, op_ninA (by have := hr.un; omega), fun F H v1 v2 d1 d2 d Q hp hf r1 r2 e q => in_run (neg := true) r1 r2 e q⟩
def D.isNon : D → Bool
  | .non => true
  | _ => false
def isN (x y : D) : Option D := match y with
  | .non => some (.bl x.isNon)
  | _ => none
def nisN (x y : D) : Option D := match y with
  | .non => some (.bl (!x.isNon))
  | _ => none
theorem rep_non {K : PySem.W.Frag} {H : Hp} {F : Addr → Prop} {v : V} {d : D} (r : Rep K p H F v d) : decide (v = V.non) = d.isNon := by
  cases r <;> rfl
theorem bs_isN : BinS X p (compareOp .Is) isN := by
  refine ⟨_, op_isN, fun F H v1 v2 d1 d2 d Q hp hf r1 r2 e q => ?_⟩
  unfold isN at e
  split at e
  · cases e
    cases r2
    exact ⟨rfl, q _ H (Same.refl H) (by rw [rep_non r1]; exact .bl _)⟩
  · cases e
theorem bs_nisN : BinS X p (compareOp .IsNot) nisN := by
  refine ⟨_, op_notN, fun F H v1 v2 d1 d2 d Q hp hf r1 r2 e q => ?_⟩
  unfold nisN at e
  split at e
  · cases e
    cases r2
    refine ⟨rfl, q _ H (Same.refl H) ?_⟩
    rw [rep_non r1]
    exact .bl _
  · cases e
end
/-! ### the order of ints and of tuples of such -/
inductive Od where
  | lt | le | gt | ge
def Od.i : Od → Int → Int → Bool
  | .lt, a, b => decide (a < b)
  | .le, a, b => decide (a ≤ b)
  | .gt, a, b => decide (b < a)
  | .ge, a, b => decide (b ≤ a)
def Od.op : Od → CmpOp
  | .lt => .Lt
  | .le => .LtE
  | .gt => .Gt
  | .ge => .GtE
/-- lexicographic, all unlike pairs being ints -/
def odL (o : Od) : List Int → List Int → Bool
  | x :: xs, y :: ys => if x = y then odL o xs ys else o.i x y
  | xs, ys => o.i xs.length ys.length
def intsOf : List D → Option (List Int)
  | [] => some []
  | .int i :: ds => (intsOf ds).map (i :: ·)
  | _ :: _ => none
def odD (o : Od) (x y : D) : Option D := match x, y with
  | .int i, .int j => some (.bl (o.i i j))
  | .tup xs, .tup ys => match intsOf xs, intsOf ys with
    | some ns, some ms => some (.bl (odL o ns ms))
    | _, _ => none
  | _, _ => none
theorem intsOf_ok : ∀ {xs : List D} {ns : List Int}, intsOf xs = some ns → xs = ns.map D.int
  | [], ns, h => by cases h; rfl
  | .int i :: ds, ns, h => by
    have h1 : (intsOf ds).map (i :: ·) = some ns := h
    cases e : intsOf ds with
    | none => rw [e] at h1; cases h1
    | some ms =>
      rw [e] at h1
      cases h1
      rw [intsOf_ok e]
      rfl
  | .non :: _, ns, h => by cases h
  | .bl _ :: _, ns, h => by cases h
  | .str _ :: _, ns, h => by cases h
  | .tup _ :: _, ns, h => by cases h
  | .lst _ :: _, ns, h => by cases h
  | .dct _ :: _, ns, h => by cases h
  | .ins _ _ :: _, ns, h => by cases h
  | .pen :: _, ns, h => by cases h
  | .fn _ :: _, ns, h => by cases h
theorem repL_ints {K : PySem.W.Frag} {p : PL} {H : Hp} {F : Addr → Prop} : ∀ {ns : List Int} {vs : List V}, RepL K p H F vs (ns.map D.int) → vs = ns.map V.int
  | [], _, .nil => rfl
  | n :: ns, _, .cons h r => by
    cases h
    rw [repL_ints r]
    rfl
theorem lexAt_odL (o : Od) (fin : Nat → Nat → Bool) (hfin : ∀ a b, fin a b = o.i a b) : ∀ (ns ms : List Int) (off n : Nat) (gn gm : Nat → Int), (∀ j, gn (off + j) = ns.getD j 0) → (∀ j, gm (off + j) = ms.getD j 0) → n = min ns.length ms.length →
    Ob.lexAt (fun j => decide (gn j = gm j)) (fun j => o.i (gn j) (gm j)) (fin ns.length ms.length) off n = odL o ns ms
  | [], ms, off, n, gn, gm, _, _, e => by
    have : n = 0 := by rw [e]; simp
    subst this
    rw [Ob.lexAt_zero, hfin]
    cases ms <;> rfl
  | x :: xs, [], off, n, gn, gm, _, _, e => by
    have : n = 0 := by rw [e]; simp
    subst this
    rw [Ob.lexAt_zero, hfin]
    rfl
  | x :: xs, y :: ys, off, n, gn, gm, h1, h2, e => by
    have e1 : n = min xs.length ys.length + 1 := by rw [e, List.length_cons, List.length_cons]; omega
    subst e1
    have a1 : gn off = x := by simpa using h1 0
    have a2 : gm off = y := by simpa using h2 0
    rw [Ob.lexAt_succ]
    simp only [a1, a2]
    have hz : fin (x :: xs).length (y :: ys).length = fin xs.length ys.length := by
      rw [hfin, hfin]
      cases o <;> simp [Od.i]
    rw [hz, lexAt_odL o fin hfin xs ys (off + 1) (min xs.length ys.length) gn gm (fun j => by have := h1 (j + 1); rw [show off + (j + 1) = off + 1 + j by omega] at this; simpa using this) (fun j => by have := h2 (j + 1); rw [show off + (j + 1) = off + 1 + j by omega] at this; simpa using this) rfl]
    by_cases hxy : x = y
    · subst hxy
      simp [odL]
    · simp [odL, hxy]
section
variable {X : Cx} {p : PL} {k : Nat}
def rOdT (K : PySem.W.Frag) (o : Od) : R2 := fun x y H Q => ∃ (a b : Addr) (ns ms : List Int), x = .ref a ∧ y = .ref b ∧ SqT K H a (ns.map V.int) ∧ SqT K H b (ms.map V.int) ∧ Q (.bl (odL o ns ms)) H
theorem op_odT (o : Od) (hu : X.A.units < cLine) : OpR X (compareOp o.op) (rOdT X.K o) := by
  intro pins s σ H x
      y v u Q I rx ry h
  obtain ⟨a, b, ns, ms,
      rfl, rfl, ha, hb, q⟩ := h
  cases rx
  cases ry
  obtain ⟨its, r1,
      p1, _⟩ := I.tuple ha
  obtain ⟨its2, r2,
      p2, _⟩ := I.tuple hb
  have i1 : IntsAre its
      ns := Vals.ints r1
  have i2 : IntsAre its2
      ms := Vals.ints r2
  have e1 : its.toArray.size = ns.length :=
      by rw [List.size_toArray]; exact i1.length
  have e2 : its2.toArray.size = ms.length :=
      by rw [List.size_toArray]; exact i2.length
  have at1 : ∀ j (h1 : j < its.toArray.size), ∃ t, its.toArray[j] = .int (ns.getD j
      0) t := fun j h1 => PyProof.Rows.IntsAre.int_at i1 _ _ (by simp at h1; simp [h1])
  have at2 : ∀ j (h1 : j < its2.toArray.size), ∃ t, its2.toArray[j] = .int (ms.getD
      j 0) t := fun j h1 => PyProof.Rows.IntsAre.int_at i2 _ _ (by simp at h1; simp [h1])
  have heq : ∀ j (h1 : j < its.toArray.size) (h2 : j < its2.toArray.size), SeqAt.EqAt X.A.in1 s its.toArray[j] its2.toArray[j] (decide (ns.getD j 0 = ms.getD j 0)) := fun j h1 h2 => by
    obtain ⟨t, et⟩ := at1 j h1
    obtain ⟨t', et'⟩ := at2 j h2
    have z : (ns.getD j 0 == ms.getD j 0) = decide (ns.getD j 0 = ms.getD j 0) := Bool.beq_eq_decide_eq _ _
    rw [et, et', ← z]
    exact SeqAt.EqAt.int_int _ _ _ _
  have fin : ∀ (r : Bool), Ob.RcOp o.op X.A s (.ref a) (.ref b) r → r = odL o ns ms → wpAny (model X.prog X.w) X.A (compareOp o.op (.ref a) (.ref b)) (EP X pins σ Q) X.xe s := fun r R e => by
    subst e
    cases o <;> exact R X.prog X.w _ _ ⟨.bl _, H, I, rfl, q⟩
  have lx := lexAt_odL o (fun a b => o.i a b) (fun _ _ => rfl) ns ms 0 (min ns.length ms.length) (fun j => ns.getD j 0) (fun j => ms.getD j 0) (fun j => by simp) (fun j => by simp) rfl
  cases o with
  | lt =>
    refine fin _ (Ob.RcOp.tuples_lt (r := fun j => Od.lt.i (ns.getD j 0) (ms.getD j 0)) p1 p2 hu heq fun j h1 h2 _ => ?_) ?_
    · obtain ⟨t, et⟩ := at1 j h1
      obtain ⟨t', et'⟩ := at2 j h2
      rw [et, et']
      exact Ob.RcOp.lt_int _ _ _ _
    · rw [e1, e2, ← lx]
      simp [Od.i]
  | le =>
    refine fin _ (Ob.RcOp.tuples_le (r := fun j => Od.le.i (ns.getD j 0) (ms.getD j 0)) p1 p2 hu heq fun j h1 h2 _ => ?_) ?_
    · obtain ⟨t, et⟩ := at1 j h1
      obtain ⟨t', et'⟩ := at2 j h2
      rw [et, et']
      exact Ob.RcOp.le_int _ _ _ _
    · rw [e1, e2, ← lx]
      simp [Od.i]
  | gt =>
    refine fin _ (Ob.RcOp.tuples_gt (r := fun j => Od.gt.i (ns.getD j 0) (ms.getD j 0)) p1 p2 hu heq fun j h1 h2 _ => ?_) ?_
    · obtain ⟨t, et⟩ := at1 j h1
      obtain ⟨t', et'⟩ := at2 j h2
      rw [et, et']
      exact Ob.RcOp.gt_int _ _ _ _
    · rw [e1, e2, ← lx]
      simp [Od.i]
  | ge =>
    refine fin _ (Ob.RcOp.tuples_ge (r := fun j => Od.ge.i (ns.getD j 0) (ms.getD j 0)) p1 p2 hu heq fun j h1 h2 _ => ?_) ?_
    · obtain ⟨t, et⟩ := at1 j h1
      obtain ⟨t', et'⟩ := at2 j h2
      rw [et, et']
      exact Ob.RcOp.ge_int _ _ _ _
    · rw [e1, e2, ← lx]
      simp [Od.i]
theorem op_odI (o : Od) : OpR X (compareOp o.op) (rI0 fun i j => .bl (o.i i j)) := by
  cases o
  · exact op_lt
  · exact op_le
  · exact op_gt
  · exact op_ge
theorem bs_od (o : Od) (hr : Room k X.A) : BinS X p (compareOp o.op) (odD o) := by
  refine ⟨_, (op_odI o).or (op_odT o (by have := hr.un; omega)), fun F H v1 v2 d1 d2 d Q hp hf r1 r2 e q => ?_⟩
  unfold odD at e
  split at e
  · cases e
    cases r1
    cases r2
    exact .inl ⟨_, _, rfl, rfl, q _ H (Same.refl H) (.bl _)⟩
  · split at e
    · rename_i ns ms h1 h2
      cases e
      cases r1 with
      | tup t1 hz1 l1 =>
      cases r2 with
      | tup t2 hz2 l2 =>
      rw [intsOf_ok h1] at l1
      rw [intsOf_ok h2] at l2
      have a1 := repL_ints l1
      have a2 := repL_ints l2
      subst a1 a2
      exact .inr ⟨_, _, ns, ms, rfl, rfl, tupSq t1, tupSq t2, q _ H (Same.refl H) (.bl _)⟩
    · cases e
  · cases e
theorem bs_lt (hr : Room k X.A) : BinS X p (compareOp .Lt) (odD .lt) := bs_od .lt hr
theorem bs_le (hr : Room k X.A) : BinS X p (compareOp .LtE) (odD .le) := bs_od .le hr
theorem bs_gt (hr : Room k X.A) : BinS X p (compareOp .Gt) (odD .gt) := bs_od .gt hr
theorem bs_ge (hr : Room k X.A) : BinS X p (compareOp .GtE) (odD .ge) := bs_od .ge hr
end
end Say

namespace Say
open L2 PyProof.Rows PySem.Spec PySem

/-! ### fields -/
/-- the classes cs have no attributes of the names fs -/
def Kls (K : PySem.W.Frag) (cs fs : List Str) : Prop := ∀ c ∈ cs, Cls K (He.ga K c) ∧ ∀ f ∈ fs, NoAttr K (He.ga K c) f
def attrD (cs : List Str) (f : Str) : D → M D
  | .ins c fs => if cs.contains c = true then lift (fs.lookup f) else bad
  | _ => bad
section
variable {X : Cx} {p : PL} {e a b : Expr} {f g : Env → M D} {pos : Pos} {k : Nat}
theorem de_attr {cs fs : List Str} {x : Str} (h : Kls X.K cs fs) (ha : DE X p e f) (hx : fs.contains x = true := by decide +kernel) (hb : attributeBase e x X.env (eval e X.env) = eval e X.env := by rfl) : DE X p (.Attribute e x pos) (fun ρ => f ρ >>= attrD cs x) := by
  refine ⟨fun W G H0 ρ σ H s R Ex Q tk rl hw q px => tE_of (pe_fld pe_self hb) ?_⟩
  rw [wp_bind] at hw
  refine ha.run W G H0 ρ σ H s _ Ex _ tk rl hw (fun d s1 v H1 h1 a1 r1 => ?_) px
  cases d with
  | ins c vs =>
    have h1 : wpM (if cs.contains c = true then lift (vs.lookup x) else bad) s1 R Ex := h1
    by_cases hc : cs.contains c = true
    · rw [if_pos hc] at h1
      obtain ⟨hcl, hno⟩ := h c (by simpa using hc)
      cases z : vs.lookup x with
      | none => rw [z] at h1; exact h1.elim
      | some y =>
        rw [z] at h1
        cases r1 with
        | ins ho hF rf =>
          obtain ⟨v, e1, e2⟩ := rf.lookup z
          exact ⟨_, _, _, _, v, rfl, ho, hcl, hno x (by simpa using hx), e1, q y s1 v H1 h1 a1 e2⟩
    · rw [if_neg hc] at h1
      exact h1.elim
  | _ => exact h1.elim

/-! ### subscripts -/
def IxS (X : Cx) (p : PL) (g : D → D → Option D) : Prop := ∃ r, IxR X r ∧ OpS X.K p r g
theorem de_ix {kk : D → D → Option D} (h : IxS X p kk) (ha : DE X p a f) (hb : DE X p b g) (hs : PlainIx b := by exact fun _ _ => rfl) : DE X p (.Subscript a b pos) (fun ρ => f ρ >>= fun x => g ρ >>= fun y => lift (kk x y)) := by
  obtain ⟨r, h1, h2⟩ := h
  exact ⟨fun W G H0 ρ σ H s R Ex Q tk rl hw q px => tE_of (pe_ix h1 pe_self pe_self hs) (bin_run h2 ha hb tk rl hw q px)⟩
def ixD (x i : D) : Option D := match x, i with
  | .lst xs, .int i => atI xs i
  | .tup xs, .int i => atI xs i
  | _, _ => none
theorem RepL.atI {K : PySem.W.Frag} {H : Hp} {F : Addr → Prop} {vs : List V} {ds : List D} {i : Int} {d : D} (r : RepL K p H F vs ds) (h : L2.atI ds i = some d) : ∃ v, L2.atI vs i = some v ∧ Rep K p H F v d := by
  unfold L2.atI at h ⊢
  rw [r.length]
  cases e : ixN ds.length i with
  | none => rw [e]
      at h; cases h
  | some j =>
    rw [e] at h
    exact r.get (i := j) (d := d) h
theorem is_seq : IxS X p ixD := by
  refine ⟨_, ix_list.or ix_tup, fun F H v1 v2 d1 d2 d Q hp hf r1 r2 e q => ?_⟩
  unfold ixD at e
  split at e
  · cases r2
    cases r1 with
    | lst h1 n1 hz l1 =>
      obtain ⟨v, e1, e2⟩ := l1.atI e
      exact .inl ⟨_, _, _, v, rfl, rfl, .inl (.inl h1), e1, q v H (Same.refl H) e2⟩
  · cases r2
    cases r1 with
    | tup h1 hz l1 =>
      obtain ⟨v, e1, e2⟩ := l1.atI e
      exact .inr ⟨_, _, _, v, rfl, rfl, tupSq h1, e1, q v H (Same.refl H) e2⟩
  · cases e
/-! ### slices -/
def cutG {α : Type} (xs : List α) (lo hi : Option Int) : List α := (xs.drop (HT.sIx xs.length 0 lo)).take (HT.sIx xs.length xs.length hi - HT.sIx xs.length 0 lo)
def sliceD (x : D) (lo hi : Option Int) : M D := match x with
  | .lst xs => pure (.lst (cutG xs lo hi))
  | .tup xs => pure (.tup (cutG xs lo hi))
  | _ => bad
def intM : D → M Int
  | .int i => pure i
  | _ => bad
theorem cutG_len {α : Type} (xs : List α) (lo hi : Option Int) : (cutG xs lo hi).length ≤ xs.length := by
  unfold cutG
  rw [List.length_take,
      List.length_drop]
  omega
theorem RepL.cut {K : PySem.W.Frag} {H : Hp} {F : Addr → Prop} {vs : List V} {ds : List D} (r : RepL K p H F vs ds) (lo hi : Option Int) : RepL K p H F (cutV vs lo hi) (cutG ds lo hi) := by
  unfold cutV cutG
  rw [r.length]
  exact (r.drop _).take _
/-- an optional part -/
structure DO (X : Cx) (p : PL) (e : Option Expr) (f : Env → M (Option Int)) : Prop where
  run : ∀ (W : WX) (G : Addr → Prop) (H0 : Hp) (ρ : Env) (σ : L2.St) (H : Hp) (s : Pen) (R : Option Int → Pen → Prop) (Ex : XR) (Q : Option Int → Hp → Prop), Takes X W → Rel X.K p G H0 ρ σ H s → wpM (f ρ) s R Ex →
    (∀ d s' H', R d s' → Af p H H' s' → Q d H') → PX X p W G σ H Ex → ∃ t, PO X e t ∧ t σ H Q
theorem do_none : DO X p none (fun _ => pure none) := ⟨fun W G H0 ρ σ H s R Ex Q tk rl hw q px => ⟨_, po_none, show Q none H from q none s H hw (.refl rl.pen)⟩⟩
theorem do_some (ha : DE X p e f) : DO X p (some e) (fun ρ => f ρ >>= intM >>= fun i => pure (some i)) := by
  refine ⟨fun W G H0 ρ σ H s R Ex Q tk rl hw q px => ⟨_, po_some pe_self, ?_⟩⟩
  rw [bind_assoc, wp_bind] at hw
  refine ha.run W G H0 ρ σ H s _ Ex _ tk rl hw (fun d s1 v H1 h1 a1 r1 => ?_) px
  cases d with
  | int i =>
    cases r1
    exact ⟨i, rfl, q (some i) s1 H1 h1 a1⟩
  | _ => exact h1.elim
end
/-- parts of a slice, the wish a letter -/
def tO (X : Cx) (e : Option Expr) : TO := fun σ H Q => ∃ t, PO X e t ∧ t σ H Q
section
variable {X : Cx} {p : PL} {e a b : Expr} {f g : Env → M D} {pos : Pos} {k : Nat}
theorem po_self {e : Option Expr} : PO X e (tO X e) := by
  refine ⟨fun pins
      s σ H Q I h => ?_⟩
  obtain ⟨t, h1, h2⟩ := h
  exact h1.run pins s σ H Q I h2
theorem de_slice {lo hi : Option Expr} {p2 : Pos} {fl fh : Env → M (Option Int)} (ha : DE X p e f) (hl : DO X p lo fl) (hh : DO X p hi fh) : DE X p (.Subscript e (.Slice lo hi none p2) pos) (fun ρ => f ρ >>= fun x => fl ρ >>= fun l => fh ρ >>= fun h => sliceD x l h) := by
  refine ⟨fun W G H0 ρ σ H s R Ex Q tk rl hw q px => tE_of (pe_slice (sl_list.or sl_tupF) pe_self po_self po_self) ?_⟩
  rw [wp_bind] at hw
  refine ha.run W G H0 ρ σ H s _ Ex _ tk rl hw (fun d s1 v H1 h1 a1 r1 => ?_) px
  rw [wp_bind] at h1
  refine hl.run W G H0 ρ σ H1 s1 _ Ex _ tk (rl.step a1.st a1.pen) h1 (fun l s2 H2 h2 a2 => ?_) (px.at a1)
  rw [wp_bind] at h2
  refine hh.run W G H0 ρ σ H2 s2 _ Ex _ tk ((rl.step a1.st a1.pen).step a2.st a2.pen) h2 (fun u s3 H3 h3 a3 => ?_) ((px.at a1).at a2)
  have r3 := (r1.mono (a2.st.toF rl.fpa) fun _ z => z).mono (a3.st.toF rl.fpa) fun _ z => z
  have a13 := (a1.trans a2).trans a3
  have rl3 := rl.step a13.st a13.pen
  cases d with
  | lst xs =>
    cases r3 with
    | lst ho hF hz lr =>
      refine .inl ⟨_, _, rfl, .inl (.inl ho), fun q' hq => ?_⟩
      exact q _ s3 _ _ h3 (a13.trans (.same a13.pen (same_new hq))) (.lst upd_same (rl3.fresh hq) (Nat.le_trans (cutG_len _ _ _) hz) ((lr.cut l u).mono ((same_step (p := p) (same_new hq)).toF rl.fpa) fun _ z => z))
  | tup xs =>
    cases r3 with
    | tup ho hz lr =>
      refine .inr ⟨_, _, rfl, tupSq ho, fun hw2 => ?_, fun _ q' o hq nd => ?_⟩
      · have e1 : cutG xs l u = xs := by
          unfold cutG
          rw [← lr.length, hw2.1, hw2.2, List.drop_zero, Nat.sub_zero, lr.length, List.take_length]
        have h3 : R (.tup (cutG xs l u)) s3 := h3
        rw [e1] at h3
        exact q _ s3 _ _ h3 a13 (.tup ho hz lr)
      · exact q _ s3 _ _ h3 (a13.trans (.same a13.pen (same_new hq))) (.tup (⟨⟨o, upd_same, nd⟩, rl3.fresh hq⟩) (Nat.le_trans (cutG_len _ _ _) hz) ((lr.cut l u).mono ((same_step (p := p) (same_new hq)).toF rl.fpa) fun _ z => z))
  | _ => exact h3.elim
/-! ### a chain of two comparisons -/
def chainB (x y z : D) (g h : D → D → Option D) : M Bool := lift (g x y) >>= truB >>= fun k => if k = true then lift (h y z) >>= truB else pure false
end
/-! ### defs of the text -/
section
variable (K : PySem.W.Frag)
/-- what a def promises, told by its mirror m of n arguments -/
def SpM (n : Nat) (m : List D → M D) : Sp := fun vs H Q E => ∃ (p : PL) (G : Addr → Prop) (ds : List D) (s : Pen), G p.pa ∧ G p.ca ∧ (∀ a, G a → ∃ o, H a = some o) ∧ PenAt H p s ∧ vs.length = n ∧ RepL K p H G vs ds ∧
  wpM (m ds) s (fun d s' => ∀ v H', Af p H H' s' → Rep K p H' G v d → Q v H') (fun c fs s' => ∀ dx vfs H', Af p H H' s' → ExD H' dx vfs → RepF K p H' G vfs fs → E (.ref (He.ga K c)) (some dx) H')
end
structure Has (P : Program) (w : World) (K : PySem.W.Frag) (mg : Str → Option Value) (base : Heap) (k : Nat) (x : Str) (n : Nat) (m : List D → M D) : Prop where
  ex : ∃ (f : Addr) (fd : FuncData) (ps : List Str), mg x = some (.ref f) ∧ PySem.W.keepIn K (.ref f) = true ∧ Binds K fd ps [] ∧ ps.length = n ∧ FnOk P w K mg base (L2.CX P w) k f fd ps (SpM K n m)
section
variable {X : Cx} {p : PL} {e a b : Expr} {es : List Expr} {f g : Env → M D} {fs : List (Env → M D)} {pos pos' : Pos} {k : Nat} {x : Str} {n : Nat} {m : List D → M D}
theorem de_call (h : Has X.prog X.w X.K X.mg X.base k x n m) (hr : Room k X.A) (ha : DA X p (e :: es) fs) (hn : fs.length = n := by rfl) (hg : Gl X x := by rfl) (hdb : (x == ("__debug__" : Str)) = false := by decide)
    (he : starEach (e :: es) X.env = (false, eval e X.env) :: starEach es X.env := by rfl) (hpl : (backTo pos (starEach es X.env)).any (·.1) = false := by rfl) : DE X p (.Call (.Name x pos') (e :: es) [] pos) (fun ρ => seqA fs ρ m) := by
  obtain ⟨f, fd, ps, mf, kp, hb, hl, F⟩ := h.ex
  refine ⟨fun W G H0 ρ σ H s R Ex Q tk rl hw q px => tE_of (pe_callS F hr hg mf kp hb (fun σ => passAt tk σ) pa_self hdb he hpl) ?_⟩
  refine ha.run D m W G H0 ρ σ H s R Ex _ tk rl hw (fun ds s1 vs H1 h1 a1 r1 en => ?_) px
  have rl1 := rl.step a1.st a1.pen
  refine ⟨p, Fo G ρ σ, ds, s1, rl.fpa, .inl rl.gca, fun a ha => ?_, a1.pen, by rw [r1.length, en, hn], r1, wp_mono h1 (fun d s2 hR v H2 a2 r2 => q d s2 v H2 hR (a1.trans a2) r2) fun c fs s2 hE dx vfs H2 a2 x2 r2 => px c fs s2 dx vfs H2 hE (a1.trans a2) x2 (r2.mono (fun _ _ z _ => z) fun _ z => .inl z)⟩
  cases z : H1 a with
  | some o => exact ⟨o, rfl⟩
  | none => exact (rl1.fresh z ha).elim
/-! ### calls of built-ins, by values -/
def CalS (K : PySem.W.Frag) (p : PL) (r : List V → Hp → VK → Prop) (g : List D → Option D) : Prop :=
  ∀ (F : Addr → Prop) (H : Hp) (vs : List V) (ds : List D) (d : D) (Q : VK), F p.pa → (∀ a, H a = none → ¬ F a) → RepL K p H F vs ds → g ds = some d → (∀ v H', Same H H' → Rep K p H' F v d → Q v H') → r vs H Q
theorem cal_run {r : List V → Hp → VK → Prop} {kk : List D → Option D} (hs : CalS X.K p r kk) (ha : DA X p es fs) {W : WX} {G : Addr → Prop} {H0 : Hp} {ρ : Env} {σ : L2.St} {H : Hp} {s : Pen} {R : D → Pen → Prop} {Ex : XR} {Q : VK} (tk : Takes X W) (rl : Rel X.K p G H0 ρ σ H s)
    (h : wpM (seqA fs ρ fun xs => lift (kk xs)) s R Ex) (q : ∀ d s' v H', R d s' → Af p H H' s' → Rep X.K p H' (Fo G ρ σ) v d → Q v H') (px : PX X p W G σ H Ex) : tCB r (tA X es) σ H Q := by
  refine ha.run D _ W G H0 ρ σ H s R Ex _ tk rl h (fun ds s1 vs H1 h1 a1 r1 _ => ?_) px
  cases e : kk ds with
  | none => rw [e] at h1; exact h1.elim
  | some d =>
    rw [e] at h1
    exact hs _ H1 vs ds d Q rl.fpa (fun _ z => (rl.step a1.st a1.pen).fresh z) r1 e fun v H2 sm r2 => q d s1 v H2 h1 (a1.trans (.same a1.pen sm)) r2
theorem de_callB {id : String} {r : List V → Hp → VK → Prop} {kk : List D → Option D} (hc : CallR X (.builtin id) r) (hs : CalS X.K p r kk) (hm : X.mg x = none) (hv : bootBuiltins x = some (.builtin id)) (ha : DA X p (e :: es) fs) (hg : Gl X x := by rfl) (hn : x ≠ "__name__" := by decide) (hdb : (x == ("__debug__" : Str)) = false := by decide)
    (he : starEach (e :: es) X.env = (false, eval e X.env) :: starEach es X.env := by rfl) (hpl : (backTo pos (starEach es X.env)).any (·.1) = false := by rfl) : DE X p (.Call (.Name x pos') (e :: es) [] pos) (fun ρ => seqA fs ρ fun xs => lift (kk xs)) :=
  ⟨fun W G H0 ρ σ H s R Ex Q tk rl hw q px => tE_of (pe_callB hc hg hm hv pa_self hn hdb he hpl) (cal_run hs ha tk rl hw q px)⟩
theorem de_callTy {T : String} {r : List V → Hp → VK → Prop} {kk : List D → Option D} (hc : CallR X (.type T) r) (hs : CalS X.K p r kk) (hm : X.mg x = none) (hv : bootBuiltins x = some (.type T)) (ha : DA X p (e :: es) fs) (hg : Gl X x := by rfl) (hn : x ≠ "__name__" := by decide) (hdb : (x == ("__debug__" : Str)) = false := by decide)
    (he : starEach (e :: es) X.env = (false, eval e X.env) :: starEach es X.env := by rfl) (hpl : (backTo pos (starEach es X.env)).any (·.1) = false := by rfl) : DE X p (.Call (.Name x pos') (e :: es) [] pos) (fun ρ => seqA fs ρ fun xs => lift (kk xs)) :=
  ⟨fun W G H0 ρ σ H s R Ex Q tk rl hw q px => tE_of (pe_callTy hc hg hm hv pa_self hn hdb he hpl) (cal_run hs ha tk rl hw q px)⟩
/-! len, tuple, list, all, any, sum -/
def lenD : List D → Option D
  | [.lst xs] => some (.int xs.length)
  | [.tup xs] => some (.int xs.length)
  | [.str s] => some (.int s.length)
  | _ => none
theorem de_len (hm : X.mg "len" = none) (ha : DA X p [e] fs) (hg : Gl X "len" := by rfl) (he : starEach (e :: []) X.env = (false, eval e X.env) :: starEach [] X.env := by rfl) (hpl : (backTo pos (starEach [] X.env)).any (·.1) = false := by rfl) :
    DE X p (.Call (.Name "len" pos') [e] [] pos) (fun ρ => seqA fs ρ fun xs => lift (lenD xs)) := by
  refine de_callB (call_len_seq.or call_len_str) (fun F H vs ds d Q hp hf r e q => ?_) hm boot_len ha hg (by decide) (by decide) he hpl
  unfold lenD at e
  split at e
  · cases e
    cases r with
    | cons r1 r2 =>
      cases r2
      cases r1 with
      | lst h1 n1 hz l1 => exact .inl ⟨_, _, rfl, .inl (.inl (.inl h1)), q _ H (Same.refl H) (by rw [l1.length]; exact .int _)⟩
  · cases e
    cases r with
    | cons r1 r2 =>
      cases r2
      cases r1 with
      | tup h1 hz l1 => exact .inl ⟨_, _, rfl, .inr (tupSq h1), q _ H (Same.refl H) (by rw [l1.length]; exact .int _)⟩
  · cases e
    cases r with
    | cons r1 r2 =>
      cases r2
      cases r1 with
      | str s h => exact .inr ⟨_, rfl, h, q _ H (Same.refl H) (.int _)⟩
  · cases e
def tupleD : List D → Option D
  | [.lst xs] => some (.tup xs)
  | [.tup xs] => some (.tup xs)
  | _ => none
theorem de_tuple (hm : X.mg "tuple" = none) (ha : DA X p [e] fs) (hg : Gl X "tuple" := by rfl) (he : starEach (e :: []) X.env = (false, eval e X.env) :: starEach [] X.env := by rfl) (hpl : (backTo pos (starEach [] X.env)).any (·.1) = false := by rfl) :
    DE X p (.Call (.Name "tuple" pos') [e] [] pos) (fun ρ => seqA fs ρ fun xs => lift (tupleD xs)) := by
  refine de_callTy call_tupleF (fun F H vs ds d Q hp hf r e q => ?_) hm (by decide +kernel) ha hg (by decide) (by decide) he hpl
  unfold tupleD at e
  split at e
  · cases e
    cases r with
    | cons r1 r2 =>
      cases r2
      cases r1 with
      | lst h1 n1 hz l1 =>
        refine ⟨_, _, rfl, .inl ⟨.inl (.inl h1), fun a o ha nd => ?_⟩⟩
        exact q _ _ (same_new ha) (.tup (⟨⟨o, upd_same, nd⟩, hf a ha⟩) hz (l1.mono ((same_step (p := p) (same_new ha)).toF hp) fun _ z => z))
  · cases e
    cases r with
    | cons r1 r2 =>
      cases r2
      cases r1 with
      | tup h1 hz l1 => exact ⟨_, _, rfl, .inr ⟨tupSq h1, q _ H (Same.refl H) (.tup h1 hz l1)⟩⟩
  · cases e
def blsOf : List D → Option (List Bool)
  | [] => some []
  | .bl b :: ds => (blsOf ds).map (b :: ·)
  | _ :: _ => none
theorem blsOf_ok : ∀ {xs : List D} {ns : List Bool}, blsOf xs = some ns → xs = ns.map D.bl
  | [], ns, h => by cases h; rfl
  | .bl i :: ds, ns, h => by
    have h1 : (blsOf ds).map (i :: ·) = some ns := h
    cases e : blsOf ds with
    | none => rw [e] at h1; cases h1
    | some ms =>
      rw [e] at h1
      cases h1
      rw [blsOf_ok e]
      rfl
  | .non :: _, ns, h => by cases h
  | .int _ :: _, ns, h => by cases h
  | .str _ :: _, ns, h => by cases h
  | .tup _ :: _, ns, h => by cases h
  | .lst _ :: _, ns, h => by cases h
  | .dct _ :: _, ns, h => by cases h
  | .ins _ _ :: _, ns, h => by cases h
  | .pen :: _, ns, h => by cases h
  | .fn _ :: _, ns, h => by cases h
theorem repL_bls {K : PySem.W.Frag} {H : Hp} {F : Addr → Prop} : ∀ {ns : List Bool} {vs : List V}, RepL K p H F vs (ns.map D.bl) → vs = ns.map V.bl
  | [], _, .nil => rfl
  | n :: ns, _, .cons h r => by
    cases h
    rw [repL_bls r]
    rfl
def allD : List D → Option D
  | [.lst xs] => (blsOf xs).map fun bs => .bl (bs.all id)
  | _ => none
def anyD : List D → Option D
  | [.lst xs] => (blsOf xs).map fun bs => .bl (bs.any id)
  | _ => none
theorem de_all (hm : X.mg "all" = none) (ha : DA X p [e] fs) (hc : X.calm = true := by rfl) (hg : Gl X "all" := by rfl) (he : starEach (e :: []) X.env = (false, eval e X.env) :: starEach [] X.env := by rfl) (hpl : (backTo pos (starEach [] X.env)).any (·.1) = false := by rfl) :
    DE X p (.Call (.Name "all" pos') [e] [] pos) (fun ρ => seqA fs ρ fun xs => lift (allD xs)) := by
  refine de_callB (cr_all hc) (fun F H vs ds d Q hp hf r e q => ?_) hm (by decide +kernel) ha hg (by decide) (by decide) he hpl
  unfold allD at e
  split at e
  · obtain ⟨bs, e1, e2⟩ := Option.map_eq_some_iff.mp e
    subst e2
    cases r with
    | cons r1 r2 =>
      cases r2
      cases r1 with
      | lst h1 n1 hz l1 =>
        rw [blsOf_ok e1] at l1
        have := repL_bls l1
        subst this
        exact ⟨_, bs, rfl, .inl (.inl h1), q _ H (Same.refl H) (.bl _)⟩
  · cases e
theorem de_any (hm : X.mg "any" = none) (ha : DA X p [e] fs) (hc : X.calm = true := by rfl) (hg : Gl X "any" := by rfl) (he : starEach (e :: []) X.env = (false, eval e X.env) :: starEach [] X.env := by rfl) (hpl : (backTo pos (starEach [] X.env)).any (·.1) = false := by rfl) :
    DE X p (.Call (.Name "any" pos') [e] [] pos) (fun ρ => seqA fs ρ fun xs => lift (anyD xs)) := by
  refine de_callB (cr_any hc) (fun F H vs ds d Q hp hf r e q => ?_) hm (by decide +kernel) ha hg (by decide) (by decide) he hpl
  unfold anyD at e
  split at e
  · obtain ⟨bs, e1, e2⟩ := Option.map_eq_some_iff.mp e
    subst e2
    cases r with
    | cons r1 r2 =>
      cases r2
      cases r1 with
      | lst h1 n1 hz l1 =>
        rw [blsOf_ok e1] at l1
        have := repL_bls l1
        subst this
        exact ⟨_, bs, rfl, .inl (.inl h1), q _ H (Same.refl H) (.bl _)⟩
  · cases e
/-- list(xs): new -/
def listD : List D → M (List D)
  | [.lst xs] => pure xs
  | [.tup xs] => pure xs
  | _ => bad
theorem dn_list (hm : X.mg "list" = none) (ha : DA X p [e] fs) (hg : Gl X "list" := by rfl) (he : starEach (e :: []) X.env = (false, eval e X.env) :: starEach [] X.env := by rfl) (hpl : (backTo pos (starEach [] X.env)).any (·.1) = false := by rfl) :
    DN X p (.Call (.Name "list" pos') [e] [] pos) (fun ρ => seqA fs ρ listD) := by
  refine ⟨fun W G H0 ρ σ H s R Ex Q tk rl hw q px => tE_of (pe_callTy call_list_of hg hm (by decide +kernel) pa_self (by decide) (by decide) he hpl) ?_⟩
  refine ha.run _ listD W G H0 ρ σ H s R Ex _ tk rl hw (fun ds s1 vs H1 h1 a1 r1 _ => ?_) px
  have fin : ∀ (vs : List V) (xs : List D), xs.length ≤ 16777216 → RepL X.K p H1 (Fo G ρ σ) vs xs → R xs s1 → ∀ l, H1 l = none → Q (.ref l) (upd H1 l (.lst vs)) := fun vs xs hz lr hR l hl =>
    q xs s1 l vs _ hR (a1.trans (.same a1.pen (same_new hl))) (back_none a1 hl) upd_same hz ((lr.more (N := fun a => a = l) fun a z => by rw [z]; exact hl).mono ((same_step (p := p) (same_new hl)).toF (.inl rl.fpa)) fun _ z => z)
  unfold listD at h1
  split at h1
  · cases r1 with
    | cons r1 r2 =>
      cases r2
      cases r1 with
      | lst ho n1 hz l1 => exact ⟨_, _, rfl, .inl (.inl (.inl ho)), fin _ _ hz l1 h1⟩
  · cases r1 with
    | cons r1 r2 =>
      cases r2
      cases r1 with
      | tup ho hz l1 => exact ⟨_, _, rfl, .inr (tupSq ho), fin _ _ hz l1 h1⟩
  · exact h1.elim
/-- xs + ys, lists: new -/
def catN : D → D → M (List D)
  | .lst xs, .lst ys => if xs.length + ys.length ≤ 16777216 then pure (xs ++ ys) else bad
  | _, _ => bad
theorem dn_cat (ha : DE X p a f) (hb : DE X p b g) : DN X p (.BinOp a .Add b pos) (fun ρ => f ρ >>= fun x => g ρ >>= fun y => catN x y) := by
  refine ⟨fun W G H0 ρ σ H s R Ex Q tk rl hw q px => tE_of (pe_op op_cat pe_self pe_self) ?_⟩
  rw [wp_bind] at hw
  refine ha.run W G H0 ρ σ H s _ Ex _ tk rl hw (fun d1 s1 v1 H1 h1 a1 r1 => ?_) px
  rw [wp_bind] at h1
  refine hb.run W G H0 ρ σ H1 s1 _ Ex _ tk (rl.step a1.st a1.pen) h1 (fun d2 s2 v2 H2 h2 a2 r2 => ?_) (px.at a1)
  have r1' := r1.mono (a2.st.toF rl.fpa) fun _ z => z
  unfold catN at h2
  split at h2
  · rename_i xs ys
    by_cases hc : xs.length + ys.length ≤ 16777216
    · rw [if_pos hc] at h2
      cases r1' with
      | lst ho1 n1 hz1 l1 =>
      cases r2 with
      | lst ho2 n2 hz2 l2 =>
      refine ⟨_, _, _, _, rfl, rfl, ho1, ho2, by rw [l1.length, l2.length, sizeLine_eq]; exact hc, fun l hl => ?_⟩
      have a12 := a1.trans a2
      exact q _ s2 l _ _ h2 (a12.trans (.same a12.pen (same_new hl))) (back_none a12 hl) upd_same (by rw [List.length_append]; exact hc) (((l1.append l2).more (N := fun a => a = l) fun a z => by rw [z]; exact hl).mono ((same_step (p := p) (same_new hl)).toF (.inl rl.fpa)) fun _ z => z)
    · rw [if_neg hc] at h2
      exact h2.elim
  · exact h2.elim
end
end Say

namespace Say
open L2 PyProof.Rows PySem.Spec PySem

/-! ### slots stored, wiped -/
theorem get_set {α : Type} {l : List α} {i j : Nat} {x y : α} (h : (l.set i x)[j]? = some y) : (i = j ∧ y = x ∧ i < l.length) ∨ (i ≠ j ∧ l[j]? = some y) := by
  by_cases e : i = j
  · subst e
    by_cases hl : i < l.length
    · rw [List.getElem?_set_self hl] at h
      cases h
      exact .inl ⟨rfl, rfl, hl⟩
    · rw [List.getElem?_eq_none (by rw [List.length_set]; omega)] at h
      cases h
  · rw [List.getElem?_set_ne e] at h
    exact .inr ⟨e, h⟩
section
variable {K : PySem.W.Frag} {p : PL} {G : Addr → Prop} {H0 H H' : Hp} {ρ : Env} {σ : L2.St} {s s' : Pen}
theorem fo_set {i : Nat} {x : Sl} {o : Option V} (hx : x.held = false) {a : Addr} (h : Fo G (ρ.set i x) (σ.set i o) a) : Fo G ρ σ a := by
  rcases h with h | ⟨j, y, h1, hy, h2⟩
  · exact .inl h
  · rcases get_set h1 with ⟨rfl, rfl, _⟩ | ⟨ne, h1⟩
    · rw [hx] at hy
      cases hy
    · rw [List.getElem?_set_ne ne] at h2
      exact .inr ⟨j, y, h1, hy, h2⟩
/-- a slot that holds nothing of its own is stored -/
theorem Rel.put {i : Nat} {x : Sl} {o : Option V} (r : Rel K p G H0 ρ σ H s) (hx : x.held = false) (ho : ∀ d, x = .dat d → ∃ v, o = some v ∧ Rep K p H (Fo G ρ σ) v d) : Rel K p G H0 (ρ.set i x) (σ.set i o) H s where
  len := by rw [List.length_set, List.length_set]; exact r.len
  dat := fun j d e => by
    rcases get_set e with ⟨rfl, q, hl⟩ | ⟨ne, e⟩
    · obtain ⟨v, h1, h2⟩ := ho d q.symm
      subst h1
      exact ⟨v, List.getElem?_set_self (by rw [← r.len]; exact hl), h2.mono (fun _ _ z _ => z) fun _ => fo_set hx⟩
    · obtain ⟨v, h1, h2⟩ := r.dat j d e
      exact ⟨v, by rw [List.getElem?_set_ne ne]; exact h1, h2.mono (fun _ _ z _ => z) fun _ => fo_set hx⟩
  own := fun j y e hy => by
    rcases get_set e with ⟨rfl, q, hl⟩ | ⟨ne, e⟩
    · subst q
      rw [hx] at hy
      cases hy
    · obtain ⟨a, h1, h2, h3⟩ := r.own j y e hy
      exact ⟨a, by rw [List.getElem?_set_ne ne]; exact h1, h2, h3.mono (fun _ z => z) (fun _ _ z _ => z) fun _ => fo_set hx⟩
  inj := fun j k y z a h1 hy h2 hz h3 h4 => by
    rcases get_set h1 with ⟨rfl, q, _⟩ | ⟨ne, h1⟩
    · subst q
      rw [hx] at hy
      cases hy
    · rcases get_set h2 with ⟨rfl, q, _⟩ | ⟨ne2, h2⟩
      · subst q
        rw [hx] at hz
        cases hz
      · rw [List.getElem?_set_ne ne] at h3
        rw [List.getElem?_set_ne ne2] at h4
        exact r.inj j k y z a h1 hy h2 hz h3 h4
  old := r.old
  pen := r.pen
  gpa := r.gpa
  gca := r.gca
  gex := r.gex
  gne := fun j y a h1 hy h2 => by
    rcases get_set h1 with ⟨rfl, q, _⟩ | ⟨ne, h1⟩
    · subst q
      rw [hx] at hy
      cases hy
    · rw [List.getElem?_set_ne ne] at h2
      exact r.gne j y a h1 hy h2
end
def wipeE (ρ : Env) : List Nat → Env
  | [] => ρ
  | v :: vs => (wipeE ρ vs).set v .no
/-- none of them holds what is owned -/
def okW (vs : List Nat) (ρ : Env) : Bool := vs.all fun i => match ρ[i]? with
  | some x => !x.held
  | none => true
theorem Rel.wipe {K : PySem.W.Frag} {p : PL} {G : Addr → Prop} {H0 H : Hp} {ρ : Env} {σ : L2.St} {s : Pen} (r : Rel K p G H0 ρ σ H s) : ∀ vs : List Nat, Rel K p G H0 (wipeE ρ vs) (L2.wipe σ vs) H s
  | [] => r
  | v :: vs => (r.wipe vs).put rfl fun d e => by cases e
theorem wipeE_out {ρ : Env} {i : Nat} : ∀ {vs : List Nat}, i ∉ vs → (wipeE ρ vs)[i]? = ρ[i]?
  | [], _ => rfl
  | v :: vs, h => by
    rw [List.mem_cons,
        not_or] at h
    show ((wipeE ρ vs).set v .no)[i]? = _
    rw [List.getElem?_set_ne (Ne.symm h.1), wipeE_out h.2]
theorem fo_wipe {G : Addr → Prop} {ρ : Env} {σ : L2.St} {vs : List Nat} (ok : okW vs ρ = true) {a : Addr} (h : Fo G ρ σ a) : Fo G (wipeE ρ vs) (L2.wipe σ vs) a := by
  rcases h with h | ⟨i, x, h1, hx, h2⟩
  · exact .inl h
  · have hn : i ∉ vs := fun hm => by
      have := List.all_eq_true.mp ok i hm
      rw [h1] at this
      simp [hx] at this
    exact .inr ⟨i, x, by rw [wipeE_out hn]; exact h1, hx, by rw [L2.wipe_out hn]; exact h2⟩

/-! ### targets -/
def tG (X : Cx) (tg : Expr) : TG := fun v σ H Q => ∀ (pins : List (Addr × Obj)) (s : Shared) (u : Value), Inv X pins σ H s → RelV v u →
  wpAny (model X.prog X.w) X.A (assign tg X.env u) (fun _ s' => ∃ σ' H', Inv X pins σ' H' s' ∧ Q σ' H') X.xe s
theorem pg_self {X : Cx} {tg : Expr} : PG X tg (tG X tg) := ⟨fun pins s σ H v u Q I r h => h pins s u I r⟩
theorem tG_of {X : Cx} {tg : Expr} {t : TG} {v : V} {σ : L2.St} {H : Hp} {Q : L2.St → Hp → Prop} (h : PG X tg t) (q : t v σ H Q) : tG X tg v σ H Q := fun pins s u I r => h.run pins s σ H v u Q I r q
/-- the slots of ts alone are stored -/
def SameBut (ts : List Nat) (ρ ρ' : Env) (σ σ' : L2.St) : Prop := (∀ vs, (∀ i ∈ ts, i ∈ vs) → L2.wipe σ' vs = L2.wipe σ vs) ∧ (∀ j, j ∉ ts → ρ'[j]? = ρ[j]? ∧ σ'[j]? = σ[j]?)
structure DG (X : Cx) (p : PL) (tg : Expr) (ts : List Nat) (h : D → Env → Option Env) : Prop where
  run : ∀ (G : Addr → Prop) (H0 : Hp) (ρ ρ' : Env) (σ : L2.St) (H : Hp) (s : Pen) (v : V) (d : D) (Q : L2.St → Hp → Prop), Rel X.K p G H0 ρ σ H s → Rep X.K p H (Fo G ρ σ) v d → h d ρ = some ρ' →
    (∀ σ', Rel X.K p G H0 ρ' σ' H s → SameBut ts ρ ρ' σ σ' → Q σ' H) → tG X tg v σ H Q
theorem set_wipe {σ : L2.St} {i : Nat} {x : Option V} : ∀ {vs : List Nat}, i ∈ vs → L2.wipe (σ.set i x) vs = L2.wipe σ vs
  | [], h => nomatch h
  | v :: vs, h => by
    show (L2.wipe (σ.set i x) vs).set v none = (L2.wipe σ vs).set v none
    by_cases hm : i ∈ vs
    · rw [set_wipe hm]
    · have e : i = v := (List.mem_cons.mp h).resolve_right hm
      subst e
      have z : ∀ ws : List Nat, i ∉ ws → L2.wipe (σ.set i x) ws = (L2.wipe σ ws).set i x := by
        intro ws
        induction ws with
        | nil => intro _; rfl
        | cons w ws ih =>
          intro hn
          rw [List.mem_cons,
              not_or] at hn
          show (L2.wipe (σ.set i x) ws).set w none = ((L2.wipe σ ws).set w none).set i x
          rw [ih hn.2, List.set_comm _ _ hn.1]
      rw [z vs hm, List.set_set]
section
variable {X : Cx} {p : PL} {pos : Pos}
theorem dg_name {i : Nat} {x : Str} (hN : X.N.Nodup) (hi : X.N[i]? = some x := by rfl) (hx : Loc X.env.scope x := by first | exact Or.inl rfl | exact Or.inr rfl) (hf : X.fn x = true ∨ X.env.scope.names.lookup x = some .local := by first | exact .inl rfl | exact .inr rfl) : DG X p (.Name x pos) [i] (fun d ρ => some (ρ.set i (.dat d))) := by
  refine ⟨fun G H0 ρ ρ' σ H s v d Q r rp e q => tG_of (pg_name hN hi hx hf) ?_⟩
  cases e
  refine q _ (r.put rfl fun d' e => by cases e; exact ⟨v, rfl, rp⟩) ⟨fun vs hv => set_wipe (hv i (by simp)), fun j hj => ?_⟩
  have ne : i ≠ j := fun z => hj (by rw [z]; simp)
  exact ⟨List.getElem?_set_ne ne, List.getElem?_set_ne ne⟩
/-- several targets -/
def tGs (X : Cx) (tgs : List Expr) : TGs := fun vs σ H Q => ∀ (pins : List (Addr × Obj)) (s : Shared) (us : List Value), Inv X pins σ H s → Vals vs us →
  wpAny (model X.prog X.w) X.A (assignInOrder ((assignEach tgs X.env).map (·.2)) us) (fun _ s' => ∃ σ' H', Inv X pins σ' H' s' ∧ Q σ' H') X.xe s
theorem pgs_self {tgs : List Expr} : PGs X tgs (tGs X tgs) := ⟨fun pins s σ H vs us Q I r h => h pins s us I r⟩
structure DGs (X : Cx) (p : PL) (tgs : List Expr) (ts : List Nat) (h : List D → Env → Option Env) : Prop where
  run : ∀ (G : Addr → Prop) (H0 : Hp) (ρ ρ' : Env) (σ : L2.St) (H : Hp) (s : Pen) (vs : List V) (ds : List D) (Q : L2.St → Hp → Prop), Rel X.K p G H0 ρ σ H s → RepL X.K p H (Fo G ρ σ) vs ds → h ds ρ = some ρ' →
    (∀ σ', Rel X.K p G H0 ρ' σ' H s → SameBut ts ρ ρ' σ σ' → Q σ' H) → tGs X tgs vs σ H Q
def unpack : List (D → Env → Option Env) → List D → Env → Option Env
  | [], [], ρ => some ρ
  | h :: hs, d :: ds, ρ => match h d ρ with
    | some ρ' => unpack hs ds ρ'
    | none => none
  | _, _, _ => none
theorem fo_but {G : Addr → Prop} {K : PySem.W.Frag} {H0 H : Hp} {ρ ρ' : Env} {σ σ' : L2.St} {s : Pen} {ts : List Nat} (r : Rel K p G H0 ρ σ H s) (h : SameBut ts ρ ρ' σ σ') (hn : ∀ (j : Nat) (x : Sl), j ∈ ts → ρ'[j]? = some x → x.held = false) {a : Addr} (f : Fo G ρ' σ' a) : Fo G ρ σ a := by
  rcases f with f | ⟨j, x, h1, hx, h2⟩
  · exact .inl f
  · by_cases hj : j ∈ ts
    · have := hn j x hj h1
      rw [hx] at this
      cases this
    · obtain ⟨e1, e2⟩ := h.2 j hj
      exact .inr ⟨j, x, by rw [← e1]; exact h1, hx, by rw [← e2]; exact h2⟩
theorem dgs_nil : DGs X p [] [] (unpack []) := by
  refine ⟨fun G H0 ρ ρ' σ H s vs ds Q r rp e q => fun pins sh us I rv => ?_⟩
  cases ds with
  | nil =>
    cases e
    cases rp
    exact pgs_nil.run pins sh σ H _ us Q I rv ⟨rfl, q σ r ⟨fun _ _ => rfl, fun _ _ => ⟨rfl, rfl⟩⟩⟩
  | cons d ds => cases e
theorem dgs_cons {i : Nat} {x : Str} {ts : List Nat} {tgs : List Expr} {hs : List (D → Env → Option Env)} (hN : X.N.Nodup) (hr : DGs X p tgs ts (unpack hs)) (hi : X.N[i]? = some x := by rfl) (hx : Loc X.env.scope x := by first | exact Or.inl rfl | exact Or.inr rfl) (hf : X.fn x = true ∨ X.env.scope.names.lookup x = some .local := by first | exact .inl rfl | exact .inr rfl)
    (ha : (assignEach (Expr.Name x pos :: tgs) X.env).map (·.2) = assign (.Name x pos) X.env :: (assignEach tgs X.env).map (·.2) := by rfl) : DGs X p (.Name x pos :: tgs) (i :: ts) (unpack ((fun d ρ => some (ρ.set i (.dat d))) :: hs)) := by
  refine ⟨fun G H0 ρ ρ' σ H s vs ds Q r rp e q => fun pins sh us I rv => ?_⟩
  cases ds with
  | nil => cases e
  | cons d ds =>
    cases rp with
    | cons r1 r2 =>
      refine (pgs_cons (pg_name hN hi hx hf) pgs_self ha).run pins sh σ H _ us Q I rv ⟨_, _, rfl, ?_⟩
      have rl := r.put (i := i) (x := .dat d) (o := some _) rfl fun d' e => by cases e; exact ⟨_, rfl, r1⟩
      refine hr.run G H0 (ρ.set i (.dat d)) ρ' _ H s _ ds Q rl (r2.mono (fun _ _ z _ => z) fun _ => fo_set rfl) e fun σ' r' sb => q σ' r' ⟨fun vs hv => ?_, fun j hj => ?_⟩
      · rw [sb.1 vs fun k hk => hv k (List.mem_cons_of_mem _ hk)]
        exact set_wipe (hv i (by simp))
      · rw [List.mem_cons, not_or] at hj
        obtain ⟨e1, e2⟩ := sb.2 j hj.2
        exact ⟨e1.trans (List.getElem?_set_ne (Ne.symm hj.1)), e2.trans (List.getElem?_set_ne (Ne.symm hj.1))⟩
def unpackD (hs : List (D → Env → Option Env)) (d : D) (ρ : Env) : Option Env := match d with
  | .tup ds => unpack hs ds ρ
  | .itm ds => unpack hs ds ρ
  | _ => none
theorem unpack_len : ∀ {hs : List (D → Env → Option Env)} {ds : List D} {ρ ρ' : Env}, unpack hs ds ρ = some ρ' → ds.length = hs.length
  | [], [], _, _, _ => rfl
  | h :: hs, d :: ds, ρ, ρ', e => by
    have e1 : (match h d ρ with | some ρ' => unpack hs ds ρ' | none => none) = some ρ' := e
    cases z : h d ρ with
    | none => rw [z] at e1; cases e1
    | some ρ1 =>
      rw [z] at e1
      rw [List.length_cons, List.length_cons, unpack_len e1]
  | [], _ :: _, _, _, e => by cases e
  | _ :: _, [], _, _, e => by cases e
theorem dg_tup {tgs : List Expr} {kk : Nat} {ts : List Nat} {hs : List (D → Env → Option Env)} (h : DGs X p tgs ts (unpack hs)) (hc : X.calm = true := by rfl) (hn : (assignEach tgs X.env).length = hs.length := by rfl) (hst : (assignEach tgs X.env).findIdx? (·.1) = none := by rfl) : DG X p (.Tuple tgs kk pos) ts (unpackD hs) := by
  refine ⟨fun G H0 ρ ρ' σ H s v d Q r rp e q => tG_of (pg_tup hc pgs_self hn hst) ?_⟩
  unfold unpackD at e
  split at e
  · cases rp with
    | tup ho hz l => exact ⟨_, _, rfl, tupSq ho, by rw [l.length, unpack_len e], h.run G H0 ρ ρ' σ H s _ _ Q r l e q⟩
  · cases rp with
    | itm ho hz l => exact ⟨_, _, rfl, .inl (.inl ho.1), by rw [l.length, unpack_len e], h.run G H0 ρ ρ' σ H s _ _ Q r l e q⟩
  · cases e
end

/-! ### what is walked -/
def Yld (K : PySem.W.Frag) (p : PL) (F : Addr → Prop) (Hs H1 H2 : Hp) (x : V) (d : D) : Prop :=
  (H2 = H1 ∧ Rep K p Hs F x d) ∨ (∃ (T : Addr) (vs : List V) (ds : List D), x = .ref T ∧ H1 T = none ∧ H2 = upd H1 T (.tup vs) ∧ d = .itm ds ∧ ds.length ≤ 16777216 ∧ RepL K p Hs F vs ds)
structure ItOk (K : PySem.W.Frag) (p : PL) (Fs F : Addr → Prop) (J : It) (H : Hp) (ds : List D) : Prop where
  go : ∀ (i : Nat) (d : D) (H1 : Hp), StepF Fs H H1 → ds[i]? = some d → J.go i H1 ∧ ∀ x H2, J.yld i H1 x H2 → Yld K p F H H1 H2 x d
  stop : ∀ H1, StepF Fs H H1 → J.stop ds.length H1
  sz : ds.length ≤ 16777216
def tI (X : Cx) (tg iter : Expr) : TI := fun σ H R => ∀ (pins : List (Addr × Obj)) (s : Shared), Inv X pins σ H s →
  wpAny (model X.prog X.w) X.A (eval iter X.env) (fun v s1 => wpAny
      (model X.prog X.w) X.A (pyIter v) (PIE X pins σ tg R) X.xe s1) X.xe s
theorem pi_self {X : Cx} {tg iter : Expr} : PI X tg iter (tI X tg iter) := ⟨fun pins s σ H R I h => h pins s I⟩
theorem tI_of {X : Cx} {tg iter : Expr} {t : TI} {σ : L2.St} {H : Hp} {R : It → Hp → Prop} (h : PI X tg iter t) (q : t σ H R) : tI X tg iter σ H R := fun pins s I => h.run pins s σ H R I q
/-- lp: for a loop, whose body may change what is owned -/
def Fs (lp : Bool) (G F : Addr → Prop) : Addr → Prop := if lp = true then F else G
structure DI (X : Cx) (p : PL) (lp : Bool) (tg iter : Expr) (g : Env → M (List D)) : Prop where
  run : ∀ (W : WX) (G : Addr → Prop) (H0 : Hp) (ρ : Env) (σ : L2.St) (H : Hp) (s : Pen) (R : List D → Pen → Prop) (Ex : XR) (Q : It → Hp → Prop), Takes X W → Rel X.K p G H0 ρ σ H s → wpM (g ρ) s R Ex →
    (∀ ds s' H' J, R ds s' → Af p H H' s' → ItOk X.K p (Fs lp G (Fo G ρ σ)) (Fo G ρ σ) J H' ds → Q J H') → PX X p W G σ H Ex → tI X tg iter σ H Q
def seqM : D → M (List D)
  | .lst xs => pure xs
  | .tup xs => pure xs
  | _ => bad
section
variable {X : Cx} {p : PL} {lp : Bool} {tg e a b : Expr} {f g : Env → M D} {pos pos' : Pos}
theorem fs_sub {G : Addr → Prop} {ρ : Env} {σ : L2.St} {a : Addr} (h : Fs lp G (Fo G ρ σ) a) : Fo G ρ σ a := by
  cases lp with
  | true => exact h
  | false => exact .inl h
/-- a list or a tuple -/
theorem pi_seq {l : Expr} : PI X tg l (fun σ H R => tE X l σ H fun x H1 => (∃ (a : Addr) (vs : List V), x = .ref a ∧ SqL X.K H1 a vs ∧ R (Itl X.K a) H1) ∨ (∃ (a : Addr) (vs : List V), x = .ref a ∧ SqT X.K H1 a vs ∧ R (Itt X.K a) H1)) := by
  refine ⟨fun pins s σ H R I h => thn (h pins s I) fun v s1 hq => ?_⟩
  obtain ⟨x, H1, I1, r1, q1⟩ := hq
  have nw : ∀ c : Obj, Inv X pins σ H1 { s1 with heap := s1.heap.push c } := fun c => I1.kept (t' := s1.toks) fun _ _ z => Heap.get?_push_of_some _ z
  have fp : ∀ b ∈ [s1.heap.objs.size], FpOk X pins H1 b := fun b hb => by
    rw [List.mem_singleton.mp hb]
    exact I1.fpOk (Nat.le_refl _)
        (I1.hok.fresh (Nat.le_refl _))
  rcases q1 with ⟨a, vs, e, hs, q⟩ | ⟨a, vs, e, hs, q⟩
  · subst e
    obtain ⟨its, rv, pl, hz⟩ := I1.list hs
    have r1 : v = .ref a := r1
    subst r1
    exact wpAny_pyIter_list pl.isList ⟨s1.heap.objs.size, [s1.heap.objs.size], _, _, H1, rfl, nw _, turn_list a _, ⟨_, Heap.get?_push_size _ rfl, rfl, rfl⟩, fp, q⟩
  · subst e
    obtain ⟨its, rv, pt, hz⟩ := I1.tuple hs
    have r1 : v = .ref a := r1
    subst r1
    exact wpAny_pyIter_tuple (show s1.heap.IsTuple a its.toArray from pt) ⟨s1.heap.objs.size, [s1.heap.objs.size], _, _, H1, rfl, nw _, turn_tuple a _, ⟨_, Heap.get?_push_size _ rfl, rfl, rfl⟩, fp, q⟩
theorem itOk_list {K : PySem.W.Frag} {Fs F : Addr → Prop} {H : Hp} {a : Addr} {vs : List V} {ds : List D} (ho : H a = some (.lst vs)) (hF : ¬ Fs a) (hz : ds.length ≤ 16777216) (l : RepL K p H F vs ds) : ItOk K p Fs F (Itl K a) H ds where
  go := fun i d H1 st e => by
    obtain ⟨v, h1, h2⟩ := l.get e
    have h := st a _ ho hF
    refine ⟨⟨vs, v, .inl (.inl h), h1⟩, fun x H2 y => .inl ⟨y.1, ?_⟩⟩
    have := y.2 vs (.inl (.inl h))
    rw [h1] at this
    cases this
    exact h2
  stop := fun H1 st => ⟨vs, .inl (.inl (st a _ ho hF)), by rw [l.length]; exact Nat.le_refl _⟩
  sz := hz
theorem itOk_tup {K : PySem.W.Frag} {Fs F : Addr → Prop} {H : Hp} {a : Addr} {vs : List V} {ds : List D} (ho : Tp H a vs ∧ ¬ F a) (hs : ∀ a, Fs a → F a) (hz : ds.length ≤ 16777216) (l : RepL K p H F vs ds) : ItOk K p Fs F (Itt K a) H ds := by
  have at_ : ∀ H1, StepF Fs H H1 → SqT K H1 a vs := fun H1 st => ho.1.elim fun o w => .inl (.inr ⟨o, st a _ w.1 fun z => ho.2 (hs a z)⟩)
  refine ⟨fun i d H1 st e => ?_, fun H1 st => ⟨vs, at_ H1 st, by rw [l.length]; exact Nat.le_refl _⟩, hz⟩
  obtain ⟨v, h1, h2⟩ := l.get e
  refine ⟨⟨vs, v, at_ H1 st, h1⟩, fun x H2 y => .inl ⟨y.1, ?_⟩⟩
  have := y.2 vs (at_ H1 st)
  rw [h1] at this
  cases this
  exact h2
theorem di_seq (ha : DE X p e f) : DI X p lp tg e (fun ρ => f ρ >>= seqM) := by
  refine ⟨fun W G H0 ρ σ H s R Ex Q tk rl hw q px => tI_of pi_seq ?_⟩
  rw [wp_bind] at hw
  refine ha.run W G H0 ρ σ H s _ Ex _ tk rl hw (fun d s1 v H1 h1 a1 r1 => ?_) px
  cases d with
  | lst xs =>
    cases r1 with
    | lst ho hF hz l => exact .inl ⟨_, _, rfl, .inl (.inl ho), q xs s1 H1 _ h1 a1 (itOk_list ho (fun z => hF (fs_sub z)) hz l)⟩
  | tup xs =>
    cases r1 with
    | tup ho hz l => exact .inr ⟨_, _, rfl, tupSq ho, q xs s1 H1 _ h1 a1 (itOk_tup ho (fun _ => fs_sub) hz l)⟩
  | _ => exact h1.elim
/-- an owned list, in a comprehension -/
def slOwn : Option Sl → M (List D)
  | some (.own (.lst xs)) => pure xs
  | _ => bad
theorem di_own (i : Nat) {x : Str} (hN : X.N[i]? = some x := by rfl) (hv : Vis X.env.scope x := by first | exact Or.inl rfl | exact Or.inr (Or.inl rfl) | exact Or.inr (Or.inr rfl)) (hd : (x == ("__debug__" : Str)) = false := by decide)
    (hcd : (x == ("__classdict__" : Str)) = false := by decide) : DI X p false tg (.Name x pos) (fun ρ => slOwn ρ[i]?) := by
  refine ⟨fun W G H0 ρ σ H s R Ex Q tk rl hw q px => tI_of pi_seq ?_⟩
  have hw : wpM (slOwn ρ[i]?) s R Ex := hw
  cases e : ρ[i]? with
  | none => rw [e] at hw; exact hw.elim
  | some y =>
    rw [e] at hw
    cases y with
    | own d =>
      cases d with
      | lst xs =>
        obtain ⟨a, h1, h2, vs, h3, h4, h5⟩ := rl.own i _ e rfl
        refine tE_of (pe_var hN hv hd hcd) ⟨_, h1, .inl ⟨a, vs, rfl, .inl (.inl h3), q xs s H _ hw (.refl rl.pen) (itOk_list h3 ?_ h4 h5)⟩⟩
        exact fun z => rl.ownNe e rfl h1 z
      | _ => exact hw.elim
    | _ => exact hw.elim
/-- what range may be asked; by choice, so that no evaluation starts here -/
noncomputable def rngOk (i j : Int) : Bool := @decide (-1073741824 ≤ i ∧ i < 1073741824 ∧ -1073741824 ≤ j ∧ j < 1073741824 ∧ (j - i).toNat ≤ 16777216) (Classical.propDecidable _)
theorem rngOk_iff {i j : Int} : rngOk i j = true ↔ (-1073741824 ≤ i ∧ i < 1073741824 ∧ -1073741824 ≤ j ∧ j < 1073741824 ∧ (j - i).toNat ≤ 16777216) := @decide_eq_true_iff _ (Classical.propDecidable _)
/-- range(n), range(a, b) -/
noncomputable def rngM (lo hi : D) : M (List D) := match lo, hi with
  | .int i, .int j => if rngOk i j = true then pure ((List.range (j - i).toNat).map fun (n : Nat) => D.int (i + (n : Int))) else bad
  | _, _ => bad
theorem itOk_rng {K : PySem.W.Frag} {Fs F : Addr → Prop} {H : Hp} {lo : Int} {n : Nat} (hz : n ≤ 16777216) : ItOk K p Fs F (Itr lo n) H ((List.range n).map fun (m : Nat) => D.int (lo + (m : Int))) where
  go := fun i d H1 st e => by
    rw [List.getElem?_map] at e
    by_cases hi : i < n
    · rw [List.getElem?_range hi] at e
      cases e
      refine ⟨hi, fun x H2 y => ?_⟩
      obtain ⟨y1, y2⟩ := y
      subst y1
      subst y2
      exact .inl ⟨rfl, .int _⟩
    · rw [List.getElem?_eq_none (by rw [List.length_range]; omega)] at e
      cases e
  stop := fun H1 st => by
    rw [List.length_map,
        List.length_range]
    exact Nat.le_refl n
  sz := by
    rw [List.length_map,
        List.length_range]
    exact hz
theorem di_rng1 (hm : X.mg "range" = none) (ha : DA X p [e] [f]) (hg : Gl X "range" := by rfl) (hs : starEach [e] X.env = [(false, eval e X.env)] := by rfl) : DI X p lp tg (.Call (.Name "range" pos') [e] [] pos) (fun ρ => f ρ >>= fun j => rngM (.int 0) j) := by
  refine ⟨fun W G H0 ρ σ H s R Ex Q tk rl hw q px => tI_of (pi_range1 hg hm pa_self hs) ?_⟩
  refine ha.run _ (fun xs => match xs with | [j] => rngM (.int 0) j | _ => bad) W G H0 ρ σ H s R Ex _ tk rl hw (fun ds s1 vs H1 h1 a1 r1 _ => ?_) px
  cases ds with
  | nil => exact h1.elim
  | cons d ds =>
    cases ds with
    | cons d2 ds => exact h1.elim
    | nil =>
      have h1 : wpM (rngM (.int 0) d) s1 R Ex := h1
      cases r1 with
      | cons r1 r2 =>
      cases r2
      cases d with
      | int j =>
        cases r1
        have h1 : wpM (if rngOk 0 j = true then pure ((List.range (j - 0).toNat).map fun (n : Nat) => D.int (0 + (n : Int))) else bad) s1 R Ex := h1
        by_cases hk : rngOk 0 j = true
        · have hc := rngOk_iff.mp hk
          rw [if_pos hk, Int.sub_zero] at h1
          rw [Int.sub_zero] at hc
          exact ⟨j, rfl, by omega, by omega, q _ s1 H1 _ h1 a1 (itOk_rng hc.2.2.2.2)⟩
        · rw [if_neg hk] at h1
          exact h1.elim
      | _ => exact h1.elim
theorem di_rng2 (hm : X.mg "range" = none) (ha : DA X p [a, b] [f, g]) (hg : Gl X "range" := by rfl) (hs : starEach [a, b] X.env = [(false, eval a X.env), (false, eval b X.env)] := by rfl) (hs2 : starEach [b] X.env = [(false, eval b X.env)] := by rfl) :
    DI X p lp tg (.Call (.Name "range" pos') [a, b] [] pos) (fun ρ => f ρ >>= fun i => g ρ >>= fun j => rngM i j) := by
  refine ⟨fun W G H0 ρ σ H s R Ex Q tk rl hw q px => tI_of (pi_range2 hg hm pa_self hs hs2) ?_⟩
  refine ha.run _ (fun xs => match xs with | [i, j] => rngM i j | _ => bad) W G H0 ρ σ H s R Ex _ tk rl hw (fun ds s1 vs H1 h1 a1 r1 _ => ?_) px
  cases ds with
  | nil => exact h1.elim
  | cons d1 ds =>
    cases ds with
    | nil => exact h1.elim
    | cons d2 ds =>
      cases ds with
      | cons d3 ds => exact h1.elim
      | nil =>
        have h1 : wpM (rngM d1 d2) s1 R Ex := h1
        cases r1 with
        | cons r1 r2 =>
        cases r2 with
        | cons r2 r3 =>
        cases r3
        cases d1 with
        | int i =>
          cases d2 with
          | int j =>
            cases r1
            cases r2
            have h1 : wpM (if rngOk i j = true then pure ((List.range (j - i).toNat).map fun (n : Nat) => D.int (i + (n : Int))) else bad) s1 R Ex := h1
            by_cases hk : rngOk i j = true
            · have hc := rngOk_iff.mp hk
              rw [if_pos hk] at h1
              exact ⟨i, j, rfl, ⟨by omega, by omega, by omega, by omega⟩, q _ s1 H1 _ h1 a1 (itOk_rng hc.2.2.2.2)⟩
            · rw [if_neg hk] at h1
              exact h1.elim
          | _ => exact h1.elim
        | _ => exact h1.elim
end

/-! ### comprehensions -/
/-- nothing may be raised -/
def nx {α : Type} (m : M α) : M α := fun s => match m s with
  | .exc _ _ _ => .bad
  | o => o
@[simp] theorem nx_pure {α : Type} (a : α) : nx (pure a : M α) = pure a := rfl
@[simp] theorem nx_bad {α : Type} : nx (bad : M α) = bad := rfl
theorem nx_bind {α β : Type} (m : M α) (f : α → M β) : nx (m >>= f) = (nx m >>= fun a => nx (f a)) := by
  funext s
  show (match (match m s with | .ok a s' => f a s' | .exc c fs s' => .exc c fs s' | .bad => .bad) with | .exc _ _ _ => Out.bad | o => o) = (match (match m s with | .exc _ _ _ => Out.bad | o => o) with | .ok a s' => nx (f a) s' | .exc c fs s' => .exc c fs s' | .bad => .bad)
  cases m s <;> rfl
theorem wp_nx {α : Type} {m : M α} {s : Pen} {R : α → Pen → Prop} {Ex : XR} (h : wpM (nx m) s R Ex) : wpM m s R (fun _ _ _ => False) := by
  have h1 : (match (match m s with | .exc _ _ _ => Out.bad | o => o) with | .ok a s' => R a s' | .exc c fs s' => Ex c fs s' | .bad => False) := h
  show (match m s with | .ok a s' => R a s' | .exc c fs s' => False | .bad => False)
  cases e : m s with
  | ok a s' => rw [e] at h1; exact h1
  | exc c fs s' => rw [e] at h1; exact h1
  | bad => rw [e] at h1; exact h1
def bindT {β : Type} : Option Env → (Env → M β) → M β
  | some ρ, k => k ρ
  | none, _ => bad
def compL (h : D → Option Env) (t : Env → M Bool) (e : Env → M D) : List D → M (List D)
  | [] => pure []
  | x :: xs => bindT (h x) fun ρ => nx (t ρ) >>= fun b => if b = true then nx (e ρ) >>= fun y => compL h t e xs >>= fun ys => pure (y :: ys) else compL h t e xs
structure DTs (X : Cx) (p : PL) (ifs : List Expr) (f : Env → M Bool) : Prop where
  ex : (ifs = [] ∧ f = fun _ => pure true) ∨ ∃ c, ifs = [c] ∧ DT X p c f
theorem dts_nil {X : Cx} {p : PL} : DTs X p [] (fun _ => pure true) := ⟨.inl ⟨rfl, rfl⟩⟩
theorem dts_one {X : Cx} {p : PL} {c : Expr} {f : Env → M Bool} (h : DT X p c f) : DTs X p [c] f := ⟨.inr ⟨c, rfl, h⟩⟩
def tTs (X : Cx) (ifs : List Expr) : TT := fun σ H Q => ∃ t, PTs X ifs t ∧ t σ H Q
theorem pts_self {X : Cx} {ifs : List Expr} : PTs X ifs (tTs X ifs) := ⟨fun pins s σ H Q I h => by
  obtain ⟨t, h1, h2⟩ := h
  exact h1.run pins s σ H Q I h2⟩
theorem DTs.run {X : Cx} {p : PL} {ifs : List Expr} {f : Env → M Bool} (h : DTs X p ifs f) {W : WX} {G : Addr → Prop} {H0 : Hp} {ρ : Env} {σ : L2.St} {H : Hp} {s : Pen} {R : Bool → Pen → Prop} {Ex : XR} {Q : Bool → Hp → Prop} (tk : Takes X W) (rl : Rel X.K p G H0 ρ σ H s) (hw : wpM (f ρ) s R Ex)
    (q : ∀ d s' H', R d s' → Af p H H' s' → Q d H') (px : PX X p W G σ H Ex) : tTs X ifs σ H Q := by
  rcases h.ex with ⟨rfl, rfl⟩ | ⟨c, rfl, hd⟩
  · exact ⟨_, pts_nil, q true s H hw (.refl rl.pen)⟩
  · exact ⟨_, pts_one pt_self, hd.run W G H0 ρ σ H s R Ex Q tk rl hw q px⟩
theorem takesN {X : Cx} : Takes X (fun _ _ _ _ => False) := takes0
section
variable {X : Cx} {p : PL} {elt tg iter : Expr} {ifs : List Expr} {scope : Scope} {own : List (Str × Nat)} {pos : Pos} {g : Env → M (List D)} {h : D → Env → Option Env} {ts : List Nat} {t : Env → M Bool} {e : Env → M D}
abbrev Blk (X : Cx) (s : Shared) (H : Hp) (scope : Scope) (C : Addr) (cl : List (Str × Addr)) (fp : List Addr) : Cx := X.blk s H scope (compEnvC scope cl C X.env) fp
def lcM (vs : List Nat) (g : Env → M (List D)) (h : D → Env → Option Env) (t : Env → M Bool) (e : Env → M D) (ρ : Env) : M (List D) := g ρ >>= fun xs => if okW vs ρ = true then compL (fun x => h x (wipeE ρ vs)) t e xs else bad
/-- the readings of a block's parts, for every frame of the block -/
def bG (X : Cx) (scope : Scope) (tg : Expr) : TG := fun v σ H Q => ∀ s H0 C cl fp, tG (Blk X s H0 scope C cl fp) tg v σ H Q
def bT (X : Cx) (scope : Scope) (ifs : List Expr) : TT := fun σ H Q => ∀ s H0 C cl fp, tTs (Blk X s H0 scope C cl fp) ifs σ H Q
def bE (X : Cx) (scope : Scope) (elt : Expr) : TE := fun σ H Q => ∀ s H0 C cl fp, tE (Blk X s H0 scope C cl fp) elt σ H Q
theorem yld_rep {K : PySem.W.Frag} {F : Addr → Prop} {Hs H1 H2 : Hp} {x : V} {d : D} (y : Yld K p F Hs H1 H2 x d) (hp : F p.pa) (st : StepF F Hs H1) (fr : ∀ a, H1 a = none → ¬ F a) : Same H1 H2 ∧ Rep K p H2 F x d := by
  rcases y with ⟨rfl, r⟩ | ⟨T, vs, ds, rfl, hT, rfl, rfl, hz, r⟩
  · exact ⟨Same.refl _, r.mono st fun _ z => z⟩
  · have sm := same_new (o := .tup vs) hT
    exact ⟨sm, .itm (⟨upd_same, fr T hT⟩) hz ((r.mono st fun _ z => z).mono ((same_step (p := p) sm).toF hp) fun _ z => z)⟩
theorem wipe_get {σ : L2.St} {j : Nat} : ∀ {vs : List Nat}, j ∈ vs → j < σ.length → (L2.wipe σ vs)[j]? = some none
  | [], h, _ => nomatch h
  | v :: vs, h, hl => by
    show ((L2.wipe σ vs).set v none)[j]? = some none
    by_cases e : v = j
    · subst e
      rw [List.getElem?_set_self (by rw [L2.wipe_length]; exact hl)]
    · rw [List.getElem?_set_ne e]
      exact wipe_get ((List.mem_cons.mp h).resolve_left fun z => e z.symm) hl
theorem wipe_wipe {σ : L2.St} (vs : List Nat) : L2.wipe (L2.wipe σ vs) vs = L2.wipe σ vs := by
  refine List.ext_getElem?
      fun j => ?_
  by_cases hl : j < σ.length
  · by_cases hj : j ∈ vs
    · rw [wipe_get hj (by rw [L2.wipe_length]; exact hl), wipe_get hj hl]
    · rw [L2.wipe_out hj]
  · rw [List.getElem?_eq_none (by rw [L2.wipe_length, L2.wipe_length]; omega), List.getElem?_eq_none (by rw [L2.wipe_length]; omega)]
theorem fo_wipe' {G : Addr → Prop} {ρ : Env} {σ : L2.St} {a : Addr} : ∀ {vs : List Nat}, Fo G (wipeE ρ vs) (L2.wipe σ vs) a → Fo G ρ σ a
  | [], h => h
  | v :: vs, h => fo_wipe' (vs := vs) (fo_set rfl h)
theorem Yld.more {K : PySem.W.Frag} {F N : Addr → Prop} {Hs H1 H2 : Hp} {x : V} {d : D} (y : Yld K p F Hs H1 H2 x d) (hN : ∀ a, N a → Hs a = none) : Yld K p (fun a => F a ∨ N a) Hs H1 H2 x d := by
  rcases y with ⟨h, r⟩ | ⟨T, vs, ds, h1, h2, h3, h4, hz, r⟩
  · exact .inl ⟨h, r.more hN⟩
  · exact .inr ⟨T, vs, ds, h1, h2, h3, h4, hz, r.more hN⟩
/-- an object of G is changed, not the pen's -/
theorem Rel.updG {K : PySem.W.Frag} {G : Addr → Prop} {H0 H : Hp} {ρ : Env} {σ : L2.St} {s : Pen} {L : Addr} {o : HO} (r : Rel K p G H0 ρ σ H s) (hG : G L) (h0 : H0 L = none) (n1 : L ≠ p.pa) (n2 : L ≠ p.ca) : Rel K p G H0 ρ σ (upd H L o) s := by
  have st : StepF (Fo G ρ σ) H (upd H L o) := fun a u e n => by
    rw [upd_ne fun z => n (.inl (by rw [z]; exact hG))]
    exact e
  refine ⟨r.len, fun i d e => ?_, fun i x e hx => ?_, r.inj, fun a u e n => ?_, ⟨?_, ?_, r.pen.ok⟩, r.gpa, r.gca, fun a ha => ?_, r.gne⟩
  · obtain ⟨v, h1, h2⟩ := r.dat i d e
    exact ⟨v, h1, h2.mono st fun _ z => z⟩
  · obtain ⟨a, h1, h2, h3⟩ := r.own i x e hx
    refine ⟨a, h1, h2, h3.mono (fun u hu => ?_) st fun _ z => z⟩
    rw [upd_ne fun z => r.gne i x a e hx h1 (by rw [z]; exact hG)]
    exact hu
  · rw [upd_ne fun z => by rw [z, h0] at e; cases e]
    exact r.old a u e n
  · rw [upd_ne n1.symm]
    exact r.pen.dict
  · rw [upd_ne n2.symm]
    exact r.pen.cells
  · by_cases e : a = L
    · subst e
      exact ⟨o, upd_same⟩
    · rw [upd_ne e]
      exact r.gex a ha
theorem lc_run (hi : DI X p false tg iter g) (hg : ∀ s H C cl fp, DG (Blk X s H scope C cl fp) p tg ts h) (ht : ∀ s H C cl fp, DTs (Blk X s H scope C cl fp) p ifs t) (he : ∀ s H C cl fp, DE (Blk X s H scope C cl fp) p elt e) {vs : List Nat} (hv : ∀ i ∈ ts, i ∈ vs)
    {W : WX} {G : Addr → Prop} {H0 : Hp} {ρ : Env} {σ : L2.St} {H : Hp} {s : Pen} {R : List D → Pen → Prop} {Ex : XR} {Q : VK} (tk : Takes X W) (rl : Rel X.K p G H0 ρ σ H s) (hw : wpM (lcM vs g h t e ρ) s R Ex)
    (q : ∀ ds s' a ws H', R ds s' → Af p H H' s' → H a = none → H' a = some (.lst ws) → ds.length ≤ 16777216 → RepL X.K p H' (fun b => Fo G ρ σ b ∨ b = a) ws ds → Q (.ref a) H') (px : PX X p W G σ H Ex) :
    tLc (tI X tg iter) (bG X scope tg) (bT X scope ifs) (bE X scope elt) vs σ H Q := by
  unfold lcM at hw
  rw [wp_bind] at hw
  refine hi.run W G H0 ρ σ H s _ Ex _ tk rl hw (fun ds s1 H1 J h1 a1 ok => ?_) px
  by_cases hk : okW vs ρ = true
  case neg => rw [if_neg hk] at h1; exact h1.elim
  rw [if_pos hk] at h1
  intro L hL
  have rl1 := rl.step a1.st a1.pen
  -- within: the new list is not to be touched by what is carried
  have start : Rel X.K p (fun a => G a ∨ a = L) H0 ρ σ (upd H1 L (.lst [])) s1 := by
    have sm := same_new (o := .lst []) hL
    have rn := rl1.step (same_step (p := p) sm) (a1.pen.same sm)
    have fo : ∀ a, Fo (fun a => G a ∨ a = L) ρ σ a → Fo G ρ σ a ∨ a = L := fun a z => by
      rcases z with (z | z) | z
      · exact .inl (.inl z)
      · exact .inr z
      · exact .inl (.inr z)
    refine ⟨rn.len, fun i d e => ?_, fun i x e hx => ?_, rn.inj, rn.old, rn.pen, .inl rn.gpa, .inl rn.gca, fun a ha => ?_, fun i x a e hx e2 => ?_⟩
    · obtain ⟨v, q1, q2⟩ := rl1.dat i d e
      exact ⟨v, q1, ((q2.more (N := fun a => a = L) fun a z => by rw [z]; exact hL).mono ((same_step (p := p) sm).toF (.inl rl1.fpa)) fo)⟩
    · obtain ⟨a, q1, q2, q3⟩ := rl1.own i x e hx
      refine ⟨a, q1, q2, ?_⟩
      have old : ∀ o, H1 a = some o → upd H1 L (.lst []) a = some o := fun o z => sm a o z
      cases x with
      | no => exact q3.elim
      | dat d => exact q3.elim
      | self c fs =>
        obtain ⟨hx, dx, ws, z1, z0, z2⟩ := q3
        exact ⟨hx, dx, ws, old _ z1, z0, (z2.more (N := fun a => a = L) fun a z => by rw [z]; exact hL).mono ((same_step (p := p) sm).toF (.inl rl1.fpa)) fo⟩
      | own d =>
        cases d with
        | lst ds =>
          obtain ⟨ws, z1, z0, z2⟩ := q3
          exact ⟨ws, old _ z1, z0, (z2.more (N := fun a => a = L) fun a z => by rw [z]; exact hL).mono ((same_step (p := p) sm).toF (.inl rl1.fpa)) fo⟩
        | dct ds =>
          obtain ⟨ws, z1, z2⟩ := q3
          exact ⟨ws, old _ z1, (z2.more (N := fun a => a = L) fun a z => by rw [z]; exact hL).mono ((same_step (p := p) sm).toF (.inl rl1.fpa)) fo⟩
        | _ => exact q3.elim
    · rcases ha with ha | ha
      · exact rn.gex a ha
      · rw [ha]
        exact ⟨_, upd_same⟩
    · rintro (z | z)
      · exact rn.gne i x a e hx e2 z
      · subst z
        obtain ⟨b, q1, q2, q3⟩ := rl1.own i x e hx
        rw [e2] at q1
        cases q1
        obtain ⟨o, ho, _⟩ := q3.there
        rw [hL] at ho
        cases ho
  have szl : sizeLine = 16777216 := sizeLine_eq
  have h0L : H0 L = none := back_none (s1 := s1) ⟨rl1.old, rl1.pen⟩ hL
  have nLp : L ≠ p.pa := fun z => by
    rw [z, a1.pen.dict] at hL
    cases hL
  have nLc : L ≠ p.ca := fun z => by
    rw [z, a1.pen.cells] at hL
    cases hL
  have toFo : ∀ a, (Fo G ρ σ a ∨ a = L) → Fo (fun a => G a ∨ a = L) ρ σ a := fun a z => by
    rcases z with (z | z) | z
    · exact .inl (.inl z)
    · exact .inr z
    · exact .inl (.inr z)
  refine ⟨fun i m Hc => m = ds.length - i ∧ i ≤ ds.length ∧ ∃ sc acc dacc, Step p H1 Hc ∧ Rel X.K p (fun a => G a ∨ a = L) H0 ρ σ Hc sc ∧ Hc L = some (.lst acc) ∧ RepL X.K p Hc (fun a => Fo G ρ σ a ∨ a = L) acc dacc ∧ dacc.length ≤ i ∧
    wpM (compL (fun x => h x (wipeE ρ vs)) t e (ds.drop i)) sc (fun ys s' => R (dacc ++ ys) s') Ex, ⟨ds.length, rfl, Nat.zero_le _, s1, [], [], same_step (same_new hL), start, upd_same, .nil, Nat.zero_le _, h1⟩, ?_⟩
  rintro i m Hc ⟨rfl, hi', sc, acc, dacc, st, rc, hacc, racc, hlen, hwp⟩
  have stF : StepF (Fs false G (Fo G ρ σ)) H1 Hc := fun a o e n => st a o e fun z => n (show G a by rw [z]; exact rl.gpa)
  by_cases hlt : i < ds.length
  · obtain ⟨go, yl⟩ := ok.go i ds[i] Hc stF (List.getElem?_eq_getElem hlt)
    refine .inr ⟨go, fun H' => ∃ sc acc dacc, Step p H1 H' ∧ Rel X.K p (fun a => G a ∨ a = L) H0 ρ σ H' sc ∧ H' L = some (.lst acc) ∧ RepL X.K p H' (fun a => Fo G ρ σ a ∨ a = L) acc dacc ∧ dacc.length ≤ i + 1 ∧
      wpM (compL (fun x => h x (wipeE ρ vs)) t e (ds.drop (i + 1))) sc (fun ys s' => R (dacc ++ ys) s') Ex, fun H' hN => ⟨_, by omega, rfl, hlt, hN⟩, fun x Hy y => ?_⟩
    have stF' : StepF (fun a => Fo G ρ σ a ∨ a = L) H1 Hc := fun a o e n => st a o e fun z => n (.inl (by rw [z]; exact rl.fpa))
    obtain ⟨sm, rx⟩ := yld_rep ((yl x Hy y).more (N := fun a => a = L) fun a z => by rw [z]; exact hL) (.inl rl.fpa) stF' fun a ha z => rc.fresh ha (toFo a z)
    have ry := rc.step (same_step (p := p) sm) (rc.pen.same sm)
    rw [List.drop_eq_getElem_cons hlt] at hwp
    have hwp : wpM (bindT (h ds[i] (wipeE ρ vs)) fun ρ' => nx (t ρ') >>= fun b => if b = true then nx (e ρ') >>= fun y => compL (fun x => h x (wipeE ρ vs)) t e (ds.drop (i + 1)) >>= fun ys => pure (y :: ys) else compL (fun x => h x (wipeE ρ vs)) t e (ds.drop (i + 1))) sc (fun ys s' => R (dacc ++ ys) s') Ex := hwp
    cases eh : h ds[i] (wipeE ρ vs) with
    | none => rw [eh] at hwp; exact hwp.elim
    | some ρ' =>
    rw [eh] at hwp
    have hwp : wpM (nx (t ρ') >>= fun b => if b = true then nx (e ρ') >>= fun y => compL (fun x => h x (wipeE ρ vs)) t e (ds.drop (i + 1)) >>= fun ys => pure (y :: ys) else compL (fun x => h x (wipeE ρ vs)) t e (ds.drop (i + 1))) sc (fun ys s' => R (dacc ++ ys) s') Ex := hwp
    rw [wp_bind] at hwp
    have hacc' := sm _ _ hacc
    have racc' := racc.mono ((same_step (p := p) sm).toF (.inl rl.fpa)) fun _ z => z
    intro sB HB CB clB fpB
    refine (hg sB HB CB clB fpB).run (fun a => G a ∨ a = L) H0 (wipeE ρ vs) ρ' (L2.wipe σ vs) Hy sc x ds[i] _ (ry.wipe vs) (rx.mono (fun _ _ z _ => z) fun a z => ?_) eh fun σ2 r2 sb => ⟨by rw [sb.1 vs hv, wipe_wipe], ?_⟩
    · have := fo_wipe' z
      rcases this with (z | z) | z
      · exact .inl (.inl z)
      · exact .inr z
      · exact .inl (.inr z)
    intro sC HC CC clC fpC
    refine (ht sC HC CC clC fpC).run takesN r2 (wp_nx hwp) (fun b s3 H3 hb a3 => ?_) fun _ _ _ _ _ _ z => z.elim
    have r3 := r2.step a3.st a3.pen
    have rc3 := ry.step a3.st a3.pen
    have st3 : Step p H1 H3 := (st.trans (same_step sm)).trans a3.st
    have hacc3 : H3 L = some (.lst acc) := a3.st L _ hacc' nLp
    have racc3 := racc'.mono (a3.st.toF (.inl rl.fpa)) fun _ z => z
    cases b with
    | false =>
      rw [if_neg (by decide)] at hb ⊢
      exact ⟨s3, acc, dacc, st3, rc3, hacc3, racc3, by omega, hb⟩
    | true =>
      rw [if_pos rfl] at hb ⊢
      rw [wp_bind] at hb
      intro sD HD CD clD fpD
      refine (he sD HD CD clD fpD).run _ _ _ _ _ _ _ _ _ _ takesN r3 (wp_nx hb) (fun d s4 v H4 hd a4 r4 => ?_) fun _ _ _ _ _ _ z => z.elim
      rw [wp_bind] at hd
      have hacc4 : H4 L = some (.lst acc) := a4.st L _ hacc3 nLp
      have racc4 := racc3.mono (a4.st.toF (.inl rl.fpa)) fun _ z => z
      have rc4 := rc3.step a4.st a4.pen
      have hl : acc.length = dacc.length := racc4.length
      have h16 := ok.sz
      refine ⟨acc, hacc4, by omega, s4, acc ++ [v], dacc ++ [d], fun a o e n => ?_, rc4.updG (.inr rfl) h0L nLp nLc, upd_same, ?_, by rw [List.length_append]; show dacc.length + 1 ≤ i + 1; omega, ?_⟩
      · rw [upd_ne fun z => by rw [z, hL] at e; cases e]
        exact (st3.trans a4.st) a o e n
      · have rv : Rep X.K p H4 (fun a => Fo G ρ σ a ∨ a = L) v d := r4.mono (fun _ _ z _ => z) fun a z => by
          rcases z with (z | ⟨j, y, z1, z2, z3⟩) | z
          · exact .inl (.inl z)
          · have hn : j ∉ vs := fun hm => by
              have := List.all_eq_true.mp hk j hm
              rw [z1] at this
              simp [z2] at this
            have ht' : j ∉ ts := fun hm => hn (hv j hm)
            obtain ⟨e1, e2⟩ := sb.2 j ht'
            exact .inr ⟨j, y, by rw [e1, wipeE_out hn]; exact z1, z2, by rw [e2, L2.wipe_out hn]; exact z3⟩
          · exact .inl (.inr z)
        refine (racc4.append (.cons rv .nil)).mono (fun a o e n => ?_) fun _ z => z
        rw [upd_ne fun z => n (.inr z)]
        exact e
      · refine wp_mono hd (fun ys s5 hy => ?_) fun _ _ _ z => z
        rw [List.append_assoc]
        exact hy
  · have e : i = ds.length := by omega
    subst e
    rw [List.drop_length] at hwp
    have hwp : R (dacc ++ []) sc := hwp
    rw [List.append_nil] at hwp
    exact .inl ⟨ok.stop Hc stF, q dacc sc L acc Hc hwp (a1.trans ⟨st, rc.pen⟩) (back_none a1 hL) hacc (Nat.le_trans hlen ok.sz) racc⟩
end
end Say

namespace Say
open L2 PyProof.Rows PySem.Spec PySem

section
variable {X : Cx} {p : PL} {elt tg iter : Expr} {ifs : List Expr} {scope : Scope} {own : List (Str × Nat)} {pos : Pos} {g : Env → M (List D)} {h : D → Env → Option Env} {ts : List Nat} {t : Env → M Bool} {e : Env → M D}
theorem dn_lc (own : List (Str × Nat)) (hN : X.N.Nodup) (hi : DI X p false tg iter g) (hg : ∀ s H C cl fp, DG (Blk X s H scope C cl fp) p tg ts h) (ht : ∀ s H C cl fp, DTs (Blk X s H scope C cl fp) p ifs t) (he : ∀ s H C cl fp, DE (Blk X s H scope C cl fp) p elt e)
    (ok : blkC X.N X.env.scope scope own = true := by first | kernel_rfl | rfl) (hv : ∀ i ∈ ts, i ∈ own.map (·.2) := by decide) (hc : X.calm = true := by rfl) (hs : ∀ x, foldedSetIterable iter X.env x = pure x := by intro _; rfl) :
    DN X p (.ListComp elt [⟨tg, iter, ifs, 0⟩] scope pos) (lcM (own.map (·.2)) g h t e) := by
  refine ⟨fun W G H0 ρ σ H s R Ex Q tk rl hw q px => tE_of (pe_lc (wi := tI X tg iter) (g := bG X scope tg) (tt := bT X scope ifs) (te := bE X scope elt) hc hN pi_self (blkOk_by ok)
    (fun s H C cl fp => ⟨fun pins sh σ H v u Q I r h => pg_self.run pins sh σ H v u Q I r (h s _ C cl fp)⟩) (fun s H C cl fp => ⟨fun pins sh σ H Q I h => pts_self.run pins sh σ H Q I (h s _ C cl fp)⟩) (fun s H C cl fp => ⟨fun pins sh σ H Q I h => pe_self.run pins sh σ H Q I (h s _ C cl fp)⟩) hs) ?_⟩
  exact lc_run hi hg ht he hv tk rl hw q px
end

/-! ### statements -/
abbrev S := (Env → M D) → (D → M D) → (Env → M D) → (Env → M D) → Env → M D
/-- the wishes behind a statement, told by the mirror's ways on -/
structure Way (K : PySem.W.Frag) (p : PL) (G : Addr → Prop) (H0 : Hp) (k : Env → M D) (r : D → M D) (b c : Env → M D) (R : D → Pen → Prop) (Ex : XR) (Dn : Ends) : Prop where
  nx : ∀ ρ σ H s, Rel K p G H0 ρ σ H s → wpM (k ρ) s R Ex → Dn.nx σ H
  rt : ∀ d s v H, Step p H0 H → PenAt H p s → Rep K p H G v d → wpM (r d) s R Ex → Dn.rt v H
  bk : ∀ ρ σ H s, Rel K p G H0 ρ σ H s → wpM (b ρ) s R Ex → Dn.bk σ H
  ct : ∀ ρ σ H s, Rel K p G H0 ρ σ H s → wpM (c ρ) s R Ex → Dn.ct σ H
/-- an exception that leaves a statement -/
def PXs (K : PySem.W.Frag) (p : PL) (W : WX) (G : Addr → Prop) (H0 : Hp) (Ex : XR) : Prop :=
  ∀ c fs s σ dx vfs H, Ex c fs s → Step p H0 H → PenAt H p s → ExD H dx vfs → RepF K p H G vfs fs → W (.ref (He.ga K c)) (some dx) σ H
theorem PXs.px {X : Cx} {p : PL} {W : WX} {G : Addr → Prop} {H0 H : Hp} {Ex : XR} {σ : L2.St} (h : PXs X.K p W G H0 Ex) (st : Step p H0 H) : PX X p W G σ H Ex := fun c fs s' dx vfs H' e a x r => h c fs s' σ dx vfs H' e (st.trans a.st) a.pen x r
structure DS (X : Cx) (p : PL) (st : Stmt) (f : S) : Prop where
  run : ∀ (W : WX) (G : Addr → Prop) (H0 : Hp) (ρ : Env) (σ : L2.St) (H : Hp) (s : Pen) (k : Env → M D) (r : D → M D) (b c : Env → M D) (R : D → Pen → Prop) (Ex : XR) (Dn : Ends), Takes X W → Rel X.K p G H0 ρ σ H s → wpM (f k r b c ρ) s R Ex →
    Way X.K p G H0 k r b c R Ex Dn → PXs X.K p W G H0 Ex → tS X st Dn σ H
structure DSs (X : Cx) (p : PL) (st : List Stmt) (f : S) : Prop where
  run : ∀ (W : WX) (G : Addr → Prop) (H0 : Hp) (ρ : Env) (σ : L2.St) (H : Hp) (s : Pen) (k : Env → M D) (r : D → M D) (b c : Env → M D) (R : D → Pen → Prop) (Ex : XR) (Dn : Ends), Takes X W → Rel X.K p G H0 ρ σ H s → wpM (f k r b c ρ) s R Ex →
    Way X.K p G H0 k r b c R Ex Dn → PXs X.K p W G H0 Ex → tSs X st Dn σ H
def sNil : S := fun k _ _ _ ρ => k ρ
def sSeq (f g : S) : S := fun k r b c ρ => f (g k r b c) r b c ρ
def sSet (i : Nat) (f : Env → M D) : S := fun k _ _ _ ρ => f ρ >>= fun d => k (ρ.set i (.dat d))
def sRet (f : Env → M D) : S := fun _ r _ _ ρ => f (thaw ρ) >>= r
def sRetN : S := fun _ r _ _ _ => r .non
def sDrop (f : Env → M D) : S := fun k _ _ _ ρ => f ρ >>= fun _ => k ρ
def sIf (t : Env → M Bool) (f g : S) : S := fun k r b c ρ => t ρ >>= fun x => if x = true then f k r b c ρ else g k r b c ρ
def sBrk : S := fun _ _ b _ ρ => b ρ
def sCnt : S := fun _ _ _ c ρ => c ρ
def sBad : S := fun _ _ _ _ _ => bad
section
variable {X : Cx} {p : PL} {st : Stmt} {sts : List Stmt} {e a : Expr} {pos : Pos} {f g : S} {fe : Env → M D} {t : Env → M Bool}
theorem dss_nil : DSs X p [] sNil := ⟨fun W G H0 ρ σ H s k r b c R Ex Dn tk rl hw wy px => tSs_of pss_nil (wy.nx ρ σ H s rl hw)⟩
theorem dss_cons (h1 : DS X p st f) (h2 : DSs X p sts g) : DSs X p (st :: sts) (sSeq f g) :=
  ⟨fun W G H0 ρ σ H s k r b c R Ex Dn tk rl hw wy px => tSs_of (pss_cons ps_self pss_self) (h1.run W G H0 ρ σ H s (g k r b c) r b c R Ex _ tk rl hw
    ⟨fun ρ' σ' H' s' rl' hw' => h2.run W G H0 ρ' σ' H' s' k r b c R Ex Dn tk rl' hw' wy px, wy.rt, wy.bk, wy.ct⟩ px)⟩
theorem dss_one (h1 : DS X p st f) : DSs X p [st] f := ⟨fun W G H0 ρ σ H s k r b c R Ex Dn tk rl hw wy px => tSs_of (pss_one ps_self) (h1.run W G H0 ρ σ H s k r b c R Ex Dn tk rl hw wy px)⟩
theorem ds_pass : DS X p (.Pass pos) sNil := ⟨fun W G H0 ρ σ H s k r b c R Ex Dn tk rl hw wy px => tS_of ps_pass (wy.nx ρ σ H s rl hw)⟩
theorem ds_break : DS X p (.Break pos) sBrk := ⟨fun W G H0 ρ σ H s k r b c R Ex Dn tk rl hw wy px => tS_of ps_break (wy.bk ρ σ H s rl hw)⟩
theorem ds_continue : DS X p (.Continue pos) sCnt := ⟨fun W G H0 ρ σ H s k r b c R Ex Dn tk rl hw wy px => tS_of ps_continue (wy.ct ρ σ H s rl hw)⟩
theorem ds_never : DS X p st sBad := ⟨fun W G H0 ρ σ H s k r b c R Ex Dn tk rl hw wy px => hw.elim⟩
theorem ds_set (i : Nat) {x : Str} {pos' : Pos} (hN : X.N.Nodup) (he : DE X p e fe) (hi : X.N[i]? = some x := by rfl) (hx : Loc X.env.scope x := by first | exact Or.inl rfl | exact Or.inr rfl) (hs : swapsWith e (some (.Name x pos')) pos.line X.env = pure false := by rfl) (hf : X.fn x = true ∨ X.env.scope.names.lookup x = some .local := by first | exact .inl rfl | exact .inr rfl) :
    DS X p (.Assign [.Name x pos'] e pos) (sSet i fe) := by
  refine ⟨fun W G H0 ρ σ H s k r b c R Ex Dn tk rl hw wy px => tS_of (ps_set hN hi hx pe_self hs hf) ?_⟩
  have hw : wpM (fe ρ >>= fun d => k (ρ.set i (.dat d))) s R Ex := hw
  rw [wp_bind] at hw
  refine he.run W G H0 ρ σ H s _ Ex _ tk rl hw (fun d s1 v H1 h1 a1 r1 => ?_) (px.px rl.old)
  exact wy.nx _ _ H1 s1 ((rl.step a1.st a1.pen).put rfl fun d' e => by cases e; exact ⟨v, rfl, r1⟩) h1
theorem ds_asg {tg : Expr} {ts : List Nat} {h : D → Env → Option Env} (he : DE X p e fe) (hg : DG X p tg ts h) (hs : swapsWithSole [tg] e pos.line X.env = pure false := by rfl) (hw : swappedStores [tg] e X.env = pure none := by rfl)
    (h1 : (assignEach [tg] X.env).map (·.2) = [assign tg X.env] := by rfl) : DS X p (.Assign [tg] e pos) (fun k _ _ _ ρ => fe ρ >>= fun d => bindT (h d ρ) k) := by
  refine ⟨fun W G H0 ρ σ H s k r b c R Ex Dn tk rl hww wy px => tS_of (ps_asg pe_self pg_self hs hw h1) ?_⟩
  have hw : wpM (fe ρ >>= fun d => bindT (h d ρ) k) s R Ex := hww
  rw [wp_bind] at hw
  refine he.run W G H0 ρ σ H s _ Ex _ tk rl hw (fun d s1 v H1 h1 a1 r1 => ?_) (px.px rl.old)
  cases eh : h d ρ with
  | none => rw [eh] at h1; exact h1.elim
  | some ρ' =>
    rw [eh] at h1
    exact hg.run G H0 ρ ρ' σ H1 s1 v d _ (rl.step a1.st a1.pen) r1 eh fun σ' r' _ => wy.nx ρ' σ' H1 s1 r' h1
theorem ds_par {i j : Nat} {x y : Str} {e2 : Expr} {fe2 : Env → M D} {px' py pt pt2 : Pos} {kt k2 : Nat} (hN : X.N.Nodup) (h1 : DE X p e fe) (h2 : DE X p e2 fe2) (hi : X.N[i]? = some x := by rfl) (hj : X.N[j]? = some y := by rfl) (hij : i ≠ j := by decide)
    (hx : X.env.scope.names.lookup x = some .local := by rfl) (hy : X.env.scope.names.lookup y = some .local := by rfl) (hc : X.calm = true := by rfl)
    (hse : starEach (e :: [e2]) X.env = (false, eval e X.env) :: starEach [e2] X.env := by rfl) (hse2 : starEach (e2 :: []) X.env = (false, eval e2 X.env) :: starEach [] X.env := by rfl)
    (hw : swappedStores [.Tuple [.Name x px', .Name y py] kt pt] (.Tuple [e, e2] k2 pt2) X.env = pure (some [x, y]) := by rfl)
    (hs : swapsWithSole [.Tuple [.Name x px', .Name y py] kt pt] (.Tuple [e, e2] k2 pt2) pos.line X.env = pure false := by rfl) :
    DS X p (.Assign [.Tuple [.Name x px', .Name y py] kt pt] (.Tuple [e, e2] k2 pt2) pos) (fun k _ _ _ ρ => fe ρ >>= fun d => fe2 ρ >>= fun d2 => k ((ρ.set i (.dat d)).set j (.dat d2))) := by
  refine ⟨fun W G H0 ρ σ H s k r b c R Ex Dn tk rl hww wy px => tS_of (ps_par hc hN hi hj hij hx hy (pa_cons pe_self (pa_cons pe_self pa_nil hse2) hse) hw hs) ?_⟩
  have hw : wpM (fe ρ >>= fun d => fe2 ρ >>= fun d2 => k ((ρ.set i (.dat d)).set j (.dat d2))) s R Ex := hww
  rw [wp_bind] at hw
  refine h1.run W G H0 ρ σ H s _ Ex _ tk rl hw (fun d s1 v H1 w1 a1 r1 => ?_) (px.px rl.old)
  rw [wp_bind] at w1
  have rl1 := rl.step a1.st a1.pen
  refine h2.run W G H0 ρ σ H1 s1 _ Ex _ tk rl1 w1 (fun d2 s2 v2 H2 w2 a2 r2 => ?_) (px.px rl1.old)
  have rl2 := rl1.step a2.st a2.pen
  refine ⟨v, v2, rfl, wy.nx _ _ H2 s2 ((rl2.put (i := i) (x := .dat d) (o := some v) rfl fun d' e => by cases e; exact ⟨v, rfl, r1.mono (a2.st.toF rl.fpa) fun _ z => z⟩).put rfl fun d' e => by cases e; exact ⟨v2, rfl, r2.mono (fun _ _ z _ => z) fun _ => fo_set rfl⟩) w2⟩
theorem ds_ret (he : DE X p e fe) : DS X p (.Return (some e) pos) (sRet fe) := by
  refine ⟨fun W G H0 ρ σ H s k r b c R Ex Dn tk rl hw wy px => tS_of (ps_ret pe_self) ?_⟩
  have hw : wpM (fe (thaw ρ) >>= r) s R Ex := hw
  rw [wp_bind] at hw
  refine he.run W G H0 (thaw ρ) σ H s _ Ex _ tk rl.thaw hw (fun d s1 v H1 h1 a1 r1 => ?_) (px.px rl.old)
  exact wy.rt d s1 v H1 (rl.old.trans a1.st) a1.pen (r1.mono (fun _ _ z _ => z) fun _ z => .inl z) h1
theorem ds_retN : DS X p (.Return none pos) sRetN := ⟨fun W G H0 ρ σ H s k r b c R Ex Dn tk rl hw wy px => tS_of ps_retN (show Dn.rt .non H from wy.rt .non s .non H rl.old rl.pen .non hw)⟩
theorem ds_expr (he : DE X p e fe) (hs : swapsWith e none pos.line X.env = pure false := by rfl) : DS X p (.Expr e pos) (sDrop fe) := by
  refine ⟨fun W G H0 ρ σ H s k r b c R Ex Dn tk rl hw wy px => tS_of (ps_expr pe_self hs) ?_⟩
  have hw : wpM (fe ρ >>= fun _ => k ρ) s R Ex := hw
  rw [wp_bind] at hw
  refine he.run W G H0 ρ σ H s _ Ex _ tk rl hw (fun d s1 v H1 h1 a1 r1 => ?_) (px.px rl.old)
  exact wy.nx ρ σ H1 s1 (rl.step a1.st a1.pen) h1
theorem ds_if {c : Expr} {A B : List Stmt} (hc : DT X p c t) (ha : DSs X p A f) (hb : DSs X p B g) : DS X p (.If c A B pos) (sIf t f g) := by
  refine ⟨fun W G H0 ρ σ H s k r b c' R Ex Dn tk rl hw wy px => tS_of (ps_if pt_self pss_self pss_self) ?_⟩
  have hw : wpM (t ρ >>= fun x => if x = true then f k r b c' ρ else g k r b c' ρ) s R Ex := hw
  rw [wp_bind] at hw
  refine hc.run W G H0 ρ σ H s _ Ex _ tk rl hw (fun x s1 H1 h1 a1 => ?_) (px.px rl.old)
  have rl1 := rl.step a1.st a1.pen
  cases x with
  | true =>
    rw [if_pos rfl] at h1 ⊢
    exact ha.run W G H0 ρ σ H1 s1 k r b c' R Ex Dn tk rl1 h1 wy px
  | false =>
    rw [if_neg (by decide)] at h1 ⊢
    exact hb.run W G H0 ρ σ H1 s1 k r b c' R Ex Dn tk rl1 h1 wy px
end
/-! ### a list of its own -/
section
variable {K : PySem.W.Frag} {p : PL} {G : Addr → Prop} {H0 H H' : Hp} {ρ : Env} {σ : L2.St} {s s' : Pen}
/-- a slot gets a new object of its own at q -/
theorem Rel.putOwn {i : Nat} {x : Sl} {q : Addr} {Hb : Hp} (r : Rel K p G H0 ρ σ H s) (hb : Rel K p G H0 ρ σ Hb s') (hq : Hb q = none) (hl : i < ρ.length) (ho : OwnAt K p H (fun a => Fo G ρ σ a ∨ a = q) q x) (st : Step p Hb H) : Rel K p G H0 (ρ.set i x) (σ.set i (some (.ref q))) H s := by
  have nq' : ¬ Fo G ρ σ q := hb.fresh hq
  have sub : ∀ a, Fo G (ρ.set i x) (σ.set i (some (.ref q))) a → Fo G ρ σ a ∨ a = q := fun a z => by
    rcases z with z | ⟨j, y, h1, hy, h2⟩
    · exact .inl (.inl z)
    · rcases get_set h1 with ⟨rfl, rfl, _⟩ | ⟨ne, h1⟩
      · rw [List.getElem?_set_self (by rw [← r.len]; exact hl)] at h2
        cases h2
        exact .inr rfl
      · rw [List.getElem?_set_ne ne] at h2
        exact .inl (.inr ⟨j, y, h1, hy, h2⟩)
  have h0 : H0 q = none := back_none (s1 := s') ⟨hb.old, hb.pen⟩ hq
  refine ⟨by rw [List.length_set, List.length_set]; exact r.len, fun j d e => ?_, fun j y e hy => ?_, fun j k y z a h1 hy h2 hz h3 h4 => ?_, r.old, r.pen, r.gpa, r.gca, r.gex, fun j y a h1 hy h2 => ?_⟩
  · rcases get_set e with ⟨rfl, qq, hl⟩ | ⟨ne, e⟩
    · subst qq
      exact ho.elim
    · obtain ⟨v, h1, h2⟩ := hb.dat j d e
      exact ⟨v, by rw [List.getElem?_set_ne ne]; exact h1, (h2.more (N := fun a => a = q) fun a z => by rw [z]; exact hq).mono (st.toF (.inl r.fpa)) sub⟩
  · rcases get_set e with ⟨rfl, rfl, _⟩ | ⟨ne, e⟩
    · exact ⟨q, List.getElem?_set_self (by rw [← r.len]; exact hl), h0, ho.mono (fun _ z => z) (fun _ _ z _ => z) sub⟩
    · obtain ⟨a, h1, h2, h3⟩ := hb.own j y e hy
      have ne' : a ≠ p.pa := fun z => hb.gne j y a e hy h1 (by rw [z]; exact hb.gpa)
      refine ⟨a, by rw [List.getElem?_set_ne ne]; exact h1, h2, ?_⟩
      cases y with
      | no => exact h3.elim
      | dat d => exact h3.elim
      | self c fs =>
        obtain ⟨hx, dx, ws, z1, z0, z2⟩ := h3
        exact ⟨hx, dx, ws, st _ _ z1 ne', z0, (z2.more (N := fun a => a = q) fun a z => by rw [z]; exact hq).mono (st.toF (.inl r.fpa)) sub⟩
      | own d =>
        cases d with
        | lst ds =>
          obtain ⟨ws, z1, z0, z2⟩ := h3
          exact ⟨ws, st _ _ z1 ne', z0, (z2.more (N := fun a => a = q) fun a z => by rw [z]; exact hq).mono (st.toF (.inl r.fpa)) sub⟩
        | dct ds =>
          obtain ⟨ws, z1, z2⟩ := h3
          exact ⟨ws, st _ _ z1 ne', (z2.more (N := fun a => a = q) fun a z => by rw [z]; exact hq).mono (st.toF (.inl r.fpa)) sub⟩
        | _ => exact h3.elim
  · have other : ∀ (j : Nat) (y : Sl), i ≠ j → ρ[j]? = some y → y.held = true → (σ.set i (some (.ref q)))[j]? = some (some (.ref q)) → False := fun j y ne e hy e2 => by
      rw [List.getElem?_set_ne ne] at e2
      exact nq' (.inr ⟨j, y, e, hy, e2⟩)
    rcases get_set h1 with ⟨rfl, _, _⟩ | ⟨ne, h1⟩
    · rcases get_set h2 with ⟨rfl, _, _⟩ | ⟨ne2, h2⟩
      · rfl
      · rw [List.getElem?_set_self (by rw [← r.len]; exact hl)] at h3
        cases h3
        exact (other k z ne2 h2 hz h4).elim
    · rcases get_set h2 with ⟨rfl, _, _⟩ | ⟨ne2, h2⟩
      · rw [List.getElem?_set_self (by rw [← r.len]; exact hl)] at h4
        cases h4
        exact (other j y ne h1 hy h3).elim
      · rw [List.getElem?_set_ne ne] at h3
        rw [List.getElem?_set_ne ne2] at h4
        exact r.inj j k y z a h1 hy h2 hz h3 h4
  · rcases get_set h1 with ⟨rfl, _, _⟩ | ⟨ne, h1⟩
    · rw [List.getElem?_set_self (by rw [← r.len]; exact hl)] at h2
      cases h2
      exact fun z => nq' (.inl z)
    · rw [List.getElem?_set_ne ne] at h2
      exact r.gne j y a h1 hy h2
/-- what is owned at slot i changes -/
theorem Rel.updOwn {i : Nat} {x y : Sl} {q : Addr} {o : HO} (r : Rel K p G H0 ρ σ H s) (e : ρ[i]? = some x) (hx : x.held = true) (hy : y.held = true) (eq : σ[i]? = some (some (.ref q))) (ho : OwnAt K p (upd H q o) (Fo G ρ σ) q y) : Rel K p G H0 (ρ.set i y) σ (upd H q o) s := by
  have hl : i < ρ.length := (List.getElem?_eq_some_iff.mp e).1
  have fq : Fo G ρ σ q := .inr ⟨i, x, e, hx, eq⟩
  have st : StepF (Fo G ρ σ) H (upd H q o) := fun a u e n => by
    rw [upd_ne fun z => n (by rw [z]; exact fq)]
    exact e
  have ng : ¬ G q := r.gne i x q e hx eq
  obtain ⟨b, z1, h0, _⟩ := r.own i x e hx
  rw [eq] at z1
  cases z1
  have sub : ∀ a, Fo G (ρ.set i y) σ a → Fo G ρ σ a := fun a z => by
    rcases z with z | ⟨j, w, h1, hw, h2⟩
    · exact .inl z
    · rcases get_set h1 with ⟨rfl, rfl, _⟩ | ⟨ne, h1⟩
      · exact .inr ⟨_, x, e, hx, h2⟩
      · exact .inr ⟨j, w, h1, hw, h2⟩
  have back : ∀ (j : Nat) (w : Sl), (ρ.set i y)[j]? = some w → w.held = true → ∃ w', ρ[j]? = some w' ∧ w'.held = true := fun j w h1 hw => by
    rcases get_set h1 with ⟨rfl, rfl, _⟩ | ⟨ne, h1⟩
    · exact ⟨x, e, hx⟩
    · exact ⟨w, h1, hw⟩
  refine ⟨by rw [List.length_set]; exact r.len, fun j d e1 => ?_, fun j w e1 hw => ?_, fun j k w z a h1 hw h2 hz h3 h4 => ?_, fun a u e1 n => ?_, ⟨?_, ?_, r.pen.ok⟩, r.gpa, r.gca, fun a ha => ?_, fun j w a h1 hw h2 => ?_⟩
  · rcases get_set e1 with ⟨rfl, qq, _⟩ | ⟨ne, e1⟩
    · subst qq
      cases hy
    · obtain ⟨v, h1, h2⟩ := r.dat j d e1
      exact ⟨v, h1, h2.mono st sub⟩
  · rcases get_set e1 with ⟨rfl, rfl, _⟩ | ⟨ne, e1⟩
    · exact ⟨q, eq, h0, ho.mono (fun _ z => z) (fun _ _ z _ => z) sub⟩
    · obtain ⟨a, h1, h2, h3⟩ := r.own j w e1 hw
      refine ⟨a, h1, h2, h3.mono (fun u hu => ?_) st sub⟩
      rw [upd_ne fun z => ne (r.inj i j x w q e hx e1 hw eq (by rw [h1, z]))]
      exact hu
  · obtain ⟨w', q1, q2⟩ := back j w h1 hw
    obtain ⟨z', q3, q4⟩ := back k z h2 hz
    exact r.inj j k w' z' a q1 q2 q3 q4 h3 h4
  · rw [upd_ne fun z => by rw [z, h0] at e1; cases e1]
    exact r.old a u e1 n
  · rw [upd_ne fun z => ng (by rw [← z]; exact r.gpa)]
    exact r.pen.dict
  · rw [upd_ne fun z => ng (by rw [← z]; exact r.gca)]
    exact r.pen.cells
  · rw [upd_ne fun z => ng (by rw [← z]; exact ha)]
    exact r.gex a ha
  · obtain ⟨w', q1, q2⟩ := back j w h1 hw
    exact r.gne j w' a q1 q2 h2
end
def sOwn (i : Nat) (f : Env → M (List D)) : S := fun k _ _ _ ρ => f ρ >>= fun ds => k (ρ.set i (.own (.lst ds)))
def ownL : Option Sl → M (List D)
  | some (.own (.lst xs)) => pure xs
  | _ => bad
def pushD (xs : List D) (d : D) : M (List D) := if xs.length < 16777216 then pure (xs ++ [d]) else bad
def sApp (i : Nat) (f : Env → M D) : S := fun k _ _ _ ρ => ownL ρ[i]? >>= fun xs => f ρ >>= fun d => pushD xs d >>= fun ys => k (ρ.set i (.own (.lst ys)))
section
variable {X : Cx} {p : PL} {st : Stmt} {sts : List Stmt} {e a : Expr} {pos pos' : Pos} {f g : S} {fe : Env → M D} {t : Env → M Bool} {fl : Env → M (List D)}
theorem ds_own (i : Nat) {x : Str} (hN : X.N.Nodup) (he : DN X p e fl) (hi : X.N[i]? = some x := by rfl) (hx : Loc X.env.scope x := by first | exact Or.inl rfl | exact Or.inr rfl) (hs : swapsWith e (some (.Name x pos')) pos.line X.env = pure false := by rfl) (hf : X.fn x = true ∨ X.env.scope.names.lookup x = some .local := by first | exact .inl rfl | exact .inr rfl) :
    DS X p (.Assign [.Name x pos'] e pos) (fun k _ _ _ ρ => if i < ρ.length then fl ρ >>= fun ds => k (ρ.set i (.own (.lst ds))) else bad) := by
  refine ⟨fun W G H0 ρ σ H s k r b c R Ex Dn tk rl hw wy px => tS_of (ps_set hN hi hx pe_self hs hf) ?_⟩
  have hw : wpM (if i < ρ.length then fl ρ >>= fun ds => k (ρ.set i (.own (.lst ds))) else bad) s R Ex := hw
  by_cases hl : i < ρ.length
  case neg => rw [if_neg hl] at hw; exact hw.elim
  rw [if_pos hl, wp_bind] at hw
  refine he.run W G H0 ρ σ H s _ Ex _ tk rl hw (fun ds s1 q vs H1 h1 a1 n1 e1 hz r1 => ?_) (px.px rl.old)
  exact wy.nx _ _ H1 s1 ((rl.step a1.st a1.pen).putOwn (x := .own (.lst ds)) rl n1 hl ⟨vs, e1, hz, r1⟩ a1.st) h1
/-- xs.append(e), xs its own -/
theorem ds_app (i : Nat) {x : Str} {p1 p2 : Pos} (he : DE X p e fe) (hN : X.N[i]? = some x := by rfl) (hv : Vis X.env.scope x := by first | exact Or.inl rfl | exact Or.inr (Or.inl rfl) | exact Or.inr (Or.inr rfl)) (hd : (x == ("__debug__" : Str)) = false := by decide)
    (hcd : (x == ("__classdict__" : Str)) = false := by decide) (hs : swapsWith (.Call (.Attribute (.Name x p1) "append" p2) [e] [] pos') none pos.line X.env = pure false := by rfl)
    (hp : PE X (.Call (.Attribute (.Name x p1) "append" p2) [e] [] pos') (tBM X.K "list" rAppend (tVar i) (tCons (tE X e) tNil)) := by exact pe_bm PySem.F.plainAttrs_list PySem.F.slot_list_append PySem.F.type_list_append mt_append (pv _) (pa_cons pe_self pa_nil)) :
    DS X p (.Expr (.Call (.Attribute (.Name x p1) "append" p2) [e] [] pos') pos) (sApp i fe) := by
  refine ⟨fun W G H0 ρ σ H s k r b c R Ex Dn tk rl hw wy px => tS_of (ps_expr hp hs) ?_⟩
  have hw : wpM (ownL ρ[i]? >>= fun xs => fe ρ >>= fun d => pushD xs d >>= fun ys => k (ρ.set i (.own (.lst ys)))) s R Ex := hw
  cases eo : ρ[i]? with
  | none => rw [eo] at hw; exact hw.elim
  | some y =>
    rw [eo] at hw
    cases y with
    | own d =>
      cases d with
      | lst xs =>
        have hw : wpM (fe ρ >>= fun d => pushD xs d >>= fun ys => k (ρ.set i (.own (.lst ys)))) s R Ex := hw
        obtain ⟨q, h1, h2, vs, h3, hz, h4⟩ := rl.own i _ eo rfl
        refine ⟨_, h1, .inl ⟨rfl, vs, .inl (.inl h3)⟩, ?_⟩
        rw [wp_bind] at hw
        refine he.run W G H0 ρ σ H s _ Ex _ tk rl hw (fun d s1 v H1 w1 a1 r1 => ?_) (px.px rl.old)
        have nq : q ≠ p.pa := fun z => rl.gne i _ q eo rfl h1 (by rw [z]; exact rl.gpa)
        have rl1 := rl.step a1.st a1.pen
        rw [wp_bind] at w1
        unfold pushD at w1
        by_cases hl : xs.length < 16777216
        · rw [if_pos hl] at w1
          have w1 : wpM (k (ρ.set i (.own (.lst (xs ++ [d]))))) s1 R Ex := w1
          have l4 := h4.mono (a1.st.toF rl.fpa) fun _ z => z
          refine ⟨q, vs, v, rfl, rfl, a1.st q _ h3 nq, by rw [l4.length, sizeLine_eq]; exact hl, wy.nx _ σ _ s1 (rl1.updOwn (y := .own (.lst (xs ++ [d]))) eo rfl rfl h1 ⟨vs ++ [v], upd_same, by rw [List.length_append]; exact hl, ?_⟩) w1⟩
          refine (l4.append (.cons r1 .nil)).mono (fun a u e n => ?_) fun _ z => z
          rw [upd_ne fun z => n (by rw [z]; exact .inr ⟨i, _, eo, rfl, h1⟩)]
          exact e
        · rw [if_neg hl] at w1
          exact w1.elim
      | _ => exact hw.elim
    | _ => exact hw.elim
/-- x = [..], the comprehension stored on one line -/
theorem ds_lcD (i : Nat) {x : Str} {elt tg iter : Expr} {ifs : List Expr} {scope : Scope} {h : D → Env → Option Env} {ts : List Nat} {py : Pos} {ee : Env → M D} (own : List (Str × Nat)) (hN : X.N.Nodup) (hi : DI X p false tg iter fl) (hg : ∀ s H C cl fp, DG (Blk X s H scope C cl fp) p tg ts h) (ht : ∀ s H C cl fp, DTs (Blk X s H scope C cl fp) p ifs t) (he : ∀ s H C cl fp, DE (Blk X s H scope C cl fp) p elt ee)
    (hy : X.N[i]? = some x := by rfl) (hyl : X.env.scope.names.lookup x = some .local := by rfl) (hl : (py.line == pos.line) = true := by rfl) (ha : (scope.names.any fun (n, k) => n == x && (k == .local || k == .cell)) = false := by decide +kernel) (hk : X.env.scope.kind = .function := by rfl)
    (ok : blkC X.N X.env.scope scope own = true := by first | kernel_rfl | rfl) (hv : ∀ i ∈ ts, i ∈ own.map (·.2) := by decide) (hc : X.calm = true := by rfl) (hs : ∀ x, foldedSetIterable iter X.env x = pure x := by intro _; rfl) :
    DS X p (.Assign [.Name x py] (.ListComp elt [⟨tg, iter, ifs, 0⟩] scope pos) pos') (sSet i fun ρ => lcM (own.map (·.2)) fl h t ee ρ >>= fun xs => pure (.lst xs)) := by
  refine ⟨fun W G H0 ρ σ H s k r b c R Ex Dn tk rl hw wy px => tS_of (ps_setLc (wi := tI X tg iter) (g := bG X scope tg) (tt := bT X scope ifs) (te := bE X scope elt) hc hN hy hyl (sw_true hk hyl hl ha) pi_self (blkOk_by ok)
    (fun s H C cl fp => ⟨fun pins sh σ H v u Q I r h => pg_self.run pins sh σ H v u Q I r (h s _ C cl fp)⟩) (fun s H C cl fp => ⟨fun pins sh σ H Q I h => pts_self.run pins sh σ H Q I (h s _ C cl fp)⟩) (fun s H C cl fp => ⟨fun pins sh σ H Q I h => pe_self.run pins sh σ H Q I (h s _ C cl fp)⟩) hs) ?_⟩
  have hw : wpM ((lcM (own.map (·.2)) fl h t ee ρ >>= fun xs => pure (.lst xs)) >>= fun d => k (ρ.set i (.dat d))) s R Ex := hw
  rw [bind_assoc, wp_bind] at hw
  exact lc_run hi hg ht he hv tk rl hw (fun ds s1 q vs H1 h1 a1 n1 e1 hz r1 => wy.nx _ _ H1 s1 ((rl.step a1.st a1.pen).put rfl fun d' e => by
    cases e
    exact ⟨_, rfl, .lst e1 (rl.fresh n1) hz (r1.mono (fun _ _ z _ => z) fun _ z => .inl z)⟩) h1) (px.px rl.old)
theorem ds_lcO (i : Nat) {x : Str} {elt tg iter : Expr} {ifs : List Expr} {scope : Scope} {h : D → Env → Option Env} {ts : List Nat} {py : Pos} {ee : Env → M D} (own : List (Str × Nat)) (hN : X.N.Nodup) (hi : DI X p false tg iter fl) (hg : ∀ s H C cl fp, DG (Blk X s H scope C cl fp) p tg ts h) (ht : ∀ s H C cl fp, DTs (Blk X s H scope C cl fp) p ifs t) (he : ∀ s H C cl fp, DE (Blk X s H scope C cl fp) p elt ee)
    (hy : X.N[i]? = some x := by rfl) (hyl : X.env.scope.names.lookup x = some .local := by rfl) (hl : (py.line == pos.line) = true := by rfl) (ha : (scope.names.any fun (n, k) => n == x && (k == .local || k == .cell)) = false := by decide +kernel) (hk : X.env.scope.kind = .function := by rfl)
    (ok : blkC X.N X.env.scope scope own = true := by first | kernel_rfl | rfl) (hv : ∀ i ∈ ts, i ∈ own.map (·.2) := by decide) (hc : X.calm = true := by rfl) (hs : ∀ x, foldedSetIterable iter X.env x = pure x := by intro _; rfl) :
    DS X p (.Assign [.Name x py] (.ListComp elt [⟨tg, iter, ifs, 0⟩] scope pos) pos') (fun k _ _ _ ρ => if i < ρ.length then lcM (own.map (·.2)) fl h t ee ρ >>= fun ds => k (ρ.set i (.own (.lst ds))) else bad) := by
  refine ⟨fun W G H0 ρ σ H s k r b c R Ex Dn tk rl hw wy px => tS_of (ps_setLc (wi := tI X tg iter) (g := bG X scope tg) (tt := bT X scope ifs) (te := bE X scope elt) hc hN hy hyl (sw_true hk hyl hl ha) pi_self (blkOk_by ok)
    (fun s H C cl fp => ⟨fun pins sh σ H v u Q I r h => pg_self.run pins sh σ H v u Q I r (h s _ C cl fp)⟩) (fun s H C cl fp => ⟨fun pins sh σ H Q I h => pts_self.run pins sh σ H Q I (h s _ C cl fp)⟩) (fun s H C cl fp => ⟨fun pins sh σ H Q I h => pe_self.run pins sh σ H Q I (h s _ C cl fp)⟩) hs) ?_⟩
  have hw : wpM (if i < ρ.length then lcM (own.map (·.2)) fl h t ee ρ >>= fun ds => k (ρ.set i (.own (.lst ds))) else bad) s R Ex := hw
  by_cases hil : i < ρ.length
  case neg => rw [if_neg hil] at hw; exact hw.elim
  rw [if_pos hil, wp_bind] at hw
  exact lc_run hi hg ht he hv tk rl hw (fun ds s1 q vs H1 h1 a1 n1 e1 hz r1 => wy.nx _ _ H1 s1 ((rl.step a1.st a1.pen).putOwn (x := .own (.lst ds)) rl n1 hil ⟨vs, e1, hz, r1⟩ a1.st) h1) (px.px rl.old)
end
/-! ### for, while -/
def forS (h : D → Env → Option Env) (body : S) (k : Env → M D) (r : D → M D) : List D → Env → M D
  | [], ρ => k ρ
  | x :: xs, ρ => bindT (h x ρ) fun ρ' => body (forS h body k r xs) r k (forS h body k r xs) ρ'
def sFor (g : Env → M (List D)) (h : D → Env → Option Env) (body : S) : S := fun k r _ _ ρ => g ρ >>= fun xs => forS h body k r xs ρ
def whileS (t : Env → M Bool) (body : S) (k : Env → M D) (r : D → M D) : Nat → Env → M D
  | 0, _ => bad
  | n + 1, ρ => t ρ >>= fun x => if x = true then body (whileS t body k r n) r k (whileS t body k r n) ρ else k ρ
def sWhile (n : Nat) (t : Env → M Bool) (body : S) : S := fun k r _ _ ρ => whileS t body k r n ρ
section
open Classical
/-- all but what is owned here -/
noncomputable def reb (ρ : Env) (σ : L2.St) (H : Hp) : Hp := fun a => if (∃ (i : Nat) (x : Sl), ρ[i]? = some x ∧ x.held = true ∧ σ[i]? = some (some (.ref a))) then none else H a
variable {K : PySem.W.Frag} {p : PL} {G : Addr → Prop} {H0 H H' : Hp} {ρ ρ' : Env} {σ σ' : L2.St} {s s' : Pen}
theorem reb_some {a : Addr} {o : HO} (h : reb ρ σ H a = some o) : H a = some o := by
  unfold reb at h
  split at h
  · cases h
  · exact h
theorem Rel.reb (r : Rel K p G H0 ρ σ H s) : Rel K p G (Say.reb ρ σ H) ρ σ H s where
  len := r.len
  dat := r.dat
  own := fun i x e hx => by
    obtain ⟨a, h1, h2, h3⟩ := r.own i x e hx
    exact ⟨a, h1, if_pos ⟨i, x, e, hx, h1⟩, h3⟩
  inj := r.inj
  old := fun a o e _ => reb_some e
  pen := r.pen
  gpa := r.gpa
  gca := r.gca
  gex := r.gex
  gne := r.gne
theorem Rel.rebStep (r : Rel K p G H0 ρ σ H s) (st : Step p (Say.reb ρ σ H) H') : Step p H0 H' := fun a o e n => by
  have hn : ¬ ∃ (i : Nat) (x : Sl), ρ[i]? = some x ∧ x.held = true ∧ σ[i]? = some (some (.ref a)) := fun ⟨i, x, h1, h2, h3⟩ => by
    obtain ⟨b, q1, q2, _⟩ := r.own i x h1 h2
    rw [h3] at q1
    cases q1
    rw [q2] at e
    cases e
  refine st a o ?_ n
  unfold Say.reb
  rw [if_neg hn]
  exact r.old a o e n
theorem Rel.back (r : Rel K p G H0 ρ σ H s) (r' : Rel K p G (Say.reb ρ σ H) ρ' σ' H' s') : Rel K p G H0 ρ' σ' H' s' where
  len := r'.len
  dat := r'.dat
  own := fun i x e hx => by
    obtain ⟨a, h1, h2, h3⟩ := r'.own i x e hx
    refine ⟨a, h1, ?_, h3⟩
    unfold Say.reb at h2
    split at h2
    · rename_i z
      obtain ⟨j, y, q1, q2, q3⟩ := z
      obtain ⟨b, q4, q5, _⟩ := r.own j y q1 q2
      rw [q3] at q4
      cases q4
      exact q5
    · cases z : H0 a with
      | none => rfl
      | some o =>
        by_cases hp : a = p.pa
        · rw [hp, r.pen.dict] at h2
          cases h2
        · have := r.old a o z hp
          rw [h2] at this
          cases this
  inj := r'.inj
  old := r.rebStep r'.old
  pen := r'.pen
  gpa := r'.gpa
  gca := r'.gca
  gex := r'.gex
  gne := r'.gne
/-- what is carried at a loop's start is carried within, whatever is owned there -/
theorem Rel.carry (r : Rel K p G H0 ρ σ H s) (r' : Rel K p G (Say.reb ρ σ H) ρ' σ' H' s') {v : V} {d : D} (h : Rep K p H (Fo G ρ σ) v d) : Rep K p H' (Fo G ρ' σ') v d := by
  have h1 : Rep K p (Say.reb ρ σ H) (Fo G ρ σ) v d := h.mono (fun a o e n => by
    unfold Say.reb
    rw [if_neg fun ⟨i, x, q1, q2, q3⟩ => n (.inr ⟨i, x, q1, q2, q3⟩)]
    exact e) fun _ z => z
  have h2 := h1.more (N := fun a => Say.reb ρ σ H a = none) fun a z => z
  refine h2.mono (fun a o e n => r'.old a o e fun z => n (.inl (by rw [z]; exact r.fpa))) fun a z => ?_
  rcases z with z | ⟨i, x, q1, q2, q3⟩
  · exact .inl (.inl z)
  · obtain ⟨b, q4, q5, _⟩ := r'.own i x q1 q2
    rw [q3] at q4
    cases q4
    exact .inr q5
theorem Rel.carryL (r : Rel K p G H0 ρ σ H s) (r' : Rel K p G (Say.reb ρ σ H) ρ' σ' H' s') : ∀ {vs : List V} {ds : List D}, RepL K p H (Fo G ρ σ) vs ds → RepL K p H' (Fo G ρ' σ') vs ds
  | _, _, .nil => .nil
  | _, _, .cons h t => .cons (r.carry r' h) (r.carryL r' t)
end
section
variable {X : Cx} {p : PL} {tg iter : Expr} {body : List Stmt} {pos : Pos} {g : Env → M (List D)} {h : D → Env → Option Env} {ts : List Nat} {f : S} {t : Env → M Bool}
theorem ds_for (hi : DI X p true tg iter g) (hg : DG X p tg ts h) (hb : DSs X p body f) (hp : PassesOwn (model X.prog X.w) X.A X.env X.xe) (hc : X.calm = true := by rfl) (hs : ∀ x, foldedSetIterable iter X.env x = pure x := by intro _; rfl) : DS X p (.For tg iter body [] pos) (sFor g h f) := by
  refine ⟨fun W G H0 ρ σ H s k r b c R Ex Dn tk rl hw wy px => tS_of (ps_for hp hc pi_self pg_self pss_self hs) ?_⟩
  have hw : wpM (g ρ >>= fun xs => forS h f k r xs ρ) s R Ex := hw
  rw [wp_bind] at hw
  refine hi.run W G H0 ρ σ H s _ Ex _ tk rl hw (fun ds s1 H1 J h1 a1 ok => ?_) (px.px rl.old)
  have rl1 := rl.step a1.st a1.pen
  refine ⟨fun i m σc Hc => m = ds.length - i ∧ i ≤ ds.length ∧ ∃ sc ρc, Rel X.K p G (reb ρ σ H1) ρc σc Hc sc ∧ wpM (forS h f k r (ds.drop i) ρc) sc R Ex, ⟨ds.length, rfl, Nat.zero_le _, s1, ρ, rl1.reb, h1⟩, ?_⟩
  rintro i m σc Hc ⟨rfl, hi', sc, ρc, rc, hwp⟩
  have stF : StepF (Fs true G (Fo G ρ σ)) H1 Hc := fun a o e n => by
    have n : ¬ Fo G ρ σ a := n
    refine rc.old a o ?_ fun z => n (by rw [z]; exact rl.fpa)
    unfold reb
    rw [if_neg fun ⟨i, x, q1, q2, q3⟩ => n (.inr ⟨i, x, q1, q2, q3⟩)]
    exact e
  by_cases hlt : i < ds.length
  · obtain ⟨go, yl⟩ := ok.go i ds[i] Hc stF (List.getElem?_eq_getElem hlt)
    refine .inr ⟨go, fun σ' H' => ∃ sc ρc, Rel X.K p G (reb ρ σ H1) ρc σ' H' sc ∧ wpM (forS h f k r (ds.drop (i + 1)) ρc) sc R Ex, fun σ' H' hN => ⟨_, by omega, rfl, hlt, hN⟩, fun x Hy y => ?_⟩
    obtain ⟨sm, rx⟩ : Same Hc Hy ∧ Rep X.K p Hy (Fo G ρc σc) x ds[i] := by
      rcases yl x Hy y with ⟨e, rr⟩ | ⟨T, vs, es, e1, hT, e2, e3, hz, rr⟩
      · subst e
        exact ⟨Same.refl _, rl1.carry rc rr⟩
      · subst e1
        subst e2
        rw [e3]
        have sm := same_new (o := .tup vs) hT
        exact ⟨sm, .itm (⟨upd_same, rc.fresh hT⟩) hz ((rl1.carryL rc rr).mono ((same_step (p := p) sm).toF rc.fpa) fun _ z => z)⟩
    have ry := rc.step (same_step (p := p) sm) (rc.pen.same sm)
    rw [List.drop_eq_getElem_cons hlt] at hwp
    have hwp : wpM (bindT (h ds[i] ρc) fun ρ' => f (forS h f k r (ds.drop (i + 1))) r k (forS h f k r (ds.drop (i + 1))) ρ') sc R Ex := hwp
    cases eh : h ds[i] ρc with
    | none => rw [eh] at hwp; exact hwp.elim
    | some ρ' =>
      rw [eh] at hwp
      refine hg.run G _ ρc ρ' σc Hy sc x ds[i] _ ry rx eh fun σ2 r2 sb => ?_
      refine hb.run W G (reb ρ σ H1) ρ' σ2 Hy sc _ r k _ R Ex _ tk r2 hwp ⟨fun ρ3 σ3 H3 s3 r3 w3 => ⟨s3, ρ3, r3, w3⟩, fun d s3 v H3 st3 pn3 rp3 w3 => wy.rt d s3 v H3 (rl1.rebStep st3) pn3 rp3 w3, fun ρ3 σ3 H3 s3 r3 w3 => wy.nx ρ3 σ3 H3 s3 (rl1.back r3) w3, fun ρ3 σ3 H3 s3 r3 w3 => ⟨s3, ρ3, r3, w3⟩⟩ fun c' fs s3 σ3 dx vfs H3 e3 st3 pn3 x3 rf3 => px c' fs s3 σ3 dx vfs H3 e3 (rl1.rebStep st3) pn3 x3 rf3
  · have e : i = ds.length := by omega
    subst e
    rw [List.drop_length] at hwp
    exact .inl ⟨ok.stop Hc stF, wy.nx ρc σc Hc sc (rl1.back rc) hwp⟩
theorem ds_while (n : Nat) {c : Expr} (ht : DT X p c t) (hb : DSs X p body f) (hp : PassesOwn (model X.prog X.w) X.A X.env X.xe) : DS X p (.While c body [] pos) (sWhile n t f) := by
  refine ⟨fun W G H0 ρ σ H s k r b c' R Ex Dn tk rl hw wy px => tS_of (ps_while hp pt_self pss_self) ?_⟩
  refine ⟨fun m σc Hc => ∃ sc ρc, Rel X.K p G H0 ρc σc Hc sc ∧ wpM (whileS t f k r m ρc) sc R Ex, ⟨n, s, ρ, rl, hw⟩, ?_⟩
  rintro m σc Hc ⟨sc, ρc, rc, hwp⟩
  cases m with
  | zero => exact hwp.elim
  | succ m =>
    have hwp : wpM (t ρc >>= fun x => if x = true then f (whileS t f k r m) r k (whileS t f k r m) ρc else k ρc) sc R Ex := hwp
    rw [wp_bind] at hwp
    refine ht.run W G H0 ρc σc Hc sc _ Ex _ tk rc hwp (fun x s1 H1 h1 a1 => ?_) (px.px rc.old)
    have rl1 := rc.step a1.st a1.pen
    cases x with
    | true =>
      rw [if_pos rfl] at h1 ⊢
      exact ⟨fun σ' H' => ∃ sc ρc, Rel X.K p G H0 ρc σ' H' sc ∧ wpM (whileS t f k r m ρc) sc R Ex, fun σ' H' hN => ⟨m, Nat.lt_succ_self m, hN⟩,
        hb.run W G H0 ρc σc H1 s1 _ r k _ R Ex _ tk rl1 h1 ⟨fun ρ3 σ3 H3 s3 r3 w3 => ⟨s3, ρ3, r3, w3⟩, wy.rt, fun ρ3 σ3 H3 s3 r3 w3 => wy.nx ρ3 σ3 H3 s3 r3 w3, fun ρ3 σ3 H3 s3 r3 w3 => ⟨s3, ρ3, r3, w3⟩⟩ px⟩
    | false =>
      rw [if_neg (by decide)] at h1 ⊢
      exact wy.nx ρc σc H1 s1 rl1 h1
end
end Say

namespace Say
open L2 PyProof.Rows PySem.Spec PySem

/-! ### a def keeps its promise -/
def startE (N : List Str) (ds : List D) : Env := ds.map Sl.dat ++ List.replicate (N.length - ds.length) .no
def runS (N : List Str) (f : S) (ds : List D) : M D := f (fun _ => pure .non) pure (fun _ => bad) (fun _ => bad) (startE N ds)
theorem startE_get {N : List Str} {ds : List D} {i : Nat} {x : Sl} (h : (startE N ds)[i]? = some x) : (∃ d, ds[i]? = some d ∧ x = .dat d) ∨ x = .no := by
  unfold startE at h
  by_cases hi : i < (ds.map Sl.dat).length
  · rw [List.getElem?_append_left hi, List.getElem?_map] at h
    cases e : ds[i]? with
    | none => rw [e]
        at h; cases h
    | some d =>
      rw [e] at h
      cases h
      exact .inl ⟨d, rfl, rfl⟩
  · rw [List.getElem?_append_right (by omega)] at h
    exact .inr (List.eq_of_mem_replicate (List.mem_of_getElem? h))
theorem rel_start {K : PySem.W.Frag} {p : PL} {G : Addr → Prop} {H : Hp} {N : List Str} {vs : List V} {ds : List D} {s : Pen} (gpa : G p.pa) (gca : G p.ca) (gex : ∀ a, G a → ∃ o, H a = some o) (pn : PenAt H p s) (r : RepL K p H G vs ds) : Rel K p G H (startE N ds) (L2.start N vs) H s := by
  have no : ∀ (i : Nat) (x : Sl), (startE N ds)[i]? = some x → x.held = true → False := fun i x h hx => by
    rcases startE_get h with ⟨d, _, e⟩ | e
    · rw [e] at hx; cases hx
    · rw [e] at hx; cases hx
  refine ⟨by unfold startE L2.start; simp [r.length], fun i d e => ?_, fun i x h hx => (no i x h hx).elim, fun i j x y a h hx => (no i x h hx).elim, .refl, pn, gpa, gca, gex, fun i x a h hx => (no i x h hx).elim⟩
  rcases startE_get e with ⟨d', h1, h2⟩ | h
  · cases h2
    obtain ⟨v, q1, q2⟩ := r.get h1
    refine ⟨v, ?_, q2.mono (fun _ _ z _ => z) fun a z => ?_⟩
    · unfold L2.start
      have hl : i < vs.length := (List.getElem?_eq_some_iff.mp q1).1
      rw [List.getElem?_append_left (by rw [List.length_map]; exact hl), List.getElem?_map, q1]
      rfl
    · rcases z with z | ⟨j, x, e1, hx, _⟩
      · exact z
      · exact (no j x e1 hx).elim
  · cases h
section
variable {P : Program} {w : World} {K :
    PySem.W.Frag} {mg : Str → Option Value} {base : Heap}
theorem def_has {x : Str} {st : Stmt} {f : Addr} {fd : FuncData} {N ps : List Str} {k : Nat} {fS : S} (F : FunD K x x (defArgs st) (defBody st) (defScope st) [] [] f fd) (Sc : FnScope N ps (defScope st)) (gm : mg x = some (.ref f)) (hb : Binds K fd ps [])
    (body : ∀ (cdv : Value) (A : Around) (outer : List PySem.Env) (s : Shared) (H : Hp) (E : XK) (p : PL), Room k (A.deeper (envOfC x (defScope st) s.heap.objs.size f cdv)) →
      DSs (cxOf (L2.CX P w) P w K mg base N x (defScope st) f cdv A outer s H E) p (defBody st) fS) : Has P w K mg base (k + 1) x ps.length (runS N fS) := by
  refine ⟨⟨f, fd, ps, gm, F.kp, hb, rfl, F.ok Sc (fun vs H Q E h => ?_) fun cdv A outer s H vs Q E hr h => ⟨_, pss_self, ?_⟩⟩⟩
  · obtain ⟨p, G, ds, s, _, _, _, _, hl, _⟩ := h
    exact hl
  · obtain ⟨p, G, ds, sp, gpa, gca, gex, pn, hl, r, hw⟩ := h
    refine (body cdv A outer s H E p hr).run (fun cls d _ H' => E cls d H') G H (startE N ds) (L2.start N vs) H sp _ _ _ _ _ _ _ (takes_of rfl rfl rfl rfl) (rel_start gpa gca gex pn r) hw
      ⟨fun ρ σ H' s' rl h1 => ?_, fun d s' v H' st pn' rp h1 => h1 v H' ⟨st, pn'⟩ rp, fun ρ σ H' s' rl h1 => h1.elim, fun ρ σ H' s' rl h1 => h1.elim⟩ fun c fs s' σ dx vfs H' he st pn' xd rf => he dx vfs H' ⟨st, pn'⟩ xd rf
    exact h1 .non H' ⟨rl.old, rl.pen⟩ .non
end

/-! ### chains -/
section
variable {X : Cx} {p : PL} {a b c e : Expr} {f g h : Env → M D} {pos pos' : Pos} {fs : List (Env → M D)}
def chainM (g1 g2 : D → D → Option D) (x : M D) (y : M D) (z : M D) : M Bool := x >>= fun x => y >>= fun y => lift (g1 x y) >>= truB >>= fun k => if k = true then z >>= fun z => lift (g2 y z) >>= truB else pure false
theorem chain_run {op op' : CmpOp} {r r' : R2} {g1 g2 : D → D → Option D} (h1 : OpS X.K p r g1) (h2 : OpS X.K p r' g2) (ha : DE X p a f) (hb : DE X p b g) (hc : DE X p c h) {W : WX} {G : Addr → Prop} {H0 : Hp} {ρ : Env} {σ : L2.St} {H : Hp} {s : Pen} {R : Bool → Pen → Prop} {Ex : XR} {Q : VK} (tk : Takes X W) (rl : Rel X.K p G H0 ρ σ H s)
    (hw : wpM (chainM g1 g2 (f ρ) (g ρ) (h ρ)) s R Ex) (q : ∀ d s' H', R d s' → Af p H H' s' → Q (.bl d) H') (px : PX X p W G σ H Ex) : tChain r r' (tE X a) (tE X b) (tE X c) σ H Q := by
  unfold chainM at hw
  rw [wp_bind] at hw
  refine ha.run W G H0 ρ σ H s _ Ex _ tk rl hw (fun d1 s1 v1 H1 w1 a1 r1 => ?_) px
  rw [wp_bind] at w1
  have rl1 := rl.step a1.st a1.pen
  refine hb.run W G H0 ρ σ H1 s1 _ Ex _ tk rl1 w1 (fun d2 s2 v2 H2 w2 a2 r2 => ?_) (px.at a1)
  have rl2 := rl1.step a2.st a2.pen
  cases e1 : g1 d1 d2 with
  | none => rw [e1] at w2; exact w2.elim
  | some d =>
    rw [e1] at w2
    refine h1 _ H2 v1 v2 d1 d2 d _ rl.fpa (fun _ z => rl2.fresh z) (r1.mono (a2.st.toF rl.fpa) fun _ z => z) r2 e1 fun v H3 sm r3 => ?_
    cases d with
    | bl k =>
      have w2 : wpM (if k = true then h ρ >>= fun z => lift (g2 d2 z) >>= truB else pure false) s2 R Ex := w2
      have a3 : Af p H H3 s2 := (a1.trans a2).trans (.same a2.pen sm)
      refine ⟨k, bl_of r3, ?_⟩
      cases k with
      | false =>
        rw [if_neg (by decide)] at w2 ⊢
        exact q false s2 H3 w2 a3
      | true =>
        rw [if_pos rfl, wp_bind] at w2
        rw [if_pos rfl]
        have rl3 := rl.step a3.st a3.pen
        refine hc.run W G H0 ρ σ H3 s2 _ Ex _ tk rl3 w2 (fun d3 s3 v3 H4 w3 a4 r4 => ?_) (px.at a3)
        cases e2 : g2 d2 d3 with
        | none => rw [e2] at w3; exact w3.elim
        | some d' =>
          rw [e2] at w3
          refine h2 _ H4 v2 v3 d2 d3 d' _ rl.fpa (fun _ z => (rl3.step a4.st a4.pen).fresh z) ((r2.mono ((same_step (p := p) sm).toF rl.fpa) fun _ z => z).mono (a4.st.toF rl.fpa) fun _ z => z) r4 e2 fun v' H5 sm' r5 => ?_
          cases d' with
          | bl k' =>
            rw [bl_of r5]
            exact q k' s3 H5 w3 ((a3.trans a4).trans (.same a4.pen sm'))
          | _ => exact w3.elim
    | _ => exact w2.elim
theorem dt_chain {op op' : CmpOp} {g1 g2 : D → D → Option D} (h1 : BinS X p (compareOp op) g1) (h2 : BinS X p (compareOp op') g2) (ha : DE X p a f) (hb : DE X p b g) (hc : DE X p c h) (hm : lastMarks [op, op'] [b, c] = false := by with_unfolding_all rfl) :
    DT X p (.Compare a [op, op'] [b, c] pos) (fun ρ => chainM g1 g2 (f ρ) (g ρ) (h ρ)) := by
  obtain ⟨r, o1, s1⟩ := h1
  obtain ⟨r', o2, s2⟩ := h2
  exact ⟨fun W G H0 ρ σ H s R Ex Q tk rl hw q px => tT_of (pt_chain o1 o2 pe_self pe_self pe_self hm) (chain_run (op := op) (op' := op') s1 s2 ha hb hc tk rl hw (fun d s' H' hr a => ⟨d, rfl, q d s' H' hr a⟩) px)⟩
theorem de_chain {op op' : CmpOp} {g1 g2 : D → D → Option D} (h1 : BinS X p (compareOp op) g1) (h2 : BinS X p (compareOp op') g2) (ha : DE X p a f) (hb : DE X p b g) (hc : DE X p c h) (hm : lastMarks [op, op'] [b, c] = false := by with_unfolding_all rfl) :
    DE X p (.Compare a [op, op'] [b, c] pos) (fun ρ => chainM g1 g2 (f ρ) (g ρ) (h ρ) >>= fun k => pure (.bl k)) := by
  obtain ⟨r, o1, s1⟩ := h1
  obtain ⟨r', o2, s2⟩ := h2
  refine ⟨fun W G H0 ρ σ H s R Ex Q tk rl hw q px => tE_of (pe_chain o1 o2 pe_self pe_self pe_self hm) ?_⟩
  rw [wp_bind] at hw
  exact chain_run (op := op) (op' := op') s1 s2 ha hb hc tk rl hw (fun d s' H' hr a => q _ s' _ H' hr a (.bl d)) px
/-! ### list(range(..)) -/
theorem repL_rg {K : PySem.W.Frag} {H : Hp} {F : Addr → Prop} (i j : Int) : RepL K p H F (rgV i j) ((List.range (j - i).toNat).map fun (n : Nat) => D.int (i + (n : Int))) := by
  unfold rgV
  have : ∀ l : List Nat, RepL K p H F (l.map fun (n : Nat) => V.int (i + (n : Int))) (l.map fun (n : Nat) => D.int (i + (n : Int))) := fun l => by
    induction l with
    | nil => exact .nil
    | cons n l ih => exact .cons (.int _) ih
  exact this _
theorem dn_rng1 (hm : X.mg "range" = none) (hl : X.mg "list" = none) (ha : DE X p a f) (hc : X.calm = true := by rfl) (hg : Gl X "range" := by rfl) (hg2 : Gl X "list" := by rfl) {p2 : Pos}
    (n1 : starEach [a] X.env = (false, eval a X.env) :: starEach [] X.env := by rfl) (n2 : starEach [.Call (.Name "range" p2) [a] [] pos'] X.env = (false, eval (.Call (.Name "range" p2) [a] [] pos') X.env) :: starEach [] X.env := by rfl) {p3 : Pos} :
    DN X p (.Call (.Name "list" p3) [.Call (.Name "range" p2) [a] [] pos'] [] pos) (fun ρ => f ρ >>= fun j => rngM (.int 0) j) := by
  refine ⟨fun W G H0 ρ σ H s R Ex Q tk rl hw q px => tE_of (pe_listRg hc hg2 hl (prg_1 hg hm pe_self n1) n2) ?_⟩
  rw [wp_bind] at hw
  refine ha.run W G H0 ρ σ H s _ Ex _ tk rl hw (fun d s1 v H1 h1 a1 r1 => ?_) px
  cases d with
  | int j =>
    cases r1
    have h1 : wpM (if rngOk 0 j = true then pure ((List.range (j - 0).toNat).map fun (n : Nat) => D.int (0 + (n : Int))) else bad) s1 R Ex := h1
    by_cases hk : rngOk 0 j = true
    · have hcnd := rngOk_iff.mp hk
      rw [if_pos hk] at h1
      refine ⟨j, rfl, ⟨by omega, by omega, by omega, by omega, by omega⟩, fun l hq => ?_⟩
      exact q _ s1 l _ _ h1 (a1.trans (.same a1.pen (same_new hq))) (back_none a1 hq) upd_same (by rw [List.length_map, List.length_range]; exact hcnd.2.2.2.2) (repL_rg 0 j)
    · rw [if_neg hk] at h1
      exact h1.elim
  | _ => exact h1.elim
/-! ### isinstance -/
inductive Tc where
  | ty (T : String) | own (c : Str)
def Tc.v (K : PySem.W.Frag) : Tc → V
  | .ty T => .ty T
  | .own c => .ref (He.ga K c)
def Tc.u (K : PySem.W.Frag) : Tc → Value
  | .ty T => .type T
  | .own c => .ref (He.ga K c)
def subT (a T : String) : Bool := match kitB a T with
  | some b => b
  | none => false
def tyNames : List String := ["NoneType", "bool", "int", "str", "list", "tuple", "dict"]
def isTy : D → Option String
  | .non => some "NoneType"
  | .bl _ => some "bool"
  | .int _ => some "int"
  | .str _ => some "str"
  | .tup _ => some "tuple"
  | .itm _ => some "tuple"
  | .lst _ => some "list"
  | .dct _ => some "dict"
  | _ => none
/-- the facts of own classes that isinstance asks -/
structure Kit (K : PySem.W.Frag) (cs : List Str) (Ts : List String) : Prop where
  ins : ∀ c ∈ cs, Cls K (He.ga K c) ∧ PySem.W.findIn K (.ref (He.ga K c)) "__class__" = some (some (.builtin "object.__class__")) ∧ PySem.W.specialIn K (.builtin "object.__class__") "__get__" = some (some (.builtin "getset_descriptor.__get__")) ∧
    PySem.W.takesIn K (.builtin "object.__class__") = some true ∧ PySem.W.mroIn K (He.ga K c) (.type "object") = some true
  oo : ∀ c ∈ cs, ∀ c' ∈ cs, PySem.W.kitOne K (.ref (He.ga K c)) (.ref (He.ga K c')) = some (c == c')
  ot : ∀ c ∈ cs, ∀ T ∈ Ts, PySem.W.kitOne K (.ref (He.ga K c)) (.type T) = some false
  to : ∀ T ∈ tyNames, ∀ c ∈ cs, PySem.W.kitOne K (.type T) (.ref (He.ga K c)) = some false
  tt : ∀ T ∈ tyNames, ∀ T' ∈ Ts, kitB T T' = some (subT T T')
def isOne (cs : List Str) (Ts : List String) (t : Tc) (d : D) : Option Bool := match t, d with
  | .ty T, .ins c _ => if (cs.contains c && Ts.contains T) = true then some false else none
  | .own c', .ins c _ => if (cs.contains c && cs.contains c') = true then some (c == c') else none
  | .ty T, d => (isTy d).bind fun a => if Ts.contains T = true then some (subT a T) else none
  | .own c', d => (isTy d).bind fun _ => if cs.contains c' = true then some false else none
def isAny (cs : List Str) (Ts : List String) : List Tc → D → Option Bool
  | [], _ => some false
  | t :: ts, d => match isOne cs Ts t d with
    | some true => some true
    | some false => isAny cs Ts ts d
    | none => none
def isiD (cs : List Str) (Ts : List String) (ts : List Tc) (d : D) : M D := lift ((isAny cs Ts ts d).map D.bl)
theorem isTy_mem {d : D} {a : String} (h : isTy d = some a) : a ∈ tyNames := by
  cases d <;> first | (cases h; simp [tyNames]; done) | cases h
theorem isOne_ok {K : PySem.W.Frag} {H : Hp} {F : Addr → Prop} {cs : List Str} {Ts : List String} (kt : Kit K cs Ts) {v : V} {d : D} (r : Rep K p H F v d) : (∀ t, isOne cs Ts t d = none) ∨ ∃ ty, TyX K H v ty ∧ ∀ t b, isOne cs Ts t d = some b → PySem.W.kitOne K ty (t.u K) = some b := by
  have built : ∀ a, isTy d = some a → (∀ c fs, d ≠ .ins c fs) → ∀ t b, isOne cs Ts t d = some b → PySem.W.kitOne K (.type a) (t.u K) = some b := fun a ha hd t b h => by
    cases t with
    | ty T =>
      have h : ((isTy d).bind fun a => if Ts.contains T = true then some (subT a T) else none) = some b := by
        cases d <;> first | exact h | exact absurd rfl (hd _ _)
      rw [ha] at h
      obtain ⟨h1, h2⟩ := iteSome h
      rw [← h2]
      exact kit_ty (kt.tt a (isTy_mem ha) T (by simpa using h1))
    | own c =>
      have h : ((isTy d).bind fun _ => if cs.contains c = true then some false else none) = some b := by
        cases d <;> first | exact h | exact absurd rfl (hd _ _)
      rw [ha] at h
      obtain ⟨h1, h2⟩ := iteSome h
      rw [← h2]
      exact kt.to a (isTy_mem ha) c (by simpa using h1)
  cases r with
  | non => exact .inr ⟨_, .base .non, built _ rfl fun _ _ e => by cases e⟩
  | bl b => exact .inr ⟨_, .base (.bl b), built _ rfl fun _ _ e => by cases e⟩
  | int b => exact .inr ⟨_, .base (.int b), built _ rfl fun _ _ e => by cases e⟩
  | str b _ => exact .inr ⟨_, .base (.str b), built _ rfl fun _ _ e => by cases e⟩
  | tup h hz l => exact h.1.elim fun o e => .inr ⟨_, .fTuple e.1, built _ rfl fun _ _ e => by cases e⟩
  | itm h hz l => exact .inr ⟨_, .base (.tup h.1), built _ rfl fun _ _ e => by cases e⟩
  | lst h n hz l => exact .inr ⟨_, .base (.lst h), built _ rfl fun _ _ e => by cases e⟩
  | dct h n l => exact .inr ⟨_, .base (.dK h), built _ rfl fun _ _ e => by cases e⟩
  | ins h n l =>
    rename_i a dx c vfs fs
    by_cases hc : cs.contains c = true
    · obtain ⟨k1, k2, k3, k4, k5⟩ := kt.ins c (by simpa using hc)
      refine .inr ⟨_, .base (.ins h k1 k2 k3 k4 k5), fun t b hb => ?_⟩
      cases t with
      | ty T =>
        obtain ⟨h1, h2⟩ := iteSome (show (if (cs.contains c && Ts.contains T) = true then some false else none) = some b from hb)
        obtain ⟨_, h3⟩ := Bool.and_eq_true_iff.mp h1
        rw [← h2]
        exact kt.ot c (by simpa using hc) T (by simpa using h3)
      | own c' =>
        obtain ⟨h1, h2⟩ := iteSome (show (if (cs.contains c && cs.contains c') = true then some (c == c') else none) = some b from hb)
        obtain ⟨_, h3⟩ := Bool.and_eq_true_iff.mp h1
        rw [← h2]
        exact kt.oo c (by simpa using hc) c' (by simpa using h3)
    · refine .inl fun t => ?_
      cases t with
      | ty T => exact if_neg fun z => hc (Bool.and_eq_true_iff.mp z).1
      | own c' => exact if_neg fun z => hc (Bool.and_eq_true_iff.mp z).1
  | pen =>
    refine .inl fun t => ?_
    cases t <;> rfl
theorem isAny_ok {K : PySem.W.Frag} {cs : List Str} {Ts : List String} {d : D} {ty : Value} (h : ∀ t b, isOne cs Ts t d = some b → PySem.W.kitOne K ty (t.u K) = some b) : ∀ {ts : List Tc} {b : Bool}, isAny cs Ts ts d = some b → PySem.W.kitAny K ty (ts.map (Tc.u K)) = some b
  | [], b, e => e
  | t :: ts, b, e => by
    have e1 : (match isOne cs Ts t d with | some true => some true | some false => isAny cs Ts ts d | none => none) = some b := e
    show (match PySem.W.kitOne K ty (t.u K) with | some true => some true | some false => PySem.W.kitAny K ty (ts.map (Tc.u K)) | none => none) = some b
    cases q : isOne cs Ts t d with
    | none => rw [q] at e1; cases e1
    | some k =>
      rw [q] at e1
      rw [h t k q]
      cases k with
      | true => exact e1
      | false => exact isAny_ok h e1
theorem de_isi1 {cs : List Str} {Ts : List String} {t : Tc} (kt : Kit X.K cs Ts) (hm : X.mg "isinstance" = none) (ha : DE X p a f) (hb : PE X b (tC (t.v X.K))) (hg : Gl X "isinstance" := by rfl)
    (n1 : starEach (a :: [b]) X.env = (false, eval a X.env) :: starEach [b] X.env := by rfl) (n2 : starEach (b :: []) X.env = (false, eval b X.env) :: starEach [] X.env := by rfl) (hpl : (backTo pos (starEach [b] X.env)).any (·.1) = false := by rfl) :
    DE X p (.Call (.Name "isinstance" pos') [a, b] [] pos) (fun ρ => f ρ >>= isiD cs Ts [t]) := by
  refine ⟨fun W G H0 ρ σ H s R Ex Q tk rl hw q px => tE_of (pe_callB call_isi hg hm (by decide +kernel) (pa_cons pe_self (pa_cons hb pa_nil n2) n1) (by decide) (by decide) n1 hpl) ?_⟩
  rw [wp_bind] at hw
  refine ha.run W G H0 ρ σ H s _ Ex _ tk rl hw (fun d s1 v H1 h1 a1 r1 => ?_) px
  unfold isiD at h1
  cases e : isAny cs Ts [t] d with
  | none => rw [e] at h1; exact h1.elim
  | some k =>
    rw [e] at h1
    rcases isOne_ok kt r1 with z | ⟨ty, z1, z2⟩
    · have e1 : (match isOne cs Ts t d with | some true => some true | some false => isAny cs Ts [] d | none => none) = some k := e
      rw [z t] at e1
      cases e1
    · have e1 : (match isOne cs Ts t d with | some true => some true | some false => some false | none => none) = some k := e
      refine ⟨v, t.v X.K, ty, t.u X.K, k, rfl, ?_, z1, z2 t k ?_, q _ s1 _ H1 h1 a1 (.bl k)⟩
      · cases t with
        | ty T => exact .ty T
        | own c => exact .own _
      · cases q' : isOne cs Ts t d with
        | none => rw [q'] at e1; cases e1
        | some k' =>
          rw [q'] at e1
          cases k' <;> exact e1
theorem de_isi2 {cs : List Str} {Ts : List String} {t t2 : Tc} {b2 : Expr} {kk : Nat} {pt : Pos} (kt : Kit X.K cs Ts) (hm : X.mg "isinstance" = none) (ha : DE X p a f) (hb : PE X b (tC (t.v X.K))) (hb2 : PE X b2 (tC (t2.v X.K))) (hg : Gl X "isinstance" := by rfl)
    (n1 : starEach (a :: [.Tuple [b, b2] kk pt]) X.env = (false, eval a X.env) :: starEach [.Tuple [b, b2] kk pt] X.env := by rfl) (n2 : starEach (.Tuple [b, b2] kk pt :: []) X.env = (false, eval (.Tuple [b, b2] kk pt) X.env) :: starEach [] X.env := by rfl) (hpl : (backTo pos (starEach [.Tuple [b, b2] kk pt] X.env)).any (·.1) = false := by rfl)
    (m1 : starEach (b :: [b2]) X.env = (false, eval b X.env) :: starEach [b2] X.env := by rfl) (m2 : starEach (b2 :: []) X.env = (false, eval b2 X.env) :: starEach [] X.env := by rfl) :
    DE X p (.Call (.Name "isinstance" pos') [a, .Tuple [b, b2] kk pt] [] pos) (fun ρ => f ρ >>= isiD cs Ts [t, t2]) := by
  refine ⟨fun W G H0 ρ σ H s R Ex Q tk rl hw q px => tE_of (pe_callB call_isiT hg hm (by decide +kernel) (pa_cons pe_self (pa_cons (pe_tup (pa_cons hb (pa_cons hb2 pa_nil m2) m1)) pa_nil n2) n1) (by decide) (by decide) n1 hpl) ?_⟩
  rw [wp_bind] at hw
  refine ha.run W G H0 ρ σ H s _ Ex _ tk rl hw (fun d s1 v H1 h1 a1 r1 => ?_) px
  unfold isiD at h1
  refine ⟨by show 2 ≤ sizeLine; decide, fun T hT => ?_⟩
  cases e : isAny cs Ts [t, t2] d with
  | none => rw [e] at h1; exact h1.elim
  | some k =>
    rw [e] at h1
    have sm := same_new (o := .tup [t.v X.K, t2.v X.K]) hT
    have r2 := r1.mono ((same_step (p := p) sm).toF rl.fpa) fun _ z => z
    rcases isOne_ok kt r2 with z | ⟨ty, z1, z2⟩
    · have e1 : (match isOne cs Ts t d with | some true => some true | some false => isAny cs Ts [t2] d | none => none) = some k := e
      rw [z t] at e1
      cases e1
    · have cl : ∀ t : Tc, ClsV (t.v X.K) (t.u X.K) := fun t => by
        cases t with
        | ty T => exact .ty T
        | own c => exact .own _
      exact ⟨v, T, [t.v X.K, t2.v X.K], ty, [t, t2].map (Tc.u X.K), k, rfl, upd_same, .cons (cl t) (.cons (cl t2) .nil), z1, isAny_ok z2 e, q _ s1 _ _ h1 (a1.trans (.same a1.pen sm)) (.bl k)⟩
/-- the class names, as values -/
theorem pe_ty {T : String} {x : Str} (hm : X.mg x = none) (hv : bootBuiltins x = some (.type T)) (hg : Gl X x := by rfl) (hn : x ≠ "__name__" := by decide) (hd : (x == ("__debug__" : Str)) = false := by decide) : PE X (.Name x pos) (tC ((Tc.ty T).v X.K)) := pe_bltn hg hm hv rfl hn hd
theorem pe_own {x : Str} (hm : X.mg x = some (.ref (He.ga X.K x))) (hg : Gl X x := by rfl) (hd : (x == ("__debug__" : Str)) = false := by decide) : PE X (.Name x pos) (tC ((Tc.own x).v X.K)) := pe_glob hg hm rfl hd
end
end Say

namespace Say
open L2 PyProof.Rows PySem.Spec PySem

/-! ### the mirror's words -/
abbrev En := Env → M D
@[simp] def dVar (i : Nat) : En := fun ρ => slD ρ[i]?
@[simp] def dC (d : D) : En := fun _ => pure d
@[simp] def dBin (k : D → D → Option D) (f g : En) : En := fun ρ => f ρ >>= fun x => g ρ >>= fun y => lift (k x y)
@[simp] def dAnd (f g : En) : En := fun ρ => andV (f ρ) (g ρ)
@[simp] def dOr (f g : En) : En := fun ρ => orV (f ρ) (g ρ)
@[simp] def dNot (f : En) : En := fun ρ => notV (f ρ)
@[simp] def dIf (t : Env → M Bool) (f g : En) : En := fun ρ => t ρ >>= fun k => if k = true then f ρ else g ρ
@[simp] def dTup (fs : List En) : En := fun ρ => seqA fs ρ mkTup
@[simp] def dCall (m : List D → M D) (fs : List En) : En := fun ρ => seqA fs ρ m
@[simp] def dBlt (k : List D → Option D) (fs : List En) : En := fun ρ => seqA fs ρ fun xs => lift (k xs)
@[simp] def dAttr (cs : List Str) (x : Str) (f : En) : En := fun ρ => f ρ >>= attrD cs x
@[simp] def dSl (f : En) (lo hi : Env → M (Option Int)) : En := fun ρ => f ρ >>= fun x => lo ρ >>= fun l => hi ρ >>= fun h => sliceD x l h
@[simp] def oN : Env → M (Option Int) := fun _ => pure none
@[simp] def oS (f : En) : Env → M (Option Int) := fun ρ => f ρ >>= intM >>= fun i => pure (some i)
@[simp] def dNew (k : Env → M (List D)) : En := fun ρ => k ρ >>= fun xs => pure (.lst xs)
@[simp] def dThaw (f : En) : En := fun ρ => f (thaw ρ) >>= immD
@[simp] def dIsi (cs : List Str) (Ts : List String) (ts : List Tc) (f : En) : En := fun ρ => f ρ >>= isiD cs Ts ts
@[simp] def dChain (g1 g2 : D → D → Option D) (f g h : En) : En := fun ρ => chainM g1 g2 (f ρ) (g ρ) (h ρ) >>= fun k => pure (.bl k)
@[simp] def tVal (f : En) : Env → M Bool := fun ρ => f ρ >>= truB
@[simp] def tCmp (k : D → D → Option D) (f g : En) : Env → M Bool := fun ρ => f ρ >>= fun x => g ρ >>= fun y => lift (k x y) >>= truB
@[simp] def tAnd (t u : Env → M Bool) : Env → M Bool := fun ρ => andB (t ρ) (u ρ)
@[simp] def tOr (t u : Env → M Bool) : Env → M Bool := fun ρ => orB (t ρ) (u ρ)
@[simp] def tNot (t : Env → M Bool) : Env → M Bool := fun ρ => notB (t ρ)
@[simp] def tChn (g1 g2 : D → D → Option D) (f g h : En) : Env → M Bool := fun ρ => chainM g1 g2 (f ρ) (g ρ) (h ρ)
@[simp] def tYes : Env → M Bool := fun _ => pure true
@[simp] def tThaw (t : Env → M Bool) : Env → M Bool := fun ρ => t (thaw ρ)
@[simp] def nLst (fs : List En) : Env → M (List D) := fun ρ => seqA fs ρ mkLst
@[simp] def nList (fs : List En) : Env → M (List D) := fun ρ => seqA fs ρ listD
@[simp] def nCat (f g : En) : Env → M (List D) := fun ρ => f ρ >>= fun x => g ρ >>= fun y => catN x y
@[simp] noncomputable def nRng1 (f : En) : Env → M (List D) := fun ρ => f ρ >>= fun j => rngM (.int 0) j
@[simp] noncomputable def nRng2 (f g : En) : Env → M (List D) := fun ρ => f ρ >>= fun i => g ρ >>= fun j => rngM i j
@[simp] def nSeq (f : En) : Env → M (List D) := fun ρ => f ρ >>= seqM
@[simp] def nOwn (i : Nat) : Env → M (List D) := fun ρ => slOwn ρ[i]?
@[simp] def gNm (i : Nat) : D → Env → Option Env := fun d ρ => some (ρ.set i (.dat d))
@[simp] def sAsg (h : D → Env → Option Env) (f : En) : S := fun k _ _ _ ρ => f ρ >>= fun d => bindT (h d ρ) k
@[simp] def sPar (i j : Nat) (f g : En) : S := fun k _ _ _ ρ => f ρ >>= fun d => g ρ >>= fun d2 => k ((ρ.set i (.dat d)).set j (.dat d2))
@[simp] def sOwnS (i : Nat) (f : Env → M (List D)) : S := fun k _ _ _ ρ => if i < ρ.length then f ρ >>= fun ds => k (ρ.set i (.own (.lst ds))) else bad
section
variable {X : Cx} {p : PL} {a b c e : Expr} {f g h : Env → M D} {pos pos' : Pos} {fs : List (Env → M D)} {k : Env → M (List D)}
/-- what is owned, read for a new list -/
theorem dn_thaw (ha : DN X p e k) : DN X p e (fun ρ => k (thaw ρ) >>= fun xs => if immL xs = true then pure xs else bad) := by
  refine ⟨fun W G H0 ρ σ H s R Ex Q tk rl hw q px => ?_⟩
  rw [wp_bind] at hw
  refine ha.run W G H0 (thaw ρ) σ H s _ Ex _ tk rl.thaw hw (fun ds s1 a vs H1 h1 a1 n1 e1 hz r1 => ?_) px
  by_cases hi : immL ds = true
  · rw [if_pos hi] at h1
    have rl1 := rl.step a1.st a1.pen
    refine q ds s1 a vs H1 h1 a1 n1 e1 hz (r1.free (fun b o z1 z2 z3 => ?_) hi)
    rcases z1 with z1 | z1
    · exact rl1.mt b o z1 (fun z => z2 (.inl z)) z3
    · exact (z2 (.inr z1)).elim
  · rw [if_neg hi] at h1
    exact h1.elim
/-- -x -/
def negD : D → M D
  | .int i => pure (.int (-i))
  | _ => bad
theorem de_neg (ha : DE X p a f) : DE X p (.UnaryOp .USub a pos) (fun ρ => f ρ >>= negD) := by
  refine ⟨fun W G H0 ρ σ H s R Ex Q tk rl hw q px => tE_of (pe_un un_neg pe_self) ?_⟩
  rw [wp_bind] at hw
  refine ha.run W G H0 ρ σ H s _ Ex _ tk rl hw (fun d s1 v H1 h1 a1 r1 => ?_) px
  cases d with
  | int i =>
    cases r1
    exact ⟨i, rfl, q _ s1 _ H1 h1 a1 (.int _)⟩
  | _ => exact h1.elim
@[simp] def dNeg (f : En) : En := fun ρ => f ρ >>= negD
@[simp] def nThaw (k : Env → M (List D)) : Env → M (List D) := fun ρ => k (thaw ρ) >>= fun xs => if immL xs = true then pure xs else bad
end
end Say

namespace Say
open L2 PyProof.Rows PySem.Spec PySem

/-! ### comprehensions of two clauses -/
def compA (h : D → Option Env) (t : Env → M Bool) (e : Env → M D) : List D → List D → M (List D)
  | acc, [] => pure acc
  | acc, x :: xs => bindT (h x) fun ρ => nx (t ρ) >>= fun b => if b = true then nx (e ρ) >>= fun y => if acc.length < 16777216 then compA h t e (acc ++ [y]) xs else bad else compA h t e acc xs
def compO (vs1 : List Nat) (h : D → Option Env) (t : Env → M Bool) (g1 : Env → M (List D)) (h1 : D → Env → Option Env) (t1 : Env → M Bool) (e : Env → M D) : List D → List D → M (List D)
  | acc, [] => pure acc
  | acc, x :: xs => bindT (h x) fun ρ => nx (t ρ) >>= fun b => if b = true then nx (g1 ρ) >>= fun ys => if okW vs1 ρ = true then compA (fun y => h1 y (wipeE ρ vs1)) t1 e acc ys >>= fun acc' => compO vs1 h t g1 h1 t1 e acc' xs else bad else compO vs1 h t g1 h1 t1 e acc xs
def lc2M (vs vs1 : List Nat) (g : Env → M (List D)) (h : D → Env → Option Env) (t : Env → M Bool) (g1 : Env → M (List D)) (h1 : D → Env → Option Env) (t1 : Env → M Bool) (e : Env → M D) (ρ : Env) : M (List D) := g ρ >>= fun xs => if okW vs ρ = true then compO vs1 (fun x => h x (wipeE ρ vs)) t g1 h1 t1 e [] xs else bad
def bI (X : Cx) (scope : Scope) (tg iter : Expr) : TI := fun σ H R => ∀ s H0 C cl fp, tI (Blk X s H0 scope C cl fp) tg iter σ H R
/-- an object L that is new joins what is not to be touched -/
theorem Rel.guard {K : PySem.W.Frag} {p : PL} {G : Addr → Prop} {H0 H1 : Hp} {ρ : Env} {σ : L2.St} {s1 : Pen} {L : Addr} (rl1 : Rel K p G H0 ρ σ H1 s1) (hL : H1 L = none) (o : HO) : Rel K p (fun a => G a ∨ a = L) H0 ρ σ (upd H1 L o) s1 := by
  have sm := same_new (o := o) hL
  have rn := rl1.step (same_step (p := p) sm) (rl1.pen.same sm)
  have fo : ∀ a, Fo (fun a => G a ∨ a = L) ρ σ a → Fo G ρ σ a ∨ a = L := fun a z => by
    rcases z with (z | z) | z
    · exact .inl (.inl z)
    · exact .inr z
    · exact .inl (.inr z)
  have hq : ∀ a, a = L → H1 a = none := fun a z => by rw [z]; exact hL
  have sf := (same_step (p := p) sm).toF (F := fun a => Fo G ρ σ a ∨ a = L) (.inl rl1.fpa)
  refine ⟨rn.len, fun i d e => ?_, fun i x e hx => ?_, rn.inj, rn.old, rn.pen, .inl rn.gpa, .inl rn.gca, fun a ha => ?_, fun i x a e hx e2 => ?_⟩
  · obtain ⟨v, q1, q2⟩ := rl1.dat i d e
    exact ⟨v, q1, ((q2.more (N := fun a => a = L) hq).mono sf fo)⟩
  · obtain ⟨a, q1, q2, q3⟩ := rl1.own i x e hx
    refine ⟨a, q1, q2, ?_⟩
    have old : ∀ u, H1 a = some u → upd H1 L o a = some u := fun u z => sm a u z
    cases x with
    | no => exact q3.elim
    | dat d => exact q3.elim
    | self c fs =>
      obtain ⟨hx, dx, ws, z1, z0, z2⟩ := q3
      exact ⟨hx, dx, ws, old _ z1, z0, (z2.more (N := fun a => a = L) hq).mono sf fo⟩
    | own d =>
      cases d with
      | lst ds =>
        obtain ⟨ws, z1, z0, z2⟩ := q3
        exact ⟨ws, old _ z1, z0, (z2.more (N := fun a => a = L) hq).mono sf fo⟩
      | dct ds =>
        obtain ⟨ws, z1, z2⟩ := q3
        exact ⟨ws, old _ z1, (z2.more (N := fun a => a = L) hq).mono sf fo⟩
      | _ => exact q3.elim
  · rcases ha with ha | ha
    · exact rn.gex a ha
    · rw [ha]
      exact ⟨_, upd_same⟩
  · rintro (z | z)
    · exact rn.gne i x a e hx e2 z
    · subst z
      obtain ⟨b, q1, q2, q3⟩ := rl1.own i x e hx
      rw [e2] at q1
      cases q1
      obtain ⟨o, ho, _⟩ := q3.there
      rw [hL] at ho
      cases ho
section
variable {X : Cx} {p : PL} {elt tg iter tg1 iter1 : Expr} {ifs ifs1 : List Expr} {scope : Scope} {own : List (Str × Nat)} {pos : Pos} {g g1 : Env → M (List D)} {h h1 : D → Env → Option Env} {ts ts1 : List Nat} {t t1 : Env → M Bool} {e : Env → M D}
theorem fo_sub {G : Addr → Prop} {ρ ρ' : Env} {σ σ' : L2.St} {vs ts : List Nat} (hk : okW vs ρ = true) (hv : ∀ i ∈ ts, i ∈ vs) (sb : SameBut ts (wipeE ρ vs) ρ' (L2.wipe σ vs) σ') {a : Addr} (z : Fo G ρ σ a) : Fo G ρ' σ' a := by
  rcases z with z | ⟨j, y, z1, z2, z3⟩
  · exact .inl z
  · have hn : j ∉ vs := fun hm => by
      have := List.all_eq_true.mp hk j hm
      rw [z1] at this
      simp [z2] at this
    obtain ⟨e1, e2⟩ := sb.2 j fun hm => hn (hv j hm)
    exact .inr ⟨j, y, by rw [e1, wipeE_out hn]; exact z1, z2, by rw [e2, L2.wipe_out hn]; exact z3⟩
theorem lc2_run (hi : DI X p false tg iter g) (hg : ∀ s H C cl fp, DG (Blk X s H scope C cl fp) p tg ts h) (ht : ∀ s H C cl fp, DTs (Blk X s H scope C cl fp) p ifs t) (hi1 : ∀ s H C cl fp, DI (Blk X s H scope C cl fp) p false tg1 iter1 g1) (hg1 : ∀ s H C cl fp, DG (Blk X s H scope C cl fp) p tg1 ts1 h1) (ht1 : ∀ s H C cl fp, DTs (Blk X s H scope C cl fp) p ifs1 t1) (he : ∀ s H C cl fp, DE (Blk X s H scope C cl fp) p elt e)
    {vs vs1 : List Nat} (hv : ∀ i ∈ ts, i ∈ vs) (hv1 : ∀ i ∈ ts1, i ∈ vs1)
    {W : WX} {G : Addr → Prop} {H0 : Hp} {ρ : Env} {σ : L2.St} {H : Hp} {s : Pen} {R : List D → Pen → Prop} {Ex : XR} {Q : VK} (tk : Takes X W) (rl : Rel X.K p G H0 ρ σ H s) (hw : wpM (lc2M vs vs1 g h t g1 h1 t1 e ρ) s R Ex)
    (q : ∀ ds s' a ws H', R ds s' → Af p H H' s' → H a = none → H' a = some (.lst ws) → ds.length ≤ 16777216 → RepL X.K p H' (fun b => Fo G ρ σ b ∨ b = a) ws ds → Q (.ref a) H') (px : PX X p W G σ H Ex) :
    tLc2 (tI X tg iter) (bG X scope tg) (bT X scope ifs) (bI X scope tg1 iter1) (bG X scope tg1) (bT X scope ifs1) (bE X scope elt) vs vs1 σ H Q := by
  unfold lc2M at hw
  rw [wp_bind] at hw
  refine hi.run W G H0 ρ σ H s _ Ex _ tk rl hw (fun ds s1 H1 J w1 a1 ok => ?_) px
  by_cases hk : okW vs ρ = true
  case neg => rw [if_neg hk] at w1; exact w1.elim
  rw [if_pos hk] at w1
  intro L hL
  have rl1 := rl.step a1.st a1.pen
  have start := rl1.guard hL (.lst [])
  have szl : sizeLine = 16777216 := sizeLine_eq
  have h0L : H0 L = none := back_none (s1 := s1) ⟨rl1.old, rl1.pen⟩ hL
  have nLp : L ≠ p.pa := fun z => by
    rw [z, a1.pen.dict] at hL
    cases hL
  have nLc : L ≠ p.ca := fun z => by
    rw [z, a1.pen.cells] at hL
    cases hL
  have toFo : ∀ a, (Fo G ρ σ a ∨ a = L) → Fo (fun a => G a ∨ a = L) ρ σ a := fun a z => by
    rcases z with (z | z) | z
    · exact .inl (.inl z)
    · exact .inr z
    · exact .inl (.inr z)
  have ofFo : ∀ a, Fo (fun a => G a ∨ a = L) ρ σ a → Fo G ρ σ a ∨ a = L := fun a z => by
    rcases z with (z | z) | z
    · exact .inl (.inl z)
    · exact .inr z
    · exact .inl (.inr z)
  refine ⟨fun i m Hc => m = ds.length - i ∧ i ≤ ds.length ∧ ∃ sc acc dacc, Step p H1 Hc ∧ Rel X.K p (fun a => G a ∨ a = L) H0 ρ σ Hc sc ∧ Hc L = some (.lst acc) ∧ RepL X.K p Hc (fun a => Fo G ρ σ a ∨ a = L) acc dacc ∧ dacc.length ≤ 16777216 ∧
    wpM (compO vs1 (fun x => h x (wipeE ρ vs)) t g1 h1 t1 e dacc (ds.drop i)) sc R Ex, ⟨ds.length, rfl, Nat.zero_le _, s1, [], [], same_step (same_new hL), start, upd_same, .nil, Nat.zero_le _, w1⟩, ?_⟩
  rintro i m Hc ⟨rfl, hi', sc, acc, dacc, st, rc, hacc, racc, hlen, hwp⟩
  have stF : StepF (Fs false G (Fo G ρ σ)) H1 Hc := fun a o e n => st a o e fun z => n (show G a by rw [z]; exact rl.gpa)
  by_cases hlt : i < ds.length
  · obtain ⟨go, yl⟩ := ok.go i ds[i] Hc stF (List.getElem?_eq_getElem hlt)
    refine .inr ⟨go, fun H' => ∃ sc acc dacc, Step p H1 H' ∧ Rel X.K p (fun a => G a ∨ a = L) H0 ρ σ H' sc ∧ H' L = some (.lst acc) ∧ RepL X.K p H' (fun a => Fo G ρ σ a ∨ a = L) acc dacc ∧ dacc.length ≤ 16777216 ∧
      wpM (compO vs1 (fun x => h x (wipeE ρ vs)) t g1 h1 t1 e dacc (ds.drop (i + 1))) sc R Ex, fun H' hN => ⟨_, by omega, rfl, hlt, hN⟩, fun x Hy y => ?_⟩
    have stF' : StepF (fun a => Fo G ρ σ a ∨ a = L) H1 Hc := fun a o e n => st a o e fun z => n (.inl (by rw [z]; exact rl.fpa))
    obtain ⟨sm, rx⟩ := yld_rep ((yl x Hy y).more (N := fun a => a = L) fun a z => by rw [z]; exact hL) (.inl rl.fpa) stF' fun a ha z => rc.fresh ha (toFo a z)
    have ry := rc.step (same_step (p := p) sm) (rc.pen.same sm)
    rw [List.drop_eq_getElem_cons hlt] at hwp
    have hwp : wpM (bindT (h ds[i] (wipeE ρ vs)) fun ρ' => nx (t ρ') >>= fun b => if b = true then nx (g1 ρ') >>= fun ys => if okW vs1 ρ' = true then compA (fun y => h1 y (wipeE ρ' vs1)) t1 e dacc ys >>= fun acc' => compO vs1 (fun x => h x (wipeE ρ vs)) t g1 h1 t1 e acc' (ds.drop (i + 1)) else bad else compO vs1 (fun x => h x (wipeE ρ vs)) t g1 h1 t1 e dacc (ds.drop (i + 1))) sc R Ex := hwp
    cases eh : h ds[i] (wipeE ρ vs) with
    | none => rw [eh] at hwp; exact hwp.elim
    | some ρ' =>
    rw [eh] at hwp
    have hwp : wpM (nx (t ρ') >>= fun b => if b = true then nx (g1 ρ') >>= fun ys => if okW vs1 ρ' = true then compA (fun y => h1 y (wipeE ρ' vs1)) t1 e dacc ys >>= fun acc' => compO vs1 (fun x => h x (wipeE ρ vs)) t g1 h1 t1 e acc' (ds.drop (i + 1)) else bad else compO vs1 (fun x => h x (wipeE ρ vs)) t g1 h1 t1 e dacc (ds.drop (i + 1))) sc R Ex := hwp
    rw [wp_bind] at hwp
    have hacc' := sm _ _ hacc
    have racc' := racc.mono ((same_step (p := p) sm).toF (.inl rl.fpa)) fun _ z => z
    intro sB HB CB clB fpB
    refine (hg sB HB CB clB fpB).run (fun a => G a ∨ a = L) H0 (wipeE ρ vs) ρ' (L2.wipe σ vs) Hy sc x ds[i] _ (ry.wipe vs) (rx.mono (fun _ _ z _ => z) fun a z => ofFo a (fo_wipe' z)) eh fun σ2 r2 sb => ⟨by rw [sb.1 vs hv, wipe_wipe], ?_⟩
    intro sC HC CC clC fpC
    refine (ht sC HC CC clC fpC).run takesN r2 (wp_nx hwp) (fun b s3 H3 hb a3 => ?_) fun _ _ _ _ _ _ z => z.elim
    have r3 := r2.step a3.st a3.pen
    have rc3 := ry.step a3.st a3.pen
    have st3 : Step p H1 H3 := (st.trans (same_step sm)).trans a3.st
    have hacc3 : H3 L = some (.lst acc) := a3.st L _ hacc' nLp
    have racc3 := racc'.mono (a3.st.toF (.inl rl.fpa)) fun _ z => z
    cases b with
    | false =>
      rw [if_neg (by decide)] at hb ⊢
      exact ⟨s3, acc, dacc, st3, rc3, hacc3, racc3, hlen, hb⟩
    | true =>
      rw [if_pos rfl] at hb ⊢
      rw [wp_bind] at hb
      intro sD HD CD clD fpD
      refine (hi1 sD HD CD clD fpD).run _ _ _ _ _ _ _ _ _ _ takesN r3 (wp_nx hb) (fun ys s4 H4 J1 h4 a4 ok1 => ?_) fun _ _ _ _ _ _ z => z.elim
      by_cases hk1 : okW vs1 ρ' = true
      case neg => rw [if_neg hk1] at h4; exact h4.elim
      rw [if_pos hk1, wp_bind] at h4
      have r4 := r3.step a4.st a4.pen
      have rc4 := rc3.step a4.st a4.pen
      have st4 := st3.trans a4.st
      have hacc4 : H4 L = some (.lst acc) := a4.st L _ hacc3 nLp
      have racc4 := racc3.mono (a4.st.toF (.inl rl.fpa)) fun _ z => z
      -- the inner loop: all but the pen and L is as at H4
      have keepL : ∀ {Ha Hb : Hp}, (∀ a o, Ha a = some o → a ≠ p.pa → a ≠ L → Hb a = some o) → ∀ a o, Ha a = some o → ¬ (G a ∨ a = L) → Hb a = some o := fun k a o z n => k a o z (fun y => n (.inl (by rw [y]; exact rl.gpa))) fun y => n (.inr y)
      refine ⟨fun j k Hk => k = ys.length - j ∧ j ≤ ys.length ∧ ∃ sk acc dacc, Step p H1 Hk ∧ (∀ a o, H4 a = some o → a ≠ p.pa → a ≠ L → Hk a = some o) ∧ Rel X.K p (fun a => G a ∨ a = L) H0 ρ σ Hk sk ∧ Rel X.K p (fun a => G a ∨ a = L) H0 ρ' σ2 Hk sk ∧ Hk L = some (.lst acc) ∧ RepL X.K p Hk (fun a => Fo G ρ σ a ∨ a = L) acc dacc ∧ dacc.length ≤ 16777216 ∧
        wpM (compA (fun y => h1 y (wipeE ρ' vs1)) t1 e dacc (ys.drop j)) sk (fun acc' s' => wpM (compO vs1 (fun x => h x (wipeE ρ vs)) t g1 h1 t1 e acc' (ds.drop (i + 1))) s' R Ex) Ex, ⟨ys.length, rfl, Nat.zero_le _, s4, acc, dacc, st4, fun a o z _ _ => z, rc4, r4, hacc4, racc4, hlen, h4⟩, ?_⟩
      rintro j k Hk ⟨rfl, hj', sk, acc, dacc, stk, keep, rk, rk', hak, rak, hlk, hwk⟩
      have stK : StepF (Fs false (fun a => G a ∨ a = L) (Fo (fun a => G a ∨ a = L) ρ' σ2)) H4 Hk := fun a o z n => keepL keep a o z n
      by_cases hjt : j < ys.length
      · obtain ⟨go1, yl1⟩ := ok1.go j ys[j] Hk stK (List.getElem?_eq_getElem hjt)
        refine .inr ⟨go1, fun H' => ∃ sk acc dacc, Step p H1 H' ∧ (∀ a o, H4 a = some o → a ≠ p.pa → a ≠ L → H' a = some o) ∧ Rel X.K p (fun a => G a ∨ a = L) H0 ρ σ H' sk ∧ Rel X.K p (fun a => G a ∨ a = L) H0 ρ' σ2 H' sk ∧ H' L = some (.lst acc) ∧ RepL X.K p H' (fun a => Fo G ρ σ a ∨ a = L) acc dacc ∧ dacc.length ≤ 16777216 ∧
          wpM (compA (fun y => h1 y (wipeE ρ' vs1)) t1 e dacc (ys.drop (j + 1))) sk (fun acc' s' => wpM (compO vs1 (fun x => h x (wipeE ρ vs)) t g1 h1 t1 e acc' (ds.drop (i + 1))) s' R Ex) Ex, fun H' hN => ⟨_, by omega, rfl, hjt, hN⟩, fun x1 Hz y1 => ?_⟩
        have stK' : StepF (Fo (fun a => G a ∨ a = L) ρ' σ2) H4 Hk := fun a o z n => keepL keep a o z fun y => n (.inl y)
        obtain ⟨smz, rxz⟩ := yld_rep (yl1 x1 Hz y1) r4.fpa stK' fun a ha z => rk'.fresh ha z
        have rz := rk.step (same_step (p := p) smz) (rk.pen.same smz)
        have rz' := rk'.step (same_step (p := p) smz) (rk.pen.same smz)
        rw [List.drop_eq_getElem_cons hjt] at hwk
        have hwk : wpM (bindT (h1 ys[j] (wipeE ρ' vs1)) fun ρ5 => nx (t1 ρ5) >>= fun b => if b = true then nx (e ρ5) >>= fun y => if dacc.length < 16777216 then compA (fun y => h1 y (wipeE ρ' vs1)) t1 e (dacc ++ [y]) (ys.drop (j + 1)) else bad else compA (fun y => h1 y (wipeE ρ' vs1)) t1 e dacc (ys.drop (j + 1))) sk (fun acc' s' => wpM (compO vs1 (fun x => h x (wipeE ρ vs)) t g1 h1 t1 e acc' (ds.drop (i + 1))) s' R Ex) Ex := hwk
        cases eh1 : h1 ys[j] (wipeE ρ' vs1) with
        | none => rw [eh1] at hwk; exact hwk.elim
        | some ρ5 =>
        rw [eh1] at hwk
        have hwk : wpM (nx (t1 ρ5) >>= fun b => if b = true then nx (e ρ5) >>= fun y => if dacc.length < 16777216 then compA (fun y => h1 y (wipeE ρ' vs1)) t1 e (dacc ++ [y]) (ys.drop (j + 1)) else bad else compA (fun y => h1 y (wipeE ρ' vs1)) t1 e dacc (ys.drop (j + 1))) sk (fun acc' s' => wpM (compO vs1 (fun x => h x (wipeE ρ vs)) t g1 h1 t1 e acc' (ds.drop (i + 1))) s' R Ex) Ex := hwk
        rw [wp_bind] at hwk
        have haz := smz _ _ hak
        have raz := rak.mono ((same_step (p := p) smz).toF (.inl rl.fpa)) fun _ z => z
        intro sE HE CE clE fpE
        refine (hg1 sE HE CE clE fpE).run (fun a => G a ∨ a = L) H0 (wipeE ρ' vs1) ρ5 (L2.wipe σ2 vs1) Hz sk x1 ys[j] _ (rz'.wipe vs1) (rxz.mono (fun _ _ z _ => z) fun a z => fo_wipe' z) eh1 fun σ5 r5 sb5 => ⟨by rw [sb5.1 vs1 hv1, wipe_wipe], ?_⟩
        intro sF HF CF clF fpF
        refine (ht1 sF HF CF clF fpF).run takesN r5 (wp_nx hwk) (fun b s6 H6 hb6 a6 => ?_) fun _ _ _ _ _ _ z => z.elim
        have r6 := r5.step a6.st a6.pen
        have rc6 := rz.step a6.st a6.pen
        have rc6' := rz'.step a6.st a6.pen
        have st6 : Step p H1 H6 := (stk.trans (same_step smz)).trans a6.st
        have keep6 : ∀ a o, H4 a = some o → a ≠ p.pa → a ≠ L → H6 a = some o := fun a o z n1 n2 => a6.st a o (smz a o (keep a o z n1 n2)) n1
        have ha6 : H6 L = some (.lst acc) := a6.st L _ haz nLp
        have ra6 := raz.mono (a6.st.toF (.inl rl.fpa)) fun _ z => z
        cases b with
        | false =>
          rw [if_neg (by decide)] at hb6 ⊢
          exact ⟨s6, acc, dacc, st6, keep6, rc6, rc6', ha6, ra6, hlk, hb6⟩
        | true =>
          rw [if_pos rfl] at hb6 ⊢
          rw [wp_bind] at hb6
          intro sG HG CG clG fpG
          refine (he sG HG CG clG fpG).run _ _ _ _ _ _ _ _ _ _ takesN r6 (wp_nx hb6) (fun d s7 v H7 hd7 a7 r7 => ?_) fun _ _ _ _ _ _ z => z.elim
          by_cases hz : dacc.length < 16777216
          case neg => rw [if_neg hz] at hd7; exact hd7.elim
          rw [if_pos hz] at hd7
          have ha7 : H7 L = some (.lst acc) := a7.st L _ ha6 nLp
          have ra7 := ra6.mono (a7.st.toF (.inl rl.fpa)) fun _ z => z
          have rc7 := rc6.step a7.st a7.pen
          have rc7' := rc6'.step a7.st a7.pen
          have hl : acc.length = dacc.length := ra7.length
          refine ⟨acc, ha7, by omega, s7, acc ++ [v], dacc ++ [d], fun a o e n => ?_, fun a o z n1 n2 => ?_, rc7.updG (.inr rfl) h0L nLp nLc, rc7'.updG (.inr rfl) h0L nLp nLc, upd_same, ?_, by rw [List.length_append]; exact hz, hd7⟩
          · rw [upd_ne fun z => by rw [z, hL] at e; cases e]
            exact (st6.trans a7.st) a o e n
          · rw [upd_ne n2]
            exact a7.st a o (keep6 a o z n1 n2) n1
          · have rv : Rep X.K p H7 (fun a => Fo G ρ σ a ∨ a = L) v d := r7.mono (fun _ _ z _ => z) fun a z => fo_sub hk1 hv1 sb5 (fo_sub hk hv sb (toFo a z))
            refine (ra7.append (.cons rv .nil)).mono (fun a o e n => ?_) fun _ z => z
            rw [upd_ne fun z => n (.inr z)]
            exact e
      · have e1 : j = ys.length := by omega
        subst e1
        rw [List.drop_length] at hwk
        exact .inl ⟨ok1.stop Hk stK, sk, acc, dacc, stk, rk, hak, rak, hlk, hwk⟩
  · have e : i = ds.length := by omega
    subst e
    rw [List.drop_length] at hwp
    exact .inl ⟨ok.stop Hc stF, q dacc sc L acc Hc hwp (a1.trans ⟨st, rc.pen⟩) (back_none a1 hL) hacc hlen racc⟩
theorem dn_lc2 (own : List (Str × Nat)) {vs1 : List Nat} (hN : X.N.Nodup) (hi : DI X p false tg iter g) (hg : ∀ s H C cl fp, DG (Blk X s H scope C cl fp) p tg ts h) (ht : ∀ s H C cl fp, DTs (Blk X s H scope C cl fp) p ifs t) (hi1 : ∀ s H C cl fp, DI (Blk X s H scope C cl fp) p false tg1 iter1 g1) (hg1 : ∀ s H C cl fp, DG (Blk X s H scope C cl fp) p tg1 ts1 h1) (ht1 : ∀ s H C cl fp, DTs (Blk X s H scope C cl fp) p ifs1 t1) (he : ∀ s H C cl fp, DE (Blk X s H scope C cl fp) p elt e)
    (ok : blkC X.N X.env.scope scope own = true := by first | kernel_rfl | rfl) (hv : ∀ i ∈ ts, i ∈ own.map (·.2) := by decide) (hv1 : ∀ i ∈ ts1, i ∈ vs1 := by decide) (hvs : ∀ i ∈ vs1, i ∈ own.map (·.2) := by decide) (hc : X.calm = true := by rfl) (hs : ∀ x, foldedSetIterable iter X.env x = pure x := by intro _; rfl) (hs1 : ∀ env x, foldedSetIterable iter1 env x = pure x := by intro _ _; rfl) :
    DN X p (.ListComp elt [⟨tg, iter, ifs, 0⟩, ⟨tg1, iter1, ifs1, 0⟩] scope pos) (lc2M (own.map (·.2)) vs1 g h t g1 h1 t1 e) := by
  refine ⟨fun W G H0 ρ σ H s R Ex Q tk rl hw q px => tE_of (pe_lc2 (wi := tI X tg iter) (g := bG X scope tg) (tt := bT X scope ifs) (wi1 := bI X scope tg1 iter1) (g1 := bG X scope tg1) (tt1 := bT X scope ifs1) (te := bE X scope elt) hc hN pi_self (blkOk_by ok) hvs
    (fun s H C cl fp => ⟨fun pins sh σ H v u Q I r h => pg_self.run pins sh σ H v u Q I r (h s _ C cl fp)⟩) (fun s H C cl fp => ⟨fun pins sh σ H Q I h => pts_self.run pins sh σ H Q I (h s _ C cl fp)⟩) (fun s H C cl fp => ⟨fun pins sh σ H Q I h => pi_self.run pins sh σ H Q I (h s _ C cl fp)⟩)
    (fun s H C cl fp => ⟨fun pins sh σ H v u Q I r h => pg_self.run pins sh σ H v u Q I r (h s _ C cl fp)⟩) (fun s H C cl fp => ⟨fun pins sh σ H Q I h => pts_self.run pins sh σ H Q I (h s _ C cl fp)⟩) (fun s H C cl fp => ⟨fun pins sh σ H Q I h => pe_self.run pins sh σ H Q I (h s _ C cl fp)⟩) hs hs1) ?_⟩
  exact lc2_run hi hg ht hi1 hg1 ht1 he hv hv1 tk rl hw q px
end
end Say

namespace Say
open L2 PyProof.Rows PySem.Spec PySem

/-! ### sorted -/
def leP (a b : Int × Int) : Bool := decide (a.1 < b.1) || (decide (a.1 = b.1) && decide (a.2 ≤ b.2))
def leI (a b : Int) : Bool := decide (a ≤ b)
def pairsOf : List D → Option (List (Int × Int))
  | [] => some []
  | .tup [.int i, .int j] :: ds => (pairsOf ds).map ((i, j) :: ·)
  | _ :: _ => none
def prD (x : Int × Int) : D := .tup [.int x.1, .int x.2]
theorem pairsOf_ok : ∀ {xs : List D} {ns : List (Int × Int)}, pairsOf xs = some ns → xs = ns.map prD
  | [], ns, h => by cases h; rfl
  | x :: ds, ns, h => by
    unfold pairsOf at h
    split at h
    · rename_i e
      cases e
    · rename_i i j ds' e
      cases e
      cases e1 : pairsOf ds with
      | none => rw [e1] at h; cases h
      | some z =>
        rw [e1] at h
        cases h
        rw [pairsOf_ok e1]
        rfl
    · cases h
theorem pairsOf_map : ∀ ns : List (Int × Int), pairsOf (ns.map prD) = some ns
  | [] => rfl
  | (i, j) :: ns => by
    show (pairsOf (ns.map prD)).map ((i, j) :: ·) = _
    rw [pairsOf_map ns]
    rfl
theorem intsOf_map : ∀ ns : List Int, intsOf (ns.map D.int) = some ns
  | [] => rfl
  | i :: ns => by
    show (intsOf (ns.map D.int)).map (i :: ·) = _
    rw [intsOf_map ns]
    rfl
def sortI (ns : List Int) : List Int := ns.mergeSort leI
def sortP (ns : List (Int × Int)) : List (Int × Int) := ns.mergeSort leP
def sortD (xs : List D) : Option (List D) := match intsOf xs with
  | some ns => some ((sortI ns).map D.int)
  | none => (pairsOf xs).map fun ns => (sortP ns).map prD
theorem leI_trans (a b c : Int) (h : leI a b = true) (h' : leI b c = true) : leI a c = true := by
  unfold leI at *
  simp at *
  omega
theorem leI_total (a b : Int) : (leI a b || leI b a) = true := by
  unfold leI
  simp
  omega
theorem leP_trans (a b c : Int × Int) (h : leP a b = true) (h' : leP b c = true) : leP a c = true := by
  unfold leP at *
  simp at *
  omega
theorem leP_total (a b : Int × Int) : (leP a b || leP b a) = true := by
  unfold leP
  simp
  omega
theorem leP_anti (a b : Int × Int) (h : leP a b = true) (h' : leP b a = true) : a = b := by
  unfold leP at *
  simp at *
  exact Prod.ext (by omega) (by omega)
theorem sortI_perm (ns : List Int) : (sortI ns).Perm ns := List.mergeSort_perm ns _
theorem sortP_perm (ns : List (Int × Int)) : (sortP ns).Perm ns := List.mergeSort_perm ns _
theorem sortI_pw (ns : List Int) : (sortI ns).Pairwise (· ≤ ·) := (List.pairwise_mergeSort leI_trans leI_total ns).imp fun h => of_decide_eq_true h
theorem sortP_pw (ns : List (Int × Int)) : (sortP ns).Pairwise fun a b => leP a b = true := List.pairwise_mergeSort leP_trans leP_total ns
theorem sorted_eq {α : Type} {r : α → α → Prop} (anti : ∀ a b, r a b → r b a → a = b) : ∀ {xs ys : List α}, xs.Perm ys → xs.Pairwise r → ys.Pairwise r → xs = ys
  | [], ys, p, _, _ => (List.Perm.eq_nil p.symm).symm
  | x :: xs, [], p, _, _ => absurd p.length_eq (by simp)
  | x :: xs, y :: ys, p, hx, hy => by
    have e : x = y := by
      rcases List.mem_cons.mp (p.mem_iff.mp (List.mem_cons_self (a := x) (l := xs))) with e | h1
      · exact e
      · rcases List.mem_cons.mp (p.mem_iff.mpr (List.mem_cons_self (a := y) (l := ys))) with e | h2
        · exact e.symm
        · exact anti _ _ ((List.pairwise_cons.mp hx).1 y h2) ((List.pairwise_cons.mp hy).1 x h1)
    subst e
    rw [sorted_eq anti p.cons_inv (List.pairwise_cons.mp hx).2 (List.pairwise_cons.mp hy).2]
theorem sortI_uniq {xs ns : List Int} (p : xs.Perm ns) (h : xs.Pairwise (· ≤ ·)) : xs = sortI ns := sorted_eq (fun a b h1 h2 => Int.le_antisymm h1 h2) (p.trans (sortI_perm ns).symm) h (sortI_pw ns)
theorem sortP_uniq {xs ns : List (Int × Int)} (p : xs.Perm ns) (h : xs.Pairwise fun a b => leP a b = true) : xs = sortP ns := sorted_eq leP_anti (p.trans (sortP_perm ns).symm) h (sortP_pw ns)
section
variable {K : PySem.W.Frag} {p : PL} {H : Hp} {F : Addr → Prop}
/-- values of pairs, by the heap -/
def kvP (H : Hp) : V → Int × Int
  | .ref a => match H a with
    | some (.frz _ (.tup [.int i, .int j])) => (i, j)
    | _ => (0, 0)
  | _ => (0, 0)
theorem repL_pairs : ∀ {vs : List V} {ns : List (Int × Int)}, RepL K p H F vs (ns.map prD) → vs.map (kvP H) = ns ∧ ∀ x ∈ vs, ∃ t, x = V.ref t ∧ Tp H t [.int (kvP H x).1, .int (kvP H x).2] ∧ ¬ F t
  | _, [], .nil => ⟨rfl, fun x h => by cases h⟩
  | v :: vs, (i, j) :: ns, .cons h r => by
    obtain ⟨e1, e2⟩ := repL_pairs r
    cases h with
    | tup ho hz l =>
      cases l with
      | cons l1 l2 =>
        cases l2 with
        | cons l3 l4 =>
          cases l4
          cases l1
          cases l3
          rename_i a
          have e : kvP H (.ref a) = (i, j) := by
            show (match H a with | some (.frz _ (.tup [.int i, .int j])) => (i, j) | _ => (0, 0)) = (i, j)
            obtain ⟨o, e, _⟩ := ho.1
            rw [e]
          refine ⟨by rw [List.map_cons, e, e1], fun x hx => ?_⟩
          rcases List.mem_cons.mp
              hx with rfl | hx
          · exact ⟨_, rfl, by rw [e]; exact ho.1, ho.2⟩
          · exact e2 x hx
theorem pairs_repL : ∀ {vs : List V}, (∀ x ∈ vs, ∃ t, x = V.ref t ∧ Tp H t [.int (kvP H x).1, .int (kvP H x).2] ∧ ¬ F t) → RepL K p H F vs ((vs.map (kvP H)).map prD)
  | [], _ => .nil
  | v :: vs, h => by
    obtain ⟨t, rfl, e, n⟩ := h v List.mem_cons_self
    exact .cons (.tup ⟨e, n⟩ (by simp) (.cons (.int _) (.cons (.int _) .nil))) (pairs_repL fun x hx => h x (List.mem_cons_of_mem _ hx))
theorem repL_ints' : ∀ {vs : List V} {ns : List Int}, RepL K p H F vs (ns.map D.int) → vs = ns.map V.int
  | _, [], .nil => rfl
  | _, i :: ns, .cons h r => by
    cases h
    rw [repL_ints' r]
    rfl
end
end Say
namespace SayS
open SrtO Srt PyProof.Rows PySem
section
variable {prog : Program} {w : World} {A :
    Around} {E : Value → Shared → Prop} {s : Shared}
/-- the items of a tuple, collected -/
theorem collectT {l : Addr} {us : List Value} {Q : List Value → Shared → Prop} (tp : IsTup s.heap l us.toArray) (sz : us.length ≤ sizeLine)
    (q : Q us { s with heap := (s.heap.push (seqObj "list" #[] 0)).update s.heap.objs.size (Obj.mapSeq (· ++ us.toArray)) }) : wpAny (model prog w) A (collect (.ref l)) Q E s := by
  obtain ⟨ob, g1, g2, e, g3⟩ := tp
  unfold collect
  have made : (s.heap.push (seqObj "list" #[] 0)).get? l = some ob := Heap.get?_push_of_some _ g1
  refine wpAny_bind (wpAny_runValue (codeAny_builtin entry_proto_collect' (?_ : wpAny _ _ (do again (.builtin "list.__iadd__" ⟨[← newList [], .ref l], []⟩)) _ _ s)))
  refine wpAny_bind (wpAny_newList (wpAny_pure ⟨Code.quiet_builtin _ (by decide +kernel), codeAny_builtin entry_list_iadd' (?_ : wpAny _ _ (Builtin.List.listExtendWith (.ref s.heap.objs.size) (.ref l) (.ref s.heap.objs.size)) _ _ { s with heap := s.heap.push (seqObj "list" #[] 0) })⟩))
  unfold
      Builtin.List.listExtendWith
  refine wpAny_bind (wpAny_typeOf (T := "tuple") ⟨ob, made, g2⟩ ?_)
  have same : (Value.type "tuple" == Value.type "tuple") = true := by rfl
  rw [if_pos (by rw [same]; simp)]
  refine wpAny_bind (listItems_at made g3 (wpAny_bind (listItems_at (xs := #[]) (n := 0) (Heap.get?_push_size _ rfl) rfl ?_)))
  rw [if_neg (by simp)]
  refine wpAny_bind (listUpdate_at (n := 0) (xs := #[]) (Heap.get?_push_size _ rfl) rfl (wpAny_pure ?_) (Nat.zero_le _) (by show (#[] ++ us.toArray).size ≤ sizeLine + 1; simp only [List.length_nil, Array.size_append, List.size_toArray]; omega))
  show wpAny (model
      prog w) A (do
      let o ← load s.heap.objs.size; match o.data with
        | .seq xs _ => pure xs.toList
        | _ => unsupported "internal:collect") Q E { s with heap := (s.heap.push (seqObj "list" #[] 0)).update s.heap.objs.size (Obj.mapSeq (· ++ us.toArray)) }
  refine wpAny_bind (wpAny_load (get?_update_seq (Heap.get?_push_size _ rfl) _) (?_ : wpAny _ _ (pure ((#[] : Array Value) ++ us.toArray).toList) Q E _))
  have flat : ((#[] : Array Value) ++ us.toArray).toList = us := by simp
  rw [flat]
  exact wpAny_pure q
/-- sorted(t), t a tuple -/
theorem sortedT {l : Addr} {us : List Value} {lt : Value → Value → Bool} {Q : Value → Shared → Prop} (O : Swo lt) (tp : IsTup s.heap l us.toArray) (sz : us.length ≤ sizeLine)
    (can : 2 ≤ us.length → ∀ (h1 : Heap) (a : Addr), h1.get? a = some (seqObj "list" us.toArray 0) → (∀ b o, s.heap.get? b = some o → b ≠ a ∧ h1.get? b = some o) → SortableO prog w A.in1.in1 { s with heap := h1 } a us lt)
    (q : ∀ out : List Value, Srtd lt out → Stb lt out us → Q (.ref (s.heap.objs.size + 1)) { s with heap := sortedAll s.heap us out.toArray }) :
    wpAny (model prog w) A (call (.builtin
        "sorted") [.ref l]) Q E s := by
  refine Calls.call_function_entry kind_sorted plain_sorted entry_sorted (args_sorted1 _) (?_ : wpAny _ _ (Builtin.«sorted» _) _ _ _)
  unfold Builtin.«sorted»
  refine wpAny_bind (m := checkCount "sorted" 1 1 _) (wpAny_pure (wpAny_bind (collectT tp sz (wpAny_bind (wpAny_newList ?_ sz)))))
  let h0 : Heap := (s.heap.push (seqObj "list" #[] 0)).update s.heap.objs.size (Obj.mapSeq (· ++ us.toArray))
  have n0 : h0.objs.size = s.heap.objs.size + 1 := by show (((s.heap.push (seqObj "list" #[] 0)).update s.heap.objs.size (Obj.mapSeq (· ++ us.toArray)))).objs.size = _; rw [Heap.size_update, size_push']
  have at1 : (h0.push (seqObj "list" us.toArray 0)).get? (s.heap.objs.size + 1) = some (seqObj "list" us.toArray 0) := by rw [← n0]; exact Heap.get?_push_size _ rfl
  have kept : ∀ b o, s.heap.get? b = some o → b ≠ s.heap.objs.size + 1 ∧ (h0.push (seqObj "list" us.toArray 0)).get? b = some o := fun b o g => by
    have lt : b < s.heap.objs.size := Heap.lt_size g
    refine ⟨Nat.ne_of_lt (Nat.lt_succ_of_lt lt), Heap.get?_push_of_some _ ((Heap.get?_update_ne _ _ _ _ (Nat.ne_of_lt lt)).trans (Heap.get?_push_of_some _ g))⟩
  show wpAny _ _ _ _ _ { s with heap := h0.push (seqObj "list" us.toArray 0) }
  rw [n0]
  exact wpAny_bind (wpAny_holding (wpAny_call_entry slot_list_sort ⟨_, at1, rfl⟩ entry_list_sort (list_sort_ord O at1 sz (fun two => can two _ _ at1 kept) fun out hs hb => ⟨_, rfl, wpAny_pure ⟨_, rfl, q out hs hb⟩⟩) (args_list_sort _)))
end
end SayS
namespace Say
open L2 PyProof.Rows PySem.Spec PySem
section
variable {X : Cx}
/-- sorted(xs), a list of pairs of ints -/
def rSortedPF (K : PySem.W.Frag) : List V → Hp → VK → Prop := fun vs H Q => ∃ (a : Addr) (xs : List V) (k : V → Int × Int), vs = [V.ref a] ∧ SqL K H a xs ∧ (∀ x ∈ xs, ∃ t, x = V.ref t ∧ Tp H t [.int (k x).1, .int (k x).2]) ∧
  ∀ ys q, SrtO.Srtd (ltP k) ys → SrtO.Stb (ltP k) ys xs → H q = none → Q (.ref q) (upd H q (.lst ys))
theorem cr_sortedPF : CallR X (.builtin "sorted") (rSortedPF X.K) := by
  intro pins s σ
      H vs us Q I r h
  obtain ⟨a, xs, k, rfl, sq, each, q⟩ := h
  obtain ⟨its, rv, pl, sz⟩ := I.list sq
  obtain ⟨u, rfl,
      ru⟩ := vals1 r
  obtain rfl : u =
      Value.ref a := ru
  have refs : ∀ x ∈ xs, ∃ t, x = V.ref t := fun x m => (each x m).elim fun t e => ⟨t, e.1⟩
  obtain ⟨e1, e2⟩ := refs_back rv refs
  refine SrtO.sorted_pairsO (k := fun u => k (backV u)) pl.isList (by rw [← rv.length]; exact sz) (fun v mv => ?_) fun h' d out h1 h2 kp hd hn => ?_
  · obtain ⟨t, rfl⟩ := e2 v mv
    have m : V.ref t ∈ xs := by rw [e1]; exact List.mem_map.mpr ⟨_, mv, rfl⟩
    obtain ⟨t', e, ob, ht, nd⟩ := each _ m
    cases e
    obtain ⟨_, _, us, r2, o, ho, hc, n, hd⟩ := (show s.heap.get? t = some ob ∧ ObjOk X.prog X.w H s.heap t (.tup _) from I.hok _ _ ht)
    obtain ⟨u1, u2, rfl, ⟨t1, rfl⟩, ⟨t2, rfl⟩⟩ := vals2 r2
    exact ⟨t, o, t1, t2,
        n, rfl, ho, hc, hd⟩
  · have all : ∀ u ∈ out, ∃ a, u = Value.ref a := fun u hu => e2 u (h2.perm.mem_iff.mp hu)
    obtain ⟨n, hn⟩ := hn
    have st : SrtO.Stb (ltP k) (out.map backV) xs := e1 ▸ SrtO.Stb.map (ltP_swo k) backV h2
    exact ⟨.ref d, upd H d (.lst (out.map backV)), I.laid (t' := s.toks) kp hd ⟨by rw [st.len]; exact sz, out, n, vals_back all, hn⟩, rfl, q _ d (SrtO.srtd_map h1) st (I.hok.fresh hd)⟩
/-- sorted(t), a tuple of ints -/
def rSortedTI (K : PySem.W.Frag) : List V → Hp → VK → Prop := fun vs H Q => ∃ (a : Addr) (ns : List Int), vs = [V.ref a] ∧ SqT K H a (ns.map V.int) ∧
  ∀ (l : Addr), H l = none → Q (.ref l) (upd H l (.lst ((sortI ns).map V.int)))
theorem cr_sortedTI : CallR X (.builtin "sorted") (rSortedTI X.K) := by
  intro pins s σ
      H vs us Q I r h
  obtain ⟨a, ns, rfl, tp, q⟩ := h
  obtain ⟨its, rv, it, sz⟩ := I.tuple tp
  rw [Vals.ref1 r]
  have hi := rv.ints
  refine SayS.sortedT SrtO.swo_int it (by rw [← rv.length]; exact sz) (fun two _ _ _ _ => SrtO.ints_sortable hi two) fun out h1 h2 => ?_
  obtain ⟨k1, k2, k3⟩ :=
      SrtO.ints_out hi h1 h2
  obtain ⟨ep, he⟩ := PyProof.Rows.sortedAll_at s.heap its out.toArray
  rw [sortI_uniq k2 k3] at k1
  have len : ((sortI ns).map V.int).length ≤ sizeLine := by
    rw [List.length_map, (sortI_perm ns).length_eq, ← List.length_map (f := V.int)]
    exact sz
  exact ⟨.ref _, upd H (s.heap.objs.size + 1) (.lst ((sortI ns).map V.int)), I.laid (t' := s.toks) (fun _ _ => PyProof.Rows.sortedAll_old) (Nat.le_succ _) ⟨len, out, ep, vals_of_ints k1, he⟩, rfl, q _ (I.hok.fresh (Nat.le_succ _))⟩
end
section
variable {X : Cx} {p : PL} {e a b : Expr} {f g : Env → M D} {pos pos' : Pos} {es : List Expr} {fs : List (Env → M D)}
theorem sortD_len {xs ys : List D} (h : sortD xs = some ys) : ys.length = xs.length := by
  unfold sortD at h
  split at h
  · rename_i ns e
    cases h
    rw [List.length_map, (sortI_perm ns).length_eq, intsOf_ok e, List.length_map]
  · cases e : pairsOf xs with
    | none => rw [e]
        at h; cases h
    | some ns =>
      rw [e] at h
      cases h
      rw [List.length_map, (sortP_perm ns).length_eq, pairsOf_ok e, List.length_map]
def sortedM : List D → M (List D)
  | [.lst xs] => lift (sortD xs)
  | [.tup xs] => lift ((intsOf xs).map fun ns => (sortI ns).map D.int)
  | _ => bad
theorem srtd_leP {k : V → Int × Int} {ys : List V} (h : SrtO.Srtd (ltP k) ys) : (ys.map k).Pairwise fun a b => leP a b = true := by
  refine List.pairwise_map.mpr (List.Pairwise.imp ?_ h)
  intro a b h
  have := SrtO.lexB_no.mp h
  unfold leP
  simp
  omega
theorem dn_sorted (hm : X.mg "sorted" = none) (ha : DA X p [e] fs) (hg : Gl X "sorted" := by rfl) (he : starEach (e :: []) X.env = (false, eval e X.env) :: starEach [] X.env := by rfl) (hpl : (backTo pos (starEach [] X.env)).any (·.1) = false := by rfl) :
    DN X p (.Call (.Name "sorted" pos') [e] [] pos) (fun ρ => seqA fs ρ sortedM) := by
  refine ⟨fun W G H0 ρ σ H s R Ex Q tk rl hw q px => tE_of (pe_callB ((cr_sortedI.or cr_sortedPF).or cr_sortedTI) hg hm boot_sorted pa_self (by decide) (by decide) he hpl) ?_⟩
  refine ha.run _ sortedM W G H0 ρ σ H s R Ex _ tk rl hw (fun ds s1 vs H1 h1 a1 r1 _ => ?_) px
  have fin : ∀ (vs : List V) (xs : List D), xs.length ≤ 16777216 → RepL X.K p H1 (Fo G ρ σ) vs xs → R xs s1 → ∀ l, H1 l = none → Q (.ref l) (upd H1 l (.lst vs)) := fun vs xs hz lr hR l hl =>
    q xs s1 l vs _ hR (a1.trans (.same a1.pen (same_new hl))) (back_none a1 hl) upd_same hz ((lr.more (N := fun a => a = l) fun a z => by rw [z]; exact hl).mono ((same_step (p := p) (same_new hl)).toF (.inl rl.fpa)) fun _ z => z)
  have main : ∀ (a : Addr) (xs : List D) (ws : List V), SqL X.K H1 a ws → xs.length ≤ 16777216 → RepL X.K p H1 (Fo G ρ σ) ws xs → wpM (lift (sortD xs)) s1 R Ex → (rSortedI X.K [.ref a] H1 Q ∨ rSortedPF X.K [.ref a] H1 Q) := fun a xs ws sq hz lr hw => by
    cases es : sortD xs with
    | none => rw [es] at hw; exact hw.elim
    | some ys =>
      rw [es] at hw
      have hz' : ys.length ≤ 16777216 := by rw [sortD_len es]; exact hz
      unfold sortD at es
      split at es
      · rename_i ns en
        cases es
        rw [intsOf_ok en] at lr
        have ew := repL_ints' lr
        subst ew
        refine .inl ⟨a, ns, rfl, sq, fun ns' l pm pw hl => ?_⟩
        rw [sortI_uniq pm pw]
        exact fin _ _ hz' (.ints _) hw l hl
      · cases ep : pairsOf xs with
        | none => rw [ep] at es; cases es
        | some ns =>
          rw [ep] at es
          cases es
          rw [pairsOf_ok ep] at lr
          obtain ⟨e1, e2⟩ := repL_pairs lr
          refine .inr ⟨a, ws, kvP H1, rfl, sq, fun x hx => ?_, fun ys l sd sb hl => ?_⟩
          · obtain ⟨t, h1, h2, _⟩ := e2 x hx
            exact ⟨t, h1, h2⟩
          · have pm := sb.perm
            have ey : ys.map (kvP H1) = sortP ns := sortP_uniq (by rw [← e1]; exact pm.map _) (srtd_leP sd)
            refine fin _ _ hz' ?_ hw l hl
            show RepL X.K p H1 (Fo G ρ σ) ys ((sortP ns).map prD)
            rw [← ey]
            exact pairs_repL fun x hx => e2 x (pm.mem_iff.mp hx)
  unfold sortedM at h1
  split at h1
  · cases r1 with
    | cons r1 r2 =>
      cases r2
      cases r1 with
      | lst ho n1 hz l1 => exact .inl (main _ _ _ (.inl (.inl ho)) hz l1 h1)
  · rename_i xs0 _
    cases r1 with
    | cons r1 r2 =>
      cases r2
      cases r1 with
      | tup ho hz l1 =>
        cases en : intsOf xs0 with
        | none => rw [en] at h1; exact h1.elim
        | some ns =>
          rw [en] at h1
          have hz' : ((sortI ns).map D.int).length ≤ 16777216 := by
            rw [List.length_map, (sortI_perm ns).length_eq, ← List.length_map (f := D.int), ← intsOf_ok en]
            exact hz
          rw [intsOf_ok en] at l1
          have ew := repL_ints' l1
          subst ew
          exact .inr ⟨_, ns, rfl, tupSq ho, fun l hl => fin _ _ hz' (.ints _) h1 l hl⟩
  · exact h1.elim
@[simp] def nSorted (fs : List En) : Env → M (List D) := fun ρ => seqA fs ρ sortedM
end

/-! ### t.index(i), a tuple of ints -/
def rTupI (K : PySem.W.Frag) : V → List V → Hp → VK → Prop := fun x xs H Q => ∃ p, ∃ ys : List Int, ∃ z j, x = .ref p ∧ xs = [.int z] ∧ SqT K H p (ys.map V.int) ∧ ys[j]? = some z ∧ (∀ m, m < j → ys[m]? ≠ some z) ∧ Q (.int (j : Nat)) H
section
variable {X : Cx}
theorem mt_tup_indexI : MtR X "tuple.index" (rTupI X.K) := by
  intro pins s σ H x
      xs v us Q I rx rs h
  obtain ⟨p, ys, z, j, rfl,
      rfl, hq, hy, hno, q⟩ := h
  cases rx
  obtain ⟨u, rfl, t,
      rfl⟩ := vals1 rs
  obtain ⟨its, r, pl,
      hz⟩ := I.tuple hq
  obtain ⟨⟨cls, dd, dt,
      sl⟩, ho, hc, n, hd⟩ := pl
  simp only at hc hd
  subst hc
  subst hd
  have hl : its.toArray.size = ys.length :=
      by rw [List.size_toArray, ← r.length, List.length_map]
  have hj : j < its.toArray.size :=
      by rw [hl]; exact (List.getElem?_eq_some_iff.mp hy).1
  have at' : ∀ (m : Nat) (hm : m < its.toArray.size), ∃ y t', ys[m]? = some y ∧ its.toArray[m] = Value.int y t' := fun m hm => by
    have hm' : m < ys.length :=
        by rw [← hl]; exact hm
    obtain ⟨w, hw, t', hw'⟩ := r.get (i := m) (x := .int ys[m]) (by simp [hm'])
    refine ⟨ys[m], t',
        List.getElem?_eq_getElem hm', ?_⟩
    have e :=
        (List.getElem?_eq_some_iff.mp hw).2
    rw [← hw', ← e]
    simp
  have flat_ints : (ys.map V.int).all flatV = true := by
    rw [List.all_map]
    exact List.all_eq_true.mpr
        fun _ _ => rfl
  refine call_meets PySem.F.slot_tuple_index ⟨_, ho, rfl⟩ PySem.F.entry_tuple_index (PySem.F.args_tuple_index_2 _ _) (TI.tuple_indexAt p its.toArray n dd sl (.int z t) (eqU (.int z)) j hj ?_ ?_)
    ⟨ho, fun w hw => mem_eqAt (x := .int z) ⟨t, rfl⟩ rfl r flat_ints w (by simpa using hw), ⟨.int (j : Nat), H, I.tok _, ⟨_, rfl⟩, q⟩⟩
  · obtain ⟨y, t',
        h1, h2⟩ := at' j hj
    rw [hy] at h1
    cases h1
    rw [h2]
    show decide (z = z) = true
    exact decide_eq_true rfl
  · intro m hm hmj
    obtain ⟨y, t', h1,
        h2⟩ := at' m hm
    rw [h2]
    show decide (y = z) = false
    exact decide_eq_false fun e => hno m hmj (e ▸ h1)
end
/-- where z stands first -/
def idxI (z : Int) : List Int → Option Nat
  | [] => none
  | y :: ys => if y = z then some 0 else (idxI z ys).map (· + 1)
theorem idxI_ok {z : Int} : ∀ {ys : List Int} {j : Nat}, idxI z ys = some j → ys[j]? = some z ∧ ∀ m, m < j → ys[m]? ≠ some z
  | [], j, h => by cases h
  | y :: ys, j, h => by
    unfold idxI at h
    by_cases e : y = z
    · rw [if_pos e] at h
      cases h
      exact ⟨by rw [e]; rfl, fun m h => absurd h (Nat.not_lt_zero m)⟩
    · rw [if_neg e] at h
      cases e2 : idxI z ys with
      | none => rw [e2] at h; cases h
      | some i =>
        rw [e2] at h
        cases h
        obtain ⟨h1, h2⟩ := idxI_ok e2
        refine ⟨h1, fun m hm => ?_⟩
        cases m with
        | zero => exact fun q => e (Option.some.inj q)
        | succ m => exact h2 m (Nat.lt_of_succ_lt_succ hm)
def tupI : D → M (List Int)
  | .tup xs => lift (intsOf xs)
  | _ => bad
def indexM (ns : List Int) : D → M D
  | .int z => lift ((idxI z ns).map fun j => .int (j : Int))
  | _ => bad
section
variable {X : Cx} {p : PL} {e a b : Expr} {f g : Env → M D} {pos pos' : Pos}
theorem de_indexT (ha : DE X p a f) (hb : DE X p b g)
    (hp : PE X (.Call (.Attribute a "index" pos') [b] [] pos) (fun σ H Q => tE X a σ H fun x H1 => (∃ a vs, x = .ref a ∧ Tp H1 a vs) ∧ tCons (tE X b) tNil σ H1 fun xs H2 => rTupI X.K x xs H2 Q) := by exact pe_tm PySem.F.slot_tuple_index PySem.F.type_tuple_index mt_tup_indexI pe_self (pa_cons pe_self pa_nil)) :
    DE X p (.Call (.Attribute a "index" pos') [b] [] pos) (fun ρ => f ρ >>= tupI >>= fun ns => g ρ >>= indexM ns) := by
  refine ⟨fun W G H0 ρ σ H s R Ex Q tk rl hw q px => tE_of hp ?_⟩
  rw [bind_assoc, wp_bind] at hw
  refine ha.run W G H0 ρ σ H s _ Ex _ tk rl hw (fun d1 s1 v H1 h1 a1 r1 => ?_) px
  cases d1 with
  | tup xs =>
    cases r1 with
    | tup ho hz l1 =>
      refine ⟨⟨_, _, rfl, ho.1⟩, ?_⟩
      cases en : intsOf xs with
      | none =>
        have h1 : wpM (lift (intsOf xs) >>= fun ns => g ρ >>= indexM ns) s1 R Ex := h1
        rw [en] at h1
        exact h1.elim
      | some ns =>
        have h1 : wpM (lift (intsOf xs) >>= fun ns => g ρ >>= indexM ns) s1 R Ex := h1
        rw [en] at h1
        have h1 : wpM (g ρ >>= indexM ns) s1 R Ex := h1
        rw [wp_bind] at h1
        refine hb.run W G H0 ρ σ H1 s1 _ Ex _ tk (rl.step a1.st a1.pen) h1 (fun d2 s2 v2 H2 h2 a2 r2 => ?_) (px.at a1)
        cases d2 with
        | int z =>
          cases r2
          have h2 : wpM (lift ((idxI z ns).map fun j => D.int (j : Int))) s2 R Ex := h2
          cases ej : idxI z ns with
          | none => rw [ej] at h2; exact h2.elim
          | some j =>
            rw [ej] at h2
            obtain ⟨q1, q2⟩ := idxI_ok ej
            have l2 := l1.mono (a2.st.toF rl.fpa) fun _ z => z
            rw [intsOf_ok en] at l2
            have ew := repL_ints' l2
            subst ew
            refine ⟨_, ns, z, j, rfl, rfl, ho.1.elim fun o w => Tp.sq ⟨o, a2.st _ _ w.1 fun e => ho.2 (by rw [e]; exact rl.fpa), w.2⟩, q1, q2, q _ s2 _ H2 h2 (a1.trans a2) (.int _)⟩
        | _ => exact h2.elim
  | _ => exact h1.elim
@[simp] def dIndexT (f g : En) : En := fun ρ => f ρ >>= tupI >>= fun ns => g ρ >>= indexM ns
end
end Say

namespace Say
open L2 PyProof.Rows PySem.Spec PySem

/-! ### x = [.. for .. for ..] on one line -/
section
variable {X : Cx} {p : PL} {elt tg iter tg1 iter1 : Expr} {ifs ifs1 : List Expr} {scope : Scope} {pos pos' : Pos} {g g1 : Env → M (List D)} {h h1 : D → Env → Option Env} {ts ts1 : List Nat} {t t1 : Env → M Bool} {e : Env → M D}
theorem ds_lcD2 (i : Nat) {x : Str} {py : Pos} (own : List (Str × Nat)) {vs1 : List Nat} (hN : X.N.Nodup) (hi : DI X p false tg iter g) (hg : ∀ s H C cl fp, DG (Blk X s H scope C cl fp) p tg ts h) (ht : ∀ s H C cl fp, DTs (Blk X s H scope C cl fp) p ifs t) (hi1 : ∀ s H C cl fp, DI (Blk X s H scope C cl fp) p false tg1 iter1 g1) (hg1 : ∀ s H C cl fp, DG (Blk X s H scope C cl fp) p tg1 ts1 h1) (ht1 : ∀ s H C cl fp, DTs (Blk X s H scope C cl fp) p ifs1 t1) (he : ∀ s H C cl fp, DE (Blk X s H scope C cl fp) p elt e)
    (hy : X.N[i]? = some x := by rfl) (hyl : X.env.scope.names.lookup x = some .local := by rfl) (hl : (py.line == pos.line) = true := by rfl) (ha : (scope.names.any fun (n, k) => n == x && (k == .local || k == .cell)) = false := by decide +kernel) (hk : X.env.scope.kind = .function := by rfl)
    (ok : blkC X.N X.env.scope scope own = true := by first | kernel_rfl | rfl) (hv : ∀ i ∈ ts, i ∈ own.map (·.2) := by decide) (hv1 : ∀ i ∈ ts1, i ∈ vs1 := by decide) (hvs : ∀ i ∈ vs1, i ∈ own.map (·.2) := by decide) (hc : X.calm = true := by rfl) (hs : ∀ x, foldedSetIterable iter X.env x = pure x := by intro _; rfl) (hs1 : ∀ env x, foldedSetIterable iter1 env x = pure x := by intro _ _; rfl) :
    DS X p (.Assign [.Name x py] (.ListComp elt [⟨tg, iter, ifs, 0⟩, ⟨tg1, iter1, ifs1, 0⟩] scope pos) pos') (sSet i fun ρ => lc2M (own.map (·.2)) vs1 g h t g1 h1 t1 e ρ >>= fun xs => pure (.lst xs)) := by
  refine ⟨fun W G H0 ρ σ H s k r b c R Ex Dn tk rl hw wy px => tS_of (ps_setLc2 (wi := tI X tg iter) (g := bG X scope tg) (tt := bT X scope ifs) (wi1 := bI X scope tg1 iter1) (g1 := bG X scope tg1) (tt1 := bT X scope ifs1) (te := bE X scope elt) hc hN hy hyl (sw_true hk hyl hl ha) pi_self (blkOk_by ok) hvs
    (fun s H C cl fp => ⟨fun pins sh σ H v u Q I r h => pg_self.run pins sh σ H v u Q I r (h s _ C cl fp)⟩) (fun s H C cl fp => ⟨fun pins sh σ H Q I h => pts_self.run pins sh σ H Q I (h s _ C cl fp)⟩) (fun s H C cl fp => ⟨fun pins sh σ H Q I h => pi_self.run pins sh σ H Q I (h s _ C cl fp)⟩)
    (fun s H C cl fp => ⟨fun pins sh σ H v u Q I r h => pg_self.run pins sh σ H v u Q I r (h s _ C cl fp)⟩) (fun s H C cl fp => ⟨fun pins sh σ H Q I h => pts_self.run pins sh σ H Q I (h s _ C cl fp)⟩) (fun s H C cl fp => ⟨fun pins sh σ H Q I h => pe_self.run pins sh σ H Q I (h s _ C cl fp)⟩) hs hs1) ?_⟩
  have hw : wpM ((lc2M (own.map (·.2)) vs1 g h t g1 h1 t1 e ρ >>= fun xs => pure (.lst xs)) >>= fun d => k (ρ.set i (.dat d))) s R Ex := hw
  rw [bind_assoc, wp_bind] at hw
  exact lc2_run hi hg ht hi1 hg1 ht1 he hv hv1 tk rl hw (fun ds s1 q vs H1 h1 a1 n1 e1 hz r1 => wy.nx _ _ H1 s1 ((rl.step a1.st a1.pen).put rfl fun d' e => by
    cases e
    exact ⟨_, rfl, .lst e1 (rl.fresh n1) hz (r1.mono (fun _ _ z _ => z) fun _ z => .inl z)⟩) h1) (px.px rl.old)
end

/-! ### several at once -/
section
variable {K : PySem.W.Frag} {p : PL} {G : Addr → Prop} {H0 H H' : Hp} {ρ : Env} {σ : L2.St} {s s' : Pen}
def GN (G : Addr → Prop) (N : List Addr) : Addr → Prop := fun a => G a ∨ a ∈ N
/-- values that wait for their slots; N: the new lists among them -/
inductive Pend (K : PySem.W.Frag) (p : PL) (H0 H : Hp) (F : Addr → Prop) : List V → List Sl → List Addr → Prop
  | nil : Pend K p H0 H F [] [] []
  | dat {v : V} {d : D} {vs : List V} {xs : List Sl} {N : List Addr} (h : Rep K p H F v d) (r : Pend K p H0 H F vs xs N) : Pend K p H0 H F (v :: vs) (.dat d :: xs) N
  | own {q : Addr} {ws : List V} {ds : List D} {vs : List V} {xs : List Sl} {N : List Addr} (e : H q = some (.lst ws)) (h0 : H0 q = none) (hz : ds.length ≤ 16777216) (l : RepL K p H F ws ds) (r : Pend K p H0 H F vs xs N) : Pend K p H0 H F (.ref q :: vs) (.own (.lst ds) :: xs) (q :: N)
theorem Pend.mono {F F' : Addr → Prop} (sub : ∀ a, F' a → F a) : ∀ {vs : List V} {xs : List Sl} {N : List Addr}, Pend K p H0 H F vs xs N → Pend K p H0 H F' vs xs N
  | _, _, _, .nil => .nil
  | _, _, _, .dat h r => .dat (h.mono (fun _ _ z _ => z) sub) (r.mono sub)
  | _, _, _, .own e h0 hz l r => .own e h0 hz (l.mono (fun _ _ z _ => z) sub) (r.mono sub)
/-- a waiting list gets its slot -/
theorem Rel.take {q : Addr} {i : Nat} {ws : List V} {ds : List D} (r : Rel K p (fun a => G a ∨ a = q) H0 ρ σ H s) (hl : i < ρ.length) (e : H q = some (.lst ws)) (h0 : H0 q = none) (ng : ¬ G q) (gpa : G p.pa) (gca : G p.ca) (hz : ds.length ≤ 16777216) (l : RepL K p H (Fo (fun a => G a ∨ a = q) ρ σ) ws ds) :
    Rel K p G H0 (ρ.set i (.own (.lst ds))) (σ.set i (some (.ref q))) H s ∧ ∀ a, Fo G (ρ.set i (.own (.lst ds))) (σ.set i (some (.ref q))) a → Fo (fun a => G a ∨ a = q) ρ σ a := by
  have sub : ∀ a, Fo G (ρ.set i (.own (.lst ds))) (σ.set i (some (.ref q))) a → Fo (fun a => G a ∨ a = q) ρ σ a := fun a z => by
    rcases z with z | ⟨j, y, e1, hy, e2⟩
    · exact .inl (.inl z)
    · rcases get_set e1 with ⟨rfl, rfl, _⟩ | ⟨ne, e1⟩
      · rw [List.getElem?_set_self (by rw [← r.len]; exact hl)] at e2
        cases e2
        exact .inl (.inr rfl)
      · rw [List.getElem?_set_ne ne] at e2
        exact .inr ⟨j, y, e1, hy, e2⟩
  refine ⟨⟨by rw [List.length_set, List.length_set]; exact r.len, fun j d e1 => ?_, fun j y e1 hy => ?_, fun j k y z a e1 hy e2 hz e3 e4 => ?_, r.old, r.pen, gpa, gca, fun a ha => r.gex a (.inl ha), fun j y a e1 hy e2 => ?_⟩, sub⟩
  · rcases get_set e1 with ⟨rfl, w, _⟩ | ⟨ne, e1⟩
    · cases w
    · obtain ⟨v, q1, q2⟩ := r.dat j d e1
      exact ⟨v, by rw [List.getElem?_set_ne ne]; exact q1, q2.mono (fun _ _ z _ => z) sub⟩
  · rcases get_set e1 with ⟨rfl, rfl, _⟩ | ⟨ne, e1⟩
    · exact ⟨q, List.getElem?_set_self (by rw [← r.len]; exact hl), h0, ws, e, hz, l.mono (fun _ _ z _ => z) sub⟩
    · obtain ⟨a, q1, q2, q3⟩ := r.own j y e1 hy
      exact ⟨a, by rw [List.getElem?_set_ne ne]; exact q1, q2, q3.mono (fun _ z => z) (fun _ _ z _ => z) sub⟩
  · have other : ∀ (j : Nat) (y : Sl), i ≠ j → ρ[j]? = some y → y.held = true → (σ.set i (some (.ref q)))[j]? = some (some (.ref q)) → False := fun j y ne w hy w2 => by
      rw [List.getElem?_set_ne ne] at w2
      exact r.gne j y q w hy w2 (.inr rfl)
    rcases get_set e1 with ⟨rfl, _, _⟩ | ⟨ne, e1⟩
    · rcases get_set e2 with ⟨rfl, _, _⟩ | ⟨ne2, e2⟩
      · rfl
      · rw [List.getElem?_set_self (by rw [← r.len]; exact hl)] at e3
        cases e3
        exact (other k z ne2 e2 hz e4).elim
    · rcases get_set e2 with ⟨rfl, _, _⟩ | ⟨ne2, e2⟩
      · rw [List.getElem?_set_self (by rw [← r.len]; exact hl)] at e4
        cases e4
        exact (other j y ne e1 hy e3).elim
      · rw [List.getElem?_set_ne ne] at e3
        rw [List.getElem?_set_ne ne2] at e4
        exact r.inj j k y z a e1 hy e2 hz e3 e4
  · rcases get_set e1 with ⟨rfl, _, _⟩ | ⟨ne, e1⟩
    · rw [List.getElem?_set_self (by rw [← r.len]; exact hl)] at e2
      cases e2
      exact ng
    · rw [List.getElem?_set_ne ne] at e2
      exact fun z => r.gne j y a e1 hy e2 (.inl z)
end
def setE : Env → List Nat → List Sl → Env
  | ρ, i :: is, x :: xs => setE (ρ.set i x) is xs
  | ρ, _, _ => ρ
def setS : L2.St → List Nat → List V → L2.St
  | σ, i :: is, v :: vs => setS (σ.set i (some v)) is vs
  | σ, _, _ => σ
section
variable {K : PySem.W.Frag} {p : PL} {G : Addr → Prop} {H0 H H' : Hp} {s s' : Pen}
theorem Rel.pend (gpa : G p.pa) (gca : G p.ca) : ∀ {is : List Nat} {vs : List V} {xs : List Sl} {N : List Addr} {ρ : Env} {σ : L2.St}, Pend K p H0 H (Fo (GN G N) ρ σ) vs xs N → Rel K p (GN G N) H0 ρ σ H s → N.Nodup → (∀ q ∈ N, ¬ G q) → is.length = xs.length → (∀ i ∈ is, i < ρ.length) → Rel K p G H0 (setE ρ is xs) (setS σ is vs) H s
  | [], _, _, N, ρ, σ, pd, r, nd, ng, hl, hi => by
    cases pd with
    | nil =>
      have e : GN G [] = G := funext fun a => propext ⟨fun z => z.resolve_right (by simp), .inl⟩
      rw [e] at r
      exact r
    | dat => cases hl
    | own => cases hl
  | i :: is, _, _, N, ρ, σ, pd, r, nd, ng, hl, hi => by
    cases pd with
    | nil => cases hl
    | dat h t =>
      have r1 := r.put (i := i) (x := .dat _) (o := some _) rfl fun d' e => by cases e; exact ⟨_, rfl, h⟩
      exact Rel.pend (is := is) gpa gca (t.mono fun a z => fo_set rfl z) r1 nd ng (Nat.succ.inj (show is.length.succ = _ from hl)) fun j hj => by rw [List.length_set]; exact hi j (List.mem_cons_of_mem _ hj)
    | own e h0 hz l t =>
      rename_i q ws ds vs xs N
      have eg : GN G (q :: N) = fun a => GN G N a ∨ a = q := funext fun a => propext ⟨fun z => by
        rcases z with z | z
        · exact .inl (.inl z)
        · rcases List.mem_cons.mp
              z with z | z
          · exact .inr z
          · exact .inl (.inr z), fun z => by
        rcases z with (z | z) | z
        · exact .inl z
        · exact .inr (List.mem_cons_of_mem _ z)
        · exact .inr (by rw [z]; exact List.mem_cons_self)⟩
      rw [eg] at r l t
      obtain ⟨n1, n2⟩ :=
          List.nodup_cons.mp nd
      obtain ⟨r1, sub⟩ := r.take (hi i List.mem_cons_self) e h0 (fun z => z.elim (ng q List.mem_cons_self) n1) (.inl gpa) (.inl gca) hz l
      exact Rel.pend (is := is) gpa gca (t.mono sub) r1 n2 (fun a ha => ng a (List.mem_cons_of_mem _ ha)) (Nat.succ.inj (show is.length.succ = _ from hl)) fun j hj => by rw [List.length_set]; exact hi j (List.mem_cons_of_mem _ hj)
end
/-- one after another, data or new lists -/
def seqV {β : Type} : List (Env → M Sl) → Env → (List Sl → M β) → M β
  | [], _, k => k []
  | f :: fs, ρ, k => f ρ >>= fun x => seqV fs ρ fun xs => k (x :: xs)
@[simp] def vD (f : En) : Env → M Sl := fun ρ => f ρ >>= fun d => pure (.dat d)
@[simp] def vN (f : Env → M (List D)) : Env → M Sl := fun ρ => f ρ >>= fun ds => pure (.own (.lst ds))
structure DVs (X : Cx) (p : PL) (es : List Expr) (fs : List (Env → M Sl)) : Prop where
  run : ∀ (β : Type) (k : List Sl → M β) (W : WX) (G : Addr → Prop) (H0 : Hp) (ρ : Env) (σ : L2.St) (H : Hp) (s : Pen) (R : β → Pen → Prop) (Ex : XR) (Q : List V → Hp → Prop), Takes X W → Rel X.K p G H0 ρ σ H s → wpM (seqV fs ρ k) s R Ex →
    (∀ xs s' vs H' N, wpM (k xs) s' R Ex → Af p H H' s' → Rel X.K p (GN G N) H0 ρ σ H' s' → Pend X.K p H0 H' (Fo (GN G N) ρ σ) vs xs N → N.Nodup → (∀ q ∈ N, H q = none) → xs.length = fs.length → Q vs H') → PX X p W G σ H Ex → tA X es σ H Q
section
variable {X : Cx} {p : PL} {e a b : Expr} {es : List Expr} {f : Env → M D} {fl : Env → M (List D)} {fs : List (Env → M Sl)} {pos pos' : Pos}
theorem gn_nil {G : Addr → Prop} : GN G [] = G := funext fun a => propext ⟨fun z => z.resolve_right (by simp), .inl⟩
theorem dv_nil : DVs X p [] [] := ⟨fun β k W G H0 ρ σ H s R Ex Q tk rl hw q px => tA_of pa_nil (show Q [] H from q [] s [] H [] hw (.refl rl.pen) (by rw [gn_nil]; exact rl) .nil .nil (fun _ h => by cases h) rfl)⟩
theorem dv_dat (ha : DE X p e f) (hr : DVs X p es fs) (hs : starEach (e :: es) X.env = (false, eval e X.env) :: starEach es X.env := by rfl) : DVs X p (e :: es) (vD f :: fs) := by
  refine ⟨fun β k W G H0 ρ σ H s R Ex Q tk rl hw q px => tA_of (pa_cons pe_self pa_self hs) ?_⟩
  have hw : wpM ((f ρ >>= fun d => pure (Sl.dat d)) >>= fun x => seqV fs ρ fun xs => k (x :: xs)) s R Ex := hw
  rw [bind_assoc, wp_bind] at hw
  refine ha.run W G H0 ρ σ H s _ Ex _ tk rl hw (fun d s1 v H1 h1 a1 r1 => ?_) px
  refine hr.run β (fun xs => k (.dat d :: xs)) W G H0 ρ σ H1 s1 R Ex _ tk (rl.step a1.st a1.pen) h1 (fun xs s2 vs H2 N h2 a2 rl2 pd nd hn el => ?_) (px.at a1)
  have hn' : ∀ q ∈ N, H q = none := fun q hq => back_none a1 (hn q hq)
  refine q (.dat d :: xs) s2 (v :: vs) H2 N h2 (a1.trans a2) rl2 (.dat ?_ pd) nd hn' (congrArg (· + 1) el)
  refine (r1.more (N := fun a => a ∈ N) hn).mono (a2.st.toF (.inl rl.fpa)) fun a z => ?_
  rcases z with (z | z) | z
  · exact .inl (.inl z)
  · exact .inr z
  · exact .inl (.inr z)
theorem PX.moreG {W : WX} {G G' : Addr → Prop} {σ : L2.St} {H : Hp} {Ex : XR} (h : PX X p W G σ H Ex) (sub : ∀ a, G a → G' a) : PX X p W G' σ H Ex := fun c fs s' dx vfs H' e a x r => h c fs s' dx vfs H' e a x (r.mono (fun _ _ z _ => z) sub)
theorem Rel.moreG {q : Addr} {K : PySem.W.Frag} {G : Addr → Prop} {H0 Hb H : Hp} {ρ : Env} {σ : L2.St} {s s' : Pen} (rb : Rel K p G H0 ρ σ Hb s') (r : Rel K p G H0 ρ σ H s) (hq : Hb q = none) (ex : ∃ o, H q = some o) (st : Step p Hb H) : Rel K p (fun a => G a ∨ a = q) H0 ρ σ H s where
  len := r.len
  dat := fun j d e => by
    obtain ⟨v, q1, q2⟩ := rb.dat j d e
    refine ⟨v, q1, (q2.more (N := fun a => a = q) fun a z => by rw [z]; exact hq).mono (st.toF (.inl r.fpa)) fun a z => ?_⟩
    rcases z with (z | z) | z
    · exact .inl (.inl z)
    · exact .inr z
    · exact .inl (.inr z)
  own := fun j y e hy => by
    obtain ⟨a, q1, q2, q3⟩ := rb.own j y e hy
    have nq : a ≠ q := fun z => by
      obtain ⟨u, hu, _⟩ := q3.there
      rw [z, hq] at hu
      cases hu
    have np : a ≠ p.pa := fun z => rb.gne j y a e hy q1 (by rw [z]; exact rb.gpa)
    refine ⟨a, q1, q2, ?_⟩
    have up : ∀ {vs : List V} {ds : List D}, RepL K p Hb (Fo G ρ σ) vs ds → RepL K p H (Fo (fun a => G a ∨ a = q) ρ σ) vs ds := fun l => (l.more (N := fun a => a = q) fun a z => by rw [z]; exact hq).mono (st.toF (.inl r.fpa)) fun a z => by
      rcases z with (z | z) | z
      · exact .inl (.inl z)
      · exact .inr z
      · exact .inl (.inr z)
    have upF : ∀ {vs : List (Str × V)} {ds : List (Str × D)}, RepF K p Hb (Fo G ρ σ) vs ds → RepF K p H (Fo (fun a => G a ∨ a = q) ρ σ) vs ds := fun l => (l.more (N := fun a => a = q) fun a z => by rw [z]; exact hq).mono (st.toF (.inl r.fpa)) fun a z => by
      rcases z with (z | z) | z
      · exact .inl (.inl z)
      · exact .inr z
      · exact .inl (.inr z)
    have upK : ∀ {vs : List (Key × V)} {ds : List (D × D)}, RepK K p Hb (Fo G ρ σ) vs ds → RepK K p H (Fo (fun a => G a ∨ a = q) ρ σ) vs ds := fun l => (l.more (N := fun a => a = q) fun a z => by rw [z]; exact hq).mono (st.toF (.inl r.fpa)) fun a z => by
      rcases z with (z | z) | z
      · exact .inl (.inl z)
      · exact .inr z
      · exact .inl (.inr z)
    cases y with
    | no => exact q3.elim
    | dat d => exact q3.elim
    | self c fs =>
      obtain ⟨hx, dx, ws, z1, z0, z2⟩ := q3
      exact ⟨hx, dx, ws, st _ _ z1 np, z0, upF z2⟩
    | own d =>
      cases d with
      | lst ds =>
        obtain ⟨ws, z1, z0, z2⟩ := q3
        exact ⟨ws, st _ _ z1 np, z0, up z2⟩
      | dct ds =>
        obtain ⟨ws, z1, z2⟩ := q3
        exact ⟨ws, st _ _ z1 np, upK z2⟩
      | _ => exact q3.elim
  inj := r.inj
  old := r.old
  pen := r.pen
  gpa := .inl r.gpa
  gca := .inl r.gca
  gex := fun a ha => by
    rcases ha with ha | rfl
    · exact r.gex a ha
    · exact ex
  gne := fun j y a e hy e2 z => by
    rcases z with z | rfl
    · exact r.gne j y a e hy e2 z
    · exact rb.fresh hq (.inr ⟨j, y, e, hy, e2⟩)
theorem dv_new (ha : DN X p e fl) (hr : DVs X p es fs) (hs : starEach (e :: es) X.env = (false, eval e X.env) :: starEach es X.env := by rfl) : DVs X p (e :: es) (vN fl :: fs) := by
  refine ⟨fun β k W G H0 ρ σ H s R Ex Q tk rl hw q px => tA_of (pa_cons pe_self pa_self hs) ?_⟩
  have hw : wpM ((fl ρ >>= fun ds => pure (Sl.own (.lst ds))) >>= fun x => seqV fs ρ fun xs => k (x :: xs)) s R Ex := hw
  rw [bind_assoc, wp_bind] at hw
  refine ha.run W G H0 ρ σ H s _ Ex _ tk rl hw (fun ds s1 l ws H1 h1 a1 n1 e1 hz r1 => ?_) px
  have rl1 := rl.step a1.st a1.pen
  have rg : Rel X.K p (fun a => G a ∨ a = l) H0 ρ σ H1 s1 := rl.moreG rl1 n1 ⟨_, e1⟩ a1.st
  refine hr.run β (fun xs => k (.own (.lst ds) :: xs)) W _ H0 ρ σ H1 s1 R Ex _ tk rg h1 (fun xs s2 vs H2 N h2 a2 rl2 pd nd hn el => ?_) ((px.at a1).moreG fun a z => .inl z)
  have hn' : ∀ q ∈ l :: N, H q = none := fun q hq => by
    rcases List.mem_cons.mp
        hq with rfl | hq
    · exact n1
    · exact back_none a1 (hn q hq)
  have eg : GN (fun a => G a ∨ a = l) N = GN G (l :: N) := funext fun a => propext ⟨fun z => by
    rcases z with (z | z) | z
    · exact .inl z
    · exact .inr (by rw [z]; exact List.mem_cons_self)
    · exact .inr (List.mem_cons_of_mem _ z), fun z => by
    rcases z with z | z
    · exact .inl (.inl z)
    · rcases List.mem_cons.mp
          z with z | z
      · exact .inl (.inr z)
      · exact .inr z⟩
  rw [eg] at rl2 pd
  have nl : l ∉ N := fun z => by
    have := hn l z
    rw [e1] at this
    cases this
  have np : l ≠ p.pa := fun z => rl.fresh n1 (by rw [z]; exact .inl rl.gpa)
  have h0 : H0 l = none := by
    cases z : H0 l with
    | none => rfl
    | some o => rw [rl.old l o z np] at n1; cases n1
  refine q (.own (.lst ds) :: xs) s2 (.ref l :: vs) H2 (l :: N) h2 (a1.trans a2) rl2 (.own (a2.st l _ e1 np) h0 hz ?_ pd) (List.nodup_cons.mpr ⟨nl, nd⟩) hn' (congrArg (· + 1) el)
  refine (r1.more (N := fun a => a ∈ N) hn).mono (a2.st.toF (.inl (.inl rl.fpa))) fun a z => ?_
  rcases z with (z | z) | z
  · exact .inl (.inl (.inl z))
  · rcases List.mem_cons.mp
        z with z | z
    · exact .inl (.inr z)
    · exact .inr z
  · exact .inl (.inl (.inr z))
def sParV (is : List Nat) (fs : List (Env → M Sl)) : S := fun k _ _ _ ρ => if is.all (fun i => decide (i < ρ.length)) = true then seqV fs ρ fun xs => k (setE ρ is xs) else bad
theorem parV_run {is : List Nat} {W : WX} {G : Addr → Prop} {H0 : Hp} {ρ : Env} {σ : L2.St} {H : Hp} {s : Pen} {k : Env → M D} {r : D → M D} {b c : Env → M D} {R : D → Pen → Prop} {Ex : XR} {Dn : Ends} (h1 : DVs X p es fs) (tk : Takes X W) (rl : Rel X.K p G H0 ρ σ H s) (hw : wpM (sParV is fs k r b c ρ) s R Ex) (wy : Way X.K p G H0 k r b c R Ex Dn) (px : PXs X.K p W G H0 Ex) (hl : is.length = fs.length) :
    tA X es σ H (fun vs H1 => vs.length = fs.length ∧ Dn.nx (setS σ is vs) H1) := by
  have hw : wpM (if is.all (fun i => decide (i < ρ.length)) = true then seqV fs ρ fun xs => k (setE ρ is xs) else bad) s R Ex := hw
  by_cases hi : is.all (fun i => decide (i < ρ.length)) = true
  case neg => rw [if_neg hi] at hw; exact hw.elim
  rw [if_pos hi] at hw
  refine h1.run D _ W G H0 ρ σ H s R Ex _ tk rl hw (fun xs s1 vs H1 N w1 a1 r1 pd nd hn el => ?_) (px.px rl.old)
  have ng : ∀ q ∈ N, ¬ G q := fun q hq z => rl.fresh (hn q hq) (.inl z)
  refine ⟨?_, wy.nx _ _ H1 s1 (Rel.pend rl.gpa rl.gca pd r1 nd ng (by rw [hl, el]) fun i hi' => of_decide_eq_true (List.all_eq_true.mp hi i hi')) w1⟩
  rw [← el]
  clear w1 el
  generalize hF : Fo (GN G N) ρ σ = F at pd
  clear hF r1 nd ng hn
  induction pd with
  | nil => rfl
  | dat _ _ ih => exact congrArg (· + 1) ih
  | own _ _ _ _ _ ih => exact congrArg (· + 1) ih
theorem ds_par2 {i j : Nat} {x y : Str} {e2 : Expr} {px' py pt pt2 : Pos} {kt k2 : Nat} {f1 f2 : Env → M Sl} (hN : X.N.Nodup) (h1 : DVs X p [e, e2] [f1, f2]) (hi : X.N[i]? = some x := by rfl) (hj : X.N[j]? = some y := by rfl) (hij : i ≠ j := by decide)
    (hx : X.env.scope.names.lookup x = some .local := by rfl) (hy : X.env.scope.names.lookup y = some .local := by rfl) (hc : X.calm = true := by rfl)
    (hw : swappedStores [.Tuple [.Name x px', .Name y py] kt pt] (.Tuple [e, e2] k2 pt2) X.env = pure (some [x, y]) := by rfl)
    (hs : swapsWithSole [.Tuple [.Name x px', .Name y py] kt pt] (.Tuple [e, e2] k2 pt2) pos.line X.env = pure false := by rfl) :
    DS X p (.Assign [.Tuple [.Name x px', .Name y py] kt pt] (.Tuple [e, e2] k2 pt2) pos) (sParV [i, j] [f1, f2]) := by
  refine ⟨fun W G H0 ρ σ H s k r b c R Ex Dn tk rl hww wy px => tS_of (ps_par hc hN hi hj hij hx hy pa_self hw hs) ?_⟩
  refine fun pos pins sh I => thn (parV_run h1 tk rl hww wy px rfl pos pins sh I) fun us s1 ⟨vs, H1, I1, r1, hl, q1⟩ => ⟨vs, H1, I1, r1, ?_⟩
  match vs, hl, q1 with
  | [v, w], _, q1 => exact ⟨v, w, rfl, q1⟩
theorem ds_par3 {i j l : Nat} {x y z : Str} {e2 e3 : Expr} {px' py pz pt pt2 : Pos} {kt k2 : Nat} {f1 f2 f3 : Env → M Sl} (hN : X.N.Nodup) (h1 : DVs X p [e, e2, e3] [f1, f2, f3]) (hi : X.N[i]? = some x := by rfl) (hj : X.N[j]? = some y := by rfl) (hl : X.N[l]? = some z := by rfl) (hij : i ≠ j := by decide) (hil : i ≠ l := by decide) (hjl : j ≠ l := by decide)
    (hx : X.env.scope.names.lookup x = some .local := by rfl) (hy : X.env.scope.names.lookup y = some .local := by rfl) (hz : X.env.scope.names.lookup z = some .local := by rfl) (hc : X.calm = true := by rfl)
    (hw : swappedStores [.Tuple [.Name x px', .Name y py, .Name z pz] kt pt] (.Tuple [e, e2, e3] k2 pt2) X.env = pure (some [x, y, z]) := by rfl)
    (hs : swapsWithSole [.Tuple [.Name x px', .Name y py, .Name z pz] kt pt] (.Tuple [e, e2, e3] k2 pt2) pos.line X.env = pure false := by rfl) :
    DS X p (.Assign [.Tuple [.Name x px', .Name y py, .Name z pz] kt pt] (.Tuple [e, e2, e3] k2 pt2) pos) (sParV [i, j, l] [f1, f2, f3]) := by
  refine ⟨fun W G H0 ρ σ H s k r b c R Ex Dn tk rl hww wy px => tS_of (ps_par3 hc hN hi hj hl hij hil hjl hx hy hz pa_self hw hs) ?_⟩
  refine fun pos pins sh I => thn (parV_run h1 tk rl hww wy px rfl pos pins sh I) fun us s1 ⟨vs, H1, I1, r1, hl, q1⟩ => ⟨vs, H1, I1, r1, ?_⟩
  match vs, hl, q1 with
  | [v, w, u], _, q1 => exact ⟨v, w, u, rfl, q1⟩
end
end Say

namespace Say
open L2 PyProof.Rows PySem.Spec PySem

/-! ### xs.append(ys.pop(e)) -/
def popD (ys : List D) (i : D) : M (D × List D) := match i with
  | .int k => if -1073741824 ≤ k ∧ k < 1073741824 then (match seqIndex? k ys.length with
    | some n => (match ys[n]? with
      | some y => pure (y, ys.eraseIdx n)
      | none => bad)
    | none => bad) else bad
  | _ => bad
def sAppPop (i j : Nat) (f : En) : S := fun k _ _ _ ρ => ownL ρ[i]? >>= fun xs => ownL ρ[j]? >>= fun ys => f ρ >>= fun d => popD ys d >>= fun r => pushD xs r.1 >>= fun zs => k ((ρ.set j (.own (.lst r.2))).set i (.own (.lst zs)))
section
variable {X : Cx} {p : PL} {e a b : Expr} {es : List Expr} {f g fe : Env → M D} {fs : List (Env → M D)} {pos pos' : Pos}
theorem ownL_ok {K : PySem.W.Frag} {G : Addr → Prop} {H0 H : Hp} {ρ : Env} {σ : L2.St} {s : Pen} {α : Type} {i : Nat} {k : List D → M α} {R : α → Pen → Prop} {Ex : XR} (rl : Rel K p G H0 ρ σ H s) (h : wpM (ownL ρ[i]? >>= k) s R Ex) :
    ∃ (xs : List D) (q : Addr) (vs : List V), ρ[i]? = some (.own (.lst xs)) ∧ σ[i]? = some (some (.ref q)) ∧ H0 q = none ∧ q ≠ p.pa ∧ H q = some (.lst vs) ∧ xs.length ≤ 16777216 ∧ RepL K p H (Fo G ρ σ) vs xs ∧ wpM (k xs) s R Ex := by
  cases eo : ρ[i]? with
  | none => rw [eo] at h; exact h.elim
  | some y =>
    rw [eo] at h
    cases y with
    | own d =>
      cases d with
      | lst xs =>
        obtain ⟨q, h1, h2, vs, h3, hz, h4⟩ := rl.own i _ eo rfl
        exact ⟨xs, q, vs, rfl, h1, h2, fun z => rl.gne i _ q eo rfl h1 (by rw [z]; exact rl.gpa), h3, hz, h4, h⟩
      | _ => exact h.elim
    | _ => exact h.elim
theorem pushD_ok {α : Type} {xs : List D} {d : D} {k : List D → M α} {s : Pen} {R : α → Pen → Prop} {Ex : XR} (h : wpM (pushD xs d >>= k) s R Ex) : xs.length < 16777216 ∧ wpM (k (xs ++ [d])) s R Ex := by
  unfold pushD at h
  by_cases hl : xs.length < 16777216
  · rw [if_pos hl] at h
    exact ⟨hl, h⟩
  · rw [if_neg hl] at h
    exact h.elim
theorem popD_ok {α : Type} {ys : List D} {d : D} {k : D × List D → M α} {s : Pen} {R : α → Pen → Prop} {Ex : XR} (h : wpM (popD ys d >>= k) s R Ex) : ∃ (i : Int) (n : Nat) (y : D), d = .int i ∧ -1073741824 ≤ i ∧ i < 1073741824 ∧ seqIndex? i ys.length = some n ∧ ys[n]? = some y ∧ wpM (k (y, ys.eraseIdx n)) s R Ex := by
  cases d with
  | int i =>
    have h : wpM ((if -1073741824 ≤ i ∧ i < 1073741824 then (match seqIndex? i ys.length with | some n => (match ys[n]? with | some y => pure (y, ys.eraseIdx n) | none => bad) | none => bad) else bad) >>= k) s R Ex := h
    by_cases hc : -1073741824 ≤ i ∧ i < 1073741824
    · rw [if_pos hc] at h
      cases e1 : seqIndex? i ys.length with
      | none => rw [e1] at h; exact h.elim
      | some n =>
        rw [e1] at h
        have h : wpM ((match ys[n]? with | some y => pure (y, ys.eraseIdx n) | none => bad) >>= k) s R Ex := h
        cases e2 : ys[n]? with
        | none => rw [e2] at h; exact h.elim
        | some y =>
          rw [e2] at h
          exact ⟨i, n, y, rfl, hc.1, hc.2, e1, e2, h⟩
    · rw [if_neg hc] at h
      exact h.elim
  | _ => exact h.elim
theorem ds_appPop (i j : Nat) {x y : Str} {p1 p2 p3 p4 p5 : Pos} (hij : i ≠ j := by decide) (he : DE X p e fe)
    (hp : PE X (.Call (.Attribute (.Name x p1) "append" p2) [.Call (.Attribute (.Name y p3) "pop" p4) [e] [] p5] [] pos') (tBM X.K "list" rAppend (tVar i) (tCons (tBM X.K "list" rPopAt (tVar j) (tCons (tE X e) tNil)) tNil)))
    (hs : swapsWith (.Call (.Attribute (.Name x p1) "append" p2) [.Call (.Attribute (.Name y p3) "pop" p4) [e] [] p5] [] pos') none pos.line X.env = pure false := by rfl) :
    DS X p (.Expr (.Call (.Attribute (.Name x p1) "append" p2) [.Call (.Attribute (.Name y p3) "pop" p4) [e] [] p5] [] pos') pos) (sAppPop i j fe) := by
  refine ⟨fun W G H0 ρ σ H s k r b c R Ex Dn tk rl hw wy px => tS_of (ps_expr hp hs) ?_⟩
  obtain ⟨xs, q, vs, ei, h1, h2, np, h3, hz, h4, hw⟩ := ownL_ok rl (show wpM (ownL ρ[i]? >>= fun xs => ownL ρ[j]? >>= fun ys => fe ρ >>= fun d => popD ys d >>= fun r => pushD xs r.1 >>= fun zs => k ((ρ.set j (.own (.lst r.2))).set i (.own (.lst zs)))) s R Ex from hw)
  obtain ⟨ys, l, ws, ej, g1, g2, lp, g3, gz, g4, hw⟩ := ownL_ok rl hw
  have nq : q ≠ l := fun z => hij (rl.inj i j _ _ q ei rfl ej rfl h1 (by rw [g1, z]))
  refine ⟨_, h1, .inl ⟨rfl, vs, .inl (.inl h3)⟩, ?_⟩
  refine ⟨_, g1, .inl ⟨rfl, ws, .inl (.inl g3)⟩, ?_⟩
  rw [wp_bind] at hw
  refine he.run W G H0 ρ σ H s _ Ex _ tk rl hw (fun d s1 v H1 w1 a1 r1 => ?_) (px.px rl.old)
  obtain ⟨m, n, d2, ed, b1, b2, e1, e2, w2⟩ := popD_ok w1
  subst ed
  cases r1
  obtain ⟨hl, w3⟩ := pushD_ok w2
  have rl1 := rl.step a1.st a1.pen
  have l4 := g4.mono (a1.st.toF rl.fpa) fun _ z => z
  have m4 := h4.mono (a1.st.toF rl.fpa) fun _ z => z
  obtain ⟨v, q1, q2⟩ := l4.get e2
  refine ⟨l, ws, m, n, v, rfl, rfl, a1.st l _ g3 lp, by omega, by omega, by rw [l4.length]; exact e1, q1, ?_⟩
  have fl : Fo G ρ σ l := .inr ⟨j, _, ej, rfl, g1⟩
  have fq : Fo G ρ σ q := .inr ⟨i, _, ei, rfl, h1⟩
  have st1 : StepF (Fo G ρ σ) H1 (upd H1 l (.lst (ws.eraseIdx n))) := fun a u z w => by
    rw [upd_ne fun y => w (by rw [y]; exact fl)]
    exact z
  have r2 := rl1.updOwn (y := .own (.lst (ys.eraseIdx n))) ej rfl rfl g1 ⟨ws.eraseIdx n, upd_same, Nat.le_trans (List.length_eraseIdx_le _ _) gz, (l4.eraseIdx n).mono st1 fun _ z => z⟩
  have fo2 : ∀ a, Fo G (ρ.set j (.own (.lst (ys.eraseIdx n)))) σ a → Fo G ρ σ a := fun a z => by
    rcases z with z | ⟨t, y, t1, ty, t2⟩
    · exact .inl z
    · rcases get_set t1 with ⟨rfl, rfl, _⟩ | ⟨ne, t1⟩
      · exact .inr ⟨_, _, ej, rfl, t2⟩
      · exact .inr ⟨t, y, t1, ty, t2⟩
  have ei2 : (ρ.set j (.own (.lst (ys.eraseIdx n))))[i]? = some (.own (.lst xs)) := by rw [List.getElem?_set_ne (Ne.symm hij)]; exact ei
  have at2 : upd H1 l (.lst (ws.eraseIdx n)) q = some (.lst vs) := by rw [upd_ne nq]; exact a1.st q _ h3 np
  refine ⟨q, vs, v, rfl, rfl, at2, by rw [m4.length, sizeLine_eq]; exact hl, wy.nx _ σ _ s1 (r2.updOwn (y := .own (.lst (xs ++ [d2]))) ei2 rfl rfl h1 ⟨vs ++ [v], upd_same, by rw [List.length_append]; exact hl, ?_⟩) w3⟩
  refine ((m4.append (.cons q2 .nil)).mono st1 fun _ z => z).mono (fun a u z w => ?_) fo2
  rw [upd_ne fun y => w (by rw [y]; exact fq)]
  exact z
/-! ### xs[i], xs[j] = a, b -/
def putAt (xs : List D) (i d : D) : M (List D) := match i with
  | .int k => (match ixN xs.length k with
    | some n => pure (xs.set n d)
    | none => bad)
  | _ => bad
theorem putAt_ok {α : Type} {xs : List D} {i d : D} {k : List D → M α} {s : Pen} {R : α → Pen → Prop} {Ex : XR} (h : wpM (putAt xs i d >>= k) s R Ex) : ∃ (m : Int) (n : Nat), i = .int m ∧ ixN xs.length m = some n ∧ wpM (k (xs.set n d)) s R Ex := by
  cases i with
  | int m =>
    have h : wpM ((match ixN xs.length m with | some n => pure (xs.set n d) | none => bad) >>= k) s R Ex := h
    cases e : ixN xs.length m with
    | none => rw [e] at h; exact h.elim
    | some n =>
      rw [e] at h
      exact ⟨m, n, rfl, e, h⟩
  | _ => exact h.elim
/-- the store of d, represented by v, at xs[e] -/
def sPut (i : Nat) (f : En) (d : D) (k : Env → M D) (ρ : Env) : M D := ownL ρ[i]? >>= fun xs => f ρ >>= fun x => putAt xs x d >>= fun ys => k (ρ.set i (.own (.lst ys)))
theorem put_run {i : Nat} {W : WX} {G : Addr → Prop} {H0 : Hp} {ρ : Env} {σ : L2.St} {H : Hp} {s : Pen} {k : Env → M D} {v : V} {d : D} {R : D → Pen → Prop} {Ex : XR} {Q : L2.St → Hp → Prop} (he : DE X p e fe) (tk : Takes X W) (rl : Rel X.K p G H0 ρ σ H s) (rv : Rep X.K p H (Fo G ρ σ) v d) (hw : wpM (sPut i fe d k ρ) s R Ex) (px : PXs X.K p W G H0 Ex)
    (q : ∀ ρ' H' s', Rel X.K p G H0 ρ' σ H' s' → wpM (k ρ') s' R Ex → (∀ v d, Rep X.K p H (Fo G ρ σ) v d → Rep X.K p H' (Fo G ρ' σ) v d) → Q σ H') : gSub (tVar i) (tE X e) rSetL v σ H Q := by
  obtain ⟨xs, l, vs, e1, es, h2, np, h3, hz, h4, hw⟩ := ownL_ok rl (show wpM (ownL ρ[i]? >>= fun xs => fe ρ >>= fun x => putAt xs x d >>= fun ys => k (ρ.set i (.own (.lst ys)))) s R Ex from hw)
  refine ⟨_, es, ?_⟩
  rw [wp_bind] at hw
  refine he.run W G H0 ρ σ H s _ Ex _ tk rl hw (fun x s1 u H1 w1 a1 r1 => ?_) (px.px rl.old)
  have rl1 := rl.step a1.st a1.pen
  obtain ⟨m, n, ex, en, w3⟩ := putAt_ok w1
  subst ex
  cases r1
  have fl : Fo G ρ σ l := .inr ⟨i, _, e1, rfl, es⟩
  have st : StepF (Fo G ρ σ) H1 (upd H1 l (.lst (vs.set n v))) := fun a o z w => by
    rw [upd_ne fun y => w (by rw [y]; exact fl)]
    exact z
  have fo2 : ∀ a, Fo G (ρ.set i (.own (.lst (xs.set n d)))) σ a → Fo G ρ σ a := fun a z => by
    rcases z with z | ⟨t, y, t1, ty, t2⟩
    · exact .inl z
    · rcases get_set t1 with ⟨rfl, rfl, _⟩ | ⟨ne, t1⟩
      · exact .inr ⟨_, _, e1, rfl, t2⟩
      · exact .inr ⟨t, y, t1, ty, t2⟩
  have l4 := h4.mono (a1.st.toF rl.fpa) fun _ z => z
  refine ⟨l, vs, m, n, rfl, rfl, a1.st l _ h3 np, by rw [h4.length]; exact en, ?_⟩
  exact q _ _ s1 (rl1.updOwn (y := .own (.lst (xs.set n d))) e1 rfl rfl es ⟨vs.set n v, upd_same, by rw [List.length_set]; exact hz, (l4.set (rv.mono (a1.st.toF rl.fpa) fun _ z => z) n).mono st fun _ z => z⟩) w3 fun v' d' r' => (r'.mono (a1.st.toF rl.fpa) fun _ z => z).mono st fo2
def sStore (i : Nat) (f fv : En) : S := fun k _ _ _ ρ => fv ρ >>= fun d => sPut i f d k ρ
theorem ds_store (i : Nat) {x : Str} {p1 p2 : Pos} (hv : DE X p b g) (he : DE X p e fe) (hp : PG X (.Subscript (.Name x p1) e p2) (gSub (tVar i) (tE X e) rSetL)) (hs : swapsWithSole [.Subscript (.Name x p1) e p2] b pos.line X.env = pure false := by rfl) (hsw : swappedStores [.Subscript (.Name x p1) e p2] b X.env = pure none := by rfl)
    (h1 : (assignEach [.Subscript (.Name x p1) e p2] X.env).map (·.2) = [assign (.Subscript (.Name x p1) e p2) X.env] := by rfl) : DS X p (.Assign [.Subscript (.Name x p1) e p2] b pos) (sStore i fe g) := by
  refine ⟨fun W G H0 ρ σ H s k r bb c R Ex Dn tk rl hw wy px => tS_of (ps_asg pe_self hp hs hsw h1) ?_⟩
  have hw : wpM (g ρ >>= fun d => sPut i fe d k ρ) s R Ex := hw
  rw [wp_bind] at hw
  refine hv.run W G H0 ρ σ H s _ Ex _ tk rl hw (fun d s1 v H1 w1 a1 r1 => ?_) (px.px rl.old)
  exact put_run he tk (rl.step a1.st a1.pen) r1 w1 px fun ρ' H' s' r' w' _ => wy.nx ρ' σ H' s' r' w'
def sStore2 (i : Nat) (f f2 fv fv2 : En) : S := fun k _ _ _ ρ => fv ρ >>= fun d => fv2 ρ >>= fun d2 => sPut i f d (sPut i f2 d2 k) ρ
theorem ds_store2 (i : Nat) {x : Str} {p1 p2 p3 p4 pt pt2 : Pos} {kt k2 : Nat} {e2 b2 : Expr} {fe2 g2 : En} (hv : DE X p b g) (hv2 : DE X p b2 g2) (he : DE X p e fe) (he2 : DE X p e2 fe2)
    (hp : PG X (.Tuple [.Subscript (.Name x p1) e p2, .Subscript (.Name x p3) e2 p4] kt pt) (gTup X.K 2 (gCons (gSub (tVar i) (tE X e) rSetL) (gCons (gSub (tVar i) (tE X e2) rSetL) gNil))))
    (hse : starEach (b :: [b2]) X.env = (false, eval b X.env) :: starEach [b2] X.env := by rfl) (hse2 : starEach (b2 :: []) X.env = (false, eval b2 X.env) :: starEach [] X.env := by rfl)
    (hs : swapsWithSole [.Tuple [.Subscript (.Name x p1) e p2, .Subscript (.Name x p3) e2 p4] kt pt] (.Tuple [b, b2] k2 pt2) pos.line X.env = pure false := by rfl) (hsw : swappedStores [.Tuple [.Subscript (.Name x p1) e p2, .Subscript (.Name x p3) e2 p4] kt pt] (.Tuple [b, b2] k2 pt2) X.env = pure none := by rfl)
    (h1 : (assignEach [.Tuple [.Subscript (.Name x p1) e p2, .Subscript (.Name x p3) e2 p4] kt pt] X.env).map (·.2) = [assign (.Tuple [.Subscript (.Name x p1) e p2, .Subscript (.Name x p3) e2 p4] kt pt) X.env] := by rfl) :
    DS X p (.Assign [.Tuple [.Subscript (.Name x p1) e p2, .Subscript (.Name x p3) e2 p4] kt pt] (.Tuple [b, b2] k2 pt2) pos) (sStore2 i fe fe2 g g2) := by
  refine ⟨fun W G H0 ρ σ H s k r bb c R Ex Dn tk rl hw wy px => tS_of (ps_asg (pe_tup (pa_cons pe_self (pa_cons pe_self pa_nil hse2) hse)) hp hs hsw h1) ?_⟩
  have hw : wpM (g ρ >>= fun d => g2 ρ >>= fun d2 => sPut i fe d (sPut i fe2 d2 k) ρ) s R Ex := hw
  rw [wp_bind] at hw
  refine hv.run W G H0 ρ σ H s _ Ex _ tk rl hw (fun d s1 v H1 w1 a1 r1 => ?_) (px.px rl.old)
  rw [wp_bind] at w1
  have rl1 := rl.step a1.st a1.pen
  refine hv2.run W G H0 ρ σ H1 s1 _ Ex _ tk rl1 w1 (fun d2 s2 v2 H2 w2 a2 r2 => ?_) (px.px rl1.old)
  have rl2 := rl1.step a2.st a2.pen
  refine ⟨by show 2 ≤ sizeLine; decide, fun t ht => ?_⟩
  have sm := same_new (o := .tup [v, v2]) ht
  have st3 := same_step (p := p) sm
  have rl3 := rl2.step st3 (rl2.pen.same sm)
  refine ⟨t, [v, v2], rfl, .inl (.inl upd_same), rfl, v, [v2], rfl, ?_⟩
  refine put_run he tk rl3 ((r1.mono (a2.st.toF rl.fpa) fun _ z => z).mono (st3.toF rl.fpa) fun _ z => z) w2 px fun ρ' H' s' r' w' up => ⟨v2, [], rfl, ?_⟩
  refine put_run he2 tk r' (up _ _ (r2.mono (st3.toF rl.fpa) fun _ z => z)) w' px fun ρ3 H3 s3 r3 w3 _ => ⟨rfl, wy.nx ρ3 σ H3 s3 r3 w3⟩
end
end Say

namespace Say
open L2 PyProof.Rows PySem.Spec PySem

/-! ### making an instance -/
def SpI (K : PySem.W.Frag) (c : Str) (n : Nat) (m : List D → M D) : Sp := fun vs H Q E => ∃ (p : PL) (G : Addr → Prop) (ds : List D) (s : Pen) (x dx : Addr) (H0 : Hp) (ws : List V), vs = .ref x :: ws ∧ H0 x = none ∧ H0 dx = none ∧ dx ≠ x ∧ H = upd (upd H0 dx (.own x)) x (.ins (He.ga K c) dx []) ∧
  G p.pa ∧ G p.ca ∧ (∀ a, G a → ∃ o, H0 a = some o) ∧ PenAt H0 p s ∧ ws.length = n ∧ RepL K p H0 G ws ds ∧
  wpM (m ds) s (fun d s' => ∀ H', Af p H0 H' s' → Rep K p H' G (.ref x) d → Q .non H') (fun c' fs s' => ∀ dx vfs H', Af p H0 H' s' → ExD H' dx vfs → RepF K p H' G vfs fs → E (.ref (He.ga K c')) (some dx) H')
def startI (N : List Str) (c : Str) (ds : List D) : Env := .self c [] :: (ds.map Sl.dat ++ List.replicate (N.length - (ds.length + 1)) .no)
def slSelf : Option Sl → M D
  | some (.self c fs) => pure (.ins c fs)
  | _ => bad
def kSelf (ρ : Env) : M D := slSelf ρ[0]?
def runI (N : List Str) (c : Str) (f : S) (ds : List D) : M D := f kSelf (fun _ => bad) (fun _ => bad) (fun _ => bad) (startI N c ds)
theorem startI_get {N : List Str} {c : Str} {ds : List D} {i : Nat} {x : Sl} (h : (startI N c ds)[i]? = some x) : (i = 0 ∧ x = .self c []) ∨ (∃ j d, i = j + 1 ∧ ds[j]? = some d ∧ x = .dat d) ∨ x = .no := by
  cases i with
  | zero => cases h; exact .inl ⟨rfl, rfl⟩
  | succ j =>
    have h : (ds.map Sl.dat ++ List.replicate (N.length - (ds.length + 1)) Sl.no)[j]? = some x := h
    by_cases hj : j < (ds.map Sl.dat).length
    · rw [List.getElem?_append_left hj, List.getElem?_map] at h
      cases e : ds[j]? with
      | none => rw [e]
          at h; cases h
      | some d => rw [e] at h; cases h; exact .inr (.inl ⟨j, d, rfl, e, rfl⟩)
    · rw [List.getElem?_append_right (by omega)] at h
      exact .inr (.inr (List.eq_of_mem_replicate (List.mem_of_getElem? h)))
section
variable {K : PySem.W.Frag} {p : PL} {G : Addr → Prop} {H0 H : Hp} {s : Pen}
theorem PenAt.swap {p' : PL} (h : PenAt H p s) (e1 : p.pa = p'.pa) (e2 : p.ca = p'.ca) : PenAt H p' s := by
  obtain ⟨a, b, d⟩ := p
  obtain ⟨a', b', d'⟩ := p'
  cases e1
  cases e2
  exact ⟨h.dict, h.cells, h.ok⟩
theorem rel_startI {N : List Str} {c : Str} {ws : List V} {ds : List D} {x dx : Addr} (h1 : H0 x = none) (h2 : H0 dx = none) (h3 : dx ≠ x) (gpa : G p.pa) (gca : G p.ca) (gex : ∀ a, G a → ∃ o, H0 a = some o) (pn : PenAt H0 p s) (r : RepL K p H0 G ws ds) :
    Rel K { p with sx := x } G H0 (startI N c ds) (L2.start N (.ref x :: ws)) (upd (upd H0 dx (.own x)) x (.ins (He.ga K c) dx [])) s := by
  have keep : ∀ a o, H0 a = some o → upd (upd H0 dx (.own x)) x (.ins (He.ga K c) dx []) a = some o := fun a o e => by
    rw [upd_ne (ne_of_none e h1), upd_ne (ne_of_none e h2)]
    exact e
  have ng : ¬ G x := fun z => by
    obtain ⟨o, e⟩ := gex x z
    rw [h1] at e
    cases e
  have only : ∀ (i : Nat) (y : Sl), (startI N c ds)[i]? = some y → y.held = true → i = 0 ∧ y = .self c [] := fun i y e hy => by
    rcases startI_get e with z | ⟨j, d, _, _, z⟩ | z
    · exact z
    · rw [z] at hy; cases hy
    · rw [z] at hy; cases hy
  have fo : ∀ a, Fo G (startI N c ds) (L2.start N (.ref x :: ws)) a → G a ∨ a = x := fun a z => by
    rcases z with z | ⟨i, y, e, hy, e2⟩
    · exact .inl z
    · obtain ⟨rfl, rfl⟩ := only i y e hy
      cases e2
      exact .inr rfl
  refine ⟨by unfold startI L2.start; simp [r.length], fun i d e => ?_, fun i y e hy => ?_, fun i j y z a e hy e2 hz _ _ => ?_, fun a o e _ => keep a o e, ⟨keep _ _ pn.dict, keep _ _ pn.cells, pn.ok⟩, gpa, gca, fun a ha => (gex a ha).elim fun o e => ⟨o, keep a o e⟩, fun i y a e hy e2 => ?_⟩
  · rcases startI_get e with ⟨_, z⟩ | ⟨j, d', rfl, e1, z⟩ | z
    · cases z
    · cases z
      obtain ⟨v, q1, q2⟩ := r.get e1
      refine ⟨v, ?_, ((Rep.swap (p := p) (p' := { p with sx := x }) rfl q2).more (N := fun a => a = x) fun a z => by rw [z]; exact h1).mono (fun a o e _ => keep a o e) fo⟩
      have hl : j < ws.length := (List.getElem?_eq_some_iff.mp q1).1
      show ((V.ref x :: ws).map some ++ List.replicate (N.length - (V.ref x :: ws).length) none)[j + 1]? = _
      rw [List.getElem?_append_left (by rw [List.length_map]; exact Nat.succ_lt_succ hl), List.getElem?_map, List.getElem?_cons_succ, q1]
      rfl
    · cases z
  · obtain ⟨rfl, rfl⟩ := only i y e hy
    exact ⟨x, rfl, h1, rfl, dx, [], upd_same, Nat.zero_le _, .nil⟩
  · rw [(only i y e hy).1, (only j z e2 hz).1]
  · obtain ⟨rfl, rfl⟩ := only i y e hy
    cases e2
    exact ng
end
structure HasI (P : Program) (w : World) (K : PySem.W.Frag) (mg : Str → Option Value) (base : Heap) (k : Nat) (x : Str) (n : Nat) (m : List D → M D) : Prop where
  ex : ∃ (f : Addr) (fd : FuncData) (ps : List Str), Mk K (He.ga K x) f ∧ mg x = some (.ref (He.ga K x)) ∧ Binds K fd ps [] ∧ ps.length = n + 1 ∧ FnOk P w K mg base (L2.CX P w) k f fd ps (SpI K x n m)
section
variable {P : Program} {w : World} {K :
    PySem.W.Frag} {mg : Str → Option Value} {base : Heap}
theorem init_has {x : Str} {qual : Str} {st : Stmt} {f : Addr} {fd : FuncData} {N ps : List Str} {k n : Nat} {fS : S} (F : FunD K "__init__" qual (defArgs st) (defBody st) (defScope st) [] [] f fd) (Sc : FnScope N ps (defScope st)) (mk : Mk K (He.ga K x) f) (gm : mg x = some (.ref (He.ga K x))) (hb : Binds K fd ps []) (hn : ps.length = n + 1)
    (body : ∀ (cdv : Value) (A : Around) (outer : List PySem.Env) (s : Shared) (H : Hp) (E : XK) (p : PL), Room k (A.deeper (envOfC qual (defScope st) s.heap.objs.size f cdv)) →
      DSs (cxOf (L2.CX P w) P w K mg base N qual (defScope st) f cdv A outer s H E) p (defBody st) fS) : HasI P w K mg base (k + 1) x n (runI N x fS) := by
  refine ⟨⟨f, fd, ps, mk, gm, hb, hn, F.ok Sc (fun vs H Q E h => ?_) fun cdv A outer s H vs Q E hr h => ⟨_, pss_self, ?_⟩⟩⟩
  · obtain ⟨p, G, ds, s, x', dx, H0, ws, e, _, _, _, _, _, _, _, _, hl, _⟩ := h
    rw [e, List.length_cons, hl, hn]
  · obtain ⟨p, G, ds, sp, x', dx, H0, ws, rfl, h1, h2, h3, rfl, gpa, gca, gex, pn, hl, r, hw⟩ := h
    refine (body cdv A outer s _ E { p with sx := x' } hr).run (fun cls d _ H' => E cls d H') G H0 (startI N x ds) (L2.start N (.ref x' :: ws)) _ sp _ _ _ _ _ _ _ (takes_of rfl rfl rfl rfl) (rel_startI h1 h2 h3 gpa gca gex pn r) hw
      ⟨fun ρ σ H' s' rl w1 => ?_, fun d s' v H' st pn' rp w1 => w1.elim, fun ρ σ H' s' rl w1 => w1.elim, fun ρ σ H' s' rl w1 => w1.elim⟩ fun c fs s' σ dx vfs H' he st pn' xd rf => he dx vfs H' ⟨st, pn'.swap rfl rfl⟩ xd (RepF.swap (K := K) (p := { p with sx := x' }) (p' := p) rfl rf)
    have w1 : wpM (slSelf ρ[0]?) s' (fun d s' => ∀ H', Af p H0 H' s' → Rep K p H' G (.ref x') d → Q .non H') _ := w1
    cases e0 : ρ[0]? with
    | none => rw [e0] at w1; exact w1.elim
    | some y =>
      rw [e0] at w1
      cases y with
      | self c fs =>
        obtain ⟨a, q1, q2, q3, dx', vfs, q4, q5, q6⟩ := rl.own 0 _ e0 rfl
        cases q3
        exact w1 H' ⟨rl.old, rl.pen.swap rfl rfl⟩ (.ins q4 (rl.gne 0 _ _ e0 rfl q1) ((RepF.swap (K := K) (p := { p with sx := x' }) (p' := p) rfl q6).mono (fun _ _ z _ => z) fun _ z => .inl z))
      | _ => exact w1.elim
end
section
variable {X : Cx} {p : PL} {e a b : Expr} {es : List Expr} {f g fe : Env → M D} {fs : List (Env → M D)} {pos pos' : Pos} {k n : Nat} {x : Str} {m : List D → M D}
theorem run_makeS {CX : CXT} {C f : Addr} {fd : FuncData} {ps : List Str} {sp : Sp} {E : XK} {pins : List (Addr × Obj)} {σ : L2.St} {H : Hp} {s : Shared} {Q : VK} {us : List Value} {vs : List V} (mk : Mk X.K C f) (F : FnOk X.prog X.w X.K X.mg X.base CX k f fd ps sp) (hr : Room (k + 1) X.A) (hb : Binds X.K fd ps []) (hx : PassesAt CX X σ E)
    (I : Inv X pins σ H s) (r : Vals vs us) (h : ∀ x dx, H x = none → H dx = none → dx ≠ x → sp (.ref x :: vs) (upd (upd H dx (.own x)) x (.ins C dx [])) (fun v H2 => v = .non ∧ Q (.ref x) H2) E) : wpAny (model X.prog X.w) X.A (call (.ref C) us) (EP X pins σ Q) X.xe s := by
  let q := s.heap.objs.size
  have wish := h (q + 1) q (I.hok.fresh (Nat.le_succ q)) (I.hok.fresh (Nat.le_refl q)) (Nat.ne_of_lt (Nat.lt_succ_self q))
  have J := Inv.made (C := C) I
  have rr : Vals (V.ref (q + 1) :: vs) (Value.ref (q + 1) :: us) := .cons rfl r
  have len : (Value.ref (q + 1) :: us).length = ps.length := rr.length.symm.trans (F.len _ _ _ _ wish)
  have bnd := hb _ (Value.ref (q + 1) :: us) J.kIn (by rw [List.append_nil]; exact len)
  rw [List.append_nil] at bnd
  refine wpAny_call (make_map (f := f) I.kIn mk.makes mk.init (beq_iff_eq.mp mk.fn) (codeAny_mono (F.run _ X.stack _ _ ⟨Value.ref (q + 1) :: us, []⟩ (Value.ref (q + 1) :: us) _ _ E (hr.make C us []) (J.env0.make C us []) bnd rr wish) fun res s' got => ?_))
  match res, got with
  | .error e, got => exact hx pins _ _ e s' J got
  | .ok (.ret u), got =>
    obtain ⟨v, H', J', rv, ev, fin⟩ := J.after got
    subst ev
    exact ⟨rv, ⟨V.ref (q + 1), H', J', rfl, fin⟩⟩
  | .ok .next, got => exact False.elim got
  | .ok .brk, got => exact False.elim got
  | .ok .cont, got => exact False.elim got
theorem de_make (h : HasI X.prog X.w X.K X.mg X.base k x n m) (hr : Room (k + 1) X.A) (ha : DA X p (e :: es) fs) (hn : fs.length = n := by rfl) (hg : Gl X x := by rfl) (hdb : (x == ("__debug__" : Str)) = false := by decide)
    (he : starEach (e :: es) X.env = (false, eval e X.env) :: starEach es X.env := by rfl) (hpl : (backTo pos (starEach es X.env)).any (·.1) = false := by rfl) : DE X p (.Call (.Name x pos') (e :: es) [] pos) (fun ρ => seqA fs ρ m) := by
  obtain ⟨f, fd, ps, mk, gm, hb, hl, F⟩ := h.ex
  refine ⟨fun W G H0 ρ σ H s R Ex Q tk rl hw q px => ?_⟩
  refine fun pins sh I => wpAny_Call_Name_kw (ld_glob I hg gm ?_ hdb)
  have args := ha.run D m W G H0 ρ σ H s R Ex (fun vs H1 => ∀ x' dx, H1 x' = none → H1 dx = none → dx ≠ x' → SpI X.K x n m (.ref x' :: vs) (upd (upd H1 dx (.own x')) x' (.ins (He.ga X.K x) dx [])) (fun v H2 => v = .non ∧ Q (.ref x') H2) (fun c d H' => W c d σ H')) tk rl hw (fun ds s1 vs H1 h1 a1 r1 en x' dx n1 n2 n3 => ?_) px
  · refine PySem.W.callWith_K (h₀ := X.base) I.ok.mod.kin mk.kp (thn (args pos pins sh I) fun us s1 ⟨vs, H1, I1, r, q⟩ => ⟨I1.kIn, ?_⟩) he hpl
    exact run_makeS mk F hr hb (passAt tk σ) I1 r q
  · have rl1 := rl.step a1.st a1.pen
    refine ⟨p, Fo G ρ σ, ds, s1, x', dx, H1, vs, rfl, n1, n2, n3, rfl, rl.fpa, .inl rl.gca, fun a ha => ?_, a1.pen, by rw [r1.length, en, hn], r1, ?_⟩
    · cases z : H1 a with
      | some o => exact ⟨o, rfl⟩
      | none => exact (rl1.fresh z ha).elim
    · refine wp_mono (R := R) (Ex := Ex) ?_ (fun d s2 hR => ?_) fun c fs s2 hE dx' vfs H2 a2 x2 r2 => px c fs s2 dx' vfs H2 hE (a1.trans a2) x2 (r2.mono (fun _ _ z _ => z) fun _ z => .inl z)
      · exact h1
      · exact fun H2 a2 r2 => ⟨rfl, q d s2 _ H2 hR (a1.trans a2) r2⟩
/-! ### self.f = e -/
def selfPut (cs : List Str) (f : Str) (d : D) (k : Env → M D) (ρ : Env) : Option Sl → M D
  | some (.self c vs) => if cs.contains c = true ∧ vs.length < 900 then k (ρ.set 0 (.self c (putD f d vs))) else bad
  | _ => bad
def sFldS (cs : List Str) (f : Str) (fe : En) : S := fun k _ _ _ ρ => fe ρ >>= fun d => selfPut cs f d k ρ ρ[0]?
theorem putF_len (f : Str) (v : V) : ∀ vs : List (Str × V), (putF f v vs).length ≤ vs.length + 1
  | [] => Nat.le_refl _
  | (g, x) :: r => by
    show (if g = f then (g, v) :: r else (g, x) :: putF f v r).length ≤ _
    by_cases e : g = f
    · rw [if_pos e]
      exact Nat.le_succ _
    · rw [if_neg e]
      exact Nat.succ_le_succ (putF_len f v r)
theorem ds_fld {cs fsn : List Str} {f : Str} {y : Str} {p1 p2 : Pos} (kl : Kls X.K cs fsn) (he : DE X p e fe) (hx : fsn.contains f = true := by decide +kernel) (hp : PE X (.Name y p1) (tVar 0) := by exact pv _) (hs : swapsWith e (some (.Attribute (.Name y p1) f p2)) pos.line X.env = pure false := by rfl) :
    DS X p (.Assign [.Attribute (.Name y p1) f p2] e pos) (sFldS cs f fe) := by
  refine ⟨fun W G H0 ρ σ H s k r b c R Ex Dn tk rl hw wy px => tS_of (ps_fld hp pe_self hs) ?_⟩
  have hw : wpM (fe ρ >>= fun d => selfPut cs f d k ρ ρ[0]?) s R Ex := hw
  rw [wp_bind] at hw
  refine he.run W G H0 ρ σ H s _ Ex _ tk rl hw (fun d s1 v H1 h1 a1 r1 => ?_) (px.px rl.old)
  have rl1 := rl.step a1.st a1.pen
  cases e0 : ρ[0]? with
  | none => rw [e0] at h1; exact h1.elim
  | some z =>
    rw [e0] at h1
    cases z with
    | self c vs =>
      have h1 : wpM (if cs.contains c = true ∧ vs.length < 900 then k (ρ.set 0 (.self c (putD f d vs))) else bad) s1 R Ex := h1
      by_cases hc : cs.contains c = true ∧ vs.length < 900
      case neg => rw [if_neg hc] at h1; exact h1.elim
      rw [if_pos hc] at h1
      obtain ⟨hcl, hno⟩ := kl c (by simpa using hc.1)
      obtain ⟨a, q1, q2, q3, dx, ws, q4, q5, q6⟩ := rl1.own 0 _ e0 rfl
      refine ⟨_, q1, a, _, dx, ws, rfl, q4, hcl, hno f (by simpa using hx), by omega, ?_⟩
      have fa : Fo G ρ σ a := .inr ⟨0, _, e0, rfl, q1⟩
      refine wy.nx _ σ _ s1 (rl1.updOwn (y := .self c (putD f d vs)) e0 rfl rfl q1 ⟨q3, dx, putF f v ws, upd_same, ?_, ?_⟩) h1
      · have := putF_len f v ws
        have := q6.length
        omega
      · refine (q6.put r1).mono (fun b o w n => ?_) fun _ z => z
        rw [upd_ne fun z => n (by rw [z]; exact fa)]
        exact w
    | _ => exact h1.elim
end
end Say

namespace Say
open L2 PyProof.Rows PySem.Spec PySem

/-! ### the pen, by its fields -/
inductive PF where
  | at | dig | cnt | fld
def PF.key : PF → Str
  | .at => "at"
  | .dig => "digits"
  | .cnt => "count"
  | .fld => "fold"
def PF.get : PF → Pen → Int
  | .at, s => (s.pos : Int)
  | .dig, s => s.digits
  | .cnt, s => s.count
  | .fld, s => s.fold
def PF.put : PF → Int → Pen → Pen
  | .at, i, s => { s with pos := i.toNat }
  | .dig, i, s => { s with digits := i }
  | .cnt, i, s => { s with count := i }
  | .fld, i, s => { s with fold := i }
def PF.may : PF → Int → Bool
  | .fld, i => decide (0 ≤ i ∧ i < 2147483563)
  | _, i => decide (0 ≤ i)
def getP (f : PF) : M D := fun s => .ok (.int (f.get s)) s
def putP (f : PF) (i : Int) : M Unit := fun s => .ok () (f.put i s)
def setP (f : PF) : D → M Unit
  | .int i => if f.may i = true then putP f i else bad
  | _ => bad
def isPen : Option Sl → M Unit
  | some (.dat .pen) => pure ()
  | _ => bad
section
variable {X : Cx} {p : PL} {e a b : Expr} {es : List Expr} {f g fe : Env → M D} {pos pos' : Pos} {k : Nat}
theorem isPen_ok {K : PySem.W.Frag} {G : Addr → Prop} {H0 H : Hp} {ρ : Env} {σ : L2.St} {s : Pen} {α : Type} {i : Nat} {k : M α} {R : α → Pen → Prop} {Ex : XR} (rl : Rel K p G H0 ρ σ H s) (h : wpM (isPen ρ[i]? >>= fun _ => k) s R Ex) : σ[i]? = some (some (.ref p.pa)) ∧ wpM k s R Ex := by
  cases e : ρ[i]? with
  | none => rw [e] at h; exact h.elim
  | some y =>
    rw [e] at h
    cases y with
    | dat d =>
      cases d with
      | pen =>
        obtain ⟨v, h1, h2⟩ := rl.dat i _ e
        cases h2
        exact ⟨h1, h⟩
      | _ => exact h.elim
    | _ => exact h.elim
theorem penV (f : PF) (s : Pen) : valV (penKV p s) (.inr f.key) = some (.int (f.get s)) := by
  cases f <;> rfl
theorem penC (s : Pen) : valV (penKV p s) (.inr ("cells" : Str)) = some (.ref p.ca) := rfl
theorem penPut (f : PF) {i : Int} (s : Pen) (h : f.may i = true) : putK (penKV p s) (.inr f.key) (.int i) = penKV p (f.put i s) := by
  cases f with
  | «at» =>
    have h0 : 0 ≤ i := of_decide_eq_true (p := 0 ≤ i) h
    have e : ((i.toNat : Nat) : Int)
        = i := Int.toNat_of_nonneg h0
    show _ = ([(.inr "cells", V.ref p.ca), (.inr "at", .int ((i.toNat : Nat) : Int)), (.inr "digits", .int s.digits), (.inr "count", .int s.count), (.inr "fold", .int s.fold)] : List (Key × V))
    rw [e]
    rfl
  | _ => rfl
def dPen (i : Nat) (f : PF) : En := fun ρ => isPen ρ[i]? >>= fun _ => getP f
def lenP : M D := fun s => .ok (.int (s.cells.length : Int)) s
def dPenLen (i : Nat) : En := fun ρ => isPen ρ[i]? >>= fun _ => lenP
def getCells : M (List Int) := fun s => .ok s.cells s
def cellM : D → M D
  | .int k => getCells >>= fun cs => lift ((L2.atI cs k).map D.int)
  | _ => bad
def dPenCell (i : Nat) (f : En) : En := fun ρ => isPen ρ[i]? >>= fun _ => f ρ >>= cellM
theorem de_pen (i : Nat) {y : Str} {j : Nat} {p1 p2 : Pos} {f : PF} (hr : Room k X.A) (hp : PE X (.Name y p1) (tVar i) := by exact pv _) (hs : NoSl (.Constant (.str f.key) j p2) := by exact fun _ _ => rfl) : DE X p (.Subscript (.Name y p1) (.Constant (.str f.key) j p2) pos) (dPen i f) := by
  refine ⟨fun W G H0 ρ σ H s R Ex Q tk rl hw q px => tE_of (pe_dget (hu_of hr) hp pe_str hs) ?_⟩
  obtain ⟨h1, h2⟩ := isPen_ok rl hw
  refine ⟨_, h1, p.pa, .int (f.get s), rfl, ?_, q (.int (f.get s)) s _ H h2 (.refl rl.pen) (.int _)⟩
  rw [← penV (p := p) f s]
  exact DGet.k (k := .inr f.key) rl.pen.dict
theorem de_penLen (i : Nat) {y : Str} {j : Nat} {p1 p2 p3 p4 : Pos} (hr : Room k X.A) (hm : X.mg "len" = none) (hp : PE X (.Name y p1) (tVar i) := by exact pv _) (hs : NoSl (.Constant (.str "cells") j p2) := by exact fun _ _ => rfl) (hg : Gl X "len" := by rfl)
    (he : starEach [.Subscript (.Name y p1) (.Constant (.str "cells") j p2) p3] X.env = (false, eval (.Subscript (.Name y p1) (.Constant (.str "cells") j p2) p3) X.env) :: starEach [] X.env := by rfl) (hpl : (backTo pos (starEach [] X.env)).any (·.1) = false := by rfl) :
    DE X p (.Call (.Name "len" p4) [.Subscript (.Name y p1) (.Constant (.str "cells") j p2) p3] [] pos) (dPenLen i) := by
  refine ⟨fun W G H0 ρ σ H s R Ex Q tk rl hw q px => tE_of (pe_callB (call_len_seq.or call_len_str) hg hm boot_len (pa_cons (pe_dget (hu_of hr) hp pe_str hs) pa_nil he) (by decide) (by decide) he hpl) ?_⟩
  obtain ⟨h1, h2⟩ := isPen_ok rl hw
  refine ⟨_, h1, p.pa, .ref p.ca, rfl, ?_, ?_⟩
  · rw [← penC (p := p) s]
    exact DGet.k (k := .inr "cells") rl.pen.dict
  · have := q (.int (s.cells.length : Int)) s (.int (s.cells.length : Int)) H h2 (.refl rl.pen) (.int _)
    exact .inl ⟨_, _, rfl, .inl (.inl (.inl rl.pen.cells)), by rw [List.length_map]; exact this⟩
theorem de_penCell (i : Nat) {y : Str} {j : Nat} {p1 p2 p3 : Pos} (hr : Room k X.A) (he : DE X p e f) (hp : PE X (.Name y p1) (tVar i) := by exact pv _) (hs : NoSl (.Constant (.str "cells") j p2) := by exact fun _ _ => rfl) (hs2 : PlainIx e := by exact fun _ _ => rfl) :
    DE X p (.Subscript (.Subscript (.Name y p1) (.Constant (.str "cells") j p2) p3) e pos) (dPenCell i f) := by
  refine ⟨fun W G H0 ρ σ H s R Ex Q tk rl hw q px => tE_of (pe_ix ix_list (pe_dget (hu_of hr) hp pe_str hs) pe_self hs2) ?_⟩
  obtain ⟨h1, h2⟩ := isPen_ok rl hw
  refine ⟨_, h1, p.pa, .ref p.ca, rfl, ?_, ?_⟩
  · rw [← penC (p := p) s]
    exact DGet.k (k := .inr "cells") rl.pen.dict
  · rw [wp_bind] at h2
    refine he.run W G H0 ρ σ H s _ Ex _ tk rl h2 (fun d s1 v H1 w1 a1 r1 => ?_) px
    cases d with
    | int m =>
      cases r1
      have w1 : wpM (lift ((L2.atI s1.cells m).map D.int)) s1 R Ex := w1
      cases ec : L2.atI s1.cells m with
      | none => rw [ec] at w1; exact w1.elim
      | some c =>
        rw [ec] at w1
        refine ⟨p.ca, s1.cells.map V.int, m, .int c, rfl, rfl, .inl (.inl a1.pen.cells), ?_, q (.int c) s1 _ H1 w1 a1 (.int _)⟩
        unfold L2.atI at ec ⊢
        rw [List.length_map]
        cases en : ixN s1.cells.length m with
        | none => rw [en] at ec; cases ec
        | some n =>
          rw [en] at ec
          have ec : s1.cells[n]? = some c := ec
          show (s1.cells.map V.int)[n]? = _
          rw [List.getElem?_map, ec]
          rfl
    | _ => exact w1.elim
def sPenSet (i : Nat) (f : PF) (fe : En) : S := fun k _ _ _ ρ => fe ρ >>= fun d => isPen ρ[i]? >>= fun _ => setP f d >>= fun _ => k ρ
theorem ds_penSet (i : Nat) {y : Str} {j : Nat} {p1 p2 p3 : Pos} {f : PF} (hr : Room k X.A) (he : DE X p e fe) (hp : PE X (.Name y p1) (tVar i) := by exact pv _) (hs : swapsWith e (some (.Subscript (.Name y p1) (.Constant (.str f.key) j p2) p3)) pos.line X.env = pure false := by rfl) :
    DS X p (.Assign [.Subscript (.Name y p1) (.Constant (.str f.key) j p2) p3] e pos) (sPenSet i f fe) := by
  refine ⟨fun W G H0 ρ σ H s k r b c R Ex Dn tk rl hw wy px => tS_of (ps_dput (hu_of hr) hp pe_str pe_self hs) ?_⟩
  have hw : wpM (fe ρ >>= fun d => isPen ρ[i]? >>= fun _ => setP f d >>= fun _ => k ρ) s R Ex := hw
  rw [wp_bind] at hw
  refine he.run W G H0 ρ σ H s _ Ex _ tk rl hw (fun d s1 v H1 w1 a1 r1 => ?_) (px.px rl.old)
  have rl1 := rl.step a1.st a1.pen
  obtain ⟨h1, w2⟩ := isPen_ok rl1 w1
  refine ⟨_, h1, ?_⟩
  cases d with
  | int m =>
    cases r1
    have w2 : wpM ((if f.may m = true then putP f m else bad) >>= fun _ => k ρ) s1 R Ex := w2
    by_cases hm : f.may m = true
    · rw [if_pos hm] at w2
      have w2 : wpM (k ρ) (f.put m s1) R Ex := w2
      refine ⟨p.pa, _, rfl, DPut.k (k := .inr f.key) rl1.pen.dict (by show 5 < sizeLine; decide), ?_⟩
      rw [penPut (p := p) f s1 hm]
      have pn : PenAt (upd H1 p.pa (.dK (penKV p (f.put m s1)))) p (f.put m s1) := by
        refine ⟨upd_same, ?_, ?_⟩
        · rw [upd_ne rl1.pen.ne]
          have := rl1.pen.cells
          cases f <;> exact this
        · obtain ⟨o1, o2, o3, o4, o5⟩ := rl1.pen.ok
          cases f with
          | «at» => exact ⟨o1, o2, o3, o4, o5⟩
          | dig => exact ⟨o1, of_decide_eq_true (p := 0 ≤ m) hm, o3, o4, o5⟩
          | cnt => exact ⟨o1, o2, of_decide_eq_true (p := 0 ≤ m) hm, o4, o5⟩
          | fld =>
            have q := of_decide_eq_true (p := 0 ≤ m ∧ m < 2147483563) hm
            exact ⟨o1, o2, o3, q.1, q.2⟩
      exact wy.nx ρ σ _ _ (rl1.step (fun a o z n => by rw [upd_ne n]; exact z) pn) w2
    · rw [if_neg hm] at w2
      exact w2.elim
  | _ => exact w2.elim
/-! ### int(n) -/
def intD : List D → Option D
  | [.int i] => some (.int i)
  | _ => none
theorem de_toInt {fs : List (Env → M D)} (hm : X.mg "int" = none) (ha : DA X p [e] fs) (hg : Gl X "int" := by rfl) (he : starEach (e :: []) X.env = (false, eval e X.env) :: starEach [] X.env := by rfl) (hpl : (backTo pos (starEach [] X.env)).any (·.1) = false := by rfl) :
    DE X p (.Call (.Name "int" pos') [e] [] pos) (fun ρ => seqA fs ρ fun xs => lift (intD xs)) := by
  refine de_callTy call_int1 (fun F H vs ds d Q hp hf r e q => ?_) hm (by decide +kernel) ha hg (by decide) (by decide) he hpl
  unfold intD at e
  split at e
  · cases e
    cases r with
    | cons r1 r2 =>
      cases r2
      cases r1
      exact .inl ⟨_, rfl, q _ H (Same.refl H) (.int _)⟩
  · cases e
end
end Say

namespace Say
open L2 PyProof.Rows PySem.Spec PySem

/-! ### the law's pen is made -/
def foldP (fold cell : Int) : Int := (fold * 59 + cell) % 1000000009
def pen0 (ns : List Int) : Pen := ⟨ns, 0, 0, 0, ns.foldl foldP 0⟩
theorem foldP_range (ns : List Int) : ∀ f : Int, 0 ≤ f ∧ f < 1000000009 → 0 ≤ ns.foldl foldP f ∧ ns.foldl foldP f < 1000000009 := by
  induction ns with
  | nil => exact fun f h => h
  | cons n ns ih => exact fun f h => ih _ ⟨Int.emod_nonneg _ (by decide), Int.emod_lt_of_pos _ (by decide)⟩
theorem pen0_ok {ns : List Int} (h : ns.length ≤ 63) : (pen0 ns).Ok := by
  obtain ⟨h1, h2⟩ := foldP_range ns 0 (by decide)
  exact ⟨h, Int.le_refl _, Int.le_refl _, h1, Int.lt_trans h2 (by decide)⟩
def spPen (K : PySem.W.Frag) : Sp := fun vs H Q _ => ∃ (a : Addr) (ns : List Int), vs = [.ref a] ∧ SqL K H a (ns.map V.int) ∧ ∀ (pa ca : Addr) (H' : Hp), H pa = none → H ca = none → (∀ b o, H b = some o → H' b = some o) → H' pa = some (.dK (penKV ⟨pa, ca, 0⟩ (pen0 ns))) → H' ca = some (.lst (ns.map V.int)) → Q (.ref pa) H'
section
variable {X : Cx} {p1 p2 p3 p4 p5 p6 p7 p8 p9 p10 p11 p12 p13 p14 p15 p16 p17 p18 p19 p20 p21 p22 p23 p24 p25 p26 p27 p28 p29 p30 : Pos} {j1 j2 j3 j4 j5 j6 j7 j8 j9 j10 j11 j12 j13 : Nat}
abbrev penBody (p1 p2 p3 p4 p5 p6 p7 p8 p9 p10 p11 p12 p13 p14 p15 p16 p17 p18 p19 p20 p21 p22 p23 p24 p25 p26 p27 p28 p29 p30 p31 : Pos) (j1 j2 j3 j4 j5 j6 j7 j8 j9 j10 j11 j12 : Nat) : List Stmt :=
  [.Assign [.Name "fold" p1] (.Constant (.int 0) j1 p2) p3,
   .For (.Name "cell" p4) (.Name "script" p5) [.Assign [.Name "fold" p6] (.BinOp (.Call (.Name "int" p7) [.BinOp (.BinOp (.Name "fold" p8) .Mult (.Constant (.int 59) j2 p9) p10) .Add (.Name "cell" p11) p12] [] p13) .Mod (.Constant (.int 1000000009) j3 p14) p15) p16] [] p17,
   .Return (some (.Dict [some (.Constant (.str "cells") j4 p18), some (.Constant (.str "at") j5 p19), some (.Constant (.str "digits") j6 p20), some (.Constant (.str "count") j7 p21), some (.Constant (.str "fold") j8 p22)] [.Call (.Name "list" p23) [.Name "script" p24] [] p25, .Constant (.int 0) j9 p26, .Constant (.int 0) j10 p27, .Constant (.int 0) j11 p28, .Name "fold" p29] p30)) p31]
theorem pen_run {H : Hp} {vs : List V} {Dn : Ends} {E : XK} (hN : X.N = (["script", "fold", "cell"] : List Str)) (v0 : Vis X.env.scope "script") (l1 : X.env.scope.names.lookup ("fold" : Str) = some .local) (l2 : X.env.scope.names.lookup ("cell" : Str) = some .local) (g1 : Gl X "int") (g2 : Gl X "list") (m1 : X.mg "int" = none) (m2 : X.mg "list" = none) (hc : X.calm = true) (ps : PassesOwn (model X.prog X.w) X.A X.env X.xe)
    (h : spPen X.K vs H Dn.rt E) {p31 : Pos} {P : List Stmt} (hP : P = penBody p1 p2 p3 p4 p5 p6 p7 p8 p9 p10 p11 p12 p13 p14 p15 p16 p17 p18 p19 p20 p21 p22 p23 p24 p25 p26 p27 p28 p29 p30 p31 j1 j2 j3 j4 j5 j6 j7 j8 j9 j10 j11 j12) : tSs X P Dn (L2.start ["script", "fold", "cell"] vs) H := by
  obtain ⟨a, ns, rfl, sq, q⟩ := h
  have nd : X.N.Nodup := by rw [hN]; decide
  have i0 : X.N[0]? = some ("script" : Str) := by rw [hN]; rfl
  have i1 : X.N[1]? = some ("fold" : Str) := by rw [hN]; rfl
  have i2 : X.N[2]? = some ("cell" : Str) := by rw [hN]; rfl
  have e1 : PE X (.Name "fold" p8) (tVar 1) := pe_var i1 (.inl l1)
  rw [hP]
  refine tSs_of (pss_cons ps_self (pss_cons ps_self (pss_one ps_self))) ?_
  refine tS_of (ps_set (i := 1) nd i1 (.inl l1) pe_int rfl (.inr l1)) ?_
  show tS X _ _ [some (.ref a), some (.int 0), none] H
  refine tS_of (ps_for ps hc pi_self pg_self pss_self (by intro _; rfl)) (tI_of pi_seq (tE_of (pe_var i0 v0) ⟨_, rfl, .inl ⟨a, _, rfl, sq, ?_⟩⟩))
  refine ⟨fun i m σ Hc => m = ns.length - i ∧ i ≤ ns.length ∧ Hc = H ∧ ∃ o, σ = [some (.ref a), some (.int ((ns.take i).foldl foldP 0)), o], ⟨ns.length, rfl, Nat.zero_le _, rfl, none, rfl⟩, ?_⟩
  rintro i m σ Hc ⟨rfl, hi, eH, o, rfl⟩
  subst eH
  by_cases hlt : i < ns.length
  · have ei : (ns.map V.int)[i]? = some (.int ns[i]) := by rw [List.getElem?_map, List.getElem?_eq_getElem hlt]; rfl
    refine .inr ⟨⟨_, _, sq, ei⟩, fun σ' H' => H' = Hc ∧ ∃ o, σ' = [some (.ref a), some (.int ((ns.take (i + 1)).foldl foldP 0)), o], fun σ' H' ⟨e1, o, e2⟩ => ⟨_, by omega, rfl, hlt, e1, o, e2⟩, fun x Hy y => ?_⟩
    obtain ⟨rfl, y2⟩ := y
    have := y2 _ sq
    rw [ei] at this
    cases this
    refine tG_of (pg_name (i := 2) nd i2 (.inl l2) (.inr l2)) ?_
    show tSs X _ _ [some (.ref a), some (.int ((ns.take i).foldl foldP 0)), some (.int ns[i])] _
    refine tSs_of (pss_one (ps_set (i := 1) nd i1 (.inl l1) (pe_op op_mod (pe_callTy call_int1 g1 m1 (by decide +kernel) (pa_cons (pe_op op_add (pe_op op_mul e1 pe_int) (pe_var i2 (.inl l2))) pa_nil)) pe_int) rfl (.inr l1))) ?_
    have step : (ns.take (i + 1)).foldl foldP 0 = foldP ((ns.take i).foldl foldP 0) ns[i] := by
      rw [List.take_succ_eq_append_getElem hlt, List.foldl_append]
      rfl
    refine ⟨_, rfl, _, _, rfl, rfl, .inr ⟨by decide, by decide⟩, _, rfl, _, _, rfl, rfl, .inl ⟨_, rfl, _, _, rfl, rfl, (by decide : (0 : Int) < 1000000009), ?_⟩⟩
    refine ⟨rfl, some (.int ns[i]), ?_⟩
    rw [step]
    rfl
  · have ei : i = ns.length := by omega
    subst ei
    rw [List.take_length]
    refine .inl ⟨⟨_, sq, by rw [List.length_map]; exact Nat.le_refl _⟩, ?_⟩
    refine tS_of (ps_ret (pe_disp (pps_cons pe_str (pe_callTy call_list_of g2 m2 (by decide +kernel) (pa_cons (pe_var i0 v0) pa_nil)) (pps_cons pe_str pe_int (pps_cons pe_str pe_int (pps_cons pe_str pe_int (pps_cons pe_str (pe_var i1 (.inl l1)) pps_nil))))) rfl rfl (fun z => by cases z) (by show 5 ≤ 15; decide))) ?_
    intro pa n1
    have up : ∀ b o, Hc b = some o → upd Hc pa (.dK []) b = some o := fun b o e => by rw [upd_ne (ne_of_none e n1)]; exact e
    have sq2 : SqL X.K (upd Hc pa (.dK [])) a (ns.map V.int) := by
      rcases sq with (e | ⟨o, e⟩) | z
      · exact .inl (.inl (up _ _ e))
      · exact .inl (.inr ⟨o, up _ _ e⟩)
      · exact .inr z
    refine ⟨_, rfl, a, _, rfl, .inl sq2, fun ca n2 => ?_⟩
    have ne : pa ≠ ca := fun z => by rw [← z, upd_same] at n2; cases n2
    have n3 : Hc ca = none := by rw [upd_ne (Ne.symm ne)] at n2; exact n2
    refine ⟨_, rfl, ?_⟩
    refine ⟨by rw [upd_ne ne]; exact upd_same, penKV ⟨pa, ca, 0⟩ (pen0 ns), rfl, by show 5 ≤ 15; decide, ?_⟩
    refine q pa ca _ n1 n3 (fun b o e => ?_) upd_same ?_
    · rw [upd_ne (ne_of_none e n1), upd_ne (ne_of_none e n3)]
      exact up b o e
    · rw [upd_ne (Ne.symm ne)]
      exact upd_same
end
end Say

namespace Say
open L2 PyProof.Rows PySem.Spec PySem

/-! ### the law from its pen on -/
def envL (N : List Str) : Env := .no :: .dat .pen :: List.replicate (N.length - 2) .no
def runL (N : List Str) (f : S) : M D := f (fun _ => pure .non) pure (fun _ => bad) (fun _ => bad) (envL N)
def spLaw (K : PySem.W.Frag) : Sp := fun vs H Q _ => ∃ (a : Addr) (ns : List Int), vs = [.ref a] ∧ SqL K H a (ns.map V.int) ∧ ns.length ≤ 63 ∧ ∀ v H', v = .bl true → Q v H'
section
variable {P : Program} {w : World} {K :
    PySem.W.Frag} {mg : Str → Option Value} {base : Heap}
theorem pen_has {st : Stmt} {f : Addr} {fd : FuncData} {CX : CXT} (F : FunD K "_law_pen" "_law_pen" (defArgs st) (defBody st) (defScope st) [] [] f fd) (Sc : FnScope ["script", "fold", "cell"] ["script"] (defScope st))
    (run : ∀ (cdv : Value) (A : Around) (outer : List PySem.Env) (s : Shared) (H : Hp) (E : XK) (vs : List V) (Dn : Ends), spPen K vs H Dn.rt E → tSs (cxOf CX P w K mg base ["script", "fold", "cell"] "_law_pen" (defScope st) f cdv A outer s H E) (defBody st) Dn (L2.start ["script", "fold", "cell"] vs) H) : FnOk P w K mg base CX 1 f fd ["script"] (spPen K) := by
  refine F.ok Sc (fun vs H Q E h => ?_) fun cdv A outer s H vs Q E hr h => ⟨_, pss_self, run cdv A outer s H E vs _ h⟩
  obtain ⟨a, ns, rfl, _⟩ := h
  rfl
theorem law_has {st : Stmt} {f fp : Addr} {fd fdp : FuncData} {N more : List Str} {k : Nat} {fS : S} {rest : List Stmt} {p1 p2 p3 p4 p5 : Pos} (F : FunD K "law" "law" (defArgs st) (defBody st) (defScope st) [] [] f fd) (Sc : FnScope N ["script"] (defScope st)) (eN : N = ("script" : Str) :: ("pen" : Str) :: more)
    (FP : FnOk P w K mg base (L2.CX P w) 1 fp fdp ["script"] (spPen K)) (gP : mg "_law_pen" = some (.ref fp)) (kP : PySem.W.keepIn K (.ref fp) = true) (bP : Binds K fdp ["script"] [])
    (split : defBody st = .Assign [.Name "pen" p1] (.Call (.Name "_law_pen" p2) [.Name "script" p3] [] p4) p5 :: rest)
    (fact : ∀ (cdv : Value) (A : Around) (outer : List PySem.Env) (s : Shared) (H : Hp) (E : XK), let X := cxOf (L2.CX P w) P w K mg base N "law" (defScope st) f cdv A outer s H E
      Vis X.env.scope "script" ∧ L2.Loc X.env.scope "pen" ∧ (X.fn "pen" = true ∨ X.env.scope.names.lookup ("pen" : Str) = some .local) ∧ Gl X "_law_pen")
    (body : ∀ (cdv : Value) (A : Around) (outer : List PySem.Env) (s : Shared) (H : Hp) (E : XK) (p : PL), Room (k + 1) (A.deeper (envOfC "law" (defScope st) s.heap.objs.size f cdv)) →
      DSs (cxOf (L2.CX P w) P w K mg base N "law" (defScope st) f cdv A outer s H E) p rest fS)
    (main : ∀ ns : List Int, ns.length ≤ 63 → wpM (runL N fS) (pen0 ns) (fun d _ => d = .bl true) fun _ _ _ => False) : FnOk P w K mg base (L2.CX P w) (k + 2) f fd ["script"] (spLaw K) := by
  refine F.ok Sc (fun vs H Q E h => ?_) fun cdv A outer s H vs Q E hr h => ⟨_, pss_self, ?_⟩
  · obtain ⟨a, ns, rfl, _⟩ := h
    rfl
  · obtain ⟨a, ns, rfl, sq, hl, q⟩ := h
    obtain ⟨f1, f2, f2', f3⟩ := fact cdv A outer s H E
    have nd : (cxOf (L2.CX P w) P w K mg base N "law" (defScope st) f cdv A outer s H E).N.Nodup := Sc.nd
    have i0 : (cxOf (L2.CX P w) P w K mg base N "law" (defScope st) f cdv A outer s H E).N[0]? = some ("script" : Str) := by show N[0]? = _; rw [eN]; rfl
    have i1 : (cxOf (L2.CX P w) P w K mg base N "law" (defScope st) f cdv A outer s H E).N[1]? = some ("pen" : Str) := by show N[1]? = _; rw [eN]; rfl
    have tk : Takes (cxOf (L2.CX P w) P w K mg base N "law" (defScope st) f cdv A outer s H E) (fun cls d _ H' => E cls d H') := takes_of rfl rfl rfl rfl
    rw [split]
    refine tSs_of (pss_cons ps_self pss_self) ?_
    refine tS_of (ps_set (i := 1) nd i1 f2 (pe_callS FP (hr.mono (by omega)) f3 gP kP bP (fun σ => passAt tk σ) (pa_cons (pe_var i0 f1) pa_nil)) rfl f2') ?_
    refine ⟨_, by rw [eN]; rfl, a, ns, rfl, sq, fun pa ca H' n1 n2 old e1 e2 => ?_⟩
    have pn : PenAt H' ⟨pa, ca, 0⟩ (pen0 ns) := ⟨e1, e2, pen0_ok hl⟩
    have no : ∀ (i : Nat) (x : Sl), (envL N)[i]? = some x → (i = 1 ∧ x = .dat .pen) ∨ x = .no := fun i x e => by
      match i, e with
      | 0, e => cases e; exact .inr rfl
      | 1, e => cases e; exact .inl ⟨rfl, rfl⟩
      | i + 2, e => exact .inr (List.eq_of_mem_replicate (List.mem_of_getElem? (show (List.replicate (N.length - 2) Sl.no)[i]? = some x from e)))
    have noh : ∀ (i : Nat) (x : Sl), (envL N)[i]? = some x → x.held = true → False := fun i x e hx => by
      rcases no i x e with ⟨_, z⟩ | z
      · rw [z] at hx; cases hx
      · rw [z] at hx; cases hx
    have rl : Rel K ⟨pa, ca, 0⟩ (fun b => b = pa ∨ b = ca) H' (envL N) ((L2.start N [.ref a]).set 1 (some (.ref pa))) H' (pen0 ns) := by
      refine ⟨?_, fun i d e => ?_, fun i x e hx => (noh i x e hx).elim, fun i j x y b e hx => (noh i x e hx).elim, .refl, pn, .inl rfl, .inr rfl, fun b hb => ?_, fun i x b e hx => (noh i x e hx).elim⟩
      · rw [List.length_set, eN]
        unfold envL L2.start
        simp
      · rcases no i _ e with ⟨rfl, z⟩ | z
        · cases z
          refine ⟨.ref pa, ?_, .pen (p := ⟨pa, ca, 0⟩)⟩
          rw [eN]
          rfl
        · cases z
      · rcases hb with rfl | rfl
        · exact ⟨_, e1⟩
        · exact ⟨_, e2⟩
    refine (body cdv A outer s H E ⟨pa, ca, 0⟩ hr).run (fun cls d _ H' => E cls d H') _ H' (envL N) _ H' (pen0 ns) _ _ _ _ _ _ _ tk rl (main ns hl) ⟨fun ρ σ H2 s2 r2 w2 => ?_, fun d s2 v H2 st pn2 rp w2 => ?_, fun ρ σ H2 s2 r2 w2 => w2.elim, fun ρ σ H2 s2 r2 w2 => w2.elim⟩ fun c fs s2 σ dx vfs H2 z => z.elim
    · cases (show D.non = .bl true from w2)
    · have e : d = .bl true := w2
      subst e
      exact q v H2 (bl_of rp)
end
/-! ### what the head tells -/
def kitChk (cs : List Str) (Ts : List String) (K : PySem.W.Frag) : Bool :=
  (cs.all fun c => He.eqO (PySem.W.findIn K (.ref (He.ga K c)) "__class__") (some (some (.builtin "object.__class__"))) && (decide (PySem.W.takesIn K (.builtin "object.__class__") = some true) && decide (PySem.W.mroIn K (He.ga K c) (.type "object") = some true))) &&
  (He.eqO (PySem.W.specialIn K (.builtin "object.__class__") "__get__") (some (some (.builtin "getset_descriptor.__get__"))) &&
  ((cs.all fun c => cs.all fun c' => decide (PySem.W.kitOne K (.ref (He.ga K c)) (.ref (He.ga K c')) = some (c == c'))) &&
  ((cs.all fun c => Ts.all fun T => decide (PySem.W.kitOne K (.ref (He.ga K c)) (.type T) = some false)) &&
  ((tyNames.all fun T => cs.all fun c => decide (PySem.W.kitOne K (.type T) (.ref (He.ga K c)) = some false)) &&
  (tyNames.all fun T => Ts.all fun T' => decide (kitB T T' = some (subT T T')))))))
theorem kit_of_chk {cs : List Str} {Ts : List String} {K : PySem.W.Frag} (h : kitChk cs Ts K = true) (hc : ∀ c ∈ cs, Cls K (He.ga K c)) : Kit K cs Ts := by
  obtain ⟨h1, h⟩ := He.ba h
  obtain ⟨h2, h⟩ := He.ba h
  obtain ⟨h3, h⟩ := He.ba h
  obtain ⟨h4, h⟩ := He.ba h
  obtain ⟨h5, h6⟩ := He.ba h
  refine ⟨fun c m => ?_, fun c m c' m' => ?_, fun c m T mT => ?_, fun T mT c m => ?_, fun T mT T' mT' => ?_⟩
  · obtain ⟨q1, q2⟩ := He.ba (List.all_eq_true.mp h1 c m)
    obtain ⟨q3, q4⟩ := He.ba q2
    exact ⟨hc c m, He.eqO_ok q1, He.eqO_ok h2, of_decide_eq_true q3, of_decide_eq_true q4⟩
  · exact of_decide_eq_true (List.all_eq_true.mp (List.all_eq_true.mp h3 c m) c' m')
  · exact of_decide_eq_true (List.all_eq_true.mp (List.all_eq_true.mp h4 c m) T mT)
  · exact of_decide_eq_true (List.all_eq_true.mp (List.all_eq_true.mp h5 T mT) c m)
  · exact of_decide_eq_true (List.all_eq_true.mp (List.all_eq_true.mp h6 T mT) T' mT')
abbrev ObE : Type := Bool × He.AlD
def obsE (n : Nat) (chk : PySem.W.Frag → Bool) (fa : List He.Fa) (fn : List He.DefD) (g : Addr → Option Obj) : ObE := (chk (He.frG g (He.asD g n)), He.obsD fa fn (He.frG g (He.asD g n)))
def SaysE (chk : PySem.W.Frag → Bool) (fa : List He.Fa) (fn : List He.DefD) (K : PySem.W.Frag) : Prop := chk K = true ∧ He.SaysD fa fn K
def hookE (n : Nat) (chk : PySem.W.Frag → Bool) (fa : List He.Fa) (fn : List He.DefD) : PySem.W.Hook where
  α := ObE
  obs := fun s => obsE n chk fa fn s.heap.get?
  val := fun _ => (true, He.valD fn)
  says := fun _ h => ∃ K : PySem.W.Frag, K.In h ∧ SaysE chk fa fn K
  of := fun _ _ e => ⟨_, He.frG_in, congrArg (fun z : ObE => z.1) e, congrArg (fun z : ObE => z.2) e⟩
  keeps := fun _ _ _ ⟨K, inK, c⟩ k => ⟨K, PySem.W.Frag.In.keeps inK k, c⟩
theorem obsE_eq {n : Nat} {chk : PySem.W.Frag → Bool} {fa : List He.Fa} {fn : List He.DefD} {g : Addr → Option Obj} {s : Shared} (h : ∀ a, g a = s.heap.get? a) : obsE n chk fa fn g = (hookE n chk fa fn).obs s := by
  have e : g =
      s.heap.get? := funext h
  subst e
  rfl
/-! ### the end -/
theorem cx_never {P : Program} {w : World} (H : Hp) (s : Shared) (e : Value) (s' : Shared) (h : L2.CX P w [] H s (fun _ _ _ => False) e s') : False := by
  obtain ⟨_, _, _, _, _, _,
      _, _, _, _, _, _, z⟩ := h
  exact z
theorem walkE {l : PySem.W.OpenLaw} {n k : Nat} {q : Program} {loose : List Str} {XP : (Str → Option Value) → Heap → Prop} {YP : World → Heap → Prop} {d : DefRec} {x : Str}
    (hn : l.most = some n) (hn2 : n ≤ sizeLine) (hdf
        : d.params.defaults = []) (hr : Room k callerA)
    (F : ∀ (w : World) (mg : Str → Option Value) (fa : Addr) (h :
        Heap), YP w h → h.Ns mainGlobals mg → mg d.name = some (.ref fa) →
      ∃ (K : PySem.W.Frag) (fd : FuncData) (sp : Sp), K.In h ∧ (∀ (s : Shared) (u : Value), BindsTo s fd ⟨[u], []⟩ [(x, u)]) ∧ (∀ (H : Hp) (a : Addr) (ns : List Int), ns.length ≤ n → Only H → SqL K H a (ns.map V.int) → sp [.ref a] H (fun v _ => v = .bl true) fun _ _ _ => False) ∧
        ∀ base : Heap, K.In base → base.Ns mainGlobals mg → FnOk l.prog w K mg base (L2.CX l.prog w) k fa fd [x] sp) : PySem.W.WalkO q loose XP YP l.row.toRowW d [] (fun f vs => PySem.call f vs) := by
  refine Att.attach_call hn hdf fun w s0 s1 mg mb fa o pm cd doc a vs ns G Y ho hd hcd hmg hobj hints hlen hg => ?_
  obtain ⟨K, fd, sp, inK, bnd, hsp, hF⟩ := F w mg fa _ Y G.T.g hmg
  exact law_call inK G.T.g G.T.b G.T.builtins G.T.nolimit hg hobj hints (Nat.le_trans hlen hn2) hr hF bnd (fun H hO hS => hsp H a ns hlen hO hS) fun H e s' => cx_never H s1 e s'
end Say

namespace Say
open L2 PyProof.Rows PySem.Spec PySem

/-! ### plain facts of the mirrors -/
def ti (xs : List Int) : D := .tup (xs.map D.int)
theorem toPyL_map {α : Type} (f : α → D) : ∀ xs : List α, toPyL (xs.map f) = xs.map fun a => (f a).toPy
  | [] => rfl
  | x :: xs => by
    show (f x).toPy :: toPyL (xs.map f) = _
    rw [toPyL_map f xs]
    rfl
theorem eqV_int (i j : Int) : eqV (.int i) (.int j) = decide (i = j) := by
  show PyData.eqv (.int i) (.int j) = _
  simp [PyData.eqv]
  rfl
def eqL : List D → List D → Bool
  | [], [] => true
  | x :: xs, y :: ys => eqV x y && eqL xs ys
  | _, _ => false
theorem eqvAll_eqL : ∀ xs ys : List D, PyData.eqvAll (toPyL xs) (toPyL ys) = eqL xs ys
  | [], [] => rfl
  | x :: xs, y :: ys => by
    show PyData.eqvAll (x.toPy :: toPyL xs) (y.toPy :: toPyL ys) = (eqV x y && eqL xs ys)
    rw [PyData.eqvAll, eqvAll_eqL xs ys]
    rfl
  | [], _ :: _ => rfl
  | _ :: _, [] => rfl
theorem eqV_tup (xs ys : List D) : eqV (.tup xs) (.tup ys) = eqL xs ys := by
  show PyData.eqv (.tuple (toPyL xs)) (.tuple (toPyL ys)) = _
  rw [PyData.eqv, eqvAll_eqL]
theorem eqV_lst (xs ys : List D) : eqV (.lst xs) (.lst ys) = eqL xs ys := by
  show PyData.eqv (.list (toPyL xs)) (.list (toPyL ys)) = _
  rw [PyData.eqv, eqvAll_eqL]
theorem eqL_map {α : Type} (f : α → D) (inj : ∀ a b, eqV (f a) (f b) = true ↔ a = b) : ∀ xs ys : List α, eqL (xs.map f) (ys.map f) = true ↔ xs = ys
  | [], [] => by simp [eqL]
  | x :: xs, y :: ys => by
    show (eqV (f x) (f y) && eqL (xs.map f) (ys.map f)) = true ↔ _
    rw [Bool.and_eq_true, inj, eqL_map f inj xs ys, List.cons.injEq]
  | [], _ :: _ => by simp [eqL]
  | _ :: _, [] => by simp [eqL]
theorem eqV_ti (xs ys : List Int) : eqV (ti xs) (ti ys) = true ↔ xs = ys := by
  unfold ti
  rw [eqV_tup]
  exact eqL_map D.int (fun a b => by rw [eqV_int]; exact decide_eq_true_iff) xs ys
theorem plainL_map {α : Type} {n : Nat} (f : α → D) (h : ∀ a, (f a).plainN n = true) : ∀ xs : List α, plainL n (xs.map f) = true
  | [] => by simp [plainL]
  | x :: xs => by simp [plainL, h x, plainL_map f h xs]
theorem plain_int (n : Nat) (i : Int) : (D.int i).plainN n = true := by simp [D.plainN]
theorem plain_ti (n : Nat) (xs : List Int) : (ti xs).plainN (n + 1) = true := by
  simp only [ti, D.plainN]
  exact plainL_map D.int (plain_int n) xs
theorem plain_prD (n : Nat) (x : Int × Int) : (prD x).plainN (n + 1) = true := plain_ti n [x.1, x.2]
theorem eqV_prD (x y : Int × Int) : eqV (prD x) (prD y) = true ↔ x = y := by
  rw [show prD x = ti [x.1, x.2] from rfl, show prD y = ti [y.1, y.2] from rfl, eqV_ti]
  constructor
  · intro h
    simp at h
    exact Prod.ext h.1 h.2
  · rintro rfl
    rfl
theorem any_eq {α : Type} (f : α → D) (inj : ∀ a b, eqV (f a) (f b) = true ↔ a = b) [DecidableEq α] (x : α) (xs : List α) : ((xs.map f).any fun y => eqV y (f x)) = decide (x ∈ xs) := by
  rw [Bool.eq_iff_iff, List.any_eq_true, decide_eq_true_iff]
  constructor
  · rintro ⟨y, hy, e⟩
    obtain ⟨z, hz, rfl⟩ := List.mem_map.mp hy
    rw [← (inj z x).mp e]
    exact hz
  · intro h
    exact ⟨f x, List.mem_map.mpr ⟨x, h, rfl⟩, (inj x x).mpr rfl⟩
theorem in_ints (x : Int) (xs : List Int) : inD (.int x) (ti xs) = some (.bl (decide (x ∈ xs))) := by
  have h : ((D.int x).plain && plainL 59 (xs.map D.int)) = true := by
    rw [Bool.and_eq_true]
    exact ⟨plain_int _ _, plainL_map D.int (plain_int 59) xs⟩
  show (if ((D.int x).plain && plainL 59 (xs.map D.int)) = true then some (D.bl ((xs.map D.int).any fun y => eqV y (.int x))) else none) = _
  rw [if_pos h, any_eq D.int fun a b => by rw [eqV_int]; exact decide_eq_true_iff]
theorem in_intsL (x : Int) (xs : List Int) : inD (.int x) (.lst (xs.map D.int)) = some (.bl (decide (x ∈ xs))) := in_ints x xs
theorem nin_ints (x : Int) (xs : List Int) : ninD (.int x) (ti xs) = some (.bl (!decide (x ∈ xs))) := by
  have h : ((D.int x).plain && plainL 59 (xs.map D.int)) = true := by
    rw [Bool.and_eq_true]
    exact ⟨plain_int _ _, plainL_map D.int (plain_int 59) xs⟩
  show (if ((D.int x).plain && plainL 59 (xs.map D.int)) = true then some (D.bl (!(xs.map D.int).any fun y => eqV y (.int x))) else none) = _
  rw [if_pos h, any_eq D.int fun a b => by rw [eqV_int]; exact decide_eq_true_iff]
theorem nin_intsL (x : Int) (xs : List Int) : ninD (.int x) (.lst (xs.map D.int)) = some (.bl (!decide (x ∈ xs))) := nin_ints x xs
theorem in_prs (x : Int × Int) (xs : List (Int × Int)) : inD (prD x) (.tup (xs.map prD)) = some (.bl (decide (x ∈ xs))) := by
  have h : ((prD x).plain && plainL 59 (xs.map prD)) = true := by
    rw [Bool.and_eq_true]
    exact ⟨plain_prD _ _, plainL_map prD (plain_prD 58) xs⟩
  show (if ((prD x).plain && plainL 59 (xs.map prD)) = true then some (D.bl ((xs.map prD).any fun y => eqV y (prD x))) else none) = _
  rw [if_pos h, any_eq prD eqV_prD]
  exact congrArg some (congrArg D.bl (decide_eq_decide.mpr Iff.rfl))
theorem in_prs' (a b : Int) (xs : List (Int × Int)) : inD (.tup [.int a, .int b]) (.tup (xs.map prD)) = some (.bl (decide ((a, b) ∈ xs))) := in_prs (a, b) xs
theorem eq_int (i j : Int) : eqD (.int i) (.int j) = some (.bl (decide (i = j))) := by
  show (if ((D.int i).plain && (D.int j).plain) = true then some (D.bl (eqV (.int i) (.int j))) else none) = _
  rw [if_pos (by rw [Bool.and_eq_true]; exact ⟨plain_int _ _, plain_int _ _⟩), eqV_int]
theorem ne_int (i j : Int) : neD (.int i) (.int j) = some (.bl (!decide (i = j))) := by
  show (if ((D.int i).plain && (D.int j).plain) = true then some (D.bl (!eqV (.int i) (.int j))) else none) = _
  rw [if_pos (by rw [Bool.and_eq_true]; exact ⟨plain_int _ _, plain_int _ _⟩), eqV_int]
theorem blsOf_map : ∀ bs : List Bool, blsOf (bs.map D.bl) = some bs
  | [] => rfl
  | b :: bs => by
    show (blsOf (bs.map D.bl)).map (b :: ·) = _
    rw [blsOf_map bs]
    rfl
theorem all_bls (bs : List Bool) : allD [.lst (bs.map D.bl)] = some (.bl (bs.all id)) := by
  show (blsOf (bs.map D.bl)).map (fun bs => D.bl (bs.all id)) = _
  rw [blsOf_map]
  rfl
theorem any_bls (bs : List Bool) : anyD [.lst (bs.map D.bl)] = some (.bl (bs.any id)) := by
  show (blsOf (bs.map D.bl)).map (fun bs => D.bl (bs.any id)) = _
  rw [blsOf_map]
  rfl
theorem all_map {α : Type} (f : α → Bool) (xs : List α) : allD [.lst (xs.map fun a => D.bl (f a))] = some (.bl (xs.all f)) := by
  have := all_bls (xs.map f)
  rw [List.map_map] at this
  rw [show (xs.map fun a => D.bl (f a)) = xs.map (D.bl ∘ f) from rfl, this, List.all_map]
  rfl
theorem any_map {α : Type} (f : α → Bool) (xs : List α) : anyD [.lst (xs.map fun a => D.bl (f a))] = some (.bl (xs.any f)) := by
  have := any_bls (xs.map f)
  rw [List.map_map] at this
  rw [show (xs.map fun a => D.bl (f a)) = xs.map (D.bl ∘ f) from rfl, this, List.any_map]
  rfl
/-! ### comprehensions -/
theorem compL_map {α : Type} {h : D → Option Env} {t : Env → M Bool} {e : Env → M D} (f : α → D) (b : α → Bool) (y : α → D) : ∀ {l : List α}, (∀ a ∈ l, ∃ ρ, h (f a) = some ρ ∧ t ρ = pure (b a) ∧ (b a = true → e ρ = pure (y a))) → compL h t e (l.map f) = pure ((l.filter b).map y)
  | [], _ => rfl
  | a :: l, H => by
    obtain ⟨ρ, h1, h2, h3⟩ := H a List.mem_cons_self
    have ih := compL_map f b y (l := l) fun x hx => H x (List.mem_cons_of_mem _ hx)
    show (bindT (h (f a)) fun ρ => nx (t ρ) >>= fun b => if b = true then nx (e ρ) >>= fun y => compL h t e (l.map f) >>= fun ys => pure (y :: ys) else compL h t e (l.map f)) = _
    rw [h1]
    show (nx (t ρ) >>= fun b => if b = true then nx (e ρ) >>= fun y => compL h t e (l.map f) >>= fun ys => pure (y :: ys) else compL h t e (l.map f)) = _
    rw [h2, nx_pure, pure_bind, List.filter_cons]
    cases q : b a with
    | true =>
      rw [if_pos rfl, if_pos rfl, h3 q, nx_pure, pure_bind, ih, pure_bind]
      rfl
    | false =>
      rw [if_neg (by decide), if_neg (by decide)]
      exact ih
theorem compA_map {α : Type} {h : D → Option Env} {t : Env → M Bool} {e : Env → M D} (f : α → D) (b : α → Bool) (y : α → D) : ∀ {l : List α} {acc : List D}, acc.length + l.length ≤ 16777216 → (∀ a ∈ l, ∃ ρ, h (f a) = some ρ ∧ t ρ = pure (b a) ∧ (b a = true → e ρ = pure (y a))) → compA h t e acc (l.map f) = pure (acc ++ (l.filter b).map y)
  | [], acc, _, _ => by
    show pure acc = _
    simp
  | a :: l, acc, hl, H => by
    obtain ⟨ρ, h1, h2, h3⟩ := H a List.mem_cons_self
    have H' := fun x hx => H x (List.mem_cons_of_mem a hx)
    rw [List.length_cons] at hl
    show (bindT (h (f a)) fun ρ => nx (t ρ) >>= fun b => if b = true then nx (e ρ) >>= fun y => if acc.length < 16777216 then compA h t e (acc ++ [y]) (l.map f) else bad else compA h t e acc (l.map f)) = _
    rw [h1]
    show (nx (t ρ) >>= fun b => if b = true then nx (e ρ) >>= fun y => if acc.length < 16777216 then compA h t e (acc ++ [y]) (l.map f) else bad else compA h t e acc (l.map f)) = _
    rw [h2, nx_pure, pure_bind, List.filter_cons]
    cases q : b a with
    | true =>
      rw [if_pos rfl, if_pos rfl, h3 q, nx_pure, pure_bind, if_pos (by omega), compA_map f b y (by rw [List.length_append]; simp only [List.length_cons, List.length_nil]; omega) H']
      simp
    | false =>
      rw [if_neg (by decide), if_neg (by decide)]
      exact compA_map f b y (by omega) H'
/-- two clauses; g a: what the inner walks, B a: which of them stay -/
theorem compO_map {α β : Type} {vs1 : List Nat} {h : D → Option Env} {g1 : Env → M (List D)} {h1 : D → Env → Option Env} {t1 : Env → M Bool} {e : Env → M D} (f : α → D) (u : β → D) (g : α → List β) (B : α → β → Bool) (y : α → β → D) (n : Nat) : ∀ {l : List α} {acc : List D}, acc.length + n * l.length ≤ 16777216 → (∀ a ∈ l, (g a).length ≤ n) →
    (∀ a ∈ l, ∃ ρ, h (f a) = some ρ ∧ okW vs1 ρ = true ∧ g1 ρ = pure ((g a).map u) ∧ ∀ b ∈ g a, ∃ ρ', h1 (u b) (wipeE ρ vs1) = some ρ' ∧ t1 ρ' = pure (B a b) ∧ (B a b = true → e ρ' = pure (y a b))) →
    compO vs1 h tYes g1 h1 t1 e acc (l.map f) = pure (acc ++ l.flatMap fun a => ((g a).filter (B a)).map (y a))
  | [], acc, _, _, _ => by
    show pure acc = _
    simp
  | a :: l, acc, hl, hn, H => by
    obtain ⟨ρ, q1, q2, q3, q4⟩ := H a List.mem_cons_self
    have hna := hn a List.mem_cons_self
    rw [List.length_cons, Nat.mul_add] at hl
    show (bindT (h (f a)) fun ρ => nx (pure true : M Bool) >>= fun b => if b = true then nx (g1 ρ) >>= fun ys => if okW vs1 ρ = true then compA (fun y => h1 y (wipeE ρ vs1)) t1 e acc ys >>= fun acc' => compO vs1 h tYes g1 h1 t1 e acc' (l.map f) else bad else compO vs1 h tYes g1 h1 t1 e acc (l.map f)) = _
    rw [q1]
    show (nx (pure true) >>= fun b => if b = true then nx (g1 ρ) >>= fun ys => if okW vs1 ρ = true then compA (fun y => h1 y (wipeE ρ vs1)) t1 e acc ys >>= fun acc' => compO vs1 h tYes g1 h1 t1 e acc' (l.map f) else bad else compO vs1 h tYes g1 h1 t1 e acc (l.map f)) = _
    rw [nx_pure, pure_bind, if_pos rfl, q3, nx_pure, pure_bind, if_pos q2, compA_map u (B a) (y a) (by omega) q4, pure_bind, compO_map f u g B y n (l := l) ?_ (fun x hx => hn x (List.mem_cons_of_mem _ hx)) fun x hx => H x (List.mem_cons_of_mem _ hx)]
    · simp
    · have := List.length_filter_le (B a) (g a)
      rw [List.length_append, List.length_map]
      omega
theorem lc_nm {α : Type} {vs : List Nat} {i : Nat} {g : Env → M (List D)} {t : Env → M Bool} {e : Env → M D} {ρ : Env} {l : List α} (f : α → D) (b : α → Bool) (y : α → D) (hg : g ρ = pure (l.map f)) (ok : okW vs ρ = true) (H : ∀ a ∈ l, t ((wipeE ρ vs).set i (.dat (f a))) = pure (b a) ∧ (b a = true → e ((wipeE ρ vs).set i (.dat (f a))) = pure (y a))) :
    lcM vs g (gNm i) t e ρ = pure ((l.filter b).map y) := by
  unfold lcM
  rw [hg, pure_bind, if_pos ok]
  exact compL_map f b y fun a ha => ⟨_, rfl, H a ha⟩
theorem lc_yes {α : Type} {vs : List Nat} {i : Nat} {g : Env → M (List D)} {e : Env → M D} {ρ : Env} {l : List α} (f : α → D) (y : α → D) (hg : g ρ = pure (l.map f)) (ok : okW vs ρ = true) (H : ∀ a ∈ l, e ((wipeE ρ vs).set i (.dat (f a))) = pure (y a)) :
    lcM vs g (gNm i) tYes e ρ = pure (l.map y) := by
  rw [lc_nm (t := tYes) f (fun _ => true) y hg ok fun a ha => ⟨rfl, fun _ => H a ha⟩, List.filter_eq_self.mpr fun _ _ => rfl]
/-- for one, other in pairs -/
theorem lc_two {vs : List Nat} {i j : Nat} {g : Env → M (List D)} {e : Env → M D} {ρ : Env} {l : List (Int × Int)} (y : Int × Int → D) (hg : g ρ = pure (l.map prD)) (ok : okW vs ρ = true) (H : ∀ a ∈ l, e (((wipeE ρ vs).set i (.dat (.int a.1))).set j (.dat (.int a.2))) = pure (y a)) :
    lcM vs g (unpackD [gNm i, gNm j]) tYes e ρ = pure (l.map y) := by
  unfold lcM
  rw [hg, pure_bind, if_pos ok]
  have := compL_map (h := fun x => unpackD [gNm i, gNm j] x (wipeE ρ vs)) (t := tYes) (e := e) (l := l) prD (fun _ => true) y fun a ha => ⟨_, rfl, rfl, fun _ => H a ha⟩
  rw [this, List.filter_eq_self.mpr fun _ _ => rfl]
theorem rngM_int {i j : Int} (h : -1073741824 ≤ i ∧ i < 1073741824 ∧ -1073741824 ≤ j ∧ j < 1073741824 ∧ (j - i).toNat ≤ 16777216) : rngM (.int i) (.int j) = pure ((List.range (j - i).toNat).map fun (m : Nat) => D.int (i + (m : Int))) := by
  show (if rngOk i j = true then pure ((List.range (j - i).toNat).map fun (m : Nat) => D.int (i + (m : Int))) else bad) = _
  rw [if_pos (rngOk_iff.mpr h)]
theorem rngM_nat (n : Nat) (h : n ≤ 16777216) : rngM (.int 0) (.int (n : Int)) = pure ((List.range n).map fun (k : Nat) => D.int (k : Int)) := by
  rw [rngM_int (by omega)]
  simp
theorem rngM_two (a n : Nat) (h : n ≤ 16777216) (ha : a < 1073741824) : rngM (.int (a : Int)) (.int (n : Int)) = pure ((List.range (n - a)).map fun (k : Nat) => D.int ((a + k : Nat) : Int)) := by
  rw [rngM_int (by omega)]
  have e : ((n : Int) - (a : Int)).toNat = n - a := by omega
  rw [e]
  simp
theorem rngM_pred (m : Nat) (h : m ≤ 16777216) : rngM (.int 0) (.int ((m : Int) - 1)) = pure ((List.range (m - 1)).map fun (k : Nat) => D.int (k : Int)) := by
  rw [rngM_int (by omega)]
  have e : ((m : Int) - 1 - 0).toNat = m - 1 := by omega
  rw [e]
  simp
/-- a loop that is left at its end alone -/
theorem forS_fold {α : Type} {h : D → Env → Option Env} {body : S} {r : D → M D} (f : α → D) (I : List α → Env → Prop) : ∀ (l done : List α) (ρ : Env), I done ρ →
    (∀ done' a rest ρ, done ++ l = done' ++ a :: rest → I done' ρ → ∃ ρ', I (done' ++ [a]) ρ' ∧ ∀ k k' : Env → M D, bindT (h (f a) ρ) (fun ρ1 => body k' r k k' ρ1) = k' ρ') → ∃ ρ', I (done ++ l) ρ' ∧ ∀ k : Env → M D, forS h body k r (l.map f) ρ = k ρ'
  | [], done, ρ, i, _ => ⟨ρ, by rw [List.append_nil]; exact i, fun _ => rfl⟩
  | a :: l, done, ρ, i, H => by
    obtain ⟨ρ1, i1, e1⟩ := H done a l ρ rfl i
    obtain ⟨ρ2, i2, e2⟩ := forS_fold (h := h) (body := body) (r := r) f I l (done ++ [a]) ρ1 i1 (by rw [List.append_assoc]; exact H)
    refine ⟨ρ2, by rw [List.append_assoc] at i2; exact i2, fun k => ?_⟩
    show bindT (h (f a) ρ) (fun ρ' => body (forS h body k r (l.map f)) r k (forS h body k r (l.map f)) ρ') = _
    rw [e1, e2]
theorem whileS_succ {t : Env → M Bool} {body : S} {k : Env → M D} {r : D → M D} {n : Nat} {ρ : Env} : whileS t body k r (n + 1) ρ = t ρ >>= fun x => if x = true then body (whileS t body k r n) r k (whileS t body k r n) ρ else k ρ := rfl
theorem od_prD (o : Od) (x y : Int × Int) : odD o (prD x) (prD y) = some (.bl (odL o [x.1, x.2] [y.1, y.2])) := rfl
theorem ge_prD {x y : Int × Int} (h : x.1 < y.1 ∨ (x.1 = y.1 ∧ x.2 < y.2)) : odD .ge (prD x) (prD y) = some (.bl false) := by
  rw [od_prD]
  refine congrArg some (congrArg D.bl ?_)
  show (if x.1 = y.1 then (if x.2 = y.2 then Od.i .ge (0 : Nat) (0 : Nat) else Od.i .ge x.2 y.2) else Od.i .ge x.1 y.1) = false
  by_cases e : x.1 = y.1
  · have e2 : x.2 ≠ y.2 := by omega
    rw [if_pos e, if_neg e2]
    exact decide_eq_false (p := y.2 ≤ x.2) (by omega)
  · rw [if_neg e]
    exact decide_eq_false (p := y.1 ≤ x.1) (by omega)
theorem ix_lst {α : Type} (f : α → D) {xs : List α} {r : Nat} (h : r < xs.length) : ixD (.lst (xs.map f)) (.int (r : Int)) = some (f xs[r]) := by
  show L2.atI (xs.map f) (r : Int) = _
  unfold L2.atI L2.ixN
  rw [List.length_map, if_pos (by omega), if_pos (by omega)]
  show (xs.map f)[(r : Int).toNat]? = _
  rw [Int.toNat_natCast, List.getElem?_map, List.getElem?_eq_getElem h]
  rfl
theorem in_prsL (a b : Int) (xs : List (Int × Int)) : inD (.tup [.int a, .int b]) (.lst (xs.map prD)) = some (.bl (decide ((a, b) ∈ xs))) := in_prs (a, b) xs
/-! ### budgets of draws -/
def Tr {α : Type} (C : Nat) (m : M α) (P : α → Prop) : Prop := ∀ s : Pen, s.Ok → s.count + (C : Int) ≤ 1000000000 → wpM m s (fun a s' => P a ∧ s'.Ok ∧ s'.count ≤ s.count + (C : Int)) fun _ _ _ => False
theorem Tr.pure {α : Type} {a : α} {P : α → Prop} (h : P a) {C : Nat} : Tr C (pure a) P := fun s ok _ => ⟨h, ok, by omega⟩
theorem Tr.bind {α β : Type} {C1 C2 C : Nat} {m : M α} {f : α → M β} {P : α → Prop} {Q : β → Prop} (h1 : Tr C1 m P) (h2 : ∀ a, P a → Tr C2 (f a) Q) (hC : C1 + C2 ≤ C := by omega) : Tr C (m >>= f) Q := by
  intro s ok hs
  rw [wp_bind]
  refine wp_mono (h1 s ok (by omega)) (fun a s' ⟨p, ok', c⟩ => ?_) fun _ _ _ z => z
  exact wp_mono (h2 a p s' ok' (by omega)) (fun b s2 ⟨q, ok2, c2⟩ => ⟨q, ok2, by omega⟩) fun _ _ _ z => z
theorem Tr.mono {α : Type} {C C' : Nat} {m : M α} {P Q : α → Prop} (h : Tr C m P) (hP : ∀ a, P a → Q a) (hC : C ≤ C' := by omega) : Tr C' m Q := fun s ok hs => wp_mono (h s ok (by omega)) (fun a s' ⟨p, ok', c⟩ => ⟨hP a p, ok', by omega⟩) fun _ _ _ z => z
theorem Tr.eq {α : Type} {C : Nat} {m m' : M α} {P : α → Prop} (e : m = m') (h : Tr C m' P) : Tr C m P := e ▸ h
/-- a loop, each turn of at most C draws -/
theorem Tr.for {h : D → Env → Option Env} {body : S} {k : Env → M D} {r : D → M D} {P : D → Prop} {C : Nat} (I : List D → Env → Prop) {C0 : Nat} (fin : ∀ ρ, I [] ρ → Tr C0 (k ρ) P)
    (step : ∀ x xs ρ, I (x :: xs) ρ → ∀ (n : Nat) (k' : Env → M D), (∀ ρ', I xs ρ' → Tr n (k' ρ') P) → Tr (C + n) (bindT (h x ρ) fun ρ' => body k' r k k' ρ') P) : ∀ (xs : List D) (ρ : Env), I xs ρ → Tr (C * xs.length + C0) (forS h body k r xs ρ) P
  | [], ρ, i => (fin ρ i).mono (fun _ z => z) (by simp)
  | x :: xs, ρ, i => (step x xs ρ i _ _ (Tr.for I fin step xs)).mono (fun _ z => z) (by rw [List.length_cons, Nat.mul_add]; omega)
/-! ### words of the mirrors, on ints -/
theorem szL_of {xs : List D} (h : xs.length ≤ 1000000) : szL xs = true := decide_eq_true (Nat.le_trans h (by decide))
theorem mkLst_ok {xs : List D} (h : xs.length ≤ 1000000) : mkLst xs = pure xs := by
  unfold mkLst
  rw [szL_of h]
  rfl
theorem mkTup_ok {xs : List D} (h : xs.length ≤ 1000000) : mkTup xs = pure (.tup xs) := by
  unfold mkTup
  rw [szL_of h]
  rfl
theorem mkTup2 (a b : D) : mkTup [a, b] = pure (.tup [a, b]) := mkTup_ok (by show 2 ≤ 1000000; decide)
theorem mkTup1 (a : D) : mkTup [a] = pure (.tup [a]) := mkTup_ok (by show 1 ≤ 1000000; decide)
theorem mkTup0 : mkTup [] = pure (.tup []) := mkTup_ok (by show 0 ≤ 1000000; decide)
theorem mkLst0 : mkLst [] = pure [] := mkLst_ok (by show 0 ≤ 1000000; decide)
theorem mkLst1 (a : D) : mkLst [a] = pure [a] := mkLst_ok (by show 1 ≤ 1000000; decide)
theorem mkLst4 (a b c d : D) : mkLst [a, b, c, d] = pure [a, b, c, d] := mkLst_ok (by show 4 ≤ 1000000; decide)
theorem mkLst5 (a b c d e : D) : mkLst [a, b, c, d, e] = pure [a, b, c, d, e] := mkLst_ok (by show 5 ≤ 1000000; decide)
theorem mkLst8 (a b c d e f g h : D) : mkLst [a, b, c, d, e, f, g, h] = pure [a, b, c, d, e, f, g, h] := mkLst_ok (by show 8 ≤ 1000000; decide)
theorem add_int (i j : Int) : addD (.int i) (.int j) = some (.int (i + j)) := rfl
theorem add_ti (xs ys : List Int) (h : xs.length + ys.length ≤ 16777216) : addD (ti xs) (ti ys) = some (ti (xs ++ ys)) := by
  show (if (xs.map D.int).length + (ys.map D.int).length ≤ 16777216 then some (D.tup (xs.map D.int ++ ys.map D.int)) else none) = _
  rw [if_pos (by rw [List.length_map, List.length_map]; exact h), ← List.map_append]
  rfl
theorem ii_int (g : Int → Int → D) (i j : Int) : iiD g (.int i) (.int j) = some (g i j) := rfl
theorem iic_int {c : Int → Int → Bool} (g : Int → Int → D) {i j : Int} (h : c i j = true) : iicD c g (.int i) (.int j) = some (g i j) := by
  show (if c i j = true then some (g i j) else none) = _
  rw [if_pos h]
theorem od_int (o : Od) (i j : Int) : odD o (.int i) (.int j) = some (.bl (o.i i j)) := rfl
theorem toInt_int (i : Int) : Say.intD [.int i] = some (.int i) := rfl
theorem wp_getP {f : PF} {s : Pen} {R : D → Pen → Prop} {Ex : XR} : wpM (getP f) s R Ex = R (.int (f.get s)) s := rfl
theorem wp_lenP {s : Pen} {R : D → Pen → Prop} {Ex : XR} : wpM lenP s R Ex = R (.int (s.cells.length : Int)) s := rfl
theorem wp_cells {s : Pen} {R : List Int → Pen → Prop} {Ex : XR} : wpM getCells s R Ex = R s.cells s := rfl
theorem wp_setP {f : PF} {i : Int} (h : f.may i = true) {s : Pen} {R : Unit → Pen → Prop} {Ex : XR} : wpM (setP f (.int i)) s R Ex = R () (f.put i s) := by
  show wpM (if f.may i = true then putP f i else bad) s R Ex = _
  rw [if_pos h]
  rfl
theorem wp_if {α : Type} {c : Prop} [Decidable c] {a b : M α} {s : Pen} {R : α → Pen → Prop} {Ex : XR} : wpM (if c then a else b) s R Ex = if c then wpM a s R Ex else wpM b s R Ex := by
  by_cases h : c
  · rw [if_pos h, if_pos h]
  · rw [if_neg h, if_neg h]
@[simp] theorem truB_bl (b : Bool) : truB (.bl b) = pure b := rfl
theorem fld_in (i : Int) : PF.fld.may (i % 2147483563) = true := decide_eq_true (p := 0 ≤ i % 2147483563 ∧ i % 2147483563 < 2147483563) ⟨Int.emod_nonneg _ (by decide), Int.emod_lt_of_pos _ (by decide)⟩
end Say

namespace Say
open L2 PyProof.Rows PySem.Spec PySem

/-! ### dicts, keys ints -/
def isI (k : Int) : D → Bool
  | .int j => decide (j = k)
  | _ => false
def getI (k : Int) : List (D × D) → Option D
  | [] => none
  | x :: r => if isI k x.1 = true then some x.2 else getI k r
def putI (kvs : List (D × D)) (k : Int) (d : D) : List (D × D) := if (kvs.any fun x => isI k x.1) = true then kvs.map (fun x => if isI k x.1 = true then (x.1, d) else x) else kvs ++ [(.int k, d)]
theorem length_putI (kvs : List (D × D)) (k : Int) (d : D) : (putI kvs k d).length ≤ kvs.length + 1 := by
  unfold putI
  split
  · rw [List.length_map]; omega
  · rw [List.length_append,
        List.length_cons, List.length_nil]; omega
section
variable {K : PySem.W.Frag} {p : PL} {H : Hp} {F : Addr → Prop}
theorem RepK.length : ∀ {vs : List (Key × V)} {ds : List (D × D)}, RepK K p H F vs ds → vs.length = ds.length
  | _, _, .nil => rfl
  | _, _, .int _ r => by rw [List.length_cons, List.length_cons, RepK.length r]
  | _, _, .str _ r => by rw [List.length_cons, List.length_cons, RepK.length r]
theorem RepK.get (k : Int) : ∀ {vs : List (Key × V)} {ds : List (D × D)}, RepK K p H F vs ds → (getI k ds = none ∧ valV vs (.inl k) = none) ∨ ∃ d v, getI k ds = some d ∧ valV vs (.inl k) = some v ∧ Rep K p H F v d
  | _, _, .nil =>
      .inl ⟨rfl, rfl⟩
  | _, _, .int (i := i) (v := v) (d := d) (vs := vs) (ds := ds) h r => by
    by_cases e : i = k
    · subst e
      exact .inr ⟨d, v, if_pos (decide_eq_true rfl), valV_pos rfl, h⟩
    · have e1 : getI k ((D.int i, d) :: ds) = getI k ds := if_neg (by show ¬ decide (i = k) = true; simp [e])
      have e2 : valV ((Sum.inl i, v) :: vs) (Sum.inl k : Key) = valV vs (Sum.inl k : Key) := valV_neg fun z => e (by injection z)
      rw [e1, e2]
      exact RepK.get k r
  | _, _, .str (x := x) (v := v) (d := d) (vs := vs) (ds := ds) h r => by
    have e1 : getI k ((D.str x, d) :: ds) = getI k ds := if_neg (by show ¬ false = true; simp)
    have e2 : valV ((Sum.inr x, v) :: vs) (Sum.inl k : Key) = valV vs (Sum.inl k : Key) := valV_neg fun z => by injection z
    rw [e1, e2]
    exact RepK.get k r
theorem RepK.any (k : Int) : ∀ {vs : List (Key × V)} {ds : List (D × D)}, RepK K p H F vs ds → (vs.any fun kv => decide (kv.1 = (Sum.inl k : Key))) = ds.any fun x => isI k x.1
  | _, _, .nil => rfl
  | _, _, .int (i := i) h r => by
    rw [List.any_cons, List.any_cons, RepK.any k r]
    congr 1
    show decide ((Sum.inl i : Key) = Sum.inl k) = decide (i = k)
    by_cases e : i = k
    · simp [e]
    · rw [decide_eq_false e, decide_eq_false fun z => e (by injection z)]
  | _, _, .str h r => by
    rw [List.any_cons, List.any_cons, RepK.any k r]
    congr 1
theorem RepK.snoc {k : Int} {v : V} {d : D} (h : Rep K p H F v d) : ∀ {vs : List (Key × V)} {ds : List (D × D)}, RepK K p H F vs ds → RepK K p H F (vs ++ [(.inl k, v)]) (ds ++ [(.int k, d)])
  | _, _, .nil => .int h .nil
  | _, _, .int q r => .int q (RepK.snoc h r)
  | _, _, .str q r => .str q (RepK.snoc h r)
theorem RepK.repl {k : Int} {v : V} {d : D} (h : Rep K p H F v d) : ∀ {vs : List (Key × V)} {ds : List (D × D)}, RepK K p H F vs ds → RepK K p H F (vs.map fun kv => if kv.1 = (.inl k : Key) then (kv.1, v) else kv) (ds.map fun x => if isI k x.1 = true then (x.1, d) else x)
  | _, _, .nil => .nil
  | _, _, .int (i := i) q r => by
    rw [List.map_cons,
        List.map_cons]
    by_cases e : i = k
    · subst e
      rw [if_pos rfl, if_pos (show isI i (D.int i) = true from decide_eq_true rfl)]
      exact .int h (RepK.repl h r)
    · rw [if_neg fun z => e (by injection z), if_neg (by show ¬ decide (i = k) = true; simp [e])]
      exact .int q (RepK.repl h r)
  | _, _, .str q r => by
    rw [List.map_cons, List.map_cons, if_neg fun z => by injection z, if_neg (by show ¬ false = true; simp)]
    exact .str q (RepK.repl h r)
theorem RepK.put {k : Int} {v : V} {d : D} (h : Rep K p H F v d) {vs : List (Key × V)} {ds : List (D × D)} (r : RepK K p H F vs ds) : RepK K p H F (putK vs (.inl k) v) (putI ds k d) := by
  unfold putK putI
  rw [r.any k]
  by_cases e : (ds.any fun x => isI k x.1) = true
  · rw [if_pos e, if_pos e]; exact r.repl h
  · rw [if_neg e, if_neg e]; exact r.snoc h
theorem RepK.keys : ∀ {vs : List (Key × V)} {ds : List (D × D)}, RepK K p H F vs ds → RepL K p H F (vs.map fun kv => kV kv.1) (ds.map (·.1)) ∨ ∃ x ∈ ds, ∃ s, x.1 = .str s
  | _, _, .nil => .inl .nil
  | _, _, .int (i := i) h r => (RepK.keys r).imp (fun q => .cons (.int i) q) fun ⟨x, m, e⟩ => ⟨x, List.mem_cons_of_mem _ m, e⟩
  | _, _, .str (x := x) (d := d) h r => .inr ⟨(.str x, d), List.mem_cons_self, x, rfl⟩
end
/-! d[y], y in d -/
def dgetM : D → D → M D
  | .dct kvs, .int i => (match getI i kvs with
    | some d => pure d
    | none => bad)
  | _, _ => bad
def dinM (neg : Bool) : D → D → M Bool
  | .int i, .dct kvs => pure (if neg = true then !(getI i kvs).isSome else (getI i kvs).isSome)
  | _, _ => bad
section
variable {X : Cx} {p : PL} {e a b : Expr} {es : List Expr} {f g fe : En} {fs : List En} {pos pos' : Pos} {k : Nat}
theorem de_dget (hr : Room k X.A) (ha : DE X p a f) (hb : DE X p b g) (hs : NoSl b := by exact fun _ _ => rfl) : DE X p (.Subscript a b pos) (fun ρ => f ρ >>= fun x => g ρ >>= fun y => dgetM x y) := by
  refine ⟨fun W G H0 ρ σ H s R Ex Q tk rl hw q px => tE_of (pe_dget (by have := hr.un; omega) pe_self pe_self hs) ?_⟩
  rw [wp_bind] at hw
  refine ha.run W G H0 ρ σ H s _ Ex _ tk rl hw (fun d s1 v H1 h1 a1 r1 => ?_) px
  rw [wp_bind] at h1
  refine hb.run W G H0 ρ σ H1 s1 _ Ex _ tk (rl.step a1.st a1.pen) h1 (fun d2 s2 v2 H2 h2 a2 r2 => ?_) (px.at a1)
  have r1' := r1.mono (a2.st.toF rl.fpa) fun _ z => z
  unfold dgetM at h2
  split at h2
  · rename_i kvs i
    cases r2
    cases r1' with
    | dct h1 n1 l1 =>
      rename_i a0 vs
      rcases l1.get i with ⟨e1, e2⟩ | ⟨d, v, e1, e2, e3⟩
      · rw [e1] at h2
        exact h2.elim
      · rw [e1] at h2
        exact ⟨a0, v, rfl, by rw [← e2]; exact DGet.k (k := .inl i) h1, q d s2 v H2 h2 (a1.trans a2) e3⟩
  · exact h2.elim
theorem din_run (neg : Bool) (ha : DE X p a f) (hb : DE X p b g) {W : WX} {G : Addr → Prop} {H0 : Hp} {ρ : Env} {σ : L2.St} {H : Hp} {s : Pen} {R : Bool → Pen → Prop} {Ex : XR} {Q : VK} (tk : Takes X W) (rl : Rel X.K p G H0 ρ σ H s)
    (hw : wpM (f ρ >>= fun x => g ρ >>= fun y => dinM neg x y) s R Ex) (q : ∀ d s' H', R d s' → Af p H H' s' → Q (.bl d) H') (px : PX X p W G σ H Ex) :
    tE X a σ H fun y H1 => tE X b σ H1 fun x H2 => ∃ c o, x = .ref c ∧ DGet H2 c y o ∧ Q (.bl (if neg = true then !o.isSome else o.isSome)) H2 := by
  rw [wp_bind] at hw
  refine ha.run W G H0 ρ σ H s _ Ex _ tk rl hw (fun d s1 v H1 h1 a1 r1 => ?_) px
  rw [wp_bind] at h1
  refine hb.run W G H0 ρ σ H1 s1 _ Ex _ tk (rl.step a1.st a1.pen) h1 (fun d2 s2 v2 H2 h2 a2 r2 => ?_) (px.at a1)
  unfold dinM at h2
  split at h2
  · rename_i i kvs
    cases r1
    cases r2 with
    | dct h1 n1 l1 =>
      rename_i a0 vs
      refine ⟨a0, _, rfl, DGet.k (k := .inl i) h1, ?_⟩
      rcases l1.get i with ⟨e1, e2⟩ | ⟨d, v, e1, e2, e3⟩
      · rw [e2]
        rw [e1] at h2
        exact q _ s2 H2 h2 (a1.trans a2)
      · rw [e2]
        rw [e1] at h2
        exact q _ s2 H2 h2 (a1.trans a2)
  · exact h2.elim
theorem din_wp {neg : Bool} {ρ : Env} {s : Pen} {R : D → Pen → Prop} {Ex : XR} (h : wpM (f ρ >>= fun x => g ρ >>= fun y => dinM neg x y >>= fun c => (pure (.bl c) : M D)) s R Ex) : wpM (f ρ >>= fun x => g ρ >>= fun y => dinM neg x y) s (fun c s' => R (.bl c) s') Ex := by
  simp only [wp_bind] at h ⊢
  exact h
theorem dt_din (hr : Room k X.A) (ha : DE X p a f) (hb : DE X p b g) (hm : behindInMarks .In b = false := by first | exact nomark _ | rfl) : DT X p (.Compare a [.In] [b] pos) (fun ρ => f ρ >>= fun x => g ρ >>= fun y => dinM false x y) :=
  ⟨fun W G H0 ρ σ H s R Ex Q tk rl hw q px => tT_of (pt_cmp (pc_din (by have := hr.un; omega) pe_self pe_self) hm) (din_run (Q := fun x H1 => ∃ c, x = .bl c ∧ Q c H1) false ha hb tk rl hw (fun d s' H' h a => ⟨d, rfl, q d s' H' h a⟩) px)⟩
theorem dt_dnotin (hr : Room k X.A) (ha : DE X p a f) (hb : DE X p b g) (hm : behindInMarks .NotIn b = false := by first | exact nomark _ | rfl) : DT X p (.Compare a [.NotIn] [b] pos) (fun ρ => f ρ >>= fun x => g ρ >>= fun y => dinM true x y) :=
  ⟨fun W G H0 ρ σ H s R Ex Q tk rl hw q px => tT_of (pt_cmp (pc_dnotin (by have := hr.un; omega) pe_self pe_self) hm) (din_run (Q := fun x H1 => ∃ c, x = .bl c ∧ Q c H1) true ha hb tk rl hw (fun d s' H' h a => ⟨d, rfl, q d s' H' h a⟩) px)⟩
theorem de_din (hr : Room k X.A) (ha : DE X p a f) (hb : DE X p b g) (hm : behindInMarks .In b = false := by first | exact nomark _ | rfl) : DE X p (.Compare a [.In] [b] pos) (fun ρ => f ρ >>= fun x => g ρ >>= fun y => dinM false x y >>= fun c => pure (.bl c)) :=
  ⟨fun W G H0 ρ σ H s R Ex Q tk rl hw q px => tE_of (pe_cmp (pc_din (by have := hr.un; omega) pe_self pe_self) hm) (din_run (R := fun c s' => R (.bl c) s') false ha hb tk rl (din_wp hw) (fun d s' H' h a => q _ s' _ H' h a (.bl d)) px)⟩
theorem de_dnotin (hr : Room k X.A) (ha : DE X p a f) (hb : DE X p b g) (hm : behindInMarks .NotIn b = false := by first | exact nomark _ | rfl) : DE X p (.Compare a [.NotIn] [b] pos) (fun ρ => f ρ >>= fun x => g ρ >>= fun y => dinM true x y >>= fun c => pure (.bl c)) :=
  ⟨fun W G H0 ρ σ H s R Ex Q tk rl hw q px => tE_of (pe_cmp (pc_dnotin (by have := hr.un; omega) pe_self pe_self) hm) (din_run (R := fun c s' => R (.bl c) s') true ha hb tk rl (din_wp hw) (fun d s' H' h a => q _ s' _ H' h a (.bl d)) px)⟩
/-! list(d) -/
def listKM : List D → M (List D)
  | [.dct kvs] => if kvs.length ≤ 16777216 ∧ (kvs.all fun x => match x.1 with | .int _ => true | _ => false) = true then pure (kvs.map (·.1)) else bad
  | _ => bad
theorem dn_listK (hm : X.mg "list" = none) (ha : DA X p [e] fs) (hc : X.calm = true := by rfl) (hg : Gl X "list" := by rfl) (he : starEach (e :: []) X.env = (false, eval e X.env) :: starEach [] X.env := by rfl) (hpl : (backTo pos (starEach [] X.env)).any (·.1) = false := by rfl) :
    DN X p (.Call (.Name "list" pos') [e] [] pos) (fun ρ => seqA fs ρ listKM) := by
  refine ⟨fun W G H0 ρ σ H s R Ex Q tk rl hw q px => tE_of (pe_callTy (call_list_dK hc) hg hm (by decide +kernel) pa_self (by decide) (by decide) he hpl) ?_⟩
  refine ha.run _ listKM W G H0 ρ σ H s R Ex _ tk rl hw (fun ds s1 vs H1 h1 a1 r1 _ => ?_) px
  unfold listKM at h1
  split at h1
  · rename_i kvs _
    by_cases hk : kvs.length ≤ 16777216 ∧ (kvs.all fun x => match x.1 with | .int _ => true | _ => false) = true
    · rw [if_pos hk] at h1
      cases r1 with
      | cons r1 r2 =>
        cases r2
        cases r1 with
        | dct ho n1 l1 =>
          refine ⟨_, _, rfl, ho, fun l hl => ?_⟩
          have lr : RepL X.K p H1 (Fo G ρ σ) _ (kvs.map (·.1)) := l1.keys.resolve_right fun ⟨x, m, t, e⟩ => by
            have := List.all_eq_true.mp hk.2 x m
            rw [e] at this
            cases this
          have h1 : R (kvs.map Prod.fst) s1 := h1
          exact q (kvs.map Prod.fst) s1 l _ _ h1 (a1.trans (.same a1.pen (same_new hl))) (back_none a1 hl) upd_same (by rw [List.length_map]; exact hk.1) ((lr.more (N := fun a => a = l) fun a z => by rw [z]; exact hl).mono ((same_step (p := p) (same_new hl)).toF (.inl rl.fpa)) fun _ z => z)
    · rw [if_neg hk] at h1
      exact h1.elim
  · exact h1.elim
end
/-! ### d[y] = v -/
def ownK : Option Sl → M (List (D × D))
  | some (.own (.dct xs)) => pure xs
  | _ => bad
def putM (kvs : List (D × D)) (k d : D) : M (List (D × D)) := match k with
  | .int i => if kvs.length < 16777216 then pure (putI kvs i d) else bad
  | _ => bad
def sDput (i : Nat) (fk fv : En) : S := fun k _ _ _ ρ => fv ρ >>= fun d => ownK ρ[i]? >>= fun kvs => fk ρ >>= fun x => putM kvs x d >>= fun ys => k (ρ.set i (.own (.dct ys)))
section
variable {X : Cx} {p : PL} {e a b : Expr} {es : List Expr} {f g fe : En} {fs : List En} {pos pos' : Pos} {k : Nat}
theorem ownK_ok {K : PySem.W.Frag} {G : Addr → Prop} {H0 H : Hp} {ρ : Env} {σ : L2.St} {s : Pen} {α : Type} {i : Nat} {k : List (D × D) → M α} {R : α → Pen → Prop} {Ex : XR} (rl : Rel K p G H0 ρ σ H s) (h : wpM (ownK ρ[i]? >>= k) s R Ex) :
    ∃ (xs : List (D × D)) (q : Addr) (vs : List (Key × V)), ρ[i]? = some (.own (.dct xs)) ∧ σ[i]? = some (some (.ref q)) ∧ H0 q = none ∧ q ≠ p.pa ∧ H q = some (.dK vs) ∧ RepK K p H (Fo G ρ σ) vs xs ∧ wpM (k xs) s R Ex := by
  cases eo : ρ[i]? with
  | none => rw [eo] at h; exact h.elim
  | some y =>
    rw [eo] at h
    cases y with
    | own d =>
      cases d with
      | dct xs =>
        obtain ⟨q, h1, h2, vs, h3, h4⟩ := rl.own i _ eo rfl
        exact ⟨xs, q, vs, rfl, h1, h2, fun z => rl.gne i _ q eo rfl h1 (by rw [z]; exact rl.gpa), h3, h4, h⟩
      | _ => exact h.elim
    | _ => exact h.elim
theorem putM_ok {α : Type} {xs : List (D × D)} {y d : D} {k : List (D × D) → M α} {s : Pen} {R : α → Pen → Prop} {Ex : XR} (h : wpM (putM xs y d >>= k) s R Ex) : ∃ i, y = .int i ∧ xs.length < 16777216 ∧ wpM (k (putI xs i d)) s R Ex := by
  cases y with
  | int i =>
    have h : wpM ((if xs.length < 16777216 then pure (putI xs i d) else bad) >>= k) s R Ex := h
    by_cases hl : xs.length < 16777216
    · rw [if_pos hl] at h
      exact ⟨i, rfl, hl, h⟩
    · rw [if_neg hl] at h
      exact h.elim
  | _ => exact h.elim
theorem ds_dput (i : Nat) {x : Str} {p1 p2 : Pos} (hr : Room k X.A) (hv : DE X p b g) (he : DE X p e fe) (hN : X.N[i]? = some x := by rfl) (hvs : Vis X.env.scope x := by first | exact Or.inl rfl | exact Or.inr (Or.inl rfl) | exact Or.inr (Or.inr rfl)) (hd : (x == ("__debug__" : Str)) = false := by decide)
    (hcd : (x == ("__classdict__" : Str)) = false := by decide) (hs : swapsWith b (some (.Subscript (.Name x p1) e p2)) pos.line X.env = pure false := by rfl) : DS X p (.Assign [.Subscript (.Name x p1) e p2] b pos) (sDput i fe g) := by
  refine ⟨fun W G H0 ρ σ H s kk r bb c R Ex Dn tk rl hw wy px => tS_of (ps_dput (by have := hr.un; omega) (pv i hN hvs hd hcd) pe_self pe_self hs) ?_⟩
  have hw : wpM (g ρ >>= fun d => ownK ρ[i]? >>= fun kvs => fe ρ >>= fun x => putM kvs x d >>= fun ys => kk (ρ.set i (.own (.dct ys)))) s R Ex := hw
  rw [wp_bind] at hw
  refine hv.run W G H0 ρ σ H s _ Ex _ tk rl hw (fun d s1 v H1 w1 a1 r1 => ?_) (px.px rl.old)
  have rl1 := rl.step a1.st a1.pen
  obtain ⟨xs, q, vs, e1, es, h2, np, h3, h4, w1⟩ := ownK_ok rl1 w1
  refine ⟨_, es, ?_⟩
  rw [wp_bind] at w1
  refine he.run W G H0 ρ σ H1 s1 _ Ex _ tk rl1 w1 (fun y s2 u H2 w2 a2 r2 => ?_) (px.px rl1.old)
  obtain ⟨n, ey, hl, w3⟩ := putM_ok w2
  subst ey
  cases r2
  have rl2 := rl1.step a2.st a2.pen
  have fq : Fo G ρ σ q := .inr ⟨i, _, e1, rfl, es⟩
  have l4 := h4.mono (a2.st.toF rl.fpa) fun _ z => z
  refine ⟨q, _, rfl, DPut.k (k := .inl n) (a2.st q _ h3 np) (by rw [h4.length, sizeLine_eq]; exact hl), ?_⟩
  refine wy.nx _ σ _ s2 (rl2.updOwn (y := .own (.dct (putI xs n d))) e1 rfl rfl es ⟨_, upd_same, ?_⟩) w3
  refine (l4.put (r1.mono (a2.st.toF rl.fpa) fun _ z => z)).mono (fun a o z w => ?_) fun _ z => z
  rw [upd_ne fun y => w (by rw [y]; exact fq)]
  exact z
end
end Say

namespace Say
open L2 PyProof.Rows PySem.Spec PySem

/-! ### dict comprehensions -/
def compK (h : D → Option Env) (t : Env → M Bool) (ek e : Env → M D) : List (D × D) → List D → M (List (D × D))
  | acc, [] => pure acc
  | acc, x :: xs => bindT (h x) fun ρ => nx (t ρ) >>= fun b => if b = true then nx (ek ρ) >>= fun k => nx (e ρ) >>= fun v => putM acc k v >>= fun acc' => compK h t ek e acc' xs else compK h t ek e acc xs
def dcM (vs : List Nat) (g : Env → M (List D)) (h : D → Env → Option Env) (t : Env → M Bool) (ek e : Env → M D) (ρ : Env) : M (List (D × D)) := g ρ >>= fun xs => if okW vs ρ = true then compK (fun x => h x (wipeE ρ vs)) t ek e [] xs else bad
section
variable {X : Cx} {p : PL} {elt kx tg iter : Expr} {ifs : List Expr} {scope : Scope} {own : List (Str × Nat)} {pos pos' : Pos} {g : Env → M (List D)} {h : D → Env → Option Env} {ts : List Nat} {t : Env → M Bool} {e ek : Env → M D}
theorem dc_run (hi : DI X p false tg iter g) (hg : ∀ s H C cl fp, DG (Blk X s H scope C cl fp) p tg ts h) (ht : ∀ s H C cl fp, DTs (Blk X s H scope C cl fp) p ifs t) (hkx : ∀ s H C cl fp, DE (Blk X s H scope C cl fp) p kx ek) (he : ∀ s H C cl fp, DE (Blk X s H scope C cl fp) p elt e) {vs : List Nat} (hv : ∀ i ∈ ts, i ∈ vs)
    {W : WX} {G : Addr → Prop} {H0 : Hp} {ρ : Env} {σ : L2.St} {H : Hp} {s : Pen} {R : List (D × D) → Pen → Prop} {Ex : XR} {Q : VK} (tk : Takes X W) (rl : Rel X.K p G H0 ρ σ H s) (hw : wpM (dcM vs g h t ek e ρ) s R Ex)
    (q : ∀ ds s' a ws H', R ds s' → Af p H H' s' → H a = none → H' a = some (.dK ws) → ds.length ≤ 16777216 → RepK X.K p H' (fun b => Fo G ρ σ b ∨ b = a) ws ds → Q (.ref a) H') (px : PX X p W G σ H Ex) :
    tDc (tI X tg iter) (bG X scope tg) (bT X scope ifs) (bE X scope kx) (bE X scope elt) vs σ H Q := by
  unfold dcM at hw
  rw [wp_bind] at hw
  refine hi.run W G H0 ρ σ H s _ Ex _ tk rl hw (fun ds s1 H1 J h1 a1 ok => ?_) px
  by_cases hk : okW vs ρ = true
  case neg => rw [if_neg hk] at h1; exact h1.elim
  rw [if_pos hk] at h1
  intro L hL
  have rl1 := rl.step a1.st a1.pen
  -- within: the new list is not to be touched by what is carried
  have start : Rel X.K p (fun a => G a ∨ a = L) H0 ρ σ (upd H1 L (.dK [])) s1 := by
    have sm := same_new (o := .dK []) hL
    have rn := rl1.step (same_step (p := p) sm) (a1.pen.same sm)
    have fo : ∀ a, Fo (fun a => G a ∨ a = L) ρ σ a → Fo G ρ σ a ∨ a = L := fun a z => by
      rcases z with (z | z) | z
      · exact .inl (.inl z)
      · exact .inr z
      · exact .inl (.inr z)
    refine ⟨rn.len, fun i d e => ?_, fun i x e hx => ?_, rn.inj, rn.old, rn.pen, .inl rn.gpa, .inl rn.gca, fun a ha => ?_, fun i x a e hx e2 => ?_⟩
    · obtain ⟨v, q1, q2⟩ := rl1.dat i d e
      exact ⟨v, q1, ((q2.more (N := fun a => a = L) fun a z => by rw [z]; exact hL).mono ((same_step (p := p) sm).toF (.inl rl1.fpa)) fo)⟩
    · obtain ⟨a, q1, q2, q3⟩ := rl1.own i x e hx
      refine ⟨a, q1, q2, ?_⟩
      have old : ∀ o, H1 a = some o → upd H1 L (.dK []) a = some o := fun o z => sm a o z
      cases x with
      | no => exact q3.elim
      | dat d => exact q3.elim
      | self c fs =>
        obtain ⟨hx, dx, ws, z1, z0, z2⟩ := q3
        exact ⟨hx, dx, ws, old _ z1, z0, (z2.more (N := fun a => a = L) fun a z => by rw [z]; exact hL).mono ((same_step (p := p) sm).toF (.inl rl1.fpa)) fo⟩
      | own d =>
        cases d with
        | lst ds =>
          obtain ⟨ws, z1, z0, z2⟩ := q3
          exact ⟨ws, old _ z1, z0, (z2.more (N := fun a => a = L) fun a z => by rw [z]; exact hL).mono ((same_step (p := p) sm).toF (.inl rl1.fpa)) fo⟩
        | dct ds =>
          obtain ⟨ws, z1, z2⟩ := q3
          exact ⟨ws, old _ z1, (z2.more (N := fun a => a = L) fun a z => by rw [z]; exact hL).mono ((same_step (p := p) sm).toF (.inl rl1.fpa)) fo⟩
        | _ => exact q3.elim
    · rcases ha with ha | ha
      · exact rn.gex a ha
      · rw [ha]
        exact ⟨_, upd_same⟩
    · rintro (z | z)
      · exact rn.gne i x a e hx e2 z
      · subst z
        obtain ⟨b, q1, q2, q3⟩ := rl1.own i x e hx
        rw [e2] at q1
        cases q1
        obtain ⟨o, ho, _⟩ := q3.there
        rw [hL] at ho
        cases ho
  have szl : sizeLine = 16777216 := sizeLine_eq
  have h0L : H0 L = none := back_none (s1 := s1) ⟨rl1.old, rl1.pen⟩ hL
  have nLp : L ≠ p.pa := fun z => by
    rw [z, a1.pen.dict] at hL
    cases hL
  have nLc : L ≠ p.ca := fun z => by
    rw [z, a1.pen.cells] at hL
    cases hL
  have toFo : ∀ a, (Fo G ρ σ a ∨ a = L) → Fo (fun a => G a ∨ a = L) ρ σ a := fun a z => by
    rcases z with (z | z) | z
    · exact .inl (.inl z)
    · exact .inr z
    · exact .inl (.inr z)
  refine ⟨fun i m Hc => m = ds.length - i ∧ i ≤ ds.length ∧ ∃ sc acc dacc, Step p H1 Hc ∧ Rel X.K p (fun a => G a ∨ a = L) H0 ρ σ Hc sc ∧ Hc L = some (.dK acc) ∧ RepK X.K p Hc (fun a => Fo G ρ σ a ∨ a = L) acc dacc ∧ dacc.length ≤ i ∧
    wpM (compK (fun x => h x (wipeE ρ vs)) t ek e dacc (ds.drop i)) sc R Ex, ⟨ds.length, rfl, Nat.zero_le _, s1, [], [], same_step (same_new hL), start, upd_same, .nil, Nat.zero_le _, h1⟩, ?_⟩
  rintro i m Hc ⟨rfl, hi', sc, acc, dacc, st, rc, hacc, racc, hlen, hwp⟩
  have stF : StepF (Fs false G (Fo G ρ σ)) H1 Hc := fun a o e n => st a o e fun z => n (show G a by rw [z]; exact rl.gpa)
  by_cases hlt : i < ds.length
  · obtain ⟨go, yl⟩ := ok.go i ds[i] Hc stF (List.getElem?_eq_getElem hlt)
    refine .inr ⟨go, fun H' => ∃ sc acc dacc, Step p H1 H' ∧ Rel X.K p (fun a => G a ∨ a = L) H0 ρ σ H' sc ∧ H' L = some (.dK acc) ∧ RepK X.K p H' (fun a => Fo G ρ σ a ∨ a = L) acc dacc ∧ dacc.length ≤ i + 1 ∧
      wpM (compK (fun x => h x (wipeE ρ vs)) t ek e dacc (ds.drop (i + 1))) sc R Ex, fun H' hN => ⟨_, by omega, rfl, hlt, hN⟩, fun x Hy y => ?_⟩
    have stF' : StepF (fun a => Fo G ρ σ a ∨ a = L) H1 Hc := fun a o e n => st a o e fun z => n (.inl (by rw [z]; exact rl.fpa))
    obtain ⟨sm, rx⟩ := yld_rep ((yl x Hy y).more (N := fun a => a = L) fun a z => by rw [z]; exact hL) (.inl rl.fpa) stF' fun a ha z => rc.fresh ha (toFo a z)
    have ry := rc.step (same_step (p := p) sm) (rc.pen.same sm)
    rw [List.drop_eq_getElem_cons hlt] at hwp
    have hwp : wpM (bindT (h ds[i] (wipeE ρ vs)) fun ρ' => nx (t ρ') >>= fun b => if b = true then nx (ek ρ') >>= fun k => nx (e ρ') >>= fun v => putM dacc k v >>= fun acc' => compK (fun x => h x (wipeE ρ vs)) t ek e acc' (ds.drop (i + 1)) else compK (fun x => h x (wipeE ρ vs)) t ek e dacc (ds.drop (i + 1))) sc R Ex := hwp
    cases eh : h ds[i] (wipeE ρ vs) with
    | none => rw [eh] at hwp; exact hwp.elim
    | some ρ' =>
    rw [eh] at hwp
    have hwp : wpM (nx (t ρ') >>= fun b => if b = true then nx (ek ρ') >>= fun k => nx (e ρ') >>= fun v => putM dacc k v >>= fun acc' => compK (fun x => h x (wipeE ρ vs)) t ek e acc' (ds.drop (i + 1)) else compK (fun x => h x (wipeE ρ vs)) t ek e dacc (ds.drop (i + 1))) sc R Ex := hwp
    rw [wp_bind] at hwp
    have hacc' := sm _ _ hacc
    have racc' := racc.mono ((same_step (p := p) sm).toF (.inl rl.fpa)) fun _ z => z
    intro sB HB CB clB fpB
    refine (hg sB HB CB clB fpB).run (fun a => G a ∨ a = L) H0 (wipeE ρ vs) ρ' (L2.wipe σ vs) Hy sc x ds[i] _ (ry.wipe vs) (rx.mono (fun _ _ z _ => z) fun a z => ?_) eh fun σ2 r2 sb => ⟨by rw [sb.1 vs hv, wipe_wipe], ?_⟩
    · have := fo_wipe' z
      rcases this with (z | z) | z
      · exact .inl (.inl z)
      · exact .inr z
      · exact .inl (.inr z)
    intro sC HC CC clC fpC
    refine (ht sC HC CC clC fpC).run takesN r2 (wp_nx hwp) (fun b s3 H3 hb a3 => ?_) fun _ _ _ _ _ _ z => z.elim
    have r3 := r2.step a3.st a3.pen
    have rc3 := ry.step a3.st a3.pen
    have st3 : Step p H1 H3 := (st.trans (same_step sm)).trans a3.st
    have hacc3 : H3 L = some (.dK acc) := a3.st L _ hacc' nLp
    have racc3 := racc'.mono (a3.st.toF (.inl rl.fpa)) fun _ z => z
    cases b with
    | false =>
      rw [if_neg (by decide)] at hb ⊢
      exact ⟨s3, acc, dacc, st3, rc3, hacc3, racc3, by omega, hb⟩
    | true =>
      rw [if_pos rfl] at hb ⊢
      rw [wp_bind] at hb
      intro sD HD CD clD fpD
      refine (hkx sD HD CD clD fpD).run _ _ _ _ _ _ _ _ _ _ takesN r3 (wp_nx hb) (fun dk s4 u H4 hd a4 r4 => ?_) fun _ _ _ _ _ _ z => z.elim
      have r4' := r3.step a4.st a4.pen
      rw [wp_bind] at hd
      intro sF HF CF clF fpF
      refine (he sF HF CF clF fpF).run _ _ _ _ _ _ _ _ _ _ takesN r4' (wp_nx hd) (fun d s5 v H5 hd5 a5 r5 => ?_) fun _ _ _ _ _ _ z => z.elim
      obtain ⟨nk, ey, hl16, w5⟩ := putM_ok hd5
      subst ey
      cases r4
      have a45 := a4.trans a5
      have hacc4 : H5 L = some (.dK acc) := a45.st L _ hacc3 nLp
      have racc4 := racc3.mono (a45.st.toF (.inl rl.fpa)) fun _ z => z
      have rc4 := rc3.step a45.st a45.pen
      have hl : acc.length = dacc.length := racc4.length
      refine ⟨acc, .inl nk, rfl, hacc4, by rw [hl, szl]; exact hl16, s5, putK acc (.inl nk) v, putI dacc nk d, fun a o e n => ?_, rc4.updG (.inr rfl) h0L nLp nLc, upd_same, ?_, by have := length_putI dacc nk d; omega, w5⟩
      · rw [upd_ne fun z => by rw [z, hL] at e; cases e]
        exact (st3.trans a45.st) a o e n
      · have rv : Rep X.K p H5 (fun a => Fo G ρ σ a ∨ a = L) v d := r5.mono (fun _ _ z _ => z) fun a z => by
          rcases z with (z | ⟨j, y, z1, z2, z3⟩) | z
          · exact .inl (.inl z)
          · have hn : j ∉ vs := fun hm => by
              have := List.all_eq_true.mp hk j hm
              rw [z1] at this
              simp [z2] at this
            have ht' : j ∉ ts := fun hm => hn (hv j hm)
            obtain ⟨e1, e2⟩ := sb.2 j ht'
            exact .inr ⟨j, y, by rw [e1, wipeE_out hn]; exact z1, z2, by rw [e2, L2.wipe_out hn]; exact z3⟩
          · exact .inl (.inr z)
        refine (racc4.put rv).mono (fun a o e n => ?_) fun _ z => z
        rw [upd_ne fun z => n (.inr z)]
        exact e
  · have e : i = ds.length := by omega
    subst e
    rw [List.drop_length] at hwp
    have hwp : R dacc sc := hwp
    exact .inl ⟨ok.stop Hc stF, q dacc sc L acc Hc hwp (a1.trans ⟨st, rc.pen⟩) (back_none a1 hL) hacc (Nat.le_trans hlen ok.sz) racc⟩

/-- name = {..} on one line, the name a local -/
theorem ps_setDcS {i : Nat} {y : Str} {py : Pos} {spos : Pos} {wi : TI} {gg : TG} {tt : TT} {tk te : TE} (hc : X.calm = true) (hN : X.N.Nodup) (hy : X.N[i]? = some y) (hyl : X.env.scope.names.lookup y = some .local)
    (hsw : swapsWith (.DictComp kx elt [⟨tg, iter, ifs, 0⟩] scope pos) (some (.Name y py)) spos.line X.env = pure true) (hi : PI X tg iter wi) (ok : BlkOk X.N X.env.scope scope own)
    (hg : ∀ s H C cl fp, PG (Blk X s H scope C cl fp) tg gg) (ht : ∀ s H C cl fp, PTs (Blk X s H scope C cl fp) ifs tt)
    (hk : ∀ s H C cl fp, PE (Blk X s H scope C cl fp) kx tk) (he : ∀ s H C cl fp, PE (Blk X s H scope C cl fp) elt te) (hs : ∀ x, foldedSetIterable iter X.env x = pure x) :
    PS X (.Assign [.Name y py] (.DictComp kx elt [⟨tg, iter, ifs, 0⟩] scope pos) spos) (tAsg (tDc wi gg tt tk te (own.map (·.2))) (gName i)) := by
  refine ⟨fun pins s σ H Dn I h => ?_⟩
  rw [exec_Assign_Name_used
      _ _ _ _ hsw]
  refine wpAny_bind
      (wpAny_standAt (wpAny_bind ?_))
  have h : tDc wi gg tt tk te (own.map (·.2)) σ H (fun x H1 => gName i x σ H1 Dn.nx) := h
  refine wpAny_bind (thn (dc_core (Qf := fun _ s' => SP X pins Dn .next s') hc hN I hi ok hg ht hk he hs h fun L C s' m H' I' q hn f => ?_) fun _ s' hq => wpAny_pure (wpAny_pure hq))
  refine wpAny_assign_Name (store_ok2 (v := V.ref L) I' hN hy
      (.inl hyl) rfl (fun s2 I2 ⟨a, sb, ha⟩ => ?_) (.inr hyl))
  obtain ⟨f0, f1, f2,
      f3, f4, f5⟩ := f
  have haC : C ≠ a := by
    rcases ha with z | z
    · exact fun e => f1 (e.trans z)
    · exact fun e =>
          f4 y a z e.symm
  refine ⟨m, hn.sameBut sb
      haC, fun h3 sb3 => ?_⟩
  exact ⟨_, H', I2.turned (t' := s2.toks) (fun b o
      hb e => (sb3.2 b hb).trans e) f0 f1 f3 f4 f5, q⟩
theorem swK_true {gs : List Comprehension} {py : Pos} {y : Str} {l : Nat} {env : PySem.Env} (hk : env.scope.kind = .function) (hy : env.scope.names.lookup y = some .local) (hl : (py.line == pos.line) = true)
    (ha : (scope.names.any fun (n, k) => n == y && (k == .local || k == .cell)) = false) : swapsWith (.DictComp kx elt gs scope pos) (some (.Name y py)) l env = pure true := by
  have ky : env.kindOf
      y = some .local := hy
  have hb : env.blockKind = .function := by unfold PySem.Env.blockKind; rw [hk]; rfl
  unfold swapsWith
  simp only [hb, ky,
      ha, Expr.pos, hl]
  rfl
theorem ds_dcO (i : Nat) {x : Str} {py : Pos} (own : List (Str × Nat)) (hN : X.N.Nodup) (hi : DI X p false tg iter g) (hg : ∀ s H C cl fp, DG (Blk X s H scope C cl fp) p tg ts h) (ht : ∀ s H C cl fp, DTs (Blk X s H scope C cl fp) p ifs t) (hkx : ∀ s H C cl fp, DE (Blk X s H scope C cl fp) p kx ek) (he : ∀ s H C cl fp, DE (Blk X s H scope C cl fp) p elt e)
    (hy : X.N[i]? = some x := by rfl) (hyl : X.env.scope.names.lookup x = some .local := by rfl) (hl : (py.line == pos.line) = true := by rfl) (ha : (scope.names.any fun (n, k) => n == x && (k == .local || k == .cell)) = false := by decide +kernel) (hk : X.env.scope.kind = .function := by rfl)
    (ok : blkC X.N X.env.scope scope own = true := by first | kernel_rfl | rfl) (hv : ∀ i ∈ ts, i ∈ own.map (·.2) := by decide) (hc : X.calm = true := by rfl) (hs : ∀ x, foldedSetIterable iter X.env x = pure x := by intro _; rfl) :
    DS X p (.Assign [.Name x py] (.DictComp kx elt [⟨tg, iter, ifs, 0⟩] scope pos) pos') (fun k _ _ _ ρ => if i < ρ.length then dcM (own.map (·.2)) g h t ek e ρ >>= fun ds => k (ρ.set i (.own (.dct ds))) else bad) := by
  refine ⟨fun W G H0 ρ σ H s k r b c R Ex Dn tk rl hw wy px => tS_of (ps_setDcS (wi := tI X tg iter) (gg := bG X scope tg) (tt := bT X scope ifs) (tk := bE X scope kx) (te := bE X scope elt) hc hN hy hyl (swK_true hk hyl hl ha) pi_self (blkOk_by ok)
    (fun s H C cl fp => ⟨fun pins sh σ H v u Q I r h => pg_self.run pins sh σ H v u Q I r (h s _ C cl fp)⟩) (fun s H C cl fp => ⟨fun pins sh σ H Q I h => pts_self.run pins sh σ H Q I (h s _ C cl fp)⟩) (fun s H C cl fp => ⟨fun pins sh σ H Q I h => pe_self.run pins sh σ H Q I (h s _ C cl fp)⟩) (fun s H C cl fp => ⟨fun pins sh σ H Q I h => pe_self.run pins sh σ H Q I (h s _ C cl fp)⟩) hs) ?_⟩
  have hw : wpM (if i < ρ.length then dcM (own.map (·.2)) g h t ek e ρ >>= fun ds => k (ρ.set i (.own (.dct ds))) else bad) s R Ex := hw
  by_cases hil : i < ρ.length
  case neg => rw [if_neg hil] at hw; exact hw.elim
  rw [if_pos hil, wp_bind] at hw
  exact dc_run hi hg ht hkx he hv tk rl hw (fun ds s1 q vs H1 h1 a1 n1 e1 hz r1 => wy.nx _ _ H1 s1 ((rl.step a1.st a1.pen).putOwn (x := .own (.dct ds)) rl n1 hil ⟨vs, e1, r1⟩ a1.st) h1) (px.px rl.old)
/-- kept as data -/
theorem ds_dcD (i : Nat) {x : Str} {py : Pos} (own : List (Str × Nat)) (hN : X.N.Nodup) (hi : DI X p false tg iter g) (hg : ∀ s H C cl fp, DG (Blk X s H scope C cl fp) p tg ts h) (ht : ∀ s H C cl fp, DTs (Blk X s H scope C cl fp) p ifs t) (hkx : ∀ s H C cl fp, DE (Blk X s H scope C cl fp) p kx ek) (he : ∀ s H C cl fp, DE (Blk X s H scope C cl fp) p elt e)
    (hy : X.N[i]? = some x := by rfl) (hyl : X.env.scope.names.lookup x = some .local := by rfl) (hl : (py.line == pos.line) = true := by rfl) (ha : (scope.names.any fun (n, k) => n == x && (k == .local || k == .cell)) = false := by decide +kernel) (hk : X.env.scope.kind = .function := by rfl)
    (ok : blkC X.N X.env.scope scope own = true := by first | kernel_rfl | rfl) (hv : ∀ i ∈ ts, i ∈ own.map (·.2) := by decide) (hc : X.calm = true := by rfl) (hs : ∀ x, foldedSetIterable iter X.env x = pure x := by intro _; rfl) :
    DS X p (.Assign [.Name x py] (.DictComp kx elt [⟨tg, iter, ifs, 0⟩] scope pos) pos') (sSet i fun ρ => dcM (own.map (·.2)) g h t ek e ρ >>= fun xs => pure (.dct xs)) := by
  refine ⟨fun W G H0 ρ σ H s k r b c R Ex Dn tk rl hw wy px => tS_of (ps_setDcS (wi := tI X tg iter) (gg := bG X scope tg) (tt := bT X scope ifs) (tk := bE X scope kx) (te := bE X scope elt) hc hN hy hyl (swK_true hk hyl hl ha) pi_self (blkOk_by ok)
    (fun s H C cl fp => ⟨fun pins sh σ H v u Q I r h => pg_self.run pins sh σ H v u Q I r (h s _ C cl fp)⟩) (fun s H C cl fp => ⟨fun pins sh σ H Q I h => pts_self.run pins sh σ H Q I (h s _ C cl fp)⟩) (fun s H C cl fp => ⟨fun pins sh σ H Q I h => pe_self.run pins sh σ H Q I (h s _ C cl fp)⟩) (fun s H C cl fp => ⟨fun pins sh σ H Q I h => pe_self.run pins sh σ H Q I (h s _ C cl fp)⟩) hs) ?_⟩
  have hw : wpM ((dcM (own.map (·.2)) g h t ek e ρ >>= fun xs => pure (.dct xs)) >>= fun d => k (ρ.set i (.dat d))) s R Ex := hw
  rw [bind_assoc, wp_bind] at hw
  exact dc_run hi hg ht hkx he hv tk rl hw (fun ds s1 q vs H1 h1 a1 n1 e1 hz r1 => wy.nx _ _ H1 s1 ((rl.step a1.st a1.pen).put rfl fun d' e => by
    cases e
    exact ⟨_, rfl, .dct e1 (rl.fresh n1) (r1.mono (fun _ _ z _ => z) fun _ z => .inl z)⟩) h1) (px.px rl.old)
end
end Say

namespace Say
open L2 PyProof.Rows PySem.Spec PySem

/-! ### sorted(set(t)) -/
section
variable {X : Cx} {p : PL} {e a b : Expr} {es : List Expr} {f g fe : En} {fs : List En} {pos pos' : Pos} {k : Nat}
theorem cr_setI (hc : X.calm = true) : CallR X (.type "set") (fun xs H Q => ∃ (l : Addr) (ns : List Int), xs = [.ref l] ∧ SqT X.K H l (ns.map V.int) ∧ ns.length ≤ 60 ∧ ∀ a c, H a = none → c ≤ ns.length → Q (.ref a) (upd H a (SetO X.w a (fun j => decide (j ∈ ns)) c))) := by
  intro pins s σ
      H xs us Q I r h
  obtain ⟨l, ns, rfl, hq, hl, q⟩ := h
  rw [Vals.ref1 r]
  obtain ⟨its, rv, pt, hz⟩ := I.tuple hq
  have hi : IntsAre its.toArray.toList
      ns := ints_of_vals rv
  refine call_set_tupI ns (I.ok.hd hc) (show s.heap.IsTuple l its.toArray from pt) hi (by unfold scanBound; omega) fun h' tk c R1 hcn kk => ?_
  exact ⟨.ref _, upd H s.heap.objs.size (SetO X.w s.heap.objs.size (fun j => decide (j ∈ ns)) c), I.laid (t' := tk) kk (Nat.le_refl _) (setO_new R1), rfl, q _ c (I.hok.fresh (Nat.le_refl _)) hcn⟩
/-- ascending, each once -/
def insI (i : Int) : List Int → List Int
  | [] => [i]
  | j :: r => if i < j then i :: j :: r else if i = j then j :: r else j :: insI i r
def setI : List Int → List Int
  | [] => []
  | i :: r => insI i (setI r)
theorem mem_insI {i k : Int} : ∀ {l : List Int}, k ∈ insI i l ↔ k = i ∨ k ∈ l
  | [] => by simp [insI]
  | j :: r => by
    unfold insI
    split
    · simp
    · split
      · rename_i h; subst h; simp
      · simp only [List.mem_cons, mem_insI (l := r)]
        constructor
        · rintro (h | h | h) <;> simp [h]
        · rintro (h | h | h) <;> simp [h]
theorem mem_setI {k : Int} : ∀ {l : List Int}, k ∈ setI l ↔ k ∈ l
  | [] => by simp [setI]
  | i :: r => by
    show k ∈ insI i (setI r) ↔ _
    rw [mem_insI, mem_setI (l := r), List.mem_cons]
theorem asc_insI {i : Int} : ∀ {l : List Int}, l.Pairwise (· < ·) → (insI i l).Pairwise (· < ·)
  | [], _ => by simp [insI]
  | j :: r, h => by
    obtain ⟨h1, h2⟩ :=
        List.pairwise_cons.mp h
    unfold insI
    split
    · rename_i q
      refine List.pairwise_cons.mpr ⟨fun x hx => ?_, h⟩
      rcases List.mem_cons.mp hx with z | z
      · rw [z]; exact q
      · have := h1 x z; omega
    · split
      · exact h
      · refine List.pairwise_cons.mpr ⟨fun x hx => ?_, asc_insI h2⟩
        rcases mem_insI.mp hx with z | z
        · rw [z]; omega
        · exact h1 x z
theorem asc_setI : ∀ {l : List Int}, (setI l).Pairwise (· < ·)
  | [] => .nil
  | i :: r => asc_insI (asc_setI (l := r))
theorem asc_ext : ∀ {l m : List Int}, l.Pairwise (· < ·) → m.Pairwise (· < ·) → (∀ k, k ∈ l ↔ k ∈ m) → l = m
  | [], [], _, _, _ => rfl
  | [], j :: m, _, _, h => by have := (h j).mpr List.mem_cons_self; cases this
  | i :: l, [], _, _, h => by have := (h i).mp List.mem_cons_self; cases this
  | i :: l, j :: m, h1, h2, h => by
    obtain ⟨a1, a2⟩ := List.pairwise_cons.mp h1
    obtain ⟨b1, b2⟩ := List.pairwise_cons.mp h2
    have e : i = j := by
      have q1 := (h i).mp List.mem_cons_self
      have q2 := (h j).mpr List.mem_cons_self
      rcases List.mem_cons.mp q1 with z | z
      · exact z
      · rcases List.mem_cons.mp q2 with y | y
        · exact y.symm
        · have := b1 i z
          have := a1 j y
          omega
    subst e
    rw [asc_ext a2 b2 fun k => ?_]
    have := h k
    rw [List.mem_cons, List.mem_cons] at this
    constructor
    · intro hk
      exact (this.mp (.inr hk)).resolve_left fun z => by have := a1 k hk; omega
    · intro hk
      exact (this.mpr (.inr hk)).resolve_left fun z => by have := b1 k hk; omega
def setM : D → M (List D)
  | .tup xs => (match intsOf xs with
    | some ns => if ns.length ≤ 60 then pure ((setI ns).map D.int) else bad
    | none => bad)
  | _ => bad
theorem setI_len : ∀ (l : List Int), (setI l).length ≤ l.length
  | [] => Nat.le_refl _
  | i :: r => by
    have h1 : ∀ l : List Int, (insI i l).length ≤ l.length + 1 := fun l => by
      induction l with
      | nil => exact Nat.le_refl _
      | cons j r ih =>
        unfold insI
        split
        · exact Nat.le_refl _
        · split
          · simp
          · simp only
                [List.length_cons]; omega
    have := h1 (setI r)
    have := setI_len r
    show (insI i (setI r)).length ≤ r.length + 1
    omega
theorem dn_sortedSet {p2 p3 : Pos} (hm : X.mg "sorted" = none) (hms : X.mg "set" = none) (ha : DE X p e f) (hc : X.calm = true := by rfl) (hg : Gl X "sorted" := by rfl) (hgs : Gl X "set" := by rfl)
    (he : starEach (e :: []) X.env = (false, eval e X.env) :: starEach [] X.env := by rfl)
    (he2 : starEach (Expr.Call (.Name "set" p2) [e] [] p3 :: []) X.env = (false, eval (Expr.Call (.Name "set" p2) [e] [] p3) X.env) :: starEach [] X.env := by rfl) (hpl : (backTo p3 (starEach [] X.env)).any (·.1) = false := by rfl) (hpl2 : (backTo pos (starEach [] X.env)).any (·.1) = false := by rfl) :
    DN X p (.Call (.Name "sorted" pos') [.Call (.Name "set" p2) [e] [] p3] [] pos) (fun ρ => f ρ >>= setM) := by
  refine ⟨fun W G H0 ρ σ H s R Ex Q tk rl hw q px => tE_of (pe_callB (cr_sortedSet hc) hg hm boot_sorted (pa_cons (pe_callTy (cr_setI hc) hgs hms (by decide +kernel) (pa_cons pe_self pa_nil he) (by decide) (by decide) he hpl) pa_nil he2) (by decide) (by decide) he2 hpl2) ?_⟩
  rw [wp_bind] at hw
  refine ha.run W G H0 ρ σ H s _ Ex _ tk rl hw (fun d s1 v H1 h1 a1 r1 => ?_) px
  unfold setM at h1
  split at h1
  · rename_i xs
    split at h1
    · rename_i ns en
      by_cases h60 : ns.length ≤ 60
      · rw [if_pos h60] at h1
        have exs := intsOf_ok en
        subst exs
        cases r1 with
        | tup ho hz l1 =>
          rename_i vs
          have ev : vs = ns.map V.int := repL_ints l1
          subst ev
          refine ⟨_, ns, rfl, tupSq ho, h60, fun a c ha hcn => ?_⟩
          refine ⟨a, _, c, rfl, upd_same, by omega, fun ms l hasc hmem hlen hl => ?_⟩
          have em : ms = setI ns := asc_ext hasc asc_setI fun k => by rw [hmem k, mem_setI]; simp
          subst em
          have hla : l ≠ a := fun z => by rw [z, upd_same] at hl; cases hl
          have hl1 : H1 l = none := by rw [upd_ne hla] at hl; exact hl
          have sm : Same H1 (upd (upd H1 a (SetO X.w a (fun j => decide (j ∈ ns)) c)) l (.lst ((setI ns).map V.int))) := fun b o z => by
            rw [upd_ne (ne_of_none z hl1), upd_ne (ne_of_none z ha)]
            exact z
          refine q _ s1 l _ _ h1 (a1.trans (.same a1.pen sm)) (back_none a1 hl1) upd_same ?_ (RepL.ints _)
          have := setI_len ns
          rw [List.length_map]
          omega
      · rw [if_neg h60] at h1
        exact h1.elim
    · exact h1.elim
  · exact h1.elim
/-! ### xs.extend([..]) -/
def sExt (i : Nat) (f : Env → M (List D)) : S := fun k _ _ _ ρ => ownL ρ[i]? >>= fun xs => f ρ >>= fun ys => if xs.length + ys.length ≤ 16777216 then k (ρ.set i (.own (.lst (xs ++ ys)))) else bad
theorem ds_ext (i : Nat) {x : Str} {p1 p2 : Pos} {fl : Env → M (List D)} (he : DN X p e fl) (hN : X.N[i]? = some x := by rfl) (hv : Vis X.env.scope x := by first | exact Or.inl rfl | exact Or.inr (Or.inl rfl) | exact Or.inr (Or.inr rfl)) (hd : (x == ("__debug__" : Str)) = false := by decide)
    (hcd : (x == ("__classdict__" : Str)) = false := by decide) (hs : swapsWith (.Call (.Attribute (.Name x p1) "extend" p2) [e] [] pos') none pos.line X.env = pure false := by rfl)
    (hp : PE X (.Call (.Attribute (.Name x p1) "extend" p2) [e] [] pos') (tBM X.K "list" rExtend (tVar i) (tCons (tE X e) tNil)) := by exact pe_bm PySem.F.plainAttrs_list PySem.F.slot_list_extend PySem.F.type_list_extend mt_extend (pv _) (pa_cons pe_self pa_nil)) :
    DS X p (.Expr (.Call (.Attribute (.Name x p1) "extend" p2) [e] [] pos') pos) (sExt i fl) := by
  refine ⟨fun W G H0 ρ σ H s k r b c R Ex Dn tk rl hw wy px => tS_of (ps_expr hp hs) ?_⟩
  obtain ⟨xs, q, vs, eo, h1, h2, nq, h3, hz, h4, hw⟩ := ownL_ok rl (show wpM (ownL ρ[i]? >>= fun xs => fl ρ >>= fun ys => if xs.length + ys.length ≤ 16777216 then k (ρ.set i (.own (.lst (xs ++ ys)))) else bad) s R Ex from hw)
  refine ⟨_, h1, .inl ⟨rfl, vs, .inl (.inl h3)⟩, ?_⟩
  rw [wp_bind] at hw
  refine he.run W G H0 ρ σ H s _ Ex _ tk rl hw (fun ds s1 a ws H1 w1 a1 n1 e1 hz1 r1 => ?_) (px.px rl.old)
  by_cases hl : xs.length + ds.length ≤ 16777216
  case neg => rw [if_neg hl] at w1; exact w1.elim
  rw [if_pos hl] at w1
  have rl1 := rl.step a1.st a1.pen
  have l4 := h4.mono (a1.st.toF rl.fpa) fun _ z => z
  have fq : Fo G ρ σ q := .inr ⟨i, _, eo, rfl, h1⟩
  have r1' : RepL X.K p H1 (Fo G ρ σ) ws ds := r1.mono (fun _ _ z _ => z) fun _ z => .inl z
  refine ⟨q, a, vs, ws, rfl, rfl, a1.st q _ h3 nq, e1, by rw [l4.length, r1.length, sizeLine_eq]; exact hl, wy.nx _ σ _ s1 (rl1.updOwn (y := .own (.lst (xs ++ ds))) eo rfl rfl h1 ⟨vs ++ ws, upd_same, by rw [List.length_append]; exact hl, ?_⟩) w1⟩
  refine (l4.append r1').mono (fun a u z n => ?_) fun _ z => z
  rw [upd_ne fun z => n (by rw [z]; exact fq)]
  exact z
end
end Say

namespace Say
open L2 PyProof.Rows PySem.Spec PySem

/-! ### a dict of lists of ints, all of its own -/
abbrev KV := List (Int × List Int)
inductive NL (H : Hp) : List (Key × V) → List Addr → KV → Prop
  | nil : NL H [] [] []
  | cons {k : Int} {q : Addr} {ns : List Int} {vs : List (Key × V)} {qs : List Addr} {kvs : KV} (h : H q = some (.lst (ns.map V.int))) (hz : ns.length ≤ 16777216) (n : q ∉ qs) (r : NL H vs qs kvs) : NL H ((.inl k, .ref q) :: vs) (q :: qs) ((k, ns) :: kvs)
def getN (k : Int) : KV → Option (List Int)
  | [] => none
  | x :: r => if x.1 = k then some x.2 else getN k r
def setN (k : Int) (ms : List Int) : KV → KV
  | [] => []
  | x :: r => if x.1 = k then (x.1, ms) :: r else x :: setN k ms r
def kvD (kvs : KV) : D := .dct (kvs.map fun x => (.int x.1, .lst (x.2.map D.int)))
theorem NL.mono {H H' : Hp} : ∀ {vs : List (Key × V)} {qs : List Addr} {kvs : KV}, NL H vs qs kvs → (∀ q ∈ qs, ∀ o, H q = some o → H' q = some o) → NL H' vs qs kvs
  | _, _, _, .nil, _ => .nil
  | _, _, _, .cons h hz n r, e => .cons (e _ List.mem_cons_self _ h) hz n (r.mono fun q m => e q (List.mem_cons_of_mem _ m))
theorem NL.len {H : Hp} : ∀ {vs : List (Key × V)} {qs : List Addr} {kvs : KV}, NL H vs qs kvs → vs.length = kvs.length
  | _, _, _, .nil => rfl
  | _, _, _, .cons _ _ _ r => by rw [List.length_cons, List.length_cons, r.len]
theorem NL.there {H : Hp} : ∀ {vs : List (Key × V)} {qs : List Addr} {kvs : KV}, NL H vs qs kvs → ∀ q ∈ qs, ∃ o, H q = some o
  | _, _, _, .nil, _, m => nomatch m
  | _, _, _, .cons h _ _ r, q, m => by
    rcases List.mem_cons.mp
        m with e | e
    · rw [e]; exact ⟨_, h⟩
    · exact r.there q e
theorem NL.get {H : Hp} {k : Int} {ns : List Int} : ∀ {vs : List (Key × V)} {qs : List Addr} {kvs : KV}, NL H vs qs kvs → getN k kvs = some ns →
    ∃ q, q ∈ qs ∧ valV vs (.inl k) = some (.ref q) ∧ H q = some (.lst (ns.map V.int)) ∧ ns.length ≤ 16777216 ∧ ∀ (H1 : Hp) (ms : List Int), ms.length ≤ 16777216 → (∀ q ∈ qs, ∀ o, H q = some o → H1 q = some o) → NL (upd H1 q (.lst (ms.map V.int))) vs qs (setN k ms kvs)
  | _, _, _, .nil, e => by cases e
  | _, _, _, .cons (k := j) (q := q) (ns := ms0) (vs := vs) (qs := qs) (kvs := kvs) h hz n r, e => by
    by_cases c : j = k
    · subst c
      have e1 : ms0 = ns := by
        have e0 : getN j ((j, ms0) :: kvs) = some ms0 := if_pos rfl
        rw [e0] at e
        exact Option.some.inj e
      subst e1
      refine ⟨q, List.mem_cons_self, valV_pos rfl, h, hz, fun H1 ms hl st => ?_⟩
      have e2 : ∀ ms0, setN j ms ((j, ms0) :: kvs) = (j, ms) :: kvs := fun _ => if_pos rfl
      rw [e2]
      refine .cons upd_same hl n (r.mono fun b m o z => ?_)
      rw [upd_ne fun y => n (by rw [← y]; exact m)]
      exact st b (List.mem_cons_of_mem _ m) o z
    · have e1 : getN k kvs = some ns := by
        have : getN k ((j, ms0) :: kvs) = getN k kvs := if_neg c
        rw [← this]; exact e
      obtain ⟨q', m', v', h', z', up⟩ := r.get e1
      have hne : q ≠ q' := fun y => n (by rw [y]; exact m')
      refine ⟨q', List.mem_cons_of_mem _ m', ?_, h', z', fun H1 ms hl st => ?_⟩
      · rw [valV_neg (p := (Sum.inl j, V.ref q)) fun y => c (by injection y)]
        exact v'
      · have e2 : setN k ms ((j, ms0) :: kvs) = (j, ms0) :: setN k ms kvs := if_neg c
        rw [e2]
        refine .cons ?_ hz n (up H1 ms hl fun b m o z => st b (List.mem_cons_of_mem _ m) o z)
        rw [upd_ne hne]
        exact st q List.mem_cons_self _ h
theorem NL.rep {K : PySem.W.Frag} {p : PL} {H : Hp} {F : Addr → Prop} : ∀ {vs : List (Key × V)} {qs : List Addr} {kvs : KV}, NL H vs qs kvs → (∀ q ∈ qs, ¬ F q) → RepK K p H F vs (kvs.map fun x => (.int x.1, .lst (x.2.map D.int)))
  | _, _, _, .nil, _ => .nil
  | _, _, _, .cons h hz n r, e => .int (.lst h (e _ List.mem_cons_self) (by rw [List.length_map]; exact hz) (RepL.ints _)) (r.rep fun q m => e q (List.mem_cons_of_mem _ m))
theorem NL.keys {H : Hp} {k : Int} : ∀ {vs : List (Key × V)} {qs : List Addr} {kvs : KV}, NL H vs qs kvs → k ∉ kvs.map (·.1) → valV vs (.inl k) = none
  | _, _, _, .nil, _ => rfl
  | _, _, _, .cons (k := j) (q := q) h hz n r, e => by
    rw [List.map_cons, List.mem_cons, not_or] at e
    rw [valV_neg (p := (Sum.inl j, V.ref q)) fun y => e.1 (by injection y with y; exact y.symm)]
    exact r.keys e.2
theorem NL.snoc {H : Hp} {k : Int} {q : Addr} {ns : List Int} (h : H q = some (.lst (ns.map V.int))) (hz : ns.length ≤ 16777216) : ∀ {vs : List (Key × V)} {qs : List Addr} {kvs : KV}, NL H vs qs kvs → q ∉ qs → NL H (vs ++ [(.inl k, .ref q)]) (qs ++ [q]) (kvs ++ [(k, ns)])
  | _, _, _, .nil, _ => .cons h hz (by simp) .nil
  | _, _, _, .cons h' hz' n r, e => by
    rw [List.mem_cons, not_or] at e
    refine .cons h' hz' ?_ (r.snoc h hz e.2)
    show ¬ _ ∈ _ ++ [q]
    rw [List.mem_append, not_or]
    exact ⟨n, fun z => e.1 (List.mem_singleton.mp z).symm⟩
section
variable {K : PySem.W.Frag} {p : PL} {G N : Addr → Prop} {H0 H1 Hc : Hp} {ρ : Env} {σ : L2.St} {s s' : Pen}
/-- what is new is not to be touched by what is carried -/
theorem Rel.grow (rl : Rel K p G H0 ρ σ H1 s) (a : Af p H1 Hc s') (hN : ∀ b, N b → H1 b = none) (hc : ∀ b, N b → ∃ o, Hc b = some o) : Rel K p (fun b => G b ∨ N b) H0 ρ σ Hc s' := by
  have rn := rl.step a.st a.pen
  have fo : ∀ b, Fo (fun b => G b ∨ N b) ρ σ b → Fo G ρ σ b ∨ N b := fun b z => by
    rcases z with (z | z) | z
    · exact .inl (.inl z)
    · exact .inr z
    · exact .inl (.inr z)
  have st : StepF (fun b => Fo G ρ σ b ∨ N b) H1 Hc := a.st.toF (.inl rl.fpa)
  refine ⟨rn.len, fun i d e => ?_, fun i x e hx => ?_, rn.inj, rn.old, rn.pen, .inl rn.gpa, .inl rn.gca, fun b hb => ?_, fun i x b e hx e2 => ?_⟩
  · obtain ⟨v, q1, q2⟩ := rl.dat i d e
    exact ⟨v, q1, (q2.more hN).mono st fo⟩
  · obtain ⟨b, q1, q2, q3⟩ := rl.own i x e hx
    have npa : b ≠ p.pa := fun z => rl.gne i x b e hx q1 (by rw [z]; exact rl.gpa)
    have old : ∀ o, H1 b = some o → Hc b = some o := fun o z => a.st b o z npa
    refine ⟨b, q1, q2, ?_⟩
    cases x with
    | no => exact q3.elim
    | dat d => exact q3.elim
    | self c fs =>
      obtain ⟨hx, dx, ws, z1, z0, z2⟩ := q3
      exact ⟨hx, dx, ws, old _ z1, z0, (z2.more hN).mono st fo⟩
    | own d =>
      cases d with
      | lst ds =>
        obtain ⟨ws, z1, z0, z2⟩ := q3
        exact ⟨ws, old _ z1, z0, (z2.more hN).mono st fo⟩
      | dct ds =>
        obtain ⟨ws, z1, z2⟩ := q3
        exact ⟨ws, old _ z1, (z2.more hN).mono st fo⟩
      | _ => exact q3.elim
  · rcases hb with hb | hb
    · exact rn.gex b hb
    · exact hc b hb
  · rintro (z | z)
    · exact rn.gne i x b e hx e2 z
    · obtain ⟨c, q1, q2, q3⟩ := rl.own i x e hx
      rw [e2] at q1
      cases q1
      obtain ⟨o, ho, _⟩ := q3.there
      rw [hN _ z] at ho
      cases ho
end
def unh (ρ : Env) : Bool := ρ.all fun x => !x.held
theorem unh_get {ρ : Env} (h : unh ρ = true) {i : Nat} {x : Sl} (e : ρ[i]? = some x) : x.held = false := by
  have := List.all_eq_true.mp h x (List.mem_of_getElem? e)
  simpa using this
/-- the state while a dict of lists stands at slot n -/
structure NS (K : PySem.W.Frag) (p : PL) (G : Addr → Prop) (n : Nat) (a : Addr) (qs : List Addr) (vs : List (Key × V)) (H0 : Hp) (ρ : Env) (σ : L2.St) (H : Hp) (s : Pen) (kvs : KV) : Prop where
  rel : Rel K p (fun b => G b ∨ b = a ∨ b ∈ qs) H0 ρ σ H s
  at_ : σ[n]? = some (some (.ref a))
  dict : H a = some (.dK vs)
  nl : NL H vs qs kvs
  na : a ∉ qs
  no : ∀ b, b = a ∨ b ∈ qs → ¬ G b ∧ H0 b = none
  gpa : G p.pa
  gca : G p.ca
  un : ∀ (i : Nat) (x : Sl), ρ[i]? = some x → x.held = false
section
variable {K : PySem.W.Frag} {p : PL} {G : Addr → Prop} {n : Nat} {a : Addr} {qs : List Addr} {vs : List (Key × V)} {H0 H H' : Hp} {ρ : Env} {σ : L2.St} {s s' : Pen} {kvs : KV}
theorem fo_un {G : Addr → Prop} {ρ : Env} {σ : L2.St} (un : ∀ (i : Nat) (x : Sl), ρ[i]? = some x → x.held = false) {b : Addr} (h : Fo G ρ σ b) : G b := by
  rcases h with h | ⟨i, x, e, hx, _⟩
  · exact h
  · rw [un i x e] at hx
    cases hx
theorem NS.ne (h : NS K p G n a qs vs H0 ρ σ H s kvs) {b : Addr} (m : b = a ∨ b ∈ qs) : b ≠ p.pa := fun z => (h.no b m).1 (by rw [z]; exact h.gpa)
theorem NS.nec (h : NS K p G n a qs vs H0 ρ σ H s kvs) {b : Addr} (m : b = a ∨ b ∈ qs) : b ≠ p.ca := fun z => (h.no b m).1 (by rw [z]; exact h.gca)
theorem un_set {ρ : Env} (un : ∀ (i : Nat) (x : Sl), ρ[i]? = some x → x.held = false) {i : Nat} {y : Sl} (hy : y.held = false) : ∀ (j : Nat) (x : Sl), (ρ.set i y)[j]? = some x → x.held = false := fun j x e => by
  rcases get_set e with ⟨_, q, _⟩ | ⟨_, e⟩
  · rw [q]; exact hy
  · exact un j x e
/-- read as data -/
theorem NS.view (h : NS K p G n a qs vs H0 ρ σ H s kvs) : Rel K p G H (ρ.set n (.dat (kvD kvs))) σ H s := by
  have un := un_set (i := n) (y := .dat (kvD kvs)) h.un rfl
  refine ⟨by rw [List.length_set]; exact h.rel.len, fun i d e => ?_, fun i x e hx => ?_, fun i j x y b e hx => ?_, Step.refl, h.rel.pen, h.gpa, h.gca, fun b hb => h.rel.gex b (.inl hb), fun i x b e hx => ?_⟩
  · rcases get_set e with ⟨rfl, q, hl⟩ | ⟨ne, e⟩
    · cases q
      exact ⟨_, h.at_, .dct h.dict (fun z => (h.no a (.inl rfl)).1 (fo_un un z)) (h.nl.rep fun q m z => (h.no q (.inr m)).1 (fo_un un z))⟩
    · obtain ⟨v, q1, q2⟩ := h.rel.dat i d e
      exact ⟨v, q1, q2.mono (fun _ _ z _ => z) fun b z => .inl (.inl (fo_un un z))⟩
  · rw [un i x e] at hx; cases hx
  · rw [un i x e] at hx; cases hx
  · rw [un i x e] at hx; cases hx
theorem NS.step (h : NS K p G n a qs vs H0 ρ σ H s kvs) (st : Step p H H') (pn : PenAt H' p s') : NS K p G n a qs vs H0 ρ σ H' s' kvs where
  rel := h.rel.step st pn
  at_ := h.at_
  dict := st _ _ h.dict (h.ne (.inl rfl))
  nl := h.nl.mono fun q m o z => st _ _ z (h.ne (.inr m))
  na := h.na
  no := h.no
  gpa := h.gpa
  gca := h.gca
  un := h.un
theorem NS.put (h : NS K p G n a qs vs H0 ρ σ H s kvs) {i : Nat} {d : D} {v : V} (hi : i ≠ n) (r : Rep K p H (Fo (fun b => G b ∨ b = a ∨ b ∈ qs) ρ σ) v d) : NS K p G n a qs vs H0 (ρ.set i (.dat d)) (σ.set i (some v)) H s kvs where
  rel := h.rel.put rfl fun d' e => by cases e; exact ⟨v, rfl, r⟩
  at_ := by rw [List.getElem?_set_ne hi]; exact h.at_
  dict := h.dict
  nl := h.nl
  na := h.na
  no := h.no
  gpa := h.gpa
  gca := h.gca
  un := un_set h.un rfl
/-- one of the lists is changed -/
theorem NS.upd (h : NS K p G n a qs vs H0 ρ σ H s kvs) {q : Addr} (m : q ∈ qs) {o : HO} {kvs' : KV} (nl : NL (upd H q o) vs qs kvs') : NS K p G n a qs vs H0 ρ σ (upd H q o) s kvs' where
  rel := h.rel.updG (.inr (.inr m)) (h.no q (.inr m)).2 (h.ne (.inr m)) (h.nec (.inr m))
  at_ := h.at_
  dict := by rw [upd_ne fun z => h.na (by rw [z]; exact m)]; exact h.dict
  nl := nl
  na := h.na
  no := h.no
  gpa := h.gpa
  gca := h.gca
  un := h.un
end
abbrev SN := (Env → KV → M D) → Env → KV → M D
structure DSN (X : Cx) (p : PL) (n : Nat) (st : Stmt) (f : SN) : Prop where
  run : ∀ (G : Addr → Prop) (a : Addr) (qs : List Addr) (vs : List (Key × V)) (H0 : Hp) (ρ : Env) (σ : L2.St) (H : Hp) (s : Pen) (kvs : KV) (k : Env → KV → M D) (R : D → Pen → Prop) (Ex : XR) (Dn : Ends), NS X.K p G n a qs vs H0 ρ σ H s kvs → wpM (f k ρ kvs) s R Ex →
    (∀ ρ σ H s kvs, NS X.K p G n a qs vs H0 ρ σ H s kvs → wpM (k ρ kvs) s R Ex → Dn.nx σ H) → tS X st Dn σ H
structure DSNs (X : Cx) (p : PL) (n : Nat) (st : List Stmt) (f : SN) : Prop where
  run : ∀ (G : Addr → Prop) (a : Addr) (qs : List Addr) (vs : List (Key × V)) (H0 : Hp) (ρ : Env) (σ : L2.St) (H : Hp) (s : Pen) (kvs : KV) (k : Env → KV → M D) (R : D → Pen → Prop) (Ex : XR) (Dn : Ends), NS X.K p G n a qs vs H0 ρ σ H s kvs → wpM (f k ρ kvs) s R Ex →
    (∀ ρ σ H s kvs, NS X.K p G n a qs vs H0 ρ σ H s kvs → wpM (k ρ kvs) s R Ex → Dn.nx σ H) → tSs X st Dn σ H
theorem tyL {K : PySem.W.Frag} {H : Hp} {l : Addr} {xs : List V} (h : H l = some (.lst xs)) : tyV K "list" (.ref l) H := .inl ⟨rfl, xs, .inl (.inl h)⟩
def snSeq (f g : SN) : SN := fun k ρ kvs => f (g k) ρ kvs
section
variable {X : Cx} {p : PL} {n : Nat} {st : Stmt} {sts body : List Stmt} {f g : SN} {e1 e2 tg iter elt : Expr} {f1 f2 : En} {fl : Env → M (List D)} {pos pos' : Pos} {scope : Scope} {h : D → Env → Option Env} {t : Env → M Bool} {ee : En} {ts : List Nat} {ifs : List Expr} {kk : Nat}
theorem dsn_one (h : DSN X p n st f) : DSNs X p n [st] f := ⟨fun G a qs vs H0 ρ σ H s kvs k R Ex Dn ns hw q => tSs_of (pss_one ps_self) (h.run G a qs vs H0 ρ σ H s kvs k R Ex Dn ns hw q)⟩
theorem dsn_cons (h : DSN X p n st f) (h2 : DSNs X p n sts g) : DSNs X p n (st :: sts) (snSeq f g) :=
  ⟨fun G a qs vs H0 ρ σ H s kvs k R Ex Dn ns hw q => tSs_of (pss_cons ps_self pss_self) (h.run G a qs vs H0 ρ σ H s kvs (g k) R Ex _ ns hw fun ρ' σ' H' s' kvs' ns' hw' => h2.run G a qs vs H0 ρ' σ' H' s' kvs' k R Ex Dn ns' hw' q)⟩
def intL (xs : List D) : M (List Int) := match intsOf xs with
  | some ns => pure ns
  | none => bad
theorem intL_ok {α : Type} {xs : List D} {k : List Int → M α} {s : Pen} {R : α → Pen → Prop} {Ex : XR} (h : wpM (intL xs >>= k) s R Ex) : ∃ ns, xs = ns.map D.int ∧ wpM (k ns) s R Ex := by
  unfold intL at h
  cases e : intsOf xs with
  | none => rw [e] at h; exact h.elim
  | some ns => rw [e] at h; exact ⟨ns, intsOf_ok e, h⟩
def intE (d : D) : M Int := match d with
  | .int i => pure i
  | _ => bad
theorem intE_ok {α : Type} {x : D} {k : Int → M α} {s : Pen} {R : α → Pen → Prop} {Ex : XR} (h : wpM (intE x >>= k) s R Ex) : ∃ i, x = .int i ∧ wpM (k i) s R Ex := by
  cases x with
  | int i => exact ⟨i, rfl, h⟩
  | _ => exact h.elim
def getNM (i : Int) (kvs : KV) : M (List Int) := match getN i kvs with
  | some ns => pure ns
  | none => bad
theorem getNM_ok {α : Type} {i : Int} {kvs : KV} {k : List Int → M α} {s : Pen} {R : α → Pen → Prop} {Ex : XR} (h : wpM (getNM i kvs >>= k) s R Ex) : ∃ ns, getN i kvs = some ns ∧ wpM (k ns) s R Ex := by
  unfold getNM at h
  cases e : getN i kvs with
  | none => rw [e] at h; exact h.elim
  | some ns => rw [e] at h; exact ⟨ns, rfl, h⟩
/-- x = [..], the dict read within -/
def snLc (n i : Nat) (k0 : Env → M (List D)) : SN := fun k ρ kvs => nx (k0 (ρ.set n (.dat (kvD kvs)))) >>= fun ds => intL ds >>= fun ns => k (ρ.set i (.dat (.lst (ns.map D.int)))) kvs
theorem dsn_lc (i : Nat) {x : Str} {py : Pos} (own : List (Str × Nat)) (hN : X.N.Nodup) (hi : DI X p false tg iter fl) (hg : ∀ s H C cl fp, DG (Blk X s H scope C cl fp) p tg ts h) (ht : ∀ s H C cl fp, DTs (Blk X s H scope C cl fp) p ifs t) (he : ∀ s H C cl fp, DE (Blk X s H scope C cl fp) p elt ee)
    (hin : i ≠ n := by decide) (hy : X.N[i]? = some x := by rfl) (hyl : X.env.scope.names.lookup x = some .local := by rfl) (hl : (py.line == pos.line) = true := by rfl) (ha : (scope.names.any fun (n, k) => n == x && (k == .local || k == .cell)) = false := by decide +kernel) (hk : X.env.scope.kind = .function := by rfl)
    (ok : blkC X.N X.env.scope scope own = true := by first | kernel_rfl | rfl) (hv : ∀ i ∈ ts, i ∈ own.map (·.2) := by decide) (hc : X.calm = true := by rfl) (hs : ∀ x, foldedSetIterable iter X.env x = pure x := by intro _; rfl) :
    DSN X p n (.Assign [.Name x py] (.ListComp elt [⟨tg, iter, ifs, 0⟩] scope pos) pos') (snLc n i (lcM (own.map (·.2)) fl h t ee)) := by
  refine ⟨fun G a qs vs H0 ρ σ H s kvs k R Ex Dn ns hw q => tS_of (ps_setLc (wi := tI X tg iter) (g := bG X scope tg) (tt := bT X scope ifs) (te := bE X scope elt) hc hN hy hyl (sw_true hk hyl hl ha) pi_self (blkOk_by ok)
    (fun s H C cl fp => ⟨fun pins sh σ H v u Q I r h => pg_self.run pins sh σ H v u Q I r (h s _ C cl fp)⟩) (fun s H C cl fp => ⟨fun pins sh σ H Q I h => pts_self.run pins sh σ H Q I (h s _ C cl fp)⟩) (fun s H C cl fp => ⟨fun pins sh σ H Q I h => pe_self.run pins sh σ H Q I (h s _ C cl fp)⟩) hs) ?_⟩
  have hw : wpM (nx (lcM (own.map (·.2)) fl h t ee (ρ.set n (.dat (kvD kvs)))) >>= fun ds => intL ds >>= fun ns => k (ρ.set i (.dat (.lst (ns.map D.int)))) kvs) s R Ex := hw
  rw [wp_bind] at hw
  refine lc_run hi hg ht he hv takesN ns.view (wp_nx hw) (fun ds s1 l ws H1 h1 a1 n1 e1 hz r1 => ?_) fun _ _ _ _ _ _ z => z.elim
  obtain ⟨ms, em, h2⟩ := intL_ok h1
  subst em
  have ev := repL_ints r1
  subst ev
  exact q _ _ H1 s1 kvs ((ns.step a1.st a1.pen).put hin (.lst e1 (ns.rel.fresh n1) hz (RepL.ints _))) h2
/-- near[e1].append(e2) -/
def snApp (f1 f2 : En) : SN := fun k ρ kvs => nx (f1 ρ) >>= fun d1 => intE d1 >>= fun i => getNM i kvs >>= fun ns => nx (f2 ρ) >>= fun d2 => intE d2 >>= fun j => if ns.length < 16777216 then k ρ (setN i (ns ++ [j]) kvs) else bad
theorem dsn_app {x : Str} {p1 p2 p3 : Pos} (hr : Room kk X.A) (h1 : DE X p e1 f1) (h2 : DE X p e2 f2) (hN : X.N[n]? = some x := by rfl) (hvs : Vis X.env.scope x := by first | exact Or.inl rfl | exact Or.inr (Or.inl rfl) | exact Or.inr (Or.inr rfl)) (hd : (x == ("__debug__" : Str)) = false := by decide)
    (hcd : (x == ("__classdict__" : Str)) = false := by decide) (hsl : NoSl e1 := by exact fun _ _ => rfl) (hs : swapsWith (.Call (.Attribute (.Subscript (.Name x p1) e1 p2) "append" p3) [e2] [] pos') none pos.line X.env = pure false := by rfl)
    (hp : ∀ {to : TE}, PE X (.Subscript (.Name x p1) e1 p2) to → PE X (.Call (.Attribute (.Subscript (.Name x p1) e1 p2) "append" p3) [e2] [] pos') (tBM X.K "list" rAppend to (tCons (tE X e2) tNil)) := by exact fun ho => pe_bm PySem.F.plainAttrs_list PySem.F.slot_list_append PySem.F.type_list_append mt_append ho (pa_cons pe_self pa_nil)) :
    DSN X p n (.Expr (.Call (.Attribute (.Subscript (.Name x p1) e1 p2) "append" p3) [e2] [] pos') pos) (snApp f1 f2) := by
  refine ⟨fun G a qs vs H0 ρ σ H s kvs k R Ex Dn ns hw q => tS_of (ps_expr (hp (pe_dget (by have := hr.un; omega) (pv n hN hvs hd hcd) pe_self hsl)) hs) ?_⟩
  have hw : wpM (nx (f1 ρ) >>= fun d1 => intE d1 >>= fun i => getNM i kvs >>= fun ns => nx (f2 ρ) >>= fun d2 => intE d2 >>= fun j => if ns.length < 16777216 then k ρ (setN i (ns ++ [j]) kvs) else bad) s R Ex := hw
  refine ⟨_, ns.at_, ?_⟩
  rw [wp_bind] at hw
  refine h1.run _ _ _ _ _ _ _ _ _ _ takesN ns.rel (wp_nx hw) (fun d1 s1 v1 H1 w1 a1 r1 => ?_) fun _ _ _ _ _ _ z => z.elim
  obtain ⟨i, ei, w1⟩ := intE_ok w1
  subst ei
  cases r1
  obtain ⟨ms, eg, w1⟩ := getNM_ok w1
  have n1 := ns.step a1.st a1.pen
  obtain ⟨l, ml, ev, hl, hz, up⟩ := n1.nl.get eg
  refine ⟨a, _, rfl, by rw [← ev]; exact DGet.k (k := .inl i) n1.dict, (show tyV X.K "list" (.ref l) H1 from tyL hl), ?_⟩
  rw [wp_bind] at w1
  refine h2.run _ _ _ _ _ _ _ _ _ _ takesN n1.rel (wp_nx w1) (fun d2 s2 v2 H2 w2 a2 r2 => ?_) fun _ _ _ _ _ _ z => z.elim
  obtain ⟨j, ej, w3⟩ := intE_ok w2
  subst ej
  cases r2
  by_cases c : ms.length < 16777216
  case neg => rw [if_neg c] at w3; exact w3.elim
  rw [if_pos c] at w3
  have n2 := n1.step a2.st a2.pen
  refine ⟨l, _, _, rfl, rfl, a2.st l _ hl (n1.ne (.inr ml)), by rw [List.length_map, sizeLine_eq]; exact c, ?_⟩
  have e : (ms.map V.int ++ [V.int j]) = (ms ++ [j]).map V.int := by rw [List.map_append]; rfl
  rw [e]
  exact q _ _ _ s2 _ (n2.upd ml (up H2 (ms ++ [j]) (by rw [List.length_append]; exact c) fun b m o z => a2.st b o z (n1.ne (.inr m)))) w3
/-- near[e1].extend([..]) -/
def snExt (f1 : En) (f2 : Env → M (List D)) : SN := fun k ρ kvs => nx (f1 ρ) >>= fun d1 => intE d1 >>= fun i => getNM i kvs >>= fun ns => nx (f2 ρ) >>= fun ds => intL ds >>= fun ms => if ns.length + ms.length ≤ 16777216 then k ρ (setN i (ns ++ ms) kvs) else bad
theorem dsn_ext {x : Str} {p1 p2 p3 : Pos} (hr : Room kk X.A) (h1 : DE X p e1 f1) (h2 : DN X p e2 fl) (hN : X.N[n]? = some x := by rfl) (hvs : Vis X.env.scope x := by first | exact Or.inl rfl | exact Or.inr (Or.inl rfl) | exact Or.inr (Or.inr rfl)) (hd : (x == ("__debug__" : Str)) = false := by decide)
    (hcd : (x == ("__classdict__" : Str)) = false := by decide) (hsl : NoSl e1 := by exact fun _ _ => rfl) (hs : swapsWith (.Call (.Attribute (.Subscript (.Name x p1) e1 p2) "extend" p3) [e2] [] pos') none pos.line X.env = pure false := by rfl)
    (hp : ∀ {to : TE}, PE X (.Subscript (.Name x p1) e1 p2) to → PE X (.Call (.Attribute (.Subscript (.Name x p1) e1 p2) "extend" p3) [e2] [] pos') (tBM X.K "list" rExtend to (tCons (tE X e2) tNil)) := by exact fun ho => pe_bm PySem.F.plainAttrs_list PySem.F.slot_list_extend PySem.F.type_list_extend mt_extend ho (pa_cons pe_self pa_nil)) :
    DSN X p n (.Expr (.Call (.Attribute (.Subscript (.Name x p1) e1 p2) "extend" p3) [e2] [] pos') pos) (snExt f1 fl) := by
  refine ⟨fun G a qs vs H0 ρ σ H s kvs k R Ex Dn ns hw q => tS_of (ps_expr (hp (pe_dget (by have := hr.un; omega) (pv n hN hvs hd hcd) pe_self hsl)) hs) ?_⟩
  have hw : wpM (nx (f1 ρ) >>= fun d1 => intE d1 >>= fun i => getNM i kvs >>= fun ns => nx (fl ρ) >>= fun ds => intL ds >>= fun ms => if ns.length + ms.length ≤ 16777216 then k ρ (setN i (ns ++ ms) kvs) else bad) s R Ex := hw
  refine ⟨_, ns.at_, ?_⟩
  rw [wp_bind] at hw
  refine h1.run _ _ _ _ _ _ _ _ _ _ takesN ns.rel (wp_nx hw) (fun d1 s1 v1 H1 w1 a1 r1 => ?_) fun _ _ _ _ _ _ z => z.elim
  obtain ⟨i, ei, w1⟩ := intE_ok w1
  subst ei
  cases r1
  obtain ⟨ms, eg, w1⟩ := getNM_ok w1
  have n1 := ns.step a1.st a1.pen
  obtain ⟨l, ml, ev, hl, hz, up⟩ := n1.nl.get eg
  refine ⟨a, _, rfl, by rw [← ev]; exact DGet.k (k := .inl i) n1.dict, (show tyV X.K "list" (.ref l) H1 from tyL hl), ?_⟩
  rw [wp_bind] at w1
  refine h2.run _ _ _ _ _ _ _ _ _ _ takesN n1.rel (wp_nx w1) (fun ds s2 b ws H2 w2 a2 nb eb hzb r2 => ?_) fun _ _ _ _ _ _ z => z.elim
  obtain ⟨js, ej, w3⟩ := intL_ok w2
  subst ej
  have ew := repL_ints r2
  subst ew
  by_cases c : ms.length + js.length ≤ 16777216
  case neg => rw [if_neg c] at w3; exact w3.elim
  rw [if_pos c] at w3
  have n2 := n1.step a2.st a2.pen
  refine ⟨l, b, _, _, rfl, rfl, a2.st l _ hl (n1.ne (.inr ml)), eb, by rw [List.length_map, List.length_map, sizeLine_eq]; exact c, ?_⟩
  rw [← List.map_append]
  exact q _ _ _ s2 _ (n2.upd ml (up H2 (ms ++ js) (by rw [List.length_append]; exact c) fun b m o z => a2.st b o z (n1.ne (.inr m)))) w3

/-- for x in .., the things walked ints -/
def forNn (i : Nat) (f : SN) (k : Env → KV → M D) : List Int → Env → KV → M D
  | [], ρ, kv => k ρ kv
  | m :: ms, ρ, kv => f (forNn i f k ms) (ρ.set i (.dat (.int m))) kv
def snFor (i : Nat) (g : Env → M (List D)) (f : SN) : SN := fun k ρ kvs => nx (g ρ) >>= fun xs => intL xs >>= fun ns => forNn i f k ns ρ kvs
theorem dsn_for (i : Nat) {x : Str} {px' : Pos} (hNd : X.N.Nodup) (hi : DI X p true (.Name x px') iter fl) (hb : DSNs X p n body f) (hp : PassesOwn (model X.prog X.w) X.A X.env X.xe) (hin : i ≠ n := by decide) (hix : X.N[i]? = some x := by rfl) (hx : Loc X.env.scope x := by first | exact Or.inl rfl | exact Or.inr rfl) (hf : X.fn x = true ∨ X.env.scope.names.lookup x = some .local := by first | exact .inl rfl | exact .inr rfl) (hc : X.calm = true := by rfl) (hs : ∀ x, foldedSetIterable iter X.env x = pure x := by intro _; rfl) :
    DSN X p n (.For (.Name x px') iter body [] pos) (snFor i fl f) := by
  refine ⟨fun G a qs vs H0 ρ σ H s kvs k R Ex Dn ns hw q => tS_of (ps_for hp hc pi_self (pg_name hNd hix hx hf) pss_self hs) ?_⟩
  have hw : wpM (nx (fl ρ) >>= fun xs => intL xs >>= fun ms => forNn i f k ms ρ kvs) s R Ex := hw
  rw [wp_bind] at hw
  refine hi.run _ _ _ _ _ _ _ _ _ _ takesN ns.rel (wp_nx hw) (fun ds s1 H1 J h1 a1 ok => ?_) fun _ _ _ _ _ _ z => z.elim
  obtain ⟨ms, em, h2⟩ := intL_ok h1
  subst em
  have n1 := ns.step a1.st a1.pen
  have hlen : (ms.map D.int).length = ms.length := List.length_map _
  -- within: what stood at the start, but for the lists
  let Hb : Hp := fun b => @ite _ (b = a ∨ b ∈ qs) (Classical.propDecidable _) none (H1 b)
  have hb0 : ∀ b, b = a ∨ b ∈ qs → Hb b = none := fun b m => @if_pos _ (Classical.propDecidable _) m _ _ _
  have hb1 : ∀ b, ¬ (b = a ∨ b ∈ qs) → Hb b = H1 b := fun b m => @if_neg _ (Classical.propDecidable _) m _ _ _
  have back : ∀ {ρ' : Env} {σ' : L2.St} {H' : Hp} {s' : Pen} {kv : KV}, NS X.K p G n a qs vs Hb ρ' σ' H' s' kv → NS X.K p G n a qs vs H0 ρ' σ' H' s' kv := fun {ρ' σ' H' s' kv} r => by
    refine ⟨⟨r.rel.len, r.rel.dat, fun j y e hy => ?_, r.rel.inj, fun b o e np => ?_, r.rel.pen, r.rel.gpa, r.rel.gca, r.rel.gex, r.rel.gne⟩, r.at_, r.dict, r.nl, r.na, ns.no, r.gpa, r.gca, r.un⟩
    · rw [r.un j y e] at hy; cases hy
    · have nb : ¬ (b = a ∨ b ∈ qs) := fun m => by rw [(ns.no b m).2] at e; cases e
      refine r.rel.old b o ?_ np
      rw [hb1 b nb]
      exact n1.rel.old b o e np
  have start : NS X.K p G n a qs vs Hb ρ σ H1 s1 kvs := by
    refine ⟨⟨n1.rel.len, n1.rel.dat, fun j y e hy => ?_, n1.rel.inj, fun b o e np => ?_, n1.rel.pen, n1.rel.gpa, n1.rel.gca, n1.rel.gex, n1.rel.gne⟩, n1.at_, n1.dict, n1.nl, n1.na, fun b m => ⟨(n1.no b m).1, hb0 b m⟩, n1.gpa, n1.gca, n1.un⟩
    · rw [n1.un j y e] at hy; cases hy
    · by_cases nb : b = a ∨ b ∈ qs
      · rw [hb0 b nb] at e; cases e
      · rw [hb1 b nb] at e; exact e
  refine ⟨fun j m σc Hc => m = ms.length - j ∧ j ≤ ms.length ∧ ∃ sc ρc kc, NS X.K p G n a qs vs Hb ρc σc Hc sc kc ∧ wpM (forNn i f k (ms.drop j) ρc kc) sc R Ex, ⟨ms.length, rfl, Nat.zero_le _, s1, ρ, kvs, start, h2⟩, ?_⟩
  rintro j m σc Hc ⟨rfl, hj, sc, ρc, kc, rc, hwp⟩
  have stF : StepF (Fs true (fun b => G b ∨ b = a ∨ b ∈ qs) (Fo (fun b => G b ∨ b = a ∨ b ∈ qs) ρ σ)) H1 Hc := fun b o e n => by
    have n : ¬ Fo (fun b => G b ∨ b = a ∨ b ∈ qs) ρ σ b := n
    have nb : ¬ (b = a ∨ b ∈ qs) := fun z => n (.inl (.inr z))
    refine rc.rel.old b o ?_ fun z => n (.inl (.inl (by rw [z]; exact rc.gpa)))
    rw [hb1 b nb]
    exact e
  by_cases hlt : j < ms.length
  · obtain ⟨go, yl⟩ := ok.go j (.int ms[j]) Hc stF (by rw [List.getElem?_map, List.getElem?_eq_getElem hlt]; rfl)
    refine .inr ⟨go, fun σ' H' => ∃ sc ρc kc, NS X.K p G n a qs vs Hb ρc σ' H' sc kc ∧ wpM (forNn i f k (ms.drop (j + 1)) ρc kc) sc R Ex, fun σ' H' hN => ⟨_, by omega, rfl, hlt, hN⟩, fun x Hy y => ?_⟩
    obtain ⟨ey, rx⟩ : Hy = Hc ∧ x = .int ms[j] := by
      rcases yl x Hy y with ⟨e, rr⟩ | ⟨T, ws, es, e1, hT, e2, e3, hz, rr⟩
      · cases rr
        exact ⟨e, rfl⟩
      · cases e3
    subst ey
    subst rx
    rw [List.drop_eq_getElem_cons hlt] at hwp
    have hwp : wpM (f (forNn i f k (ms.drop (j + 1))) (ρc.set i (.dat (.int ms[j]))) kc) sc R Ex := hwp
    exact hb.run G a qs vs Hb _ _ _ sc kc _ R Ex _ (rc.put hin (.int _)) hwp fun ρ' σ' H' s' kv' r' w' => ⟨s', ρ', kv', r', w'⟩
  · have e : j = ms.length := by omega
    subst e
    rw [List.drop_length] at hwp
    refine .inl ⟨?_, q ρc σc Hc sc kc (back rc) hwp⟩
    have := ok.stop Hc stF
    rw [hlen] at this
    exact this

/-- near = {x: [] for x in ..}; ..; return near -/
def sNear (n i : Nat) (g : Env → M (List D)) (f : SN) : S := fun _ r _ _ ρ => if unh ρ = true ∧ n < ρ.length ∧ i < ρ.length then nx (g ρ) >>= fun xs => intL xs >>= fun ns => if ns.Nodup then f (fun _ kvs => r (kvD kvs)) (ρ.set n .no) (ns.map fun k => (k, [])) else bad else bad
theorem dss_near (i : Nat) {x y : Str} {px' py p2 p3 p4 : Pos} {kx : Expr} (own : List (Str × Nat)) (hNd : X.N.Nodup) (hi : DI X p false (.Name y py) iter fl) (hg : ∀ s H C cl fp, DG (Blk X s H scope C cl fp) p (.Name y py) [i] (gNm i)) (hkx : ∀ s H C cl fp, DE (Blk X s H scope C cl fp) p kx (dVar i)) (he : ∀ s H C cl fp, DN (Blk X s H scope C cl fp) p elt (nLst []))
    (hb : DSN X p n st f) (hin : i ≠ n := by decide) (hN : X.N[n]? = some x := by rfl) (hx : Loc X.env.scope x := by first | exact Or.inl rfl | exact Or.inr rfl) (hvs : Vis X.env.scope x := by first | exact Or.inl rfl | exact Or.inr (Or.inl rfl) | exact Or.inr (Or.inr rfl)) (hd : (x == ("__debug__" : Str)) = false := by decide)
    (hcd : (x == ("__classdict__" : Str)) = false := by decide) (hsw : swapsWith (.DictComp kx elt [⟨.Name y py, iter, [], 0⟩] scope pos) (some (.Name x px')) p2.line X.env = pure false := by rfl) (hf : X.fn x = true ∨ X.env.scope.names.lookup x = some .local := by first | exact .inl rfl | exact .inr rfl)
    (ok : blkC X.N X.env.scope scope own = true := by first | kernel_rfl | rfl) (hiv : (own.map (·.2)) = [i] := by rfl) (hc : X.calm = true := by rfl) (hs : ∀ x, foldedSetIterable iter X.env x = pure x := by intro _; rfl) :
    DSs X p (.Assign [.Name x px'] (.DictComp kx elt [⟨.Name y py, iter, [], 0⟩] scope pos) p2 :: [st, .Return (some (.Name x p4)) p3]) (sNear n i fl f) := by
  refine ⟨fun W G H0 ρ σ H s k r b c R Ex Dn tk rl hw wy px => ?_⟩
  have hw : wpM (if unh ρ = true ∧ n < ρ.length ∧ i < ρ.length then nx (fl ρ) >>= fun xs => intL xs >>= fun ns => if ns.Nodup then f (fun _ kvs => r (kvD kvs)) (ρ.set n .no) (ns.map fun k => (k, [])) else bad else bad) s R Ex := hw
  by_cases hu : unh ρ = true ∧ n < ρ.length ∧ i < ρ.length
  case neg => rw [if_neg hu] at hw; exact hw.elim
  rw [if_pos hu, wp_bind] at hw
  have un : ∀ (i : Nat) (x : Sl), ρ[i]? = some x → x.held = false := fun i x e => unh_get hu.1 e
  refine tSs_of (pss_cons (ps_set hNd hN hx (pe_dc (wi := tI X (.Name y py) iter) (g := bG X scope (.Name y py)) (tt := bT X scope []) (tk := bE X scope kx) (tv := bE X scope elt) hc hNd pi_self (blkOk_by ok)
    (fun s H C cl fp => ⟨fun pins sh σ H v u Q I r h => pg_self.run pins sh σ H v u Q I r (h s _ C cl fp)⟩) (fun s H C cl fp => ⟨fun pins sh σ H Q I h => pts_self.run pins sh σ H Q I (h s _ C cl fp)⟩) (fun s H C cl fp => ⟨fun pins sh σ H Q I h => pe_self.run pins sh σ H Q I (h s _ C cl fp)⟩) (fun s H C cl fp => ⟨fun pins sh σ H Q I h => pe_self.run pins sh σ H Q I (h s _ C cl fp)⟩) hs) hsw hf) (pss_cons ps_self (pss_one (ps_ret (pv n hN hvs hd hcd))))) ?_
  refine hi.run _ _ _ _ _ _ _ _ _ _ takesN rl (wp_nx hw) (fun ds s1 H1 J h1 a1 it => ?_) fun _ _ _ _ _ _ z => z.elim
  obtain ⟨ns, en, h2⟩ := intL_ok h1
  subst en
  by_cases hnd : ns.Nodup
  case neg => rw [if_neg hnd] at h2; exact h2.elim
  rw [if_pos hnd] at h2
  have hlen : (ns.map D.int).length = ns.length := List.length_map _
  intro a ha
  rw [hiv]
  have rl1 := rl.step a1.st a1.pen
  have sm0 := same_new (o := .dK []) ha
  refine ⟨fun j m Hc => m = ns.length - j ∧ j ≤ ns.length ∧ ∃ sc qs vs, Af p H1 Hc sc ∧ wpM (f (fun _ kvs => r (kvD kvs)) (ρ.set n .no) (ns.map fun k => (k, []))) sc R Ex ∧ Hc a = some (.dK vs) ∧ NL Hc vs qs ((ns.take j).map fun k => (k, [])) ∧ ∀ q, q ∈ qs → H1 q = none ∧ q ≠ a,
    ⟨ns.length, rfl, Nat.zero_le _, s1, [], [], .same a1.pen sm0, h2, upd_same, .nil, fun q m => nomatch m⟩, ?_⟩
  rintro j m Hc ⟨rfl, hj, sc, qs, vs, ac, wc, hd2, nl, fr⟩
  have stF : StepF (Fs false G (Fo G ρ σ)) H1 Hc := fun b o e n => ac.st b o e fun z => n (show G b by rw [z]; exact rl.gpa)
  have grow : Rel X.K p (fun b => G b ∨ b = a ∨ b ∈ qs) H0 ρ σ Hc sc := rl1.grow ac (fun b z => by
    rcases z with z | z
    · rw [z]; exact ha
    · exact (fr b z).1) fun b z => by
      rcases z with z | z
      · rw [z]; exact ⟨_, hd2⟩
      · exact nl.there b z
  have h0 : ∀ b, H1 b = none → ¬ G b ∧ H0 b = none := fun b z => ⟨fun g => (by
    obtain ⟨o, ho⟩ := rl1.gex b g
    rw [z] at ho
    cases ho), back_none (s1 := s1) ⟨rl1.old, rl1.pen⟩ z⟩
  by_cases hlt : j < ns.length
  · obtain ⟨go, yl⟩ := it.go j (.int ns[j]) Hc stF (by rw [List.getElem?_map, List.getElem?_eq_getElem hlt]; rfl)
    refine .inr ⟨go, fun H' => ∃ sc qs vs, Af p H1 H' sc ∧ wpM (f (fun _ kvs => r (kvD kvs)) (ρ.set n .no) (ns.map fun k => (k, []))) sc R Ex ∧ H' a = some (.dK vs) ∧ NL H' vs qs ((ns.take (j + 1)).map fun k => (k, [])) ∧ ∀ q, q ∈ qs → H1 q = none ∧ q ≠ a, fun H' hN => ⟨_, by omega, rfl, hlt, hN⟩, fun x Hy y => ?_⟩
    obtain ⟨ey, rx⟩ : Hy = Hc ∧ x = .int ns[j] := by
      rcases yl x Hy y with ⟨e, rr⟩ | ⟨T, ws, es, e1, hT, e2, e3, hz, rr⟩
      · cases rr
        exact ⟨e, rfl⟩
      · cases e3
    subst ey
    subst rx
    intro sB HB CB clB fpB
    refine (hg sB HB CB clB fpB).run _ H0 (wipeE ρ [i]) _ (L2.wipe σ [i]) Hy sc (.int ns[j]) (.int ns[j]) _ (grow.wipe [i]) (.int _) rfl fun σ2 r2 sb => ⟨by rw [sb.1 [i] fun i h => h, wipe_wipe], ?_⟩
    intro sC HC CC clC fpC
    refine ⟨_, pts_nil, ?_⟩
    unfold L2.tYes
    simp only [↓reduceIte]
    intro sD HD CD clD fpD
    refine (hkx sD HD CD clD fpD).run _ _ _ _ _ _ sc (fun d s' => d = .int ns[j] ∧ s' = sc) (fun _ _ _ => False) _ takesN r2 ?_ (fun dk s4 u H4 hd a4 r4 => ?_) fun _ _ _ _ _ _ z => z.elim
    · show wpM (slD ((wipeE ρ [i]).set i (.dat (.int ns[j])))[i]?) sc _ (fun _ _ _ => False)
      have el : (wipeE ρ [i]).length = ρ.length := List.length_set
      rw [List.getElem?_set_self (by rw [el]; exact hu.2.2)]
      exact ⟨rfl, rfl⟩
    obtain ⟨ed, es⟩ := hd
    subst ed
    subst es
    cases r4
    have r4' := r2.step a4.st a4.pen
    intro sF HF CF clF fpF
    refine (he sF HF CF clF fpF).run _ _ _ _ _ _ s4 (fun d s' => d = [] ∧ s' = s4) (fun _ _ _ => False) _ takesN r4' ?_ (fun dl s5 q ws H5 hd5 a5 n5 e5 hz5 r5 => ?_) fun _ _ _ _ _ _ z => z.elim
    · show wpM (mkLst []) s4 _ _
      rw [mkLst0]
      exact ⟨rfl, rfl⟩
    obtain ⟨ed, es⟩ := hd5
    subst ed
    subst es
    cases r5
    have a45 := a4.trans a5
    have npa : ∀ b, H1 b = none → b ≠ p.pa := fun b z y => by rw [y, a1.pen.dict] at z; cases z
    have npc : ∀ b, H1 b = none → b ≠ p.ca := fun b z y => by rw [y, a1.pen.cells] at z; cases z
    have hd5 : H5 a = some (.dK vs) := a45.st a _ hd2 (npa a ha)
    have nq : q ∉ qs := fun m => by
      obtain ⟨o, ho⟩ := nl.there q m
      have := a4.st q o ho (npa q (fr q m).1)
      rw [n5] at this
      cases this
    have nqa : q ≠ a := fun z => by
      have := a4.st a _ hd2 (npa a ha)
      rw [← z, n5] at this
      cases this
    have h1q : H1 q = none := back_none (ac.trans a4) n5
    have hkv : valV vs (.inl ns[j]) = none := nl.keys fun m => by
      rw [List.map_map] at m
      obtain ⟨z, hz, ez⟩ := List.mem_map.mp m
      have ez : z = ns[j] := ez
      subst ez
      have := List.take_append_drop j ns
      rw [List.drop_eq_getElem_cons hlt] at this
      rw [← this] at hnd
      exact (List.nodup_append.mp hnd).2.2 _ hz _ List.mem_cons_self rfl
    have hvl : vs.length ≤ j := by
      have := nl.len
      rw [this, List.length_map, List.length_take]
      omega
    have h16 := it.sz
    rw [hlen] at h16
    refine ⟨vs, .inl ns[j], rfl, hd5, by rw [sizeLine_eq]; omega, s5, qs ++ [q], vs ++ [(.inl ns[j], .ref q)], ⟨fun b o e np => ?_, ?_, ?_, a5.pen.ok⟩, wc, ?_, ?_, fun b m => ?_⟩
    · rw [upd_ne (ne_of_none e ha)]
      exact (ac.trans a45).st b o e np
    · rw [upd_ne (npa a ha).symm]
      exact a5.pen.dict
    · rw [upd_ne (npc a ha).symm]
      exact a5.pen.cells
    · rw [putK_new _ hkv]
      exact upd_same
    · have ek : ((ns.take (j + 1)).map fun k => ((k, []) : Int × List Int)) = ((ns.take j).map fun k => (k, [])) ++ [(ns[j], [])] := by
        rw [List.take_succ_eq_append_getElem hlt, List.map_append]
        rfl
      rw [ek]
      refine NL.snoc (ns := []) ?_ (Nat.zero_le _) (nl.mono fun b m o z => ?_) nq
      · rw [upd_ne nqa]
        exact e5
      · rw [upd_ne (fr b m).2]
        exact a45.st b o z (npa b (fr b m).1)
    · rcases List.mem_append.mp m with m | m
      · exact fr b m
      · rw [List.mem_singleton.mp m]
        exact ⟨h1q, nqa⟩
  · have e : j = ns.length := by omega
    subst e
    refine .inl ⟨by have := it.stop Hc stF; rw [hlen] at this; exact this, ?_⟩
    rw [List.take_length] at nl
    have s0 : NS X.K p G n a qs vs H0 (ρ.set n .no) (σ.set n (some (.ref a))) Hc sc (ns.map fun k => (k, [])) := by
      refine ⟨grow.put rfl fun d e => (by cases e), ?_, hd2, nl, fun m => (fr a m).2 rfl, fun b z => ?_, rl.gpa, rl.gca, un_set un rfl⟩
      · exact List.getElem?_set_self (by rw [← rl.len]; exact hu.2.1)
      · rcases z with z | z
        · rw [z]; exact h0 a ha
        · exact h0 b (fr b z).1
    refine hb.run G a qs vs H0 _ _ Hc sc _ _ R Ex _ s0 wc fun ρ' σ' H' s' kvs' ns' w' => ⟨_, ns'.at_, wy.rt (kvD kvs') s' (.ref a) H' ns'.rel.old ns'.rel.pen ?_ w'⟩
    exact .dct ns'.dict (ns'.no a (.inl rfl)).1 (ns'.nl.rep fun q m => (ns'.no q (.inr m)).1)
end
end Say

namespace Say
open L2 PyProof.Rows PySem.Spec PySem

/-! ### the mirror's words for dicts -/
@[simp] def dDget (f g : En) : En := fun ρ => f ρ >>= fun x => g ρ >>= fun y => dgetM x y
@[simp] def tDin (neg : Bool) (f g : En) : Env → M Bool := fun ρ => f ρ >>= fun x => g ρ >>= fun y => dinM neg x y
@[simp] def dDin (neg : Bool) (f g : En) : En := fun ρ => f ρ >>= fun x => g ρ >>= fun y => dinM neg x y >>= fun c => pure (.bl c)
@[simp] def nListK (fs : List En) : Env → M (List D) := fun ρ => seqA fs ρ listKM
@[simp] def nSetS (f : En) : Env → M (List D) := fun ρ => f ρ >>= setM
@[simp] def dDc (k : Env → M (List (D × D))) : En := fun ρ => k ρ >>= fun xs => pure (.dct xs)
@[simp] def sOwnK (i : Nat) (f : Env → M (List (D × D))) : S := fun k _ _ _ ρ => if i < ρ.length then f ρ >>= fun ds => k (ρ.set i (.own (.dct ds))) else bad
section
variable {X : Cx} {p : PL} {elt kx tg iter : Expr} {ifs : List Expr} {scope : Scope} {pos pos' : Pos} {g : Env → M (List D)} {h : D → Env → Option Env} {ts : List Nat} {t : Env → M Bool} {e ek : Env → M D}
theorem de_dc (own : List (Str × Nat)) (hN : X.N.Nodup) (hi : DI X p false tg iter g) (hg : ∀ s H C cl fp, DG (Blk X s H scope C cl fp) p tg ts h) (ht : ∀ s H C cl fp, DTs (Blk X s H scope C cl fp) p ifs t) (hkx : ∀ s H C cl fp, DE (Blk X s H scope C cl fp) p kx ek) (he : ∀ s H C cl fp, DE (Blk X s H scope C cl fp) p elt e)
    (ok : blkC X.N X.env.scope scope own = true := by first | kernel_rfl | rfl) (hv : ∀ i ∈ ts, i ∈ own.map (·.2) := by decide) (hc : X.calm = true := by rfl) (hs : ∀ x, foldedSetIterable iter X.env x = pure x := by intro _; rfl) :
    DE X p (.DictComp kx elt [⟨tg, iter, ifs, 0⟩] scope pos) (dDc (dcM (own.map (·.2)) g h t ek e)) := by
  refine ⟨fun W G H0 ρ σ H s R Ex Q tk rl hw q px => tE_of (pe_dc (wi := tI X tg iter) (g := bG X scope tg) (tt := bT X scope ifs) (tk := bE X scope kx) (tv := bE X scope elt) hc hN pi_self (blkOk_by ok)
    (fun s H C cl fp => ⟨fun pins sh σ H v u Q I r h => pg_self.run pins sh σ H v u Q I r (h s _ C cl fp)⟩) (fun s H C cl fp => ⟨fun pins sh σ H Q I h => pts_self.run pins sh σ H Q I (h s _ C cl fp)⟩) (fun s H C cl fp => ⟨fun pins sh σ H Q I h => pe_self.run pins sh σ H Q I (h s _ C cl fp)⟩) (fun s H C cl fp => ⟨fun pins sh σ H Q I h => pe_self.run pins sh σ H Q I (h s _ C cl fp)⟩) hs) ?_⟩
  have hw : wpM (dcM (own.map (·.2)) g h t ek e ρ >>= fun xs => pure (.dct xs)) s R Ex := hw
  rw [wp_bind] at hw
  exact dc_run hi hg ht hkx he hv tk rl hw (fun ds s1 l vs H1 h1 a1 n1 e1 hz r1 => q _ s1 _ H1 h1 a1 (.dct e1 (rl.fresh n1) (r1.mono (fun _ _ z _ => z) fun _ z => .inl z))) px
end
/-! ### x = ys.pop() -/
def lastM (ys : List D) : M D := match ys[ys.length - 1]? with
  | some y => pure y
  | none => bad
def sPop (i j : Nat) : S := fun k _ _ _ ρ => ownL ρ[j]? >>= fun ys => lastM ys >>= fun y => k ((ρ.set j (.own (.lst ys.dropLast))).set i (.dat y))
section
variable {X : Cx} {p : PL} {pos pos' : Pos}
theorem RepL.dropLast {K : PySem.W.Frag} {H : Hp} {F : Addr → Prop} {vs : List V} {ds : List D} (r : RepL K p H F vs ds) : RepL K p H F vs.dropLast ds.dropLast := by
  rw [List.dropLast_eq_take, List.dropLast_eq_take, r.length]
  exact r.take _
theorem ds_pop (i j : Nat) {x y : Str} {p1 p2 p3 : Pos} (hN : X.N.Nodup) (hi : X.N[i]? = some x := by rfl) (hx : Loc X.env.scope x := by first | exact Or.inl rfl | exact Or.inr rfl) (hs : swapsWith (.Call (.Attribute (.Name y p1) "pop" p2) [] [] p3) (some (.Name x pos')) pos.line X.env = pure false := by rfl) (hf : X.fn x = true ∨ X.env.scope.names.lookup x = some .local := by first | exact .inl rfl | exact .inr rfl)
    (hp : PE X (.Call (.Attribute (.Name y p1) "pop" p2) [] [] p3) (tBM0 X.K "list" rPop (tVar j)) := by exact pe_bm0 PySem.F.plainAttrs_list PySem.F.slot_list_pop PySem.F.type_list_pop mt_pop (pv _)) :
    DS X p (.Assign [.Name x pos'] (.Call (.Attribute (.Name y p1) "pop" p2) [] [] p3) pos) (sPop i j) := by
  refine ⟨fun W G H0 ρ σ H s k r b c R Ex Dn tk rl hw wy px => tS_of (ps_set hN hi hx hp hs hf) ?_⟩
  obtain ⟨ys, l, ws, ej, g1, g2, lp, g3, gz, g4, hw⟩ := ownL_ok rl (show wpM (ownL ρ[j]? >>= fun ys => lastM ys >>= fun y => k ((ρ.set j (.own (.lst ys.dropLast))).set i (.dat y))) s R Ex from hw)
  unfold lastM at hw
  cases e : ys[ys.length - 1]? with
  | none => rw [e] at hw; exact hw.elim
  | some d =>
    rw [e] at hw
    have hw : wpM (k ((ρ.set j (.own (.lst ys.dropLast))).set i (.dat d))) s R Ex := hw
    obtain ⟨v, q1, q2⟩ := g4.get e
    refine ⟨_, g1, .inl ⟨rfl, ws, .inl (.inl g3)⟩, l, ws, v, rfl, rfl, g3, by rw [g4.length]; exact q1, ?_⟩
    have fl : Fo G ρ σ l := .inr ⟨j, _, ej, rfl, g1⟩
    have st1 : StepF (Fo G ρ σ) H (upd H l (.lst ws.dropLast)) := fun a u z w => by
      rw [upd_ne fun y => w (by rw [y]; exact fl)]
      exact z
    have r2 := rl.updOwn (y := .own (.lst ys.dropLast)) ej rfl rfl g1 ⟨ws.dropLast, upd_same, by rw [List.length_dropLast]; omega, g4.dropLast.mono st1 fun _ z => z⟩
    have fo2 : ∀ a, Fo G (ρ.set j (.own (.lst ys.dropLast))) σ a → Fo G ρ σ a := fun a z => by
      rcases z with z | ⟨t, y, t1, ty, t2⟩
      · exact .inl z
      · rcases get_set t1 with ⟨rfl, rfl, _⟩ | ⟨ne, t1⟩
        · exact .inr ⟨_, _, ej, rfl, t2⟩
        · exact .inr ⟨t, y, t1, ty, t2⟩
    exact wy.nx _ _ _ s (r2.put (x := .dat d) (o := some v) rfl fun d' e => by cases e; exact ⟨v, rfl, (q2.mono st1 fun _ z => z).mono (fun _ _ z _ => z) fo2⟩) hw
end
end Say

namespace SayS
open PySem PySem.W PySem.Calls PyProof.Rows Srt SrtO
/-! ### the order of rows of ints -/
theorem ll_asym : ∀ {a b : List Int}, HT.lexLt a b = true → HT.lexLt b a = false
  | [], [], h => by cases (show false = true from h)
  | [], y :: b, _ => rfl
  | x :: a, [], h => by cases (show false = true from h)
  | x :: a, y :: b, h => by
    rw [HT.lexLt_cons] at h ⊢
    by_cases e : x = y
    · subst e
      rw [if_pos rfl] at h ⊢
      exact ll_asym h
    · rw [if_neg e] at h
      rw [if_neg (Ne.symm e)]
      have := of_decide_eq_true h
      exact decide_eq_false
          (by omega)
theorem ll_tr : ∀ {a b c : List Int}, HT.lexLt a b = false → HT.lexLt b c = false → HT.lexLt a c = false
  | a, b, [], _, _ => by cases a <;> rfl
  | [], [], z :: c, _, h => by cases (show true = false from h)
  | [], y :: b, z :: c, h, _ => by cases (show true = false from h)
  | x :: a, [], z :: c, _, h => by cases (show true = false from h)
  | x :: a, y :: b, z :: c, h1, h2 => by
    rw [HT.lexLt_cons] at h1 h2 ⊢
    by_cases e1 : x = y
    · subst e1
      rw [if_pos rfl] at h1
      by_cases e2 : x = z
      · subst e2
        rw [if_pos rfl] at h2 ⊢
        exact ll_tr h1 h2
      · rw [if_neg e2] at h2 ⊢
        exact h2
    · rw [if_neg e1] at h1
      have q1 := of_decide_eq_false h1
      by_cases e2 : y = z
      · subst e2
        rw [if_neg e1]
        exact h1
      · rw [if_neg e2] at h2
        have q2 := of_decide_eq_false h2
        rw [if_neg (by omega)]
        exact decide_eq_false
            (by omega)
theorem ll_anti : ∀ {a b : List Int}, HT.lexLt a b = false → HT.lexLt b a = false → a = b
  | [], [], _, _ => rfl
  | [], y :: b, h, _ => by cases (show true = false from h)
  | x :: a, [], _, h => by cases (show true = false from h)
  | x :: a, y :: b, h1, h2 => by
    rw [HT.lexLt_cons] at h1 h2
    by_cases e : x = y
    · subst e
      rw [if_pos rfl] at h1 h2
      rw [ll_anti h1 h2]
    · rw [if_neg e] at h1
      rw [if_neg (Ne.symm e)] at h2
      have := of_decide_eq_false h1
      have := of_decide_eq_false h2
      omega
theorem ll_swo {α : Type} (k : α → List Int) : Swo fun v u => HT.lexLt (k v) (k u) := ⟨fun _ _ => ll_asym, fun _ _ _ h1 h2 => ll_tr h2 h1⟩
def TI (h : Heap) (v : Value) (ns : List Int) : Prop := ∃ a xs, v = .ref a ∧ IsTup h a xs ∧ IntsAre xs.toList ns
section
variable {prog : Program} {w : World} {A :
    Around} {E : Value → Shared → Prop} {s : Shared}
theorem oneLt_tups {v u : Value} {ns ms : List Int} (hv : TI s.heap v ns) (hu : TI s.heap u ms) (room : A.units < cLine) {Q : Bool → Shared → Prop} (h : Q (HT.lexLt ns ms) s) : wpAny (model prog w) A (oneLt' true v u) Q E s := by
  obtain ⟨a, xs, rfl, ⟨⟨cls, dd, data, sl⟩, ho, hc, n, hd⟩, hi⟩ := hv
  obtain ⟨b, ys, rfl, ⟨⟨cls2, dd2, data2, sl2⟩, ho2, hc2, n2, hd2⟩, hj⟩ := hu
  simp only at hc hd hc2 hd2
  subst hc hd hc2 hd2
  rw [oneLt'_eq]
  simp only [if_true]
  refine wpAny_bind (wpAny_cRoomFor room ?_)
  refine wpAny_bind (wpAny_callSpecialIfBound?_slot ⟨_, ho, rfl⟩ F.slot_tuple_lt (call_meets F.slot_tuple_lt ⟨_, ho, rfl⟩ F.entry_tuple_lt (F.args_tuple_lt_2 _ _) (HT.tuple_lt_ints a b xs ys n n2 dd dd2 sl sl2 ns ms hi hj) ⟨ho, ho2, ?_⟩))
  exact wpAny_truthy_bool h
theorem first_tup {v : Value} {ns : List Int} (hv : TI s.heap v ns) {Q : Option Value → Shared → Prop} (h : ∀ r, (ns = [] → r = none) → Q r s) : wpAny (model prog w) A (firstOfTuple' v) Q E s := by
  obtain ⟨a, xs, rfl, ⟨o, ho, hc, n, hd⟩, hi⟩ := hv
  rw [kas_first_eq]
  refine wpAny_bind (Looks.here (show Looks (model prog w) s.heap (typeOf (.ref a)) o.cls from (Looks.ld ho).andThen .now) ?_)
  rw [hc, if_neg (by
      first | decide | simp)]
  refine wpAny_bind (listItems_at ho hd (wpAny_pure (h _ fun e => ?_)))
  subst e
  have : xs.size = 0 := by
    have := hi.length
    rw [Array.length_toList]
        at this
    exact this
  exact Array.getElem?_eq_none
      (by omega)
theorem firsts_tups {k : Value → List Int} : ∀ {vs : List Value}, (∀ v ∈ vs, TI s.heap v (k v)) → ∀ {Q : List (Option Value) → Shared → Prop}, (∀ rs, rs.length = vs.length → Q rs s) → wpAny (model prog w) A (vs.mapM firstOfTuple') Q E s
  | [], _, Q, h => by rw [List.mapM_nil]; exact wpAny_pure (h [] rfl)
  | v :: vs, hv, Q, h => by
    rw [List.mapM_cons]
    refine wpAny_bind (first_tup (hv v List.mem_cons_self) fun r _ => ?_)
    exact wpAny_bind (firsts_tups (fun u hu => hv u (List.mem_cons_of_mem _ hu)) fun rs hrs => wpAny_pure (h (r :: rs) (by rw [List.length_cons, List.length_cons, hrs])))
theorem kind_tups {k : Value → List Int} {v0 : Value} {vs : List Value} (hv : ∀ v ∈ v0 :: vs, TI s.heap v (k v)) (h0 : k v0 = []) {Q : SortKind → Shared → Prop} (h : Q oneType' s) : wpAny (model prog w) A (keyKind' (v0 :: vs).toArray) Q E s := by
  rw [kat_kind_eq, List.mapM_toArray,
      map_eq_pure_bind]
  rw [List.mapM_cons]
  have e0 := hv v0 List.mem_cons_self
  refine wpAny_bind (wpAny_bind (wpAny_bind (first_tup e0 fun r hr => ?_)))
  rw [hr h0]
  refine wpAny_bind (firsts_tups (fun u hu => hv u (List.mem_cons_of_mem _ hu)) fun rs hrs => wpAny_pure (wpAny_pure ?_))
  rw [if_neg (by simp),
      if_neg (by simp)]
  have hT : ∀ v ∈ v0 :: vs, Looks (model prog w) s.heap (typeOf v) (.type "tuple") := fun v m => by
    obtain ⟨a, xs, rfl, ⟨o, ho, hc, n, hd⟩, hi⟩ := hv v m
    rw [← hc]
    exact (Looks.ld ho).andThen .now
  rw [oneTypeOnly'_eq,
      List.mapM_toArray, map_eq_pure_bind]
  refine wpAny_bind (wpAny_bind (wpAny_bind (kas_mapM (r := .type "tuple") _ (fun v hv Q' hq => (hT v hv).here hq) (wpAny_pure ?_))))
  have hall : ((List.map (fun _ => Value.type "tuple") (v0 :: vs)).toArray.all fun x => x == Value.type "tuple") = true := by
    simp only [List.all_toArray,
        List.all_map, List.all_eq_true]
    intro _ _
    rfl
  have h1 : (List.map (fun _ => Value.type "tuple") (v0 :: vs)).toArray[0]? = some (Value.type "tuple") := by simp
  rw [h1]
  simp only [hall, if_true]
  exact wpAny_pure
      (wpAny_pure h)
theorem tups_sortable {a : Addr} {k : Value → List Int} {v0 : Value} {vs : List Value} (hv : ∀ v ∈ v0 :: vs, TI s.heap v (k v)) (h0 : k v0 = []) (ha : ∀ o, s.heap.get? a = some o → o.cls ≠ .type "tuple") (room : A.units < cLine) : SortableO prog w A s a (v0 :: vs) fun v u => HT.lexLt (k v) (k u) := by
  intro h' keep
  have hv' : ∀ v ∈ v0 :: vs, TI h' v (k v) := fun v m => by
    obtain ⟨b, xs, e, ⟨o, ho, hc, hd⟩, hi⟩ := hv v m
    exact ⟨b, xs, e, ⟨o, keep b o (fun z => ha o (by rw [← z]; exact ho) hc) ho, hc, hd⟩, hi⟩
  refine ⟨oneType', fun Q E hq => kind_tups (s := { s with heap := h' }) hv' h0 hq, fun p q hp hq => ?_⟩
  exact oneLt_tups (s := { s with heap := h' }) (hv' _ hp) (hv' _ hq) room ⟨rfl, rfl⟩
end
end SayS
namespace Say
open L2 PyProof.Rows PySem.Spec PySem
abbrev ltT (k : V → List Int) (x y : V) : Bool := HT.lexLt (k x) (k y)
def rSortedTL (K : PySem.W.Frag) : List V → Hp → VK → Prop := fun vs H Q => ∃ (a : Addr) (xs : List V) (k : V → List Int), vs = [V.ref a] ∧ SqL K H a xs ∧ (∀ x ∈ xs, ∃ t, x = V.ref t ∧ Tp H t ((k x).map V.int)) ∧
  (xs.length < 2 ∨ ∃ x0 r, xs = x0 :: r ∧ k x0 = []) ∧ ∀ ys q, SrtO.Srtd (ltT k) ys → SrtO.Stb (ltT k) ys xs → H q = none → Q (.ref q) (upd H q (.lst ys))
theorem cr_sortedTL {X : Cx} (hu : X.A.in1.in1.units < cLine) : CallR X (.builtin "sorted") (rSortedTL X.K) := by
  intro pins s σ
      H vs us Q I r h
  obtain ⟨a, xs, k, rfl, sq, each, hd0, q⟩ := h
  obtain ⟨its, rv, pl, sz⟩ := I.list sq
  obtain ⟨u, rfl,
      ru⟩ := vals1 r
  obtain rfl : u =
      Value.ref a := ru
  have refs : ∀ x ∈ xs, ∃ t, x = V.ref t := fun x m => (each x m).elim fun t e => ⟨t, e.1⟩
  obtain ⟨e1, e2⟩ := refs_back rv refs
  have tis : ∀ v ∈ its, SayS.TI s.heap v (k (backV v)) := fun v mv => by
    obtain ⟨t, rfl⟩ := e2 v mv
    have m : V.ref t ∈ xs := by rw [e1]; exact List.mem_map.mpr ⟨_, mv, rfl⟩
    obtain ⟨t', e, ob, ht, nd⟩ := each _ m
    cases e
    obtain ⟨_, _, us, r2, o, ho, hc, n, hd⟩ := (show s.heap.get? t = some ob ∧ ObjOk X.prog X.w H s.heap t (.tup _) from I.hok _ _ ht)
    exact ⟨t, us.toArray, rfl, ⟨o, ho, hc, n, hd⟩, ints_of_vals r2⟩
  refine SrtO.sorted_ord (SayS.ll_swo fun u => k (backV u)) pl.isList (by rw [← rv.length]; exact sz) (fun h2 h₁ d hd kk => ?_) fun out hs hb => ?_
  · have hx : ∃ x0 r, xs = x0 :: r ∧ k x0 = [] := hd0.resolve_left (by rw [rv.length]; omega)
    obtain ⟨x0, r0, ex, ek⟩ := hx
    cases its with
    | nil => simp at h2
    | cons v0 rest =>
      have eb : backV v0 = x0 := by
        rw [ex] at e1
        rw [List.map_cons] at e1
        injection e1 with e1 _
        exact e1.symm
      refine SayS.tups_sortable (s := { s with heap := h₁ }) (fun v hv => ?_) (by rw [eb]; exact ek) (fun o e => ?_) hu
      · obtain ⟨b, ys, e, ⟨o, ho, hc, hd⟩, hi⟩ := tis v hv
        exact ⟨b, ys, e, ⟨o, (kk b o ho).2, hc, hd⟩, hi⟩
      · have e' : some o = some (seqObj "list" (v0 :: rest).toArray 0) := e.symm.trans hd
        cases e'
        intro c
        exact absurd (Value.type.inj
            c) (by decide)
  · have all : ∀ u ∈ out, ∃ a, u = Value.ref a := fun u hu => e2 u (hb.perm.mem_iff.mp hu)
    have st : SrtO.Stb (ltT k) (out.map backV) xs := e1 ▸ SrtO.Stb.map (SayS.ll_swo k) backV hb
    obtain ⟨ep, he⟩ := PyProof.Rows.sortedAll_at s.heap its out.toArray
    exact ⟨.ref _, upd H (s.heap.objs.size + 1) (.lst (out.map backV)), I.laid (t' := s.toks) (fun _ _ => PyProof.Rows.sortedAll_old) (Nat.le_succ _) ⟨by rw [st.len]; exact sz, out, ep, vals_back all, he⟩, rfl, q _ _ (SrtO.srtd_map hs) st (I.hok.fresh (Nat.le_succ _))⟩
def leT (a b : List Int) : Bool := !HT.lexLt b a
def sortT (ls : List (List Int)) : List (List Int) := ls.mergeSort leT
theorem leT_trans (a b c : List Int) (h1 : leT a b = true) (h2 : leT b c = true) : leT a c = true := by
  unfold leT at *
  rw [Bool.not_eq_true'] at *
  exact SayS.ll_tr h2 h1
theorem leT_total (a b : List Int) : (leT a b || leT b a) = true := by
  unfold leT
  cases h : HT.lexLt b a with
  | true => rw [SayS.ll_asym h]; rfl
  | false => rfl
theorem leT_anti (a b : List Int) (h1 : leT a b = true) (h2 : leT b a = true) : a = b := by
  unfold leT at *
  rw [Bool.not_eq_true'] at *
  exact SayS.ll_anti h2 h1
theorem sortT_perm (ls : List (List Int)) : (sortT ls).Perm ls := List.mergeSort_perm ls leT
theorem sortT_pw (ls : List (List Int)) : (sortT ls).Pairwise fun a b => leT a b = true := List.pairwise_mergeSort leT_trans leT_total ls
theorem sortT_uniq {xs ns : List (List Int)} (p : xs.Perm ns) (h : xs.Pairwise fun a b => leT a b = true) : xs = sortT ns := sorted_eq leT_anti (p.trans (sortT_perm ns).symm) h (sortT_pw ns)
def lotsD : List D → Option (List (List Int))
  | [] => some []
  | .tup xs :: r => (match intsOf xs with
    | some ns => (lotsD r).map (ns :: ·)
    | none => none)
  | _ :: _ => none
theorem lotsD_ok : ∀ {xs : List D} {ls : List (List Int)}, lotsD xs = some ls → xs = ls.map ti
  | [], ls, h => by cases h; rfl
  | .tup ys :: r, ls, h => by
    have h1 : (match intsOf ys with | some ns => (lotsD r).map (ns :: ·) | none => none) = some ls := h
    cases e : intsOf ys with
    | none => rw [e] at h1; cases h1
    | some ns =>
      rw [e] at h1
      have h1 : (lotsD r).map (ns :: ·) = some ls := h1
      cases e2 : lotsD r with
      | none => rw [e2] at h1; cases h1
      | some ms =>
        rw [e2] at h1
        cases h1
        rw [lotsD_ok e2, intsOf_ok e]
        rfl
  | .non :: _, _, h => by cases h
  | .bl _ :: _, _, h => by cases h
  | .int _ :: _, _, h => by cases h
  | .str _ :: _, _, h => by cases h
  | .itm _ :: _, _, h => by cases h
  | .lst _ :: _, _, h => by cases h
  | .dct _ :: _, _, h => by cases h
  | .ins _ _ :: _, _, h => by cases h
  | .pen :: _, _, h => by cases h
  | .fn _ :: _, _, h => by cases h
theorem lotsD_map : ∀ ls : List (List Int), lotsD (ls.map ti) = some ls
  | [] => rfl
  | l :: ls => by
    show (match intsOf (l.map D.int) with | some ns => (lotsD (ls.map ti)).map (ns :: ·) | none => none) = _
    rw [intsOf_map, lotsD_map ls]
    rfl
/-- sorted([..]), rows of ints, the first of them empty -/
def sortTM : List D → M (List D)
  | [.lst xs] => (match lotsD xs with
    | some ls => if ls.length < 2 ∨ ls.head? = some [] then pure ((sortT ls).map ti) else bad
    | none => bad)
  | _ => bad
@[simp] def nSortT (fs : List En) : Env → M (List D) := fun ρ => seqA fs ρ sortTM
def vI : V → Int
  | .int i => i
  | _ => 0
def kvT (H : Hp) : V → List Int
  | .ref a => (match H a with
    | some (.frz _ (.tup vs)) => vs.map vI
    | _ => [])
  | _ => []
section
variable {K : PySem.W.Frag} {p : PL} {H : Hp} {F : Addr → Prop}
theorem repL_tups : ∀ {vs : List V} {ls : List (List Int)}, RepL K p H F vs (ls.map ti) → vs.map (kvT H) = ls ∧ ∀ x ∈ vs, ∃ t, x = V.ref t ∧ Tp H t ((kvT H x).map V.int) ∧ ¬ F t ∧ (kvT H x).length ≤ 16777216
  | _, [], .nil => ⟨rfl, fun x h => by cases h⟩
  | v :: vs, l :: ls, .cons h r => by
    obtain ⟨e1, e2⟩ := repL_tups r
    have h : Rep K p H F v (.tup (l.map D.int)) := h
    cases h with
    | tup ho hz rl =>
      rename_i a ws
      have ew : ws = l.map V.int := repL_ints' rl
      subst ew
      have e : kvT H (.ref a) = l := by
        show (match H a with | some (.frz _ (.tup vs)) => vs.map vI | _ => []) = l
        obtain ⟨o, e, _⟩ := ho.1
        rw [e]
        show (l.map V.int).map vI = l
        rw [List.map_map]
        exact List.map_id'' (fun _ => rfl) l
      refine ⟨by rw [List.map_cons, e, e1], fun x hx => ?_⟩
      rcases List.mem_cons.mp
          hx with rfl | hx
      · rw [List.length_map] at hz
        exact ⟨_, rfl, by rw [e]; exact ho.1, ho.2, by rw [e]; exact hz⟩
      · exact e2 x hx
theorem tups_repL : ∀ {vs : List V}, (∀ x ∈ vs, ∃ t, x = V.ref t ∧ Tp H t ((kvT H x).map V.int) ∧ ¬ F t ∧ (kvT H x).length ≤ 16777216) → RepL K p H F vs ((vs.map (kvT H)).map ti)
  | [], _ => .nil
  | v :: vs, h => by
    obtain ⟨t, rfl, e, n, hz⟩ := h v List.mem_cons_self
    exact .cons (.tup ⟨e, n⟩ (by rw [List.length_map]; exact hz) (RepL.ints _)) (tups_repL fun x hx => h x (List.mem_cons_of_mem _ hx))
end
section
variable {X : Cx} {p : PL} {e : Expr} {fs : List En} {pos pos' : Pos} {kk : Nat}
theorem dn_sortT (hr : Room kk X.A) (hm : X.mg "sorted" = none) (ha : DA X p [e] fs) (hu : ∀ A : Around, Room kk A → A.in1.in1.units < cLine := by intro A h; have := h.un; show A.units + 2 < cLine; omega) (hg : Gl X "sorted" := by rfl) (he : starEach (e :: []) X.env = (false, eval e X.env) :: starEach [] X.env := by rfl) (hpl : (backTo pos (starEach [] X.env)).any (·.1) = false := by rfl) :
    DN X p (.Call (.Name "sorted" pos') [e] [] pos) (nSortT fs) := by
  refine ⟨fun W G H0 ρ σ H s R Ex Q tk rl hw q px => tE_of (pe_callB (cr_sortedTL (hu _ hr)) hg hm boot_sorted pa_self (by decide) (by decide) he hpl) ?_⟩
  have hw : wpM (seqA fs ρ sortTM) s R Ex := hw
  refine ha.run _ sortTM W G H0 ρ σ H s R Ex _ tk rl hw (fun ds s1 vs H1 h1 a1 r1 _ => ?_) px
  unfold sortTM at h1
  split at h1
  · rename_i xs _
    split at h1
    · rename_i ls el
      by_cases hc : ls.length < 2 ∨ ls.head? = some []
      · rw [if_pos hc] at h1
        have ex := lotsD_ok el
        subst ex
        cases r1 with
        | cons r1 r2 =>
          cases r2
          cases r1 with
          | lst ho n1 hz l1 =>
            rename_i ws
            obtain ⟨k1, k2⟩ := repL_tups l1
            refine ⟨_, ws, kvT H1, rfl, .inl (.inl ho), fun x hx => (k2 x hx).elim fun t z => ⟨t, z.1, z.2.1⟩, ?_, fun ys l hs hb hl => ?_⟩
            · rcases hc with c | c
              · exact .inl (by rw [← List.length_map (f := kvT H1), k1]; exact c)
              · right
                cases ws with
                | nil => rw [← k1] at c; cases c
                | cons x0 r =>
                  rw [← k1] at c
                  exact ⟨x0, r, rfl, by injection c⟩
            · have hp := hb.perm
              have each : ∀ x ∈ ys, ∃ t, x = V.ref t ∧ Tp H1 t ((kvT H1 x).map V.int) ∧ ¬ Fo G ρ σ t ∧ (kvT H1 x).length ≤ 16777216 := fun x hx => k2 x (hp.mem_iff.mp hx)
              have es : ys.map (kvT H1) = sortT ls := by
                refine sortT_uniq ?_ ?_
                · rw [← k1]; exact hp.map _
                · refine List.pairwise_map.mpr (List.Pairwise.imp (fun {a b} h => ?_) hs)
                  have h : HT.lexLt (kvT H1 b) (kvT H1 a) = false := h
                  unfold leT
                  rw [h]
                  rfl
              have lr : RepL X.K p H1 (Fo G ρ σ) ys ((sortT ls).map ti) := by
                rw [← es]
                exact tups_repL each
              refine q ((sortT ls).map ti) s1 l ys _ h1 (a1.trans (.same a1.pen (same_new hl))) (back_none a1 hl) upd_same ?_ ((lr.more (N := fun a => a = l) fun a z => by rw [z]; exact hl).mono ((same_step (p := p) (same_new hl)).toF (.inl rl.fpa)) fun _ z => z)
              rw [List.length_map, (sortT_perm ls).length_eq]
              rw [List.length_map] at hz
              exact hz
      · rw [if_neg hc] at h1
        exact h1.elim
    · exact h1.elim
  · exact h1.elim
end
end Say

namespace SayS
open PySem PySem.W PySem.Calls PySem.Builtin PyProof.Rows
/-! ### != by an own == -/
section
variable {prog : Program} {w : World} {A : Around} {E : Value → Shared → Prop} {s : Shared} {K : PySem.W.Frag} {x C L f : Addr} {h₀ : Heap} {m : Str → Option Value} {ox : Obj} {od : Option Obj} {b tb : Value}
theorem objNe_own (X : K.In s.heap) (I : InstAt s.heap x ox C od) (he : findIn K (.ref C) "__eq__" = some (some (.ref f))) (hf : isFn K (.ref f) = true) (hu : A.units < cLine) {Q : Fin → Shared → Prop}
    (hcall : wpAny (model prog w) A (call (.ref f) [.ref x, b]) (fun v s' => ∃ r, v = .bool r ∧ Q (.done (.ret (.bool (!r)))) s') E s) : wpAny (model prog w) A (Builtin.«object.__ne__» ⟨[.ref x, b], []⟩) Q E s := by
  unfold
      Builtin.«object.__ne__»
  repeat (first
    | with_reducible refine
        wpAny_cRoomFor hu ?_
    | (refine wpAny_bind (m := callSpecialIfBound? (.ref x) (Str.ofString "__eq__") [b])
        (ifBound_K X I he hf (wpAny_mono hcall (fun r s' hr => by
          obtain ⟨c, rfl, hq⟩ := hr
          repeat (first | exact wpAny_truthy_bool hq | exact wpAny_pure hq | exact hq | (refine wpAny_bind (m := truthy (.bool _)) (wpAny_truthy_bool ?_)) | wp_step)) fun _ _ e => e)))
    | wp_step)
theorem ifBound_ne {args : List Value} {Q : Option Value → Shared → Prop} (X : K.In s.heap) (I : InstAt s.heap x ox C od) (hs : findIn K (.ref C) "__ne__" = some (some (.builtin "object.__ne__")))
    (h : wpAny (model prog w) A (call (.builtin "object.__ne__") (.ref x :: args)) (fun v => Q (some v)) E s) : wpAny (model prog w) A (callSpecialIfBound? (.ref x) "__ne__" args) Q E s := by
  simp only [callSpecialIfBound?,
      bindSpecialIfBound?]
  refine wpAny_holding (wpAny_bind (wpAny_bind (wpAny_bind
      (I.type.here ((looks_findIn X hs).here ?_)))))
  simp only [PySem.F.cmp_object.ne.bind]
  refine wpAny_bind
      (wpAny_askSetting (wpAny_ite ?_))
  have fin : wpAny (model prog w) A (call (.builtin "object.__ne__") ([.ref x] ++ args) >>= fun v => pure (some v)) Q E s := wpAny_bind (wpAny_mono h (fun v s' h' => wpAny_pure h') fun _ _ h' => h')
  split
  · exact wpAny_bind
        (wpAny_pure (wpAny_pure fin))
  · exact wpAny_tryCatch (wpAny_bind
        (wpAny_pure (wpAny_pure fin)))
theorem ne_own {Q : Value → Shared → Prop} (hu : A.units + 1 < cLine) (F : Fr h₀ L s.heap m) (X₀ : K.In h₀) (I : InstAt s.heap x ox C od) (hb : Looks (model prog w) s.heap (typeOf b) tb) (hn : notFirst K C tb = true)
    (hs : findIn K (.ref C) "__ne__" = some (some (.builtin "object.__ne__"))) (he : findIn K (.ref C) "__eq__" = some (some (.ref f))) (hf : isFn K (.ref f) = true) (hm : mroIn K C (.type "object") = some true)
    (h : wpAny (model prog w) A.in1 (call (.ref f) [.ref x, b]) (fun v s' => ∃ r, v = .bool r ∧ Q (.bool (!r)) s') E s) : wpAny (model prog w) A (richCompare .NotEq (.ref x) b) Q E s := by
  have X := X₀.keeps F.keep
  have one : wpAny (model prog w) A (tryCompare (.ref x) (cmpInfo .NotEq).2.1 b) (fun r s' => ∃ v, r = some v ∧ Q v s') E s := by
    unfold tryCompare
    refine wpAny_bind (ifBound_ne X I hs (wpAny_call (codeAny_call_builtin PySem.F.cmp_object.ne.plain PySem.F.cmpEntry_ne
      (@check_slot (model prog w) _ _ s "object.__ne__" "object" "__ne__" (.ref x) [b] [] _ PySem.F.cmpKind_ne PySem.F.cmpSplit_ne (I.type.andThen (looks_mroIn X hm)) (PySem.F.cmpArgs_ne _ _)
        (objNe_own (A := A.in1) X I he hf hu (wpAny_mono h (fun v s' hv => ?_) fun _ _ e => e))))))
    obtain ⟨r, rfl, hq⟩ := hv
    exact ⟨r, rfl, wpAny_pure ⟨_, rfl, hq⟩⟩
  unfold richCompare
  simp only [oneThing_ref]
  refine wpAny_holding (wpAny_bind (wpAny_cRoomFor (Nat.lt_of_succ_lt hu) ?_))
  refine wpAny_bind (I.type.here
      (wpAny_bind (hb.here ?_)))
  split
  · rename_i q
    have e : subIn K tb (.ref
        C) = some false := by
      rcases Bool.or_eq_true_iff.mp
          hn with e | e
      · rw [beq_iff_eq.mp
            e] at q; simp at q
      · exact beq_iff_eq.mp e
    refine wpAny_bind
        ((looks_subIn X e).here ?_)
    simp only [Bool.false_eq_true,
        if_false]
    refine wpAny_bind (wpAny_mono one
        (fun r s' z => ?_) fun _ _ e => e)
    obtain ⟨v, rfl, hq⟩ := z
    exact wpAny_pure hq
  · refine wpAny_bind
        (wpAny_pure ?_)
    simp only [Bool.false_eq_true,
        if_false]
    refine wpAny_bind (wpAny_mono one
        (fun r s' z => ?_) fun _ _ e => e)
    obtain ⟨v, rfl, hq⟩ := z
    exact wpAny_pure hq
end
end SayS
namespace Say
open L2 PyProof.Rows PySem.Spec PySem
structure HasM (P : Program) (w : World) (K : PySem.W.Frag) (mg : Str → Option Value) (base : Heap) (k : Nat) (c nm : Str) (n : Nat) (m : List D → M D) : Prop where
  ex : ∃ (f : Addr) (fd : FuncData) (ps : List Str), PySem.W.findIn K (.ref (He.ga K c)) nm = some (some (.ref f)) ∧ PySem.W.isFn K (.ref f) = true ∧ Binds K fd ps [] ∧ ps.length = n ∧ FnOk P w K mg base (L2.CX P w) k f fd ps (SpM K n m)
section
variable {P : Program} {w : World} {K :
    PySem.W.Frag} {mg : Str → Option Value} {base : Heap}
theorem meth_has {c nm qual : Str} {st : Stmt} {f : Addr} {fd : FuncData} {N ps : List Str} {k : Nat} {fS : S} (F : FunD K nm qual (defArgs st) (defBody st) (defScope st) [] [] f fd) (Sc : FnScope N ps (defScope st)) (hs : PySem.W.findIn K (.ref (He.ga K c)) nm = some (some (.ref f))) (hf : PySem.W.isFn K (.ref f) = true) (hb : Binds K fd ps [])
    (body : ∀ (cdv : Value) (A : Around) (outer : List PySem.Env) (s : Shared) (H : Hp) (E : XK) (p : PL), Room k (A.deeper (envOfC qual (defScope st) s.heap.objs.size f cdv)) →
      DSs (cxOf (L2.CX P w) P w K mg base N qual (defScope st) f cdv A outer s H E) p (defBody st) fS) : HasM P w K mg base (k + 1) c nm ps.length (runS N fS) := by
  refine ⟨⟨f, fd, ps, hs, hf, hb, rfl, F.ok Sc (fun vs H Q E h => ?_) fun cdv A outer s H vs Q E hr h => ⟨_, pss_self, ?_⟩⟩⟩
  · obtain ⟨p, G, ds, s, _, _, _, _, hl, _⟩ := h
    exact hl
  · obtain ⟨p, G, ds, sp, gpa, gca, gex, pn, hl, r, hw⟩ := h
    refine (body cdv A outer s H E p hr).run (fun cls d _ H' => E cls d H') G H (startE N ds) (L2.start N vs) H sp _ _ _ _ _ _ _ (takes_of rfl rfl rfl rfl) (rel_start gpa gca gex pn r) hw
      ⟨fun ρ σ H' s' rl h1 => ?_, fun d s' v H' st pn' rp h1 => h1 v H' ⟨st, pn'⟩ rp, fun ρ σ H' s' rl h1 => h1.elim, fun ρ σ H' s' rl h1 => h1.elim⟩ fun c fs s' σ dx vfs H' he st pn' xd rf => he dx vfs H' ⟨st, pn'⟩ xd rf
    exact h1 .non H' ⟨rl.old, rl.pen⟩ .non
end
theorem HasM.mono {P : Program} {w : World} {K : PySem.W.Frag} {mg : Str → Option Value} {base : Heap} {j k : Nat} {c nm : Str} {n : Nat} {m : List D → M D} (h : HasM P w K mg base j c nm n m) (hk : j ≤ k) : HasM P w K mg base k c nm n m := by
  obtain ⟨f, fd, ps, h1, h2, h3, h4, F⟩ := h.ex
  exact ⟨f, fd, ps, h1, h2, h3, h4, F.mono hk⟩
structure EqKit (K : PySem.W.Frag) (cs : List Str) (c : Str) : Prop where
  ne : PySem.W.findIn K (.ref (He.ga K c)) "__ne__" = some (some (.builtin "object.__ne__"))
  mro : PySem.W.mroIn K (He.ga K c) (.type "object") = some true
  nf : ∀ c' ∈ cs, PySem.W.notFirst K (He.ga K c) (.ref (He.ga K c')) = true
def rOwnE (K : PySem.W.Frag) (neg : Bool) (c : Str) (cs : List Str) (m : List D → M D) : R2 := fun x y H Q => ∃ (a b : Addr) (dx dy : Addr) (c' : Str) (fs gs : List (Str × V)), x = .ref a ∧ y = .ref b ∧ H a = some (.ins (He.ga K c) dx fs) ∧ c' ∈ cs ∧ H b = some (.ins (He.ga K c') dy gs) ∧
  SpM K 2 m [x, y] H (fun v H' => ∃ r, v = .bl r ∧ Q (.bl (if neg = true then !r else r)) H') (fun _ _ _ => False)
section
variable {X : Cx} {k : Nat} {c : Str} {cs : List Str} {m : List D → M D}
theorem own_call {f : Addr} {fd : FuncData} {ps : List Str} (F : FnOk X.prog X.w X.K X.mg X.base (L2.CX X.prog X.w) k f fd ps (SpM X.K 2 m)) (hb : Binds X.K fd ps []) {A : Around} (sb : L2.Sub X k A) {pins : List (Addr × Obj)} {σ : L2.St} {H : Hp} {s : Shared} {a b : Addr} {Q : VK} (I : Inv X pins σ H s)
    (h : SpM X.K 2 m [.ref a, .ref b] H Q (fun _ _ _ => False)) : wpAny (model X.prog X.w) A (call (.ref f) [.ref a, .ref b]) (EP X pins σ Q) X.xe s := by
  have e0 : Env0 X.prog X.w X.K
      X.mg X.base A X.stack s H := by
    have e := I.env0
    exact ⟨by rw [sb.fr]; exact e.frames, e.mod,
        e.bs, e.bsz, e.funs, e.frf, e.hok, e.bare⟩
  have hl := F.len _ _ _ _ h
  have r2 : Vals [V.ref a, V.ref b] [Value.ref
      a, Value.ref b] := .cons rfl (.cons rfl .nil)
  refine wpAny_call (codeAny_mono (F.run A X.stack s H ⟨[.ref a, .ref b], []⟩ [.ref a, .ref b] [.ref a, .ref b] _ _ sb.room e0 (by
    have := hb s [.ref a, .ref
        b] I.kIn (by simpa using hl)
    simpa using this) r2 h) fun r s' hq => ?_)
  cases r with
  | error e => exact passAt takesN σ pins H s e s' I hq
  | ok fl =>
    cases fl with
    | ret w =>
      obtain ⟨z, H', I', rz, ex⟩ := I.after hq
      exact ⟨z, H', I', rz, ex⟩
    | next => exact False.elim hq
    | brk => exact False.elim hq
    | cont => exact False.elim hq
theorem op_ownEq (h : HasM X.prog X.w X.K X.mg X.base k c "__eq__" 2 m) (hr : Room (k + 1) X.A) (kit : EqKit X.K cs c) : OpR X (compareOp .Eq) (rOwnE X.K false c cs m) := by
  obtain ⟨f, fd, ps, hs, hf, hb, hl, F⟩ := h.ex
  intro pins s σ H x
      y v u Q I rx ry hq
  obtain ⟨a, b, dx, dy, c', fs, gs, rfl, rfl, ha, hc, hb', sp⟩ := hq
  cases rx
  cases ry
  obtain ⟨mA, J, _⟩
      := ins_get I.hok ha
  obtain ⟨mB, J', _⟩
      := ins_get I.hok hb'
  obtain ⟨od, J, _⟩ := J.look
  obtain ⟨od', J',
      _⟩ := J'.look
  obtain ⟨m', hF⟩ := I.fr
  show wpAny (model X.prog X.w) X.A (richCompare .Eq (.ref a) (.ref b)) (EP X pins σ Q) X.xe s
  refine PySem.W.cmp_K (op := .Eq) (tb := .ref (He.ga X.K c')) (hr.mono (Nat.zero_le _)).units0 hF I.ok.mod.kin J J'.type (kit.nf c' hc) hs hf ?_
  refine wpAny_mono (own_call F hb ⟨hr.mono (Nat.le_succ _), rfl⟩ I sp) (fun r s' z => ?_) fun _ _ e => e
  obtain ⟨z, H', I', rz, k, rfl, q⟩ := z
  cases rz
  exact ⟨.bl k, H', I', rfl, q⟩
theorem op_ownNe (h : HasM X.prog X.w X.K X.mg X.base k c "__eq__" 2 m) (hr : Room (k + 1) X.A) (kit : EqKit X.K cs c) : OpR X (compareOp .NotEq) (rOwnE X.K true c cs m) := by
  obtain ⟨f, fd, ps, hs, hf, hb, hl, F⟩ := h.ex
  intro pins s σ H x
      y v u Q I rx ry hq
  obtain ⟨a, b, dx, dy, c', fs, gs, rfl, rfl, ha, hc, hb', sp⟩ := hq
  cases rx
  cases ry
  obtain ⟨mA, J, _⟩
      := ins_get I.hok ha
  obtain ⟨mB, J', _⟩
      := ins_get I.hok hb'
  obtain ⟨od, J, _⟩ := J.look
  obtain ⟨od', J',
      _⟩ := J'.look
  obtain ⟨m', hF⟩ := I.fr
  show wpAny (model X.prog X.w) X.A (richCompare .NotEq (.ref a) (.ref b)) (EP X pins σ Q) X.xe s
  refine SayS.ne_own (tb := .ref (He.ga X.K c')) (by have := hr.un; omega) hF I.ok.mod.kin J J'.type (kit.nf c' hc) kit.ne hs hf kit.mro ?_
  refine wpAny_mono (own_call F hb ⟨hr.in1, rfl⟩ I sp) (fun r s' z => ?_) fun _ _ e => e
  obtain ⟨z, H', I', rz, k, rfl, q⟩ := z
  cases rz
  exact ⟨k, rfl, .bl (!k), H', I', rfl, q⟩
end
/-- x == y, x != y: by an own == where x is of a class that has one (all of them in one table) -/
def eqOwn (tbl : List (Str × (List D → M D))) (cs : List Str) (neg : Bool) (x y : D) : M D := match x with
  | .ins c _ => (match tbl.lookup c with
    | some m => (match y with
      | .ins c' _ => if cs.contains c' = true then nx (m [x, y]) >>= truB >>= fun r => pure (.bl (if neg = true then !r else r)) else bad
      | _ => bad)
    | none => bad)
  | _ => lift (if neg = true then neD x y else eqD x y)
structure EqTb (P : Program) (w : World) (K : PySem.W.Frag) (mg : Str → Option Value) (base : Heap) (k : Nat) (cs : List Str) (tbl : List (Str × (List D → M D))) : Prop where
  all : ∀ c m, tbl.lookup c = some m → HasM P w K mg base k c "__eq__" 2 m ∧ EqKit K cs c
@[simp] def dEqI (tbl : List (Str × (List D → M D))) (cs : List Str) (neg : Bool) (f g : En) : En := fun ρ => f ρ >>= fun x => g ρ >>= fun y => eqOwn tbl cs neg x y
@[simp] def tEqI (tbl : List (Str × (List D → M D))) (cs : List Str) (neg : Bool) (f g : En) : Env → M Bool := fun ρ => f ρ >>= fun x => g ρ >>= fun y => eqOwn tbl cs neg x y >>= truB
section
variable {X : Cx} {p : PL} {k kk : Nat} {cs : List Str} {tbl : List (Str × (List D → M D))} {a b : Expr} {f g : En} {pos : Pos}
def rTb (K : PySem.W.Frag) (neg : Bool) (cs : List Str) (tbl : List (Str × (List D → M D))) : R2 := fun x y H Q => ∃ c m, tbl.lookup c = some m ∧ rOwnE K neg c cs m x y H Q
theorem op_tbEq (T : EqTb X.prog X.w X.K X.mg X.base k cs tbl) (hr : Room (k + 1) X.A) : OpR X (compareOp .Eq) (rTb X.K false cs tbl) := by
  intro pins s σ H x y v u Q I rx ry ⟨c, m, e, h⟩
  exact op_ownEq (T.all c m e).1 hr (T.all c m e).2 pins s σ H x y v u Q I rx ry h
theorem op_tbNe (T : EqTb X.prog X.w X.K X.mg X.base k cs tbl) (hr : Room (k + 1) X.A) : OpR X (compareOp .NotEq) (rTb X.K true cs tbl) := by
  intro pins s σ H x y v u Q I rx ry ⟨c, m, e, h⟩
  exact op_ownNe (T.all c m e).1 hr (T.all c m e).2 pins s σ H x y v u Q I rx ry h
theorem eqI_run {neg : Bool} {r0 : R2} {gg : D → D → Option D} (h0 : OpS X.K p r0 gg) (hgg : ∀ x y, (if neg = true then neD x y else eqD x y) = gg x y) (ha : DE X p a f) (hb : DE X p b g) {W : WX} {G : Addr → Prop} {H0 : Hp} {ρ : Env} {σ : L2.St} {H : Hp} {s : Pen} {R : D → Pen → Prop} {Ex : XR} {Q : VK} (tk : Takes X W) (rl : Rel X.K p G H0 ρ σ H s)
    (hw : wpM (dEqI tbl cs neg f g ρ) s R Ex) (q : ∀ d s' v H', R d s' → Af p H H' s' → Rep X.K p H' (Fo G ρ σ) v d → Q v H') (px : PX X p W G σ H Ex) :
    tE X a σ H fun x H1 => tE X b σ H1 fun y H2 => r0 x y H2 Q ∨ rTb X.K neg cs tbl x y H2 Q := by
  have hw : wpM (f ρ >>= fun x => g ρ >>= fun y => eqOwn tbl cs neg x y) s R Ex := hw
  rw [wp_bind] at hw
  refine ha.run W G H0 ρ σ H s _ Ex _ tk rl hw (fun d1 s1 v1 H1 w1 a1 r1 => ?_) px
  rw [wp_bind] at w1
  have rl1 := rl.step a1.st a1.pen
  refine hb.run W G H0 ρ σ H1 s1 _ Ex _ tk rl1 w1 (fun d2 s2 v2 H2 w2 a2 r2 => ?_) (px.at a1)
  have rl2 := rl1.step a2.st a2.pen
  have r1' := r1.mono (a2.st.toF rl.fpa) fun _ z => z
  have plain : wpM (lift (if neg = true then neD d1 d2 else eqD d1 d2)) s2 R Ex → r0 v1 v2 H2 Q := fun w => by
    rw [hgg] at w
    cases e1 : gg d1 d2 with
    | none => rw [e1] at w; exact w.elim
    | some d =>
      rw [e1] at w
      exact h0 _ H2 v1 v2 d1 d2 d _ rl.fpa (fun _ z => rl2.fresh z) r1' r2 e1 fun v H3 sm r3 => q d s2 v H3 w ((a1.trans a2).trans (.same a2.pen sm)) r3
  unfold eqOwn at w2
  split at w2
  · rename_i c fs
    right
    split at w2
    · rename_i m em
      split at w2
      · rename_i c' gs
        by_cases hc : cs.contains c' = true
        · rw [if_pos hc] at w2
          have hin := r1'
          have hin2 := r2
          cases r1' with
          | ins o1 n1 l1 =>
            cases r2 with
            | ins o2 n2 l2 =>
              refine ⟨c, m, em, _, _, _, _, c', _, _, rfl, rfl, o1, by simpa using hc, o2, p, Fo G ρ σ, [.ins c fs, .ins c' gs], s2, rl.fpa, .inl rl.gca, fun z hz => ?_, a2.pen, rfl, .cons hin (.cons hin2 .nil), ?_⟩
              · cases e : H2 z with
                | some o => exact ⟨o, rfl⟩
                | none => exact (rl2.fresh e hz).elim
              · simp only [bind_assoc] at w2
                rw [wp_bind] at w2
                refine wp_mono (wp_nx w2) (fun d s3 hR v H3 a3 r3 => ?_) fun _ _ _ z => z.elim
                cases d with
                | bl r =>
                  cases r3
                  exact ⟨r, rfl, q _ s3 _ H3 hR ((a1.trans a2).trans a3) (.bl _)⟩
                | _ => exact hR.elim
        · rw [if_neg hc] at w2; exact w2.elim
      · exact w2.elim
    · exact w2.elim
  · exact .inl (plain w2)
theorem eqD_if (x y : D) : (if (false : Bool) = true then neD x y else eqD x y) = eqD x y := if_neg (by decide)
theorem neD_if (x y : D) : (if (true : Bool) = true then neD x y else eqD x y) = neD x y := if_pos rfl
theorem de_eqI (T : EqTb X.prog X.w X.K X.mg X.base k cs tbl) (hr : Room (k + 1) X.A) (ha : DE X p a f) (hb : DE X p b g) (hm : behindInMarks .Eq b = false := by first | exact nomark _ | rfl) : DE X p (.Compare a [.Eq] [b] pos) (dEqI tbl cs false f g) := by
  obtain ⟨r, h1, h2⟩ := (bs_eq hr : BinS X p (compareOp .Eq) eqD)
  exact ⟨fun W G H0 ρ σ H s R Ex Q tk rl hw q px => tE_of (pe_cmpR (h1.or (op_tbEq T hr)) pe_self pe_self hm) (eqI_run h2 eqD_if ha hb tk rl hw q px)⟩
theorem de_neI (T : EqTb X.prog X.w X.K X.mg X.base k cs tbl) (hr : Room (k + 1) X.A) (ha : DE X p a f) (hb : DE X p b g) (hm : behindInMarks .NotEq b = false := by first | exact nomark _ | rfl) : DE X p (.Compare a [.NotEq] [b] pos) (dEqI tbl cs true f g) := by
  obtain ⟨r, h1, h2⟩ := (bs_ne hr : BinS X p (compareOp .NotEq) neD)
  exact ⟨fun W G H0 ρ σ H s R Ex Q tk rl hw q px => tE_of (pe_cmpR (h1.or (op_tbNe T hr)) pe_self pe_self hm) (eqI_run h2 neD_if ha hb tk rl hw q px)⟩
theorem tEqI_wp {neg : Bool} {ρ : Env} {s : Pen} {R : Bool → Pen → Prop} {Ex : XR} (h : wpM (tEqI tbl cs neg f g ρ) s R Ex) : wpM (dEqI tbl cs neg f g ρ >>= truB) s R Ex := by
  have h : wpM (f ρ >>= fun x => g ρ >>= fun y => eqOwn tbl cs neg x y >>= truB) s R Ex := h
  show wpM ((f ρ >>= fun x => g ρ >>= fun y => eqOwn tbl cs neg x y) >>= truB) s R Ex
  simp only [bind_assoc]
  exact h
theorem dt_eqI (T : EqTb X.prog X.w X.K X.mg X.base k cs tbl) (hr : Room (k + 1) X.A) (ha : DE X p a f) (hb : DE X p b g) (hm : behindInMarks .Eq b = false := by first | exact nomark _ | rfl) : DT X p (.Compare a [.Eq] [b] pos) (tEqI tbl cs false f g) := by
  obtain ⟨r, h1, h2⟩ := (bs_eq hr : BinS X p (compareOp .Eq) eqD)
  exact ⟨fun W G H0 ρ σ H s R Ex Q tk rl hw q px => tT_of (pt_cmpR (h1.or (op_tbEq T hr)) pe_self pe_self hm) (tB_run (f := dEqI tbl cs false f g) (tEqI_wp hw) q fun R' Q' hw' q' => eqI_run h2 eqD_if ha hb tk rl hw' q' px)⟩
theorem dt_neI (T : EqTb X.prog X.w X.K X.mg X.base k cs tbl) (hr : Room (k + 1) X.A) (ha : DE X p a f) (hb : DE X p b g) (hm : behindInMarks .NotEq b = false := by first | exact nomark _ | rfl) : DT X p (.Compare a [.NotEq] [b] pos) (tEqI tbl cs true f g) := by
  obtain ⟨r, h1, h2⟩ := (bs_ne hr : BinS X p (compareOp .NotEq) neD)
  exact ⟨fun W G H0 ρ σ H s R Ex Q tk rl hw q px => tT_of (pt_cmpR (h1.or (op_tbNe T hr)) pe_self pe_self hm) (tB_run (f := dEqI tbl cs true f g) (tEqI_wp hw) q fun R' Q' hw' q' => eqI_run h2 neD_if ha hb tk rl hw' q' px)⟩
def kitChk2 (cs : List Str) (Ts : List String) (es : List Str) (K : PySem.W.Frag) : Bool := kitChk cs Ts K && (es.all fun c => He.eqO (PySem.W.findIn K (.ref (He.ga K c)) "__ne__") (some (some (.builtin "object.__ne__"))) && cs.all fun c' => PySem.W.notFirst K (He.ga K c) (.ref (He.ga K c')))
theorem eqKit_of {es : List Str} {Ts : List String} {K : PySem.W.Frag} (h : kitChk2 cs Ts es K = true) (hk : Kit K cs Ts) {c : Str} (hc : c ∈ es) (hcs : c ∈ cs) : EqKit K cs c := by
  obtain ⟨h1, h2⟩ := Bool.and_eq_true_iff.mp h
  obtain ⟨q1, q2⟩ := Bool.and_eq_true_iff.mp (List.all_eq_true.mp h2 c hc)
  exact ⟨He.eqO_ok q1, (hk.ins c hcs).2.2.2.2, fun c' m => List.all_eq_true.mp q2 c' m⟩
end
end Say

namespace SayS
open PySem PySem.W PySem.Calls PyProof.Rows Srt SrtO
/-! ### the order of rows of two ints and a tuple of ints -/
abbrev Row3 := Int × Int × List Int
def kl (r : Row3) : List Int := r.1 :: r.2.1 :: r.2.2
def TR (h : Heap) (v : Value) (k : Row3) : Prop := ∃ a o t u r n, v = .ref a ∧ h.get? a = some o ∧ o.cls = .type "tuple" ∧ o.data = .seq #[.int k.1 t, .int k.2.1 u, r] n ∧ TI h r k.2.2
theorem eq_lists : ∀ ns ms : List Int, ((List.range (min ns.length ms.length)).all (fun j => decide (ns.getD j 0 = ms.getD j 0)) && ns.length == ms.length) = decide (ns = ms) := fun ns ms => by
  rw [Bool.eq_iff_iff, Bool.and_eq_true, List.all_eq_true, beq_iff_eq, decide_eq_true_iff]
  constructor
  · rintro ⟨h1, h2⟩
    refine List.ext_getElem h2 fun i q1 q2 => ?_
    have := of_decide_eq_true (h1 i (List.mem_range.mpr (by omega)))
    simpa [List.getD, List.getElem?_eq_getElem q1, List.getElem?_eq_getElem q2] using this
  · rintro rfl
    exact ⟨fun _ _ => decide_eq_true rfl, rfl⟩
section
variable {prog : Program} {w : World} {A :
    Around} {E : Value → Shared → Prop} {s : Shared}
theorem eq_tups {v u : Value} {ns ms : List Int} (hv : TI s.heap v ns) (hu : TI s.heap u ms) (room : A.units < cLine) : SeqAt.EqAt A s v u (decide (ns = ms)) := by
  obtain ⟨a, xs, rfl, ha, hi⟩ := hv
  obtain ⟨b, ys, rfl, hb, hj⟩ := hu
  by_cases e : a = b
  · subst e
    have exy : xs = ys := by
      obtain ⟨o, ho,
          hc, n, hd⟩ := ha
      obtain ⟨o', ho', hc', n', hd'⟩ := hb
      cases ho.symm.trans ho'
      rw [hd] at hd'
      injection hd'
    subst exy
    have : ns = ms := by
      have l1 := hi.length
      have l2 := hj.length
      refine List.ext_getElem (l1.symm.trans l2) fun i q1 q2 => ?_
      have qx : i < xs.toList.length := by omega
      obtain ⟨t, e1⟩ := hi.int_at i _ (List.getElem?_eq_getElem qx)
      obtain ⟨t', e2⟩ := hj.int_at i _ (List.getElem?_eq_getElem qx)
      have := e1.symm.trans e2
      injection this with this
      simpa [List.getD, List.getElem?_eq_getElem q1, List.getElem?_eq_getElem q2] using this
    rw [decide_eq_true this]
    exact SeqAt.EqAt.same _
  · have l1 := hi.length
    have l2 := hj.length
    rw [Array.length_toList]
        at l1 l2
    have at1 : ∀ j (h1 : j < xs.size), ∃ t, xs[j] = .int (ns.getD j 0) t := fun j h1 => by
      have := IntsAre.int_at hi j xs[j] (by simp [h1])
      exact this
    have at2 : ∀ j (h1 : j < ys.size), ∃ t, ys[j] = .int (ms.getD j 0) t := fun j h1 => by
      have := IntsAre.int_at hj j ys[j] (by simp [h1])
      exact this
    have R := SeqAt.RcAt.tuples (A := A) (s := s) (e := fun j => decide (ns.getD j 0 = ms.getD j 0)) ha hb room fun j h1 h2 => by
      obtain ⟨t, et⟩ := at1 j h1
      obtain ⟨t', et'⟩ := at2 j h2
      rw [et, et']
      have z : (ns.getD j 0 == ms.getD j 0) =
          decide (ns.getD j 0 = ms.getD j 0) := by
        by_cases q : ns.getD
            j 0 = ms.getD j 0
        · rw [decide_eq_true q];
              exact beq_iff_eq.mpr q
        · rw [decide_eq_false q];
              exact beq_eq_false_iff_ne.mpr q
      rw [← z]
      exact SeqAt.EqAt.int_int _ _ _ _
    rw [l1, l2, eq_lists] at R
    exact SeqAt.EqAt.of_refs e R
theorem lt_tups {v u : Value} {ns ms : List Int} (hv : TI s.heap v ns) (hu : TI s.heap u ms) (room : A.units < cLine) {Q : Bool → Shared → Prop} (h : Q (HT.lexLt ns ms) s) : wpAny (model prog w) A (oneLt' false v u) Q E s := by
  obtain ⟨a, xs, rfl, ⟨⟨cls, dd, data, sl⟩, ho, hc, n, hd⟩, hi⟩ := hv
  obtain ⟨b, ys, rfl, ⟨⟨cls2, dd2, data2, sl2⟩, ho2, hc2, n2, hd2⟩, hj⟩ := hu
  simp only at hc hd hc2 hd2
  subst hc hd hc2 hd2
  refine kat_one _ _ ?_
  exact richCompare_meets_room (op := .Lt) ⟨_, ho, rfl⟩ ⟨_, ho2, rfl⟩ F.slot_tuple_lt F.entry_tuple_lt (F.args_tuple_lt_2 _ _) (HT.tuple_lt_ints a b xs ys n n2 dd dd2 sl sl2 ns ms hi hj) ⟨ho, ho2, ⟨(fun x => nomatch x), h⟩⟩ room
theorem trip_cmp {vs : List Value} {k : Value → Row3} (hp : ∀ v ∈ vs, TR s.heap v (k v)) (room : A.units < cLine) : Cmp prog w A s (tuples' true) (fun p => p.1 ∈ vs) (lt2 fun v u => HT.lexLt (kl (k v)) (kl (k u))) := by
  intro p q hm hm'
  have h1 := hp _ hm
  have h2 := hp _ hm'
  show wpAny (model prog w) A (keyLt' (tuples' true) p.1 q.1) (fun r s' => s' = s ∧ r = HT.lexLt (kl (k p.1)) (kl (k q.1))) (fun _ _ => False) s
  generalize k p.1 = x at h1 ⊢
  generalize k q.1 = y at h2 ⊢
  obtain ⟨x1, x2, x3⟩ := x
  obtain ⟨y1, y2, y3⟩ := y
  obtain ⟨a, o, t, u, r, n, e, ho, hc, hd, hr⟩ := h1
  obtain ⟨a', o', t', u', r', n', e', ho', hc', hd', hr'⟩ := h2
  rw [e, e']
  refine kat_lt ho
      hd ho' hd' ?_
  show KatLex prog w A true (decide (3 < 3)) _ [(.int x1 t, .int y1 t'), (.int x2 u, .int y2 u'), (r, r')] 0 s
  have ek : HT.lexLt (kl (x1, x2, x3)) (kl (y1, y2, y3)) = if x1 = y1 then (if x2 = y2 then HT.lexLt x3 y3 else decide (x2 < y2)) else decide (x1 < y1) := by
    unfold kl
    rw [HT.lexLt_cons, HT.lexLt_cons]
  refine kat_cons (SeqAt.EqAt.int_int x1 t y1 t' prog w _ _ ?_)
  refine kat_go (fun e1 => ?_) (fun e1 => ?_)
  · have ex : x1 = y1 := by simpa using e1
    rw [if_pos ex] at ek
    refine kat_yes (kat_cons (SeqAt.EqAt.int_int x2 u y2 u' prog w _ _ ?_))
    refine kat_go (fun e2 => ?_) (fun e2 => ?_)
    · have ey : x2 = y2 := by simpa using e2
      rw [if_pos ey] at ek
      refine kat_yes (kat_cons (eq_tups hr hr' room prog w _ _ ?_))
      refine kat_go (fun e3 => ?_) (fun e3 => ?_)
      · have ez : x3 = y3 := of_decide_eq_true e3
        refine kat_yes (kat_nil ⟨rfl, ?_⟩)
        rw [ek, ez]
        cases q : HT.lexLt y3 y3 with
        | false => rfl
        | true => have := ll_asym q; rw [q] at this; cases this
      · exact kat_no (lt_tups hr hr' room ⟨rfl, ek.symm⟩)
    · have ey : ¬ x2 = y2 := by simpa using e2
      rw [if_neg ey] at ek
      exact kat_no (kat_one _ _ (PyProof.Rows.lt_int ⟨rfl, ek.symm⟩))
  · have ex : ¬ x1 = y1 := by simpa using e1
    rw [if_neg ex] at ek
    exact kat_no (oneLt_int ⟨rfl, ek.symm⟩)
theorem trip_firsts {h : Heap} {k : Value → Row3} : ∀ {vs : List Value}, (∀ v ∈ vs, TR h v (k v)) → ∃ fs, KatTups h vs fs ∧ fs.length = vs.length ∧ ∀ f ∈ fs, ∃ x t, f = .int x t
  | [], _ => ⟨[], KatTups.nil, rfl, fun f hf => nomatch hf⟩
  | v :: vs, hv => by
    obtain ⟨fs, h1, h2, h3⟩ := trip_firsts fun x hx => hv x (List.mem_cons_of_mem _ hx)
    obtain ⟨a, o, t, u, r, n, rfl, ho, hc, hd, hr⟩ := hv v List.mem_cons_self
    exact ⟨.int _ t :: fs, KatTups.cons ho hc hd rfl h1, by simp [h2], fun f hf => by
      rcases List.mem_cons.mp
          hf with rfl | hf
      · exact ⟨_, _, rfl⟩
      · exact h3 f hf⟩
theorem TR.keep {h h' : Heap} {v : Value} {k : Row3} (hk : ∀ b o, h.get? b = some o → o.cls = .type "tuple" → h'.get? b = some o) (t : TR h v k) : TR h' v k := by
  obtain ⟨a, o, t, u, r, n, e, ho, hc, hd, b, xs, er, ⟨o2, ho2, hc2, n2, hd2⟩, hi⟩ := t
  exact ⟨a, o, t, u, r, n, e, hk _ _ ho hc, hc, hd, b, xs, er, ⟨o2, hk _ _ ho2 hc2, hc2, n2, hd2⟩, hi⟩
theorem trips_sortable {a : Addr} {k : Value → Row3} {vs : List Value} (h0 : 0 < vs.length) (hv : ∀ v ∈ vs, TR s.heap v (k v)) (ha : ∀ o, s.heap.get? a = some o → o.cls ≠ .type "tuple") (room : A.units < cLine) : SortableO prog w A s a vs fun v u => HT.lexLt (kl (k v)) (kl (k u)) := by
  intro h' keep
  have hv' : ∀ v ∈ vs, TR h' v (k v) := fun v m => (hv v m).keep fun b o e c => keep b o (fun z => ha o (by rw [← z]; exact e) c) e
  obtain ⟨fs, h1, h2, h3⟩ := trip_firsts hv'
  refine ⟨tuples' true, fun Q E hq => ?_, trip_cmp (s := { s with heap := h' }) hv' room⟩
  refine kat_kind (s := { s with heap := h' }) (T := .type "int") h1 (by omega) (fun f hm => ?_) (by rfl) ?_
  · obtain ⟨x, t,
        rfl⟩ := h3 f hm
    exact Looks.now
  · have e : (Value.type "int" != Value.type "tuple") = true :=
        by first | decide +kernel | rfl | decide
    rw [e]
    exact hq
end
end SayS
namespace Say
open L2 PyProof.Rows PySem.Spec PySem
abbrev Row3 := SayS.Row3
abbrev lt3 (k : V → Row3) (x y : V) : Bool := HT.lexLt (SayS.kl (k x)) (SayS.kl (k y))
def rSorted3 (K : PySem.W.Frag) : List V → Hp → VK → Prop := fun vs H Q => ∃ (a : Addr) (xs : List V) (k : V → Row3), vs = [V.ref a] ∧ SqL K H a xs ∧ (∀ x ∈ xs, ∃ t r, x = V.ref t ∧ Tp H t [.int (k x).1, .int (k x).2.1, .ref r] ∧ Tp H r ((k x).2.2.map V.int)) ∧
  ∀ ys q, SrtO.Srtd (lt3 k) ys → SrtO.Stb (lt3 k) ys xs → H q = none → Q (.ref q) (upd H q (.lst ys))
theorem v3s {x y z : V} {us : List Value} (r : Vals [x, y, z] us) : ∃ u w' t', us = [u, w', t'] ∧ RelV x u ∧ RelV y w' ∧ RelV z t' := by
  cases r with
  | cons r1 r2 =>
    obtain ⟨w', t', rfl, r3, r4⟩ := vals2 r2
    exact ⟨_, w', t', rfl, r1, r3, r4⟩
theorem cr_sorted3 {X : Cx} (hu : X.A.in1.in1.units < cLine) : CallR X (.builtin "sorted") (rSorted3 X.K) := by
  intro pins s σ
      H vs us Q I r h
  obtain ⟨a, xs, k, rfl, sq, each, q⟩ := h
  obtain ⟨its, rv, pl, sz⟩ := I.list sq
  obtain ⟨u, rfl,
      ru⟩ := vals1 r
  obtain rfl : u =
      Value.ref a := ru
  have refs : ∀ x ∈ xs, ∃ t, x = V.ref t := fun x m => (each x m).elim fun t e => e.elim fun r e => ⟨t, e.1⟩
  obtain ⟨e1, e2⟩ := refs_back rv refs
  have tis : ∀ v ∈ its, SayS.TR s.heap v (k (backV v)) := fun v mv => by
    obtain ⟨t, rfl⟩ := e2 v mv
    have m : V.ref t ∈ xs := by rw [e1]; exact List.mem_map.mpr ⟨_, mv, rfl⟩
    obtain ⟨t', r', e, ⟨ob, ht, nd⟩, ⟨ob2, ht2, nd2⟩⟩ := each _ m
    cases e
    obtain ⟨_, _, us, r2, o, ho, hc, n, hd⟩ := (show s.heap.get? t = some ob ∧ ObjOk X.prog X.w H s.heap t (.tup _) from I.hok _ _ ht)
    obtain ⟨_, _, us2, r3, o2, ho2, hc2, n2, hd2⟩ := (show s.heap.get? r' = some ob2 ∧ ObjOk X.prog X.w H s.heap r' (.tup _) from I.hok _ _ ht2)
    obtain ⟨u1, u2, u3, rfl, ri, rj, rk⟩ := v3s r2
    obtain ⟨t1, rfl⟩ := ri
    obtain ⟨t2, rfl⟩ := rj
    obtain rfl : u3 = Value.ref r' := rk
    exact ⟨t, o, t1, t2, .ref r', n, rfl, ho, hc, hd, r', us2.toArray, rfl, ⟨o2, ho2, hc2, n2, hd2⟩, ints_of_vals r3⟩
  refine SrtO.sorted_ord (SayS.ll_swo fun u => SayS.kl (k (backV u))) pl.isList (by rw [← rv.length]; exact sz) (fun h2 h₁ d hd kk => ?_) fun out hs hb => ?_
  · refine SayS.trips_sortable (s := { s with heap := h₁ }) (k := fun u => k (backV u)) (by omega) (fun v hv => (tis v hv).keep fun b o e c => (kk b o e).2) (fun o e => ?_) hu
    have e' : some o = some (seqObj "list" its.toArray 0) := e.symm.trans hd
    cases e'
    intro c
    exact absurd (Value.type.inj
        c) (by decide)
  · have all : ∀ u ∈ out, ∃ a, u = Value.ref a := fun u hu => e2 u (hb.perm.mem_iff.mp hu)
    have st : SrtO.Stb (lt3 k) (out.map backV) xs := e1 ▸ SrtO.Stb.map (SayS.ll_swo fun x => SayS.kl (k x)) backV hb
    obtain ⟨ep, he⟩ := PyProof.Rows.sortedAll_at s.heap its out.toArray
    exact ⟨.ref _, upd H (s.heap.objs.size + 1) (.lst (out.map backV)), I.laid (t' := s.toks) (fun _ _ => PyProof.Rows.sortedAll_old) (Nat.le_succ _) ⟨by rw [st.len]; exact sz, out, ep, vals_back all, he⟩, rfl, q _ _ (SrtO.srtd_map hs) st (I.hok.fresh (Nat.le_succ _))⟩
/-! rows as data -/
def rowT (r : Row3) : D := .tup [.int r.1, .int r.2.1, ti r.2.2]
def le3 (a b : Row3) : Bool := leT (SayS.kl a) (SayS.kl b)
def sort3 (ls : List Row3) : List Row3 := ls.mergeSort le3
theorem kl_inj {a b : Row3} (h : SayS.kl a = SayS.kl b) : a = b := by
  obtain ⟨a1, a2, a3⟩ := a
  obtain ⟨b1, b2, b3⟩ := b
  unfold SayS.kl at h
  simp only [List.cons.injEq] at h
  obtain ⟨h1, h2, h3⟩ := h
  rw [h1, h2, h3]
theorem le3_anti (a b : Row3) (h1 : le3 a b = true) (h2 : le3 b a = true) : a = b := kl_inj (leT_anti _ _ h1 h2)
theorem sort3_perm (ls : List Row3) : (sort3 ls).Perm ls := List.mergeSort_perm ls le3
theorem sort3_pw (ls : List Row3) : (sort3 ls).Pairwise fun a b => le3 a b = true := List.pairwise_mergeSort (le := le3) (fun a b c h1 h2 => leT_trans (SayS.kl a) (SayS.kl b) (SayS.kl c) h1 h2) (fun a b => leT_total (SayS.kl a) (SayS.kl b)) ls
theorem sort3_uniq {xs ns : List Row3} (p : xs.Perm ns) (h : xs.Pairwise fun a b => le3 a b = true) : xs = sort3 ns := sorted_eq le3_anti (p.trans (sort3_perm ns).symm) h (sort3_pw ns)
def rowsD : List D → Option (List Row3)
  | [] => some []
  | .tup [.int i, .int j, .tup l] :: ds => (match intsOf l with
    | some l => (rowsD ds).map ((i, j, l) :: ·)
    | none => none)
  | _ => none
theorem rowsD_map : ∀ ls : List Row3, rowsD (ls.map rowT) = some ls
  | [] => rfl
  | (i, j, l) :: ls => by
    show (match intsOf (l.map D.int) with | some l => (rowsD (ls.map rowT)).map ((i, j, l) :: ·) | none => none) = _
    rw [intsOf_map, rowsD_map ls]
    rfl
theorem rowsD_ok : ∀ {xs : List D} {ls : List Row3}, rowsD xs = some ls → xs = ls.map rowT := by
  intro xs
  induction xs with
  | nil => intro ls h; cases h; rfl
  | cons d ds ih =>
    intro ls h
    unfold rowsD at h
    split at h
    · rename_i h0; cases h0
    · rename_i i j l ds' h0
      cases h0
      cases e : intsOf l with
      | none => rw [e]
          at h; cases h
      | some l' =>
        rw [e] at h
        simp only at h
        cases e2 : rowsD ds with
        | none => rw [e2] at h; cases h
        | some ls' =>
          rw [e2] at h
          cases h
          rw [ih e2, intsOf_ok e]
          rfl
    · cases h
/-- sorted([..]), rows of two ints and a tuple of ints -/
def sort3M : List D → M (List D)
  | [.lst xs] => (match rowsD xs with
    | some ls => pure ((sort3 ls).map rowT)
    | none => bad)
  | _ => bad
@[simp] def nSort3 (fs : List En) : Env → M (List D) := fun ρ => seqA fs ρ sort3M
def kv3 (H : Hp) : V → Row3
  | .ref a => (match H a with
    | some (.frz _ (.tup [.int i, .int j, r])) => (i, j, kvT H r)
    | _ => (0, 0, []))
  | _ => (0, 0, [])
section
variable {K : PySem.W.Frag} {p : PL} {H : Hp} {F : Addr → Prop}
theorem kvT_at {r : Addr} {l : List Int} (h : Tp H r (l.map V.int)) : kvT H (.ref r) = l := by
  show (match H r with | some (.frz _ (.tup vs)) => vs.map vI | _ => []) = l
  obtain ⟨o, e, _⟩ := h
  rw [e]
  show (l.map V.int).map vI = l
  rw [List.map_map]
  exact List.map_id'' (fun _ => rfl) l
theorem kv3_at {t r : Addr} {i j : Int} {l : List Int} (h : Tp H t [.int i, .int j, .ref r]) (h2 : Tp H r (l.map V.int)) : kv3 H (.ref t) = (i, j, l) := by
  show (match H t with | some (.frz _ (.tup [.int i, .int j, r])) => (i, j, kvT H r) | _ => (0, 0, [])) = _
  obtain ⟨o, e, _⟩ := h
  rw [e]
  show (i, j, kvT H (.ref r)) = _
  rw [kvT_at h2]
structure R3 (H : Hp) (F : Addr → Prop) (x : V) (t r : Addr) : Prop where
  e : x = V.ref t
  tp : Tp H t [.int (kv3 H x).1, .int (kv3 H x).2.1, .ref r]
  tf : ¬ F t
  rp : Tp H r ((kv3 H x).2.2.map V.int)
  rf : ¬ F r
  sz : (kv3 H x).2.2.length ≤ 16777216
theorem repL_rows : ∀ {vs : List V} {ls : List Row3}, RepL K p H F vs (ls.map rowT) → vs.map (kv3 H) = ls ∧ ∀ x ∈ vs, ∃ t r, R3 H F x t r
  | _, [], .nil => ⟨rfl, fun x h => by cases h⟩
  | v :: vs, (i, j, l) :: ls, .cons h r => by
    obtain ⟨e1, e2⟩ := repL_rows r
    have h : Rep K p H F v (.tup [.int i, .int j, .tup (l.map D.int)]) := h
    cases h with
    | tup ho hz rl =>
      cases rl with
      | cons h1 rl =>
        cases rl with
        | cons h2 rl =>
          cases rl with
          | cons h3 rl =>
            cases rl
            cases h1
            cases h2
            cases h3 with
            | tup ho2 hz2 rl2 =>
              rename_i a b ws
              have ew : ws = l.map V.int := repL_ints' rl2
              subst ew
              have e := kv3_at ho.1 ho2.1
              refine ⟨by rw [List.map_cons, e, e1], fun x hx => ?_⟩
              rcases List.mem_cons.mp
                  hx with rfl | hx
              · rw [List.length_map] at hz2
                exact ⟨a, b, ⟨rfl, by rw [e]; exact ho.1, ho.2, by rw [e]; exact ho2.1, ho2.2, by rw [e]; exact hz2⟩⟩
              · exact e2 x hx
theorem rows_repL : ∀ {vs : List V}, (∀ x ∈ vs, ∃ t r, R3 H F x t r) → RepL K p H F vs ((vs.map (kv3 H)).map rowT)
  | [], _ => .nil
  | v :: vs, h => by
    obtain ⟨t, r, ⟨rfl, e, n, e2, n2, hz⟩⟩ := h v List.mem_cons_self
    refine .cons (.tup ⟨e, n⟩ (by show 3 ≤ 16777216; decide) (.cons (.int _) (.cons (.int _) (.cons ?_ .nil)))) (rows_repL fun x hx => h x (List.mem_cons_of_mem _ hx))
    exact .tup ⟨e2, n2⟩ (by rw [List.length_map]; exact hz) (RepL.ints _)
end
section
variable {X : Cx} {p : PL} {e : Expr} {fs : List En} {pos pos' : Pos} {kk : Nat}
theorem dn_sort3 (hr : Room kk X.A) (hm : X.mg "sorted" = none) (ha : DA X p [e] fs) (hu : ∀ A : Around, Room kk A → A.in1.in1.units < cLine := by intro A h; have := h.un; show A.units + 2 < cLine; omega) (hg : Gl X "sorted" := by rfl) (he : starEach (e :: []) X.env = (false, eval e X.env) :: starEach [] X.env := by rfl) (hpl : (backTo pos (starEach [] X.env)).any (·.1) = false := by rfl) :
    DN X p (.Call (.Name "sorted" pos') [e] [] pos) (nSort3 fs) := by
  refine ⟨fun W G H0 ρ σ H s R Ex Q tk rl hw q px => tE_of (pe_callB (cr_sorted3 (hu _ hr)) hg hm boot_sorted pa_self (by decide) (by decide) he hpl) ?_⟩
  have hw : wpM (seqA fs ρ sort3M) s R Ex := hw
  refine ha.run _ sort3M W G H0 ρ σ H s R Ex _ tk rl hw (fun ds s1 vs H1 h1 a1 r1 _ => ?_) px
  unfold sort3M at h1
  split at h1
  · rename_i xs _
    split at h1
    · rename_i ls el
      have ex := rowsD_ok el
      subst ex
      cases r1 with
      | cons r1 r2 =>
        cases r2
        cases r1 with
        | lst ho n1 hz l1 =>
          rename_i ws
          obtain ⟨k1, k2⟩ := repL_rows l1
          refine ⟨_, ws, kv3 H1, rfl, .inl (.inl ho), fun x hx => (k2 x hx).elim fun t z => z.elim fun r z => ⟨t, r, z.e, z.tp, z.rp⟩, fun ys l hs hb hl => ?_⟩
          have hp := hb.perm
          have each : ∀ x ∈ ys, ∃ t r, R3 H1 (Fo G ρ σ) x t r := fun x hx => k2 x (hp.mem_iff.mp hx)
          have es : ys.map (kv3 H1) = sort3 ls := by
            refine sort3_uniq ?_ ?_
            · rw [← k1]; exact hp.map _
            · refine List.pairwise_map.mpr (List.Pairwise.imp (fun {a b} h => ?_) hs)
              have h : HT.lexLt (SayS.kl (kv3 H1 b)) (SayS.kl (kv3 H1 a)) = false := h
              unfold le3 leT
              rw [h]
              rfl
          have lr : RepL X.K p H1 (Fo G ρ σ) ys ((sort3 ls).map rowT) := by
            rw [← es]
            exact rows_repL each
          refine q ((sort3 ls).map rowT) s1 l ys _ h1 (a1.trans (.same a1.pen (same_new hl))) (back_none a1 hl) upd_same ?_ ((lr.more (N := fun a => a = l) fun a z => by rw [z]; exact hl).mono ((same_step (p := p) (same_new hl)).toF (.inl rl.fpa)) fun _ z => z)
          rw [List.length_map, (sort3_perm ls).length_eq]
          rw [List.length_map] at hz
          exact hz
    · exact h1.elim
  · exact h1.elim
end
end Say

namespace SayS
open PyProof.Rows PySem.Calls PySem.W PySem
/-! ### enumerate of a tuple -/
theorem meets_enumT (l : Addr) (items : Array Value) (n : Nat) (dct : Option Addr) (sl : Array (Option Value)) :
    Meets (Builtin.«enumerate.__new__» ⟨[.type "enumerate", .ref l], []⟩) (fun _ R s => s.heap.get? l = some { cls := .type "tuple", dict := dct, data := .seq items n, slots := sl } ∧
      R (.ok (.ret (.ref (s.heap.push { cls := .type "tuple_iterator", data := .fields #[.ref l, .int 0 0] }).objs.size)))
        { s with heap := (s.heap.push { cls := .type "tuple_iterator", data := .fields #[.ref l, .int 0 0] }).push { cls := .type "enumerate", data := .fields #[.none, .bool false, .ref s.heap.objs.size, rawInt 0, .none, .none] } }) :=
  .of_wp fun prog
      w A R s h => by
    obtain ⟨hp, g, d, tk, os⟩
        := s; obtain ⟨hl, h⟩ := h
    have hsub := sub_enumerate
    have hL : Heap.IsTuple (Shared.heap ⟨hp, g, d, tk, os⟩) l items := ⟨_, hl, rfl, n, rfl⟩
    wp_walk using PySem.AutoSeq1.wpAny_loadPart' hl
    refine wpAny_stack_any
        fun st => wpAny_pure ?_
    split
    · rename_i c _ _ _ _ _
      cases (c == Value.type
          "enumerate")
      · wp_walk using PySem.AutoSeq1.wpAny_loadPart' hl, wpAny_pyIter_tuple hL
        exact ⟨_, rfl, h⟩
      · wp_walk using PySem.AutoSeq1.wpAny_loadPart' hl, wpAny_pyIter_tuple hL
        exact ⟨_, rfl, h⟩
    · wp_walk using PySem.AutoSeq1.wpAny_loadPart' hl, wpAny_pyIter_tuple hL
      exact ⟨_, rfl, h⟩
section
variable {prog : Program} {w : World} {A :
    Around} {E : Value → Shared → Prop} {s : Shared}
theorem call_enumT {l : Addr} {items : Array Value} {Q : Value → Shared → Prop} (hL : s.heap.IsTuple l items)
    (h : ∀ h', IsEnum h' (s.heap.objs.size + 1) s.heap.objs.size 0 .none → h'.IsTupleIter s.heap.objs.size l 0 → h'.objs.size = s.heap.objs.size + 2 →
      (∀ b o, s.heap.get? b = some o → h'.get? b = some o) →
          Q (.ref (s.heap.objs.size +
              1)) { s with heap := h' }) :
    wpAny (model prog w) A (call (.type
        "enumerate") [.ref l]) Q E s := by
  obtain ⟨⟨c, dct, dt, sl⟩,
      hl, hc, n, hd⟩ := hL
  replace hc : c = .type "tuple" := hc
  replace hd : dt =
      .seq items n := hd
  subst hc hd
  refine callType_new F.called_enumerate (by decide) (F.typeCall_enumerate_1 _)
      (F.newCall_enumerate_1 _) (fun obj => F.args_object_init_2 obj _) F.entry_enumerate_new
    (meets_enumT l items n dct sl) ⟨hl, ?_⟩
  have hz : (s.heap.push { cls := .type "tuple_iterator", data := .fields #[.ref l, .int 0 0] }).objs.size = s.heap.objs.size + 1 := Heap.size_push ..
  show _ ∧ _
  rw [hz]
  have he : IsEnum ((s.heap.push { cls := .type "tuple_iterator", data := .fields #[.ref l, .int 0 0] }).push
      { cls := .type "enumerate", data := .fields #[.none, .bool false, .ref s.heap.objs.size,
          rawInt 0, .none, .none] }) (s.heap.objs.size + 1) s.heap.objs.size 0 .none := by
    have := Heap.get?_push_size (s.heap.push { cls := .type "tuple_iterator", data := .fields #[.ref l, .int 0 0] })
      (o := { cls := .type "enumerate", data := .fields #[.none, .bool
          false, .ref s.heap.objs.size, rawInt 0, .none, .none] }) rfl
    rw [hz] at this; exact this
  refine ⟨⟨_, he, rfl⟩, h _ he ⟨_, Heap.get?_push_of_some _ (Heap.get?_push_size _ rfl), rfl, rfl⟩
      (by rw [Heap.size_push, hz]) fun b o x => Heap.get?_push_of_some _ (Heap.get?_push_of_some _ x)⟩
end
theorem draws_tuple {prog : Program} {w : World} {A : Around} (hh : A.handled = none) (it l : Addr) (hne : l ≠ it) (items : Array Value) :
    Draws prog w A it [it, l] items.size (fun i v => items[i]? = some v) (fun i h => h.IsTupleIter it l i ∧ h.IsTuple l items) where
  live := fun _ _ st => let
      ⟨o, ho, _⟩ := st.1; ⟨o, ho⟩
  frame := fun _ _ _ st hk => ⟨st.1.at fun o e => hk it
      (by simp) o e, st.2.at fun o e => hk l (by simp) o e⟩
  item := fun i s Q
      E hi st hQ => by
    refine RZ.nextOf_tuple_item st.1 st.2 (x := items[i]) (by simp [hi]) fun h' hit' hs' => ?_
    exact hQ _ h' s.toks (by simp [hi])
        ⟨hit', st.2.extBut hs'.extBut hne⟩ hs'
  done := fun s Q E st hE => RZ.nextOf_tuple_end hh st.1 st.2 (by simp) hE
theorem enumT_end {prog : Program} {w : World} {A : Around} {E : Value → Shared → Prop} {s : Shared} {e it l : Addr} {items : Array Value} {i : Nat} {j : Int} {old : Value} {Q : Option Value → Shared → Prop}
    (hh : A.handled = none) (he : IsEnum s.heap e it j old) (hit : s.heap.IsTupleIter it l i) (hl : s.heap.IsTuple l items) (hx : items[i]? = none)
    (hQ : ∀ h', Heap.ExtBut it s.heap h' → Q none { s with heap :=
        h' }) : wpAny (model prog w) A (pyNext (.ref e)) Q E s := by
  have hT : s.TypeIs (.ref e)
      "enumerate" := ⟨_, he, rfl⟩
  unfold pyNext
  refine wpAny_bind (wpAny_attempt (wpAny_callSpecial?_slot
      (name := Str.ofString "__next__") hT F.slot_enumerate_next
    (wpAny_call_entry F.slot_enumerate_next hT
        F.entry_enumerate_next ?_ (F.args_enumerate_next_1 _))))
  show wpAny _ _ (field
      (.ref e) 2 >>= _) _ _ _
  refine wpAny_bind (wpAny_field
      he rfl (x := .ref it) rfl ?_)
  refine wpAny_bind (RZ.nextOf_tuple_end (show A.in1.handled = none from hh) hit hl hx fun h' x he' hx' => ?_)
  obtain ⟨o, ho, hc⟩ := hx'
  refine wpAny_bind (wpAny_isInstance (T := "StopIteration")
      (b := true) ⟨o, ho, hc⟩ isSubtype_stop ?_)
  exact wpAny_pure (hQ _ he')
end SayS
namespace Say
open L2 PyProof.Rows PySem.Spec PySem
/-- the tuple at a, each item in a new pair with its place -/
def IteT (K : PySem.W.Frag) (a : Addr) : It :=
  ⟨fun i H => ∃ (xs : List V) (x : V), SqT K H a xs ∧ xs[i]? = some x, fun i H v H' => ∃ T x, v = .ref T ∧ H T = none ∧ H' = upd H T (.tup [.int (i : Nat), x]) ∧ ∀ xs, SqT K H a xs → xs[i]? = some x, fun i H => ∃ xs : List V, SqT K H a xs ∧ xs.length ≤ i⟩
theorem turn_enumT {P : Program} {w : World} {K : PySem.W.Frag} {elts : List Expr} {kk : Nat} {tpos : Pos} (a e it : Addr) :
    Turn P w K (.Tuple elts kk tpos) (IteT K a) [e, it] e (fun i h => (∃ old, IsEnum h e it ((i : Nat) : Int) old) ∧ h.IsTupleIter it a i ∧ e ≠ it ∧ a ≠ it ∧ e ≠ a) where
  mem := by simp
  obj := fun i h st b hb => by
    obtain ⟨⟨old, he⟩, ⟨o,
        ho, hc, hd⟩, _⟩ := st
    have e' : b = e ∨ b = it :=
        by simpa using hb
    rcases e' with z | z
    · rw [z]; exact ⟨_, he,
          fun v q => nomatch q⟩
    · rw [z]; exact ⟨o, ho, fun v q =>
          by rw [hd] at q; cases q⟩
  keep := fun i h h' st k => let ⟨⟨old, he⟩, hi, hne⟩ := st; ⟨⟨old,
      k e (by simp) _ he⟩, hi.at fun o q => k it (by simp) o q, hne⟩
  item := by
    intro X hP hw hK hc i
        pins s σ H E I hf st hg
    subst hP hw hK
    obtain ⟨⟨old, he⟩, hit, hne, hai, hea⟩ := st
    obtain ⟨xs, x, hq, hx⟩ := hg
    obtain ⟨its, rv, p,
        hz⟩ := I.tuple hq
    obtain ⟨u, hu,
        ru⟩ := rv.get hx
    have hel : e < s.heap.objs.size
        := Heap.lt_size he
    have hil : it < s.heap.objs.size :=
        by obtain ⟨_, q, _⟩ := hit; exact Heap.lt_size q
    have hlt : i < its.toArray.size := by
      have := (List.getElem?_eq_some_iff.mp hu).1
      simpa using this
    refine wpAny_pyNext_enum_itemD (SayS.draws_tuple (show X.A.in1.handled = none from I.ok.hd hc) it a hai its.toArray) he ⟨hit, p⟩ hlt hne (by simp [hne, hea]) fun y h' tk hy ho hit' hT hsz hk => ?_
    have ey : y = u := by
      have hy : its.toArray[i]? = some y := hy
      rw [List.getElem?_toArray, hu] at hy
      exact (Option.some.inj hy).symm
    subst ey
    refine ⟨_, rfl, wpAny_letOwnedTupleGo_enum (s := { s with heap := h', toks := tk + 1 }) ho fun h'' he' sb => ?_⟩
    have hT2 : h''.get? s.heap.objs.size = some { cls := .type "tuple", data := .seq #[.int i tk, y] } := (sb.2 _ (Nat.ne_of_gt hel)).trans hT
    have new : ObjOk X.prog X.w (upd H s.heap.objs.size (.tup [.int (i
        : Nat), x])) h'' s.heap.objs.size (.tup [.int (i : Nat), x]) :=
      ⟨by show 2 ≤ sizeLine; decide, [.int i tk, y], .cons ⟨_, rfl⟩ (.cons ru .nil), ⟨_, hT2, rfl, _, rfl⟩⟩
    have I1 : Inv X pins σ (upd H s.heap.objs.size (.tup [.int (i : Nat), x])) { s with heap := h'', toks := tk + 1 } :=
      I.turnedNew (ch := [e, it]) (fun b ob hb q => (sb.2 b (fun z => hb (by simp [z]))).trans
          (hk b ob (fun z => hb (by simp [z])) (fun z => hb (by simp [z])) q)) hf (Nat.le_refl _) new
    refine ⟨.ref s.heap.objs.size, _, I1, rfl, ⟨_, x, rfl, I.hok.fresh (Nat.le_refl _), rfl, fun ys hy => by rw [I.tuple_inj hy hq]; exact hx⟩, ⟨⟨y, ?_⟩, hit'.1.at fun o q => (sb.2 it (Ne.symm hne)).trans q, hne, hai, hea⟩, fun b hb => ?_⟩
    · have e1 : ((i + 1 : Nat) : Int) = (i : Int) + 1 :=
          by omega
      rw [e1]; exact he'
    · have hb' : b <
          s.heap.objs.size := by
        have e' : b = e ∨ b = it :=
            by simpa using hb
        rcases e' with z | z
        · rw [z]; exact hel
        · rw [z]; exact hil
      rw [upd_ne
          (Nat.ne_of_lt hb')]
      exact (hf b hb).1
  done := by
    intro X hP hw hK hc i
        pins s σ H E I hf st hg
    subst hP hw hK
    obtain ⟨⟨old, he⟩, hit, hne, hai, hea⟩ := st
    obtain ⟨xs, hq, hx⟩ := hg
    obtain ⟨its, rv, p,
        hz⟩ := I.tuple hq
    obtain ⟨f0, f1, f2, f3,
        f4, f5⟩ := hf it (by simp)
    have hl := rv.length
    exact SayS.enumT_end (I.ok.hd hc) he hit (show s.heap.IsTuple a its.toArray from p) (by simp; omega) fun h' eb => ⟨rfl, I.turned (t' := s.toks) (fun b o hb q => eb b o hb q) f0 f1 f3 f4 f5⟩
  self := fun A i s Q E st h => let ⟨⟨_,
      he⟩, _⟩ := st; wpAny_pyIter_enum he h
def iEnumT (K : PySem.W.Frag) (ta : TA) : TI := fun σ H R => ta σ H fun vs H1 => ∃ a xs, vs = [.ref a] ∧ ((SqL K H1 a xs ∧ R (Ite K a) H1) ∨ (SqT K H1 a xs ∧ R (IteT K a) H1))
theorem pi_enumT {X : Cx} {e : Expr} {ta : TA} {p pos tpos : Pos} {elts : List Expr} {kk : Nat} (hg : Gl X "enumerate") (hm : X.mg "enumerate" = none) (ha : PA X [e] ta) (hs : starEach [e] X.env = [(false, eval e X.env)] := by rfl) :
    PI X (.Tuple elts kk tpos) (.Call (.Name "enumerate" p) [e] [] pos) (iEnumT X.K ta) := by
  refine ⟨fun pins
      s σ H R I h => ?_⟩
  refine Call_ (ld_blt I hg hm boot_enumerate (PyProof.Rows.callWith_type1 (thn
      (ha.run pos pins s σ H _ I h) fun us s1 ⟨vs, H1, I1, r1, q1⟩ => ?_) hs rfl))
  obtain ⟨a, xs, ex, q⟩ := q1
  subst ex
  cases r1 with
  | cons r rr =>
    cases rr
    cases r
    have old : ∀ b, b = s1.heap.objs.size + 1 ∨ b = s1.heap.objs.size → s1.heap.objs.size ≤ b := fun b e' => by
      rcases e' with z | z
      · rw [z]; exact
            Nat.le_add_right _ _
      · rw [z]; exact Nat.le_refl _
    rcases q with
        ⟨hq, q⟩ | ⟨hq, q⟩
    · obtain ⟨its, rv,
          p', hz⟩ := I1.list hq
      refine call_enumerate_list p'.isList fun h'
          he hit hsz hk => wpAny_pyIter_enum he ?_
      have I2 : Inv X pins σ H1 { s1 with heap
          := h' } := I1.kept (t' := s1.toks) hk
      refine ⟨s1.heap.objs.size + 1, [s1.heap.objs.size + 1, s1.heap.objs.size], _, _, H1, rfl, I2, turn_enum
          a (s1.heap.objs.size + 1) s1.heap.objs.size, ⟨⟨.none, he⟩, hit, Nat.succ_ne_self _⟩, fun b hb => ?_, q⟩
      have hle := old b (by simpa using hb)
      exact I1.fpOk hle
          (I1.hok.fresh hle)
    · obtain ⟨its, rv,
          p', hz⟩ := I1.tuple hq
      have hal : a < s1.heap.objs.size := by
        obtain ⟨_, q, _⟩ := p'
        exact Heap.lt_size q
      refine SayS.call_enumT (show s1.heap.IsTuple a its.toArray from p') fun h' he hit hsz hk => wpAny_pyIter_enum he ?_
      have I2 : Inv X pins σ H1 { s1 with heap
          := h' } := I1.kept (t' := s1.toks) hk
      refine ⟨s1.heap.objs.size + 1, [s1.heap.objs.size + 1, s1.heap.objs.size], _, _, H1, rfl, I2, turn_enumT a (s1.heap.objs.size + 1) s1.heap.objs.size, ⟨⟨.none, he⟩, hit, Nat.succ_ne_self _, Nat.ne_of_lt hal, Ne.symm (Nat.ne_of_lt (Nat.lt_succ_of_lt hal))⟩, fun b hb => ?_, q⟩
      have hle := old b (by simpa using hb)
      exact I1.fpOk hle
          (I1.hok.fresh hle)
/-- the items with their places -/
def enD (xs : List D) : List D := xs.zipIdx.map fun q => .itm [.int (q.2 : Int), q.1]
theorem enD_len (xs : List D) : (enD xs).length = xs.length := by unfold enD; rw [List.length_map, List.length_zipIdx]
theorem enD_at {xs : List D} {i : Nat} {d : D} (h : (enD xs)[i]? = some d) : ∃ x, xs[i]? = some x ∧ d = .itm [.int (i : Int), x] := by
  unfold enD at h
  rw [List.getElem?_map, List.getElem?_zipIdx] at h
  cases e : xs[i]? with
  | none => rw [e]
      at h; cases h
  | some x =>
    rw [e] at h
    refine ⟨x, rfl, ?_⟩
    have := Option.some.inj h
    rw [← this, Nat.zero_add]
section
variable {p : PL}
theorem itOk_enL {K : PySem.W.Frag} {Fs F : Addr → Prop} {H : Hp} {a : Addr} {vs : List V} {ds : List D} (ho : H a = some (.lst vs)) (hF : ¬ Fs a) (hz : ds.length ≤ 16777216) (l : RepL K p H F vs ds) : ItOk K p Fs F (Ite K a) H (enD ds) where
  go := fun i d H1 st e => by
    obtain ⟨x, e1, rfl⟩ := enD_at e
    obtain ⟨v, h1, h2⟩ := l.get e1
    have h := st a _ ho hF
    refine ⟨⟨vs, v, .inl (.inl h), h1⟩, fun y H2 z => .inr ?_⟩
    obtain ⟨T, w', e2, e3, e4, e5⟩ := z
    have := e5 vs (.inl (.inl h))
    rw [h1] at this
    cases this
    exact ⟨T, _, _, e2, e3, e4, rfl, by show 2 ≤ 16777216; decide, .cons (.int _) (.cons h2 .nil)⟩
  stop := fun H1 st => ⟨vs, .inl (.inl (st a _ ho hF)), by rw [enD_len, l.length]; exact Nat.le_refl _⟩
  sz := by rw [enD_len]; exact hz
theorem itOk_enT {K : PySem.W.Frag} {Fs F : Addr → Prop} {H : Hp} {a : Addr} {vs : List V} {ds : List D} (ho : Tp H a vs ∧ ¬ F a) (hs : ∀ a, Fs a → F a) (hz : ds.length ≤ 16777216) (l : RepL K p H F vs ds) : ItOk K p Fs F (IteT K a) H (enD ds) := by
  have at_ : ∀ H1, StepF Fs H H1 → SqT K H1 a vs := fun H1 st => ho.1.elim fun o w => .inl (.inr ⟨o, st a _ w.1 fun z => ho.2 (hs a z)⟩)
  refine ⟨fun i d H1 st e => ?_, fun H1 st => ⟨vs, at_ H1 st, by rw [enD_len, l.length]; exact Nat.le_refl _⟩, by rw [enD_len]; exact hz⟩
  obtain ⟨x, e1, rfl⟩ := enD_at e
  obtain ⟨v, h1, h2⟩ := l.get e1
  refine ⟨⟨vs, v, at_ H1 st, h1⟩, fun y H2 z => .inr ?_⟩
  obtain ⟨T, w', e2, e3, e4, e5⟩ := z
  have := e5 vs (at_ H1 st)
  rw [h1] at this
  cases this
  exact ⟨T, _, _, e2, e3, e4, rfl, by show 2 ≤ 16777216; decide, .cons (.int _) (.cons h2 .nil)⟩
end
def enumM : D → M (List D)
  | .lst xs => pure (enD xs)
  | .tup xs => pure (enD xs)
  | _ => bad
@[simp] def nEnum (f : En) : Env → M (List D) := fun ρ => f ρ >>= enumM
section
variable {X : Cx} {p : PL} {lp : Bool} {e a b : Expr} {f g : En} {fs : List En} {pos pos' tpos : Pos} {elts : List Expr} {kk : Nat}
theorem di_enum (hm : X.mg "enumerate" = none) (ha : DA X p [e] [f]) (hg : Gl X "enumerate" := by rfl) (hs : starEach [e] X.env = [(false, eval e X.env)] := by rfl) :
    DI X p lp (.Tuple elts kk tpos) (.Call (.Name "enumerate" pos') [e] [] pos) (nEnum f) := by
  refine ⟨fun W G H0 ρ σ H s R Ex Q tk rl hw q px => tI_of (pi_enumT hg hm pa_self hs) ?_⟩
  have hw : wpM (f ρ >>= enumM) s R Ex := hw
  refine ha.run _ (fun xs => match xs with | [d] => enumM d | _ => bad) W G H0 ρ σ H s R Ex _ tk rl ?_ (fun ds s1 vs H1 h1 a1 r1 _ => ?_) px
  · show wpM (f ρ >>= fun d => enumM d) s R Ex
    exact hw
  · cases ds with
    | nil => exact h1.elim
    | cons d ds =>
      cases ds with
      | cons d2 ds => exact h1.elim
      | nil =>
        have h1 : wpM (enumM d) s1 R Ex := h1
        cases r1 with
        | cons r1 r2 =>
          cases r2
          cases d with
          | lst xs =>
            cases r1 with
            | lst ho hF hz l => exact ⟨_, _, rfl, .inl ⟨.inl (.inl ho), q (enD xs) s1 H1 _ h1 a1 (itOk_enL ho (fun z => hF (fs_sub z)) hz l)⟩⟩
          | tup xs =>
            cases r1 with
            | tup ho hz l => exact ⟨_, _, rfl, .inr ⟨tupSq ho, q (enD xs) s1 H1 _ h1 a1 (itOk_enT ho (fun _ => fs_sub) hz l)⟩⟩
          | _ => exact h1.elim
/-! max, min of two ints -/
def max2D : List D → Option D
  | [.int i, .int j] => some (.int (if j > i then j else i))
  | _ => none
def min2D : List D → Option D
  | [.int i, .int j] => some (.int (if j < i then j else i))
  | _ => none
theorem de_max2 (hm : X.mg "max" = none) (ha : DA X p [a, b] fs) (hc : X.calm = true := by rfl) (hg : Gl X "max" := by rfl) (he : starEach (a :: [b]) X.env = (false, eval a X.env) :: starEach [b] X.env := by rfl) (hpl : (backTo pos (starEach [b] X.env)).any (·.1) = false := by rfl) :
    DE X p (.Call (.Name "max" pos') [a, b] [] pos) (fun ρ => seqA fs ρ fun xs => lift (max2D xs)) := by
  refine de_callB (call_max2 hc) (fun F H vs ds d Q hp hf r e q => ?_) hm boot_max ha hg (by decide) (by decide) he hpl
  unfold max2D at e
  split at e
  · cases e
    cases r with
    | cons r1 r2 =>
      cases r2 with
      | cons r2 r3 =>
        cases r3
        cases r1
        cases r2
        exact ⟨_, _, rfl, q _ H (Same.refl H) (.int _)⟩
  · cases e
theorem de_min2 (hm : X.mg "min" = none) (ha : DA X p [a, b] fs) (hc : X.calm = true := by rfl) (hg : Gl X "min" := by rfl) (he : starEach (a :: [b]) X.env = (false, eval a X.env) :: starEach [b] X.env := by rfl) (hpl : (backTo pos (starEach [b] X.env)).any (·.1) = false := by rfl) :
    DE X p (.Call (.Name "min" pos') [a, b] [] pos) (fun ρ => seqA fs ρ fun xs => lift (min2D xs)) := by
  refine de_callB (call_min2 hc) (fun F H vs ds d Q hp hf r e q => ?_) hm boot_min ha hg (by decide) (by decide) he hpl
  unfold min2D at e
  split at e
  · cases e
    cases r with
    | cons r1 r2 =>
      cases r2 with
      | cons r2 r3 =>
        cases r3
        cases r1
        cases r2
        exact ⟨_, _, rfl, q _ H (Same.refl H) (.int _)⟩
  · cases e
end
end Say

namespace Say
open L2 PyProof.Rows PySem.Spec PySem
def lstI : D → M (List Int)
  | .lst xs => lift (intsOf xs)
  | _ => bad
@[simp] def dIndexL (f g : En) : En := fun ρ => f ρ >>= lstI >>= fun ns => g ρ >>= indexM ns
section
variable {X : Cx} {p : PL} {e a b : Expr} {f g : Env → M D} {pos pos' : Pos}
theorem flat_ints (ns : List Int) : ((ns.map V.int).all flatV) = true := List.all_eq_true.mpr fun x hx => by
  obtain ⟨i, _, rfl⟩ := List.mem_map.mp hx
  rfl
theorem de_indexL (ha : DE X p a f) (hb : DE X p b g)
    (hp : PE X (.Call (.Attribute a "index" pos') [b] [] pos) (tBM X.K "list" (rIndex X.K) (tE X a) (tCons (tE X b) tNil)) := by exact pe_bm PySem.F.plainAttrs_list PySem.F.slot_list_index PySem.F.type_list_index mt_index pe_self (pa_cons pe_self pa_nil)) :
    DE X p (.Call (.Attribute a "index" pos') [b] [] pos) (dIndexL f g) := by
  refine ⟨fun W G H0 ρ σ H s R Ex Q tk rl hw q px => tE_of hp ?_⟩
  have hw : wpM (f ρ >>= lstI >>= fun ns => g ρ >>= indexM ns) s R Ex := hw
  rw [bind_assoc, wp_bind] at hw
  refine ha.run W G H0 ρ σ H s _ Ex _ tk rl hw (fun d1 s1 v H1 h1 a1 r1 => ?_) px
  cases d1 with
  | lst xs =>
    cases r1 with
    | lst ho n1 hz l1 =>
      rename_i ad ws
      refine ⟨.inl ⟨rfl, ws, .inl (.inl ho)⟩, ?_⟩
      cases en : intsOf xs with
      | none =>
        have h1 : wpM (lift (intsOf xs) >>= fun ns => g ρ >>= indexM ns) s1 R Ex := h1
        rw [en] at h1
        exact h1.elim
      | some ns =>
        have h1 : wpM (lift (intsOf xs) >>= fun ns => g ρ >>= indexM ns) s1 R Ex := h1
        rw [en] at h1
        have h1 : wpM (g ρ >>= indexM ns) s1 R Ex := h1
        rw [wp_bind] at h1
        refine hb.run W G H0 ρ σ H1 s1 _ Ex _ tk (rl.step a1.st a1.pen) h1 (fun d2 s2 v2 H2 h2 a2 r2 => ?_) (px.at a1)
        cases d2 with
        | int z =>
          cases r2
          have h2 : wpM (lift ((idxI z ns).map fun j => D.int (j : Int))) s2 R Ex := h2
          cases ej : idxI z ns with
          | none => rw [ej] at h2; exact h2.elim
          | some j =>
            rw [ej] at h2
            obtain ⟨q1, q2⟩ := idxI_ok ej
            rw [intsOf_ok en] at l1
            have ew := repL_ints' l1
            subst ew
            refine ⟨_, ns.map V.int, .int z, j, .int z, rfl, rfl, .inl (.inl (a2.st _ _ ho fun e => n1 (by rw [e]; exact rl.fpa))), rfl, flat_ints ns, by rw [List.getElem?_map, q1]; rfl, by simp [L2.eqV], fun m z' hm hz' => ?_, q _ s2 _ H2 h2 (a1.trans a2) (.int _)⟩
            rw [List.getElem?_map] at hz'
            cases em : ns[m]? with
            | none => rw [em] at hz'; cases hz'
            | some y =>
              rw [em] at hz'
              cases hz'
              have := q2 m hm
              show (y == z) = false
              exact beq_eq_false_iff_ne.mpr fun e => this (by rw [em, e])
        | _ => exact h2.elim
  | _ => exact h1.elim
end
end Say

namespace SayLaw
open PySem PySem.Spec PyProof.Rows L2 Say
abbrev theProg : Program := PySem.Challenge.pw_sayalike_k17_whole_places_struck
def top (i : Nat) : Stmt := theProg.main.body.getD i (.Pass ⟨0, 0, 0, 0⟩)
def meth (i j : Nat) : Stmt := match top i with
  | .ClassDef _ _ _ body _ _ _ _ _ _ _
      => body.getD j (.Pass ⟨0, 0, 0, 0⟩)
  | s => s
def CS : List Str := ["Web"]
def AT : List Str := ["arrows", "size"]
def ES : List Str := ["Web"]
def TS : List String := ["bool", "int", "list", "tuple"]
abbrev st__law_pen : Stmt := top 53
def d__law_pen : He.DefD := ⟨("_law_pen", none), "_law_pen", "_law_pen", defArgs st__law_pen, defBody st__law_pen, defScope st__law_pen, [], []⟩
abbrev st__law_draw : Stmt := top 54
def d__law_draw : He.DefD := ⟨("_law_draw", none), "_law_draw", "_law_draw", defArgs st__law_draw, defBody st__law_draw, defScope st__law_draw, [], []⟩
abbrev st__law_pick : Stmt := top 55
def d__law_pick : He.DefD := ⟨("_law_pick", none), "_law_pick", "_law_pick", defArgs st__law_pick, defBody st__law_pick, defScope st__law_pick, [], []⟩
abbrev st__law_shuffled : Stmt := top 56
def d__law_shuffled : He.DefD := ⟨("_law_shuffled", none), "_law_shuffled", "_law_shuffled", defArgs st__law_shuffled, defBody st__law_shuffled, defScope st__law_shuffled, [], []⟩
abbrev st__law_web_arrows : Stmt := top 51
def d__law_web_arrows : He.DefD := ⟨("_law_web_arrows", none), "_law_web_arrows", "_law_web_arrows", defArgs st__law_web_arrows, defBody st__law_web_arrows, defScope st__law_web_arrows, [], []⟩
abbrev st_is_whole : Stmt := top 10
def d_is_whole : He.DefD := ⟨("is_whole", none), "is_whole", "is_whole", defArgs st_is_whole, defBody st_is_whole, defScope st_is_whole, [], []⟩
abbrev st_is_list : Stmt := top 13
def d_is_list : He.DefD := ⟨("is_list", none), "is_list", "is_list", defArgs st_is_list, defBody st_is_list, defScope st_is_list, [], []⟩
abbrev st_is_index : Stmt := top 14
def d_is_index : He.DefD := ⟨("is_index", none), "is_index", "is_index", defArgs st_is_index, defBody st_is_index, defScope st_is_index, [], []⟩
abbrev st_is_arrow : Stmt := top 16
def d_is_arrow : He.DefD := ⟨("is_arrow", none), "is_arrow", "is_arrow", defArgs st_is_arrow, defBody st_is_arrow, defScope st_is_arrow, [], []⟩
abbrev st_are_arrows : Stmt := top 17
def d_are_arrows : He.DefD := ⟨("are_arrows", none), "are_arrows", "are_arrows", defArgs st_are_arrows, defBody st_are_arrows, defScope st_are_arrows, [], []⟩
abbrev st_has_round : Stmt := top 22
def d_has_round : He.DefD := ⟨("has_round", none), "has_round", "has_round", defArgs st_has_round, defBody st_has_round, defScope st_has_round, [], []⟩
abbrev st_arrows_looked : Stmt := top 23
def d_arrows_looked : He.DefD := ⟨("arrows_looked", none), "arrows_looked", "arrows_looked", defArgs st_arrows_looked, defBody st_arrows_looked, defScope st_arrows_looked, [], []⟩
abbrev st_new_Web : Stmt := meth 24 0
def d_new_Web : He.DefD := ⟨("Web", some "__init__"), "__init__", "Web.__init__", defArgs st_new_Web, defBody st_new_Web, defScope st_new_Web, [], []⟩
abbrev st_place_told : Stmt := top 20
def d_place_told : He.DefD := ⟨("place_told", none), "place_told", "place_told", defArgs st_place_told, defBody st_place_told, defScope st_place_told, [], []⟩
abbrev st_targets_in : Stmt := top 30
def d_targets_in : He.DefD := ⟨("targets_in", none), "targets_in", "targets_in", defArgs st_targets_in, defBody st_targets_in, defScope st_targets_in, [], []⟩
abbrev st_targets : Stmt := top 31
def d_targets : He.DefD := ⟨("targets", none), "targets", "targets", defArgs st_targets, defBody st_targets, defScope st_targets, [], []⟩
abbrev st_is_lot_of : Stmt := top 15
def d_is_lot_of : He.DefD := ⟨("is_lot_of", none), "is_lot_of", "is_lot_of", defArgs st_is_lot_of, defBody st_is_lot_of, defScope st_is_lot_of, [], []⟩
abbrev st_part_in : Stmt := top 36
def d_part_in : He.DefD := ⟨("part_in", none), "part_in", "part_in", defArgs st_part_in, defBody st_part_in, defScope st_part_in, [], []⟩
abbrev st_struck : Stmt := top 38
def d_struck : He.DefD := ⟨("struck", none), "struck", "struck", defArgs st_struck, defBody st_struck, defScope st_struck, [], []⟩
abbrev st_lots_of : Stmt := top 48
def d_lots_of : He.DefD := ⟨("lots_of", none), "lots_of", "lots_of", defArgs st_lots_of, defBody st_lots_of, defScope st_lots_of, [], []⟩
abbrev st_sources_in : Stmt := top 29
def d_sources_in : He.DefD := ⟨("sources_in", none), "sources_in", "sources_in", defArgs st_sources_in, defBody st_sources_in, defScope st_sources_in, [], []⟩
abbrev st_reached : Stmt := top 33
def d_reached : He.DefD := ⟨("reached", none), "reached", "reached", defArgs st_reached, defBody st_reached, defScope st_reached, [], []⟩
abbrev st_ahead_in : Stmt := top 34
def d_ahead_in : He.DefD := ⟨("ahead_in", none), "ahead_in", "ahead_in", defArgs st_ahead_in, defBody st_ahead_in, defScope st_ahead_in, [], []⟩
abbrev st_near_in : Stmt := top 44
def d_near_in : He.DefD := ⟨("near_in", none), "near_in", "near_in", defArgs st_near_in, defBody st_near_in, defScope st_near_in, [], []⟩
abbrev st_side_of : Stmt := top 45
def d_side_of : He.DefD := ⟨("side_of", none), "side_of", "side_of", defArgs st_side_of, defBody st_side_of, defScope st_side_of, [], []⟩
abbrev st_are_apart : Stmt := top 46
def d_are_apart : He.DefD := ⟨("are_apart", none), "are_apart", "are_apart", defArgs st_are_apart, defBody st_are_apart, defScope st_are_apart, [], []⟩
abbrev st_all_apart : Stmt := top 49
def d_all_apart : He.DefD := ⟨("all_apart", none), "all_apart", "all_apart", defArgs st_all_apart, defBody st_all_apart, defScope st_all_apart, [], []⟩
abbrev st__law_moved : Stmt := top 57
def d__law_moved : He.DefD := ⟨("_law_moved", none), "_law_moved", "_law_moved", defArgs st__law_moved, defBody st__law_moved, defScope st__law_moved, [], []⟩
abbrev st__law_three_lots : Stmt := top 52
def d__law_three_lots : He.DefD := ⟨("_law_three_lots", none), "_law_three_lots", "_law_three_lots", defArgs st__law_three_lots, defBody st__law_three_lots, defScope st__law_three_lots, [], []⟩
abbrev st_lot_told : Stmt := top 18
def d_lot_told : He.DefD := ⟨("lot_told", none), "lot_told", "lot_told", defArgs st_lot_told, defBody st_lot_told, defScope st_lot_told, [], []⟩
abbrev st_ahead_of : Stmt := top 35
def d_ahead_of : He.DefD := ⟨("ahead_of", none), "ahead_of", "ahead_of", defArgs st_ahead_of, defBody st_ahead_of, defScope st_ahead_of, [], []⟩
abbrev st_some_lot_told : Stmt := top 19
def d_some_lot_told : He.DefD := ⟨("some_lot_told", none), "some_lot_told", "some_lot_told", defArgs st_some_lot_told, defBody st_some_lot_told, defScope st_some_lot_told, [], []⟩
abbrev st_part_of : Stmt := top 37
def d_part_of : He.DefD := ⟨("part_of", none), "part_of", "part_of", defArgs st_part_of, defBody st_part_of, defScope st_part_of, [], []⟩
abbrev st_statement_told : Stmt := top 43
def d_statement_told : He.DefD := ⟨("statement_told", none), "statement_told", "statement_told", defArgs st_statement_told, defBody st_statement_told, defScope st_statement_told, [], []⟩
abbrev st_apart : Stmt := top 47
def d_apart : He.DefD := ⟨("apart", none), "apart", "apart", defArgs st_apart, defBody st_apart, defScope st_apart, [], []⟩
abbrev st_arrow_told : Stmt := top 40
def d_arrow_told : He.DefD := ⟨("arrow_told", none), "arrow_told", "arrow_told", defArgs st_arrow_told, defBody st_arrow_told, defScope st_arrow_told, [], []⟩
abbrev st_without_arrow : Stmt := top 41
def d_without_arrow : He.DefD := ⟨("without_arrow", none), "without_arrow", "without_arrow", defArgs st_without_arrow, defBody st_without_arrow, defScope st_without_arrow, [], []⟩
abbrev st_is_tie : Stmt := top 32
def d_is_tie : He.DefD := ⟨("is_tie", none), "is_tie", "is_tie", defArgs st_is_tie, defBody st_is_tie, defScope st_is_tie, [], []⟩
abbrev st_with_arrow : Stmt := top 39
def d_with_arrow : He.DefD := ⟨("with_arrow", none), "with_arrow", "with_arrow", defArgs st_with_arrow, defBody st_with_arrow, defScope st_with_arrow, [], []⟩
abbrev st_eq_Web : Stmt := meth 24 1
def d_eq_Web : He.DefD := ⟨("Web", some "__eq__"), "__eq__", "Web.__eq__", defArgs st_eq_Web, defBody st_eq_Web, defScope st_eq_Web, [], []⟩
abbrev st_law : Stmt := top 58
def d_law : He.DefD := ⟨("law", none), "law", "law", defArgs st_law, defBody st_law, defScope st_law, [], []⟩
def fn : List He.DefD := [d__law_pen, d__law_draw, d__law_pick, d__law_shuffled, d__law_web_arrows, d_is_whole, d_is_list, d_is_index, d_is_arrow, d_are_arrows, d_has_round, d_arrows_looked, d_new_Web, d_place_told, d_targets_in, d_targets, d_is_lot_of, d_part_in, d_struck, d_lots_of, d_sources_in, d_reached, d_ahead_in, d_near_in, d_side_of, d_are_apart, d_all_apart, d__law_moved, d__law_three_lots, d_lot_told, d_ahead_of, d_some_lot_told, d_part_of, d_statement_told, d_apart, d_arrow_told, d_without_arrow, d_is_tie, d_with_arrow, d_eq_Web, d_law]
def fa : List He.Fa := [.glo "_law_pen",
  .glo "_law_draw",
  .glo "_law_pick",
  .glo "_law_shuffled",
  .glo "_law_web_arrows",
  .glo "is_whole",
  .glo "is_list",
  .glo "is_index",
  .glo "is_arrow",
  .glo "are_arrows",
  .glo "has_round",
  .glo "arrows_looked",
  .glo "place_told",
  .glo "targets_in",
  .glo "targets",
  .glo "is_lot_of",
  .glo "part_in",
  .glo "struck",
  .glo "lots_of",
  .glo "sources_in",
  .glo "reached",
  .glo "ahead_in",
  .glo "near_in",
  .glo "side_of",
  .glo "are_apart",
  .glo "all_apart",
  .glo "_law_moved",
  .glo "_law_three_lots",
  .glo "lot_told",
  .glo "ahead_of",
  .glo "some_lot_told",
  .glo "part_of",
  .glo "statement_told",
  .glo "apart",
  .glo "arrow_told",
  .glo "without_arrow",
  .glo "is_tie",
  .glo "with_arrow",
  .glo "law",
  .glo "Web",
  .cls "Web",
  .noat "Web" "arrows",
  .noat "Web" "size",
  .mkr "Web",
  .meth "Web" "__eq__",
  .free "all",
  .free "any",
  .free "bool",
  .free "enumerate",
  .free "int",
  .free "isinstance",
  .free "len",
  .free "list",
  .free "max",
  .free "min",
  .free "range",
  .free "sorted",
  .free "tuple"]
section
variable {P : Program} {w : World} {K :
    PySem.W.Frag} {mg : Str → Option Value} {base : Heap}
structure Hd (K : PySem.W.Frag) (mg : Str → Option Value) : Prop where
  says : SaysE (kitChk2 CS TS ES) fa fn K
  inK : ∃ h : Heap, K.In h ∧ h.Ns mainGlobals mg
theorem Hd.b_all (H : Hd K mg) : mg "all" = none := H.inK.elim fun _ z => He.free_ok z.1 z.2 (H.says.2.fact 45 (f := .free "all") rfl)
theorem Hd.b_any (H : Hd K mg) : mg "any" = none := H.inK.elim fun _ z => He.free_ok z.1 z.2 (H.says.2.fact 46 (f := .free "any") rfl)
theorem Hd.b_bool (H : Hd K mg) : mg "bool" = none := H.inK.elim fun _ z => He.free_ok z.1 z.2 (H.says.2.fact 47 (f := .free "bool") rfl)
theorem Hd.b_enumerate (H : Hd K mg) : mg "enumerate" = none := H.inK.elim fun _ z => He.free_ok z.1 z.2 (H.says.2.fact 48 (f := .free "enumerate") rfl)
theorem Hd.b_int (H : Hd K mg) : mg "int" = none := H.inK.elim fun _ z => He.free_ok z.1 z.2 (H.says.2.fact 49 (f := .free "int") rfl)
theorem Hd.b_isinstance (H : Hd K mg) : mg "isinstance" = none := H.inK.elim fun _ z => He.free_ok z.1 z.2 (H.says.2.fact 50 (f := .free "isinstance") rfl)
theorem Hd.b_len (H : Hd K mg) : mg "len" = none := H.inK.elim fun _ z => He.free_ok z.1 z.2 (H.says.2.fact 51 (f := .free "len") rfl)
theorem Hd.b_list (H : Hd K mg) : mg "list" = none := H.inK.elim fun _ z => He.free_ok z.1 z.2 (H.says.2.fact 52 (f := .free "list") rfl)
theorem Hd.b_max (H : Hd K mg) : mg "max" = none := H.inK.elim fun _ z => He.free_ok z.1 z.2 (H.says.2.fact 53 (f := .free "max") rfl)
theorem Hd.b_min (H : Hd K mg) : mg "min" = none := H.inK.elim fun _ z => He.free_ok z.1 z.2 (H.says.2.fact 54 (f := .free "min") rfl)
theorem Hd.b_range (H : Hd K mg) : mg "range" = none := H.inK.elim fun _ z => He.free_ok z.1 z.2 (H.says.2.fact 55 (f := .free "range") rfl)
theorem Hd.b_sorted (H : Hd K mg) : mg "sorted" = none := H.inK.elim fun _ z => He.free_ok z.1 z.2 (H.says.2.fact 56 (f := .free "sorted") rfl)
theorem Hd.b_tuple (H : Hd K mg) : mg "tuple" = none := H.inK.elim fun _ z => He.free_ok z.1 z.2 (H.says.2.fact 57 (f := .free "tuple") rfl)
structure Bl (mg : Str → Option Value) : Prop where
  «all» : mg "all" = none
  «any» : mg "any" = none
  «bool» : mg "bool" = none
  «enumerate» : mg "enumerate" = none
  «int» : mg "int" = none
  «isinstance» : mg "isinstance" = none
  «len» : mg "len" = none
  «list» : mg "list" = none
  «max» : mg "max" = none
  «min» : mg "min" = none
  «range» : mg "range" = none
  «sorted» : mg "sorted" = none
  «tuple» : mg "tuple" = none
theorem Hd.bl (H : Hd K mg) : Bl mg := ⟨H.b_all, H.b_any, H.b_bool, H.b_enumerate, H.b_int, H.b_isinstance, H.b_len, H.b_list, H.b_max, H.b_min, H.b_range, H.b_sorted, H.b_tuple⟩
theorem Hd.o_Web (H : Hd K mg) : mg "Web" = some (.ref (He.ga K "Web")) := H.inK.elim fun _ z => He.glo_ok z.1 z.2 (H.says.2.fact 39 (f := .glo "Web") rfl)
theorem Hd.c_Web (H : Hd K mg) : Cls K (He.ga K "Web") := He.cls_ok (H.says.2.fact 40 (f := .cls "Web") rfl)
theorem Hd.kl (H : Hd K mg) : Kls K CS AT := by
  intro c hc
  unfold CS at hc
  simp only [List.mem_cons, List.not_mem_nil, or_false] at hc
  rcases hc with rfl
  · refine ⟨H.c_Web, fun f hf => ?_⟩
    unfold AT at hf
    simp only [List.mem_cons, List.not_mem_nil, or_false] at hf
    rcases hf with rfl | rfl
    · exact He.noat_ok (H.says.2.fact 41 (f := .noat "Web" "arrows") rfl)
    · exact He.noat_ok (H.says.2.fact 42 (f := .noat "Web" "size") rfl)
theorem Hd.kt (H : Hd K mg) : Kit K CS TS := kit_of_chk (Bool.and_eq_true_iff.mp H.says.1).1 fun c m => (H.kl c m).1
theorem Hd.g__law_pen (H : Hd K mg) : mg "_law_pen" = some (.ref (He.ga K "_law_pen")) := H.inK.elim fun _ z => He.glo_ok z.1 z.2 (H.says.2.fact 0 (f := .glo "_law_pen") rfl)
theorem Hd.g__law_draw (H : Hd K mg) : mg "_law_draw" = some (.ref (He.ga K "_law_draw")) := H.inK.elim fun _ z => He.glo_ok z.1 z.2 (H.says.2.fact 1 (f := .glo "_law_draw") rfl)
theorem Hd.g__law_pick (H : Hd K mg) : mg "_law_pick" = some (.ref (He.ga K "_law_pick")) := H.inK.elim fun _ z => He.glo_ok z.1 z.2 (H.says.2.fact 2 (f := .glo "_law_pick") rfl)
theorem Hd.g__law_shuffled (H : Hd K mg) : mg "_law_shuffled" = some (.ref (He.ga K "_law_shuffled")) := H.inK.elim fun _ z => He.glo_ok z.1 z.2 (H.says.2.fact 3 (f := .glo "_law_shuffled") rfl)
theorem Hd.g__law_web_arrows (H : Hd K mg) : mg "_law_web_arrows" = some (.ref (He.ga K "_law_web_arrows")) := H.inK.elim fun _ z => He.glo_ok z.1 z.2 (H.says.2.fact 4 (f := .glo "_law_web_arrows") rfl)
theorem Hd.g_is_whole (H : Hd K mg) : mg "is_whole" = some (.ref (He.ga K "is_whole")) := H.inK.elim fun _ z => He.glo_ok z.1 z.2 (H.says.2.fact 5 (f := .glo "is_whole") rfl)
theorem Hd.g_is_list (H : Hd K mg) : mg "is_list" = some (.ref (He.ga K "is_list")) := H.inK.elim fun _ z => He.glo_ok z.1 z.2 (H.says.2.fact 6 (f := .glo "is_list") rfl)
theorem Hd.g_is_index (H : Hd K mg) : mg "is_index" = some (.ref (He.ga K "is_index")) := H.inK.elim fun _ z => He.glo_ok z.1 z.2 (H.says.2.fact 7 (f := .glo "is_index") rfl)
theorem Hd.g_is_arrow (H : Hd K mg) : mg "is_arrow" = some (.ref (He.ga K "is_arrow")) := H.inK.elim fun _ z => He.glo_ok z.1 z.2 (H.says.2.fact 8 (f := .glo "is_arrow") rfl)
theorem Hd.g_are_arrows (H : Hd K mg) : mg "are_arrows" = some (.ref (He.ga K "are_arrows")) := H.inK.elim fun _ z => He.glo_ok z.1 z.2 (H.says.2.fact 9 (f := .glo "are_arrows") rfl)
theorem Hd.g_has_round (H : Hd K mg) : mg "has_round" = some (.ref (He.ga K "has_round")) := H.inK.elim fun _ z => He.glo_ok z.1 z.2 (H.says.2.fact 10 (f := .glo "has_round") rfl)
theorem Hd.g_arrows_looked (H : Hd K mg) : mg "arrows_looked" = some (.ref (He.ga K "arrows_looked")) := H.inK.elim fun _ z => He.glo_ok z.1 z.2 (H.says.2.fact 11 (f := .glo "arrows_looked") rfl)
theorem Hd.g_place_told (H : Hd K mg) : mg "place_told" = some (.ref (He.ga K "place_told")) := H.inK.elim fun _ z => He.glo_ok z.1 z.2 (H.says.2.fact 12 (f := .glo "place_told") rfl)
theorem Hd.g_targets_in (H : Hd K mg) : mg "targets_in" = some (.ref (He.ga K "targets_in")) := H.inK.elim fun _ z => He.glo_ok z.1 z.2 (H.says.2.fact 13 (f := .glo "targets_in") rfl)
theorem Hd.g_targets (H : Hd K mg) : mg "targets" = some (.ref (He.ga K "targets")) := H.inK.elim fun _ z => He.glo_ok z.1 z.2 (H.says.2.fact 14 (f := .glo "targets") rfl)
theorem Hd.g_is_lot_of (H : Hd K mg) : mg "is_lot_of" = some (.ref (He.ga K "is_lot_of")) := H.inK.elim fun _ z => He.glo_ok z.1 z.2 (H.says.2.fact 15 (f := .glo "is_lot_of") rfl)
theorem Hd.g_part_in (H : Hd K mg) : mg "part_in" = some (.ref (He.ga K "part_in")) := H.inK.elim fun _ z => He.glo_ok z.1 z.2 (H.says.2.fact 16 (f := .glo "part_in") rfl)
theorem Hd.g_struck (H : Hd K mg) : mg "struck" = some (.ref (He.ga K "struck")) := H.inK.elim fun _ z => He.glo_ok z.1 z.2 (H.says.2.fact 17 (f := .glo "struck") rfl)
theorem Hd.g_lots_of (H : Hd K mg) : mg "lots_of" = some (.ref (He.ga K "lots_of")) := H.inK.elim fun _ z => He.glo_ok z.1 z.2 (H.says.2.fact 18 (f := .glo "lots_of") rfl)
theorem Hd.g_sources_in (H : Hd K mg) : mg "sources_in" = some (.ref (He.ga K "sources_in")) := H.inK.elim fun _ z => He.glo_ok z.1 z.2 (H.says.2.fact 19 (f := .glo "sources_in") rfl)
theorem Hd.g_reached (H : Hd K mg) : mg "reached" = some (.ref (He.ga K "reached")) := H.inK.elim fun _ z => He.glo_ok z.1 z.2 (H.says.2.fact 20 (f := .glo "reached") rfl)
theorem Hd.g_ahead_in (H : Hd K mg) : mg "ahead_in" = some (.ref (He.ga K "ahead_in")) := H.inK.elim fun _ z => He.glo_ok z.1 z.2 (H.says.2.fact 21 (f := .glo "ahead_in") rfl)
theorem Hd.g_near_in (H : Hd K mg) : mg "near_in" = some (.ref (He.ga K "near_in")) := H.inK.elim fun _ z => He.glo_ok z.1 z.2 (H.says.2.fact 22 (f := .glo "near_in") rfl)
theorem Hd.g_side_of (H : Hd K mg) : mg "side_of" = some (.ref (He.ga K "side_of")) := H.inK.elim fun _ z => He.glo_ok z.1 z.2 (H.says.2.fact 23 (f := .glo "side_of") rfl)
theorem Hd.g_are_apart (H : Hd K mg) : mg "are_apart" = some (.ref (He.ga K "are_apart")) := H.inK.elim fun _ z => He.glo_ok z.1 z.2 (H.says.2.fact 24 (f := .glo "are_apart") rfl)
theorem Hd.g_all_apart (H : Hd K mg) : mg "all_apart" = some (.ref (He.ga K "all_apart")) := H.inK.elim fun _ z => He.glo_ok z.1 z.2 (H.says.2.fact 25 (f := .glo "all_apart") rfl)
theorem Hd.g__law_moved (H : Hd K mg) : mg "_law_moved" = some (.ref (He.ga K "_law_moved")) := H.inK.elim fun _ z => He.glo_ok z.1 z.2 (H.says.2.fact 26 (f := .glo "_law_moved") rfl)
theorem Hd.g__law_three_lots (H : Hd K mg) : mg "_law_three_lots" = some (.ref (He.ga K "_law_three_lots")) := H.inK.elim fun _ z => He.glo_ok z.1 z.2 (H.says.2.fact 27 (f := .glo "_law_three_lots") rfl)
theorem Hd.g_lot_told (H : Hd K mg) : mg "lot_told" = some (.ref (He.ga K "lot_told")) := H.inK.elim fun _ z => He.glo_ok z.1 z.2 (H.says.2.fact 28 (f := .glo "lot_told") rfl)
theorem Hd.g_ahead_of (H : Hd K mg) : mg "ahead_of" = some (.ref (He.ga K "ahead_of")) := H.inK.elim fun _ z => He.glo_ok z.1 z.2 (H.says.2.fact 29 (f := .glo "ahead_of") rfl)
theorem Hd.g_some_lot_told (H : Hd K mg) : mg "some_lot_told" = some (.ref (He.ga K "some_lot_told")) := H.inK.elim fun _ z => He.glo_ok z.1 z.2 (H.says.2.fact 30 (f := .glo "some_lot_told") rfl)
theorem Hd.g_part_of (H : Hd K mg) : mg "part_of" = some (.ref (He.ga K "part_of")) := H.inK.elim fun _ z => He.glo_ok z.1 z.2 (H.says.2.fact 31 (f := .glo "part_of") rfl)
theorem Hd.g_statement_told (H : Hd K mg) : mg "statement_told" = some (.ref (He.ga K "statement_told")) := H.inK.elim fun _ z => He.glo_ok z.1 z.2 (H.says.2.fact 32 (f := .glo "statement_told") rfl)
theorem Hd.g_apart (H : Hd K mg) : mg "apart" = some (.ref (He.ga K "apart")) := H.inK.elim fun _ z => He.glo_ok z.1 z.2 (H.says.2.fact 33 (f := .glo "apart") rfl)
theorem Hd.g_arrow_told (H : Hd K mg) : mg "arrow_told" = some (.ref (He.ga K "arrow_told")) := H.inK.elim fun _ z => He.glo_ok z.1 z.2 (H.says.2.fact 34 (f := .glo "arrow_told") rfl)
theorem Hd.g_without_arrow (H : Hd K mg) : mg "without_arrow" = some (.ref (He.ga K "without_arrow")) := H.inK.elim fun _ z => He.glo_ok z.1 z.2 (H.says.2.fact 35 (f := .glo "without_arrow") rfl)
theorem Hd.g_is_tie (H : Hd K mg) : mg "is_tie" = some (.ref (He.ga K "is_tie")) := H.inK.elim fun _ z => He.glo_ok z.1 z.2 (H.says.2.fact 36 (f := .glo "is_tie") rfl)
theorem Hd.g_with_arrow (H : Hd K mg) : mg "with_arrow" = some (.ref (He.ga K "with_arrow")) := H.inK.elim fun _ z => He.glo_ok z.1 z.2 (H.says.2.fact 37 (f := .glo "with_arrow") rfl)
theorem Hd.g_law (H : Hd K mg) : mg "law" = some (.ref (He.ga K "law")) := H.inK.elim fun _ z => He.glo_ok z.1 z.2 (H.says.2.fact 38 (f := .glo "law") rfl)
theorem Hd.m_Web (H : Hd K mg) : Mk K (He.ga K "Web") (He.ma K (He.ga K "Web") "__init__") := He.mkr_ok (H.says.2.fact 43 (f := .mkr "Web") rfl)
theorem sc__law_pen : FnScope ["script", "fold", "cell"] ["script"] (defScope st__law_pen) := ⟨rfl, rfl, rfl, by decide +kernel, rfl, by decide +kernel, by decide +kernel⟩
theorem h__law_pen (H : Hd K mg) : ∃ fd, Binds K fd ["script"] [] ∧ PySem.W.keepIn K (.ref (He.ga K "_law_pen")) = true ∧ FnOk P w K mg base (L2.CX P w) 1 (He.ga K "_law_pen") fd ["script"] (spPen K) := by
  obtain ⟨fd, F⟩ := H.says.2.def_ 0 (d := d__law_pen) rfl
  refine ⟨fd, F.bindsN fun _ _ _ _ _ _ us hl => match us, hl with | [_], _ => rfl, F.kp, pen_has (st := st__law_pen) F sc__law_pen fun cdv A outer s H0 E vs Dn h => ?_⟩
  exact pen_run (by rfl) (.inl (by rfl)) (by rfl) (by rfl) (by rfl) (by rfl) H.bl.int H.bl.list (by rfl) (passes_of (by rfl)) h (E := E) (j12 := 0) (by rfl)
theorem Hd.e_Web (H : Hd K mg) : Meth K (He.ga K "Web") "__eq__" (He.ma K (He.ga K "Web") "__eq__") := He.meth_ok (H.says.2.fact 44 (f := .meth "Web" "__eq__") rfl)
theorem sc__law_draw : FnScope ["pen", "many", "blend", "cell", "digit"] ["pen", "many"] (defScope st__law_draw) := ⟨rfl, rfl, rfl, by decide +kernel, rfl, by decide +kernel, by decide +kernel⟩
noncomputable def S__law_draw : S :=
  (sSeq (sPenSet 0 .cnt (dBin addD (dPen 0 .cnt) (dC (.int 1))))
  (sSeq (sIf (tAnd (tCmp eqD (dPen 0 .dig) (dC (.int 0))) (tCmp (odD .lt) (dPen 0 .at) (dPenLen 0))) (sSeq (sSet 3 (dPenCell 0 (dPen 0 .at)))
  (sSeq (sPenSet 0 .at (dBin addD (dPen 0 .at) (dC (.int 1))))
  (sIf (tCmp (odD .ge) (dVar 3) (dBin (iicD cPow fun i j => .int (i ^ j.toNat)) (dC (.int 10)) (dC (.int 18)))) (sPenSet 0 .dig (dBin (iiD fun i j => .int (i - j)) (dVar 3) (dBin (iicD cPow fun i j => .int (i ^ j.toNat)) (dC (.int 10)) (dC (.int 18))))) (sPenSet 0 .fld (dBin (iicD cPos fun i j => .int (i % j)) (dBlt intD [(dBin addD (dBin (iicD cMul fun i j => .int (i * j)) (dPen 0 .fld) (dC (.int 48271))) (dVar 3))]) (dC (.int 2147483563))))))) sNil)
  (sSeq (sIf (tCmp (odD .gt) (dPen 0 .dig) (dC (.int 0))) (sSeq (sSet 4 (dBin (iicD cPos fun i j => .int (i % j)) (dBlt intD [(dPen 0 .dig)]) (dVar 1)))
  (sSeq (sPenSet 0 .dig (dBin (iicD cDiv fun i j => .int (i / j)) (dPen 0 .dig) (dVar 1)))
  (sRet (dVar 4)))) sNil)
  (sSeq (sSet 2 (dBin addD (dBin addD (dPen 0 .fld) (dBin (iicD cMul fun i j => .int (i * j)) (dPen 0 .cnt) (dC (.int 8513)))) (dC (.int 61))))
  (sRet (dBin (iicD cPos fun i j => .int (i % j)) (dBin (iicD cDiv fun i j => .int (i / j)) (dBlt intD [(dBin (iicD cPos fun i j => .int (i % j)) (dBin (iicD cPow fun i j => .int (i ^ j.toNat)) (dVar 2) (dC (.int 19))) (dC (.int 2305843009213693951)))]) (dC (.int 256))) (dVar 1)))))))
noncomputable def m__law_draw : List D → M D := runS (["pen", "many", "blend", "cell", "digit"] : List Str) S__law_draw
theorem h__law_draw (H : Hd K mg) : Has P w K mg base 1 "_law_draw" 2 m__law_draw := by
  obtain ⟨fd, F⟩ := H.says.2.def_ 1 (d := d__law_draw) rfl
  refine def_has (st := st__law_draw) (k := 0) F sc__law_draw H.g__law_draw (F.bindsN fun _ _ _ _ _ _ us hl => match us, hl with | [_, _], _ => rfl) fun cdv A outer s H0 E p hr => ?_
  exact (dss_cons (ds_penSet 0 (f := .cnt) hr (de_bin bs_add (de_pen 0 (f := .cnt) hr) de_int))
  (dss_cons (ds_if (dt_of (dw_and (dt_cmp (bs_eq hr) (de_pen 0 (f := .dig) hr) de_int) (dw_and1 (dt_cmp (bs_lt hr) (de_pen 0 (f := .at) hr) (de_penLen 0 hr H.bl.len))))) (dss_cons (ds_set 3 sc__law_draw.nd (de_penCell 0 hr (de_pen 0 (f := .at) hr)))
  (dss_cons (ds_penSet 0 (f := .at) hr (de_bin bs_add (de_pen 0 (f := .at) hr) de_int))
  (dss_one (ds_if (dt_cmp (bs_ge hr) (de_var 3) (de_bin bs_pow de_int de_int)) (dss_one (ds_penSet 0 (f := .dig) hr (de_bin bs_sub (de_var 3) (de_bin bs_pow de_int de_int)))) (dss_one (ds_penSet 0 (f := .fld) hr (de_bin bs_mod (de_toInt H.bl.int (da_cons (de_bin bs_add (de_bin bs_mul (de_pen 0 (f := .fld) hr) de_int) (de_var 3)) da_nil)) de_int))))))) dss_nil)
  (dss_cons (ds_if (dt_cmp (bs_gt hr) (de_pen 0 (f := .dig) hr) de_int) (dss_cons (ds_set 4 sc__law_draw.nd (de_bin bs_mod (de_toInt H.bl.int (da_cons (de_pen 0 (f := .dig) hr) da_nil)) (de_var 1)))
  (dss_cons (ds_penSet 0 (f := .dig) hr (de_bin bs_fdiv (de_pen 0 (f := .dig) hr) (de_var 1)))
  (dss_one (ds_ret (de_var 4))))) dss_nil)
  (dss_cons (ds_set 2 sc__law_draw.nd (de_bin bs_add (de_bin bs_add (de_pen 0 (f := .fld) hr) (de_bin bs_mul (de_pen 0 (f := .cnt) hr) de_int)) de_int))
  (dss_one (ds_ret (de_bin bs_mod (de_bin bs_fdiv (de_toInt H.bl.int (da_cons (de_bin bs_mod (de_bin bs_pow (de_var 2) de_int) de_int) da_nil)) de_int) (de_var 1))))))))
theorem sc__law_pick : FnScope ["pen", "some"] ["pen", "some"] (defScope st__law_pick) := ⟨rfl, rfl, rfl, by decide +kernel, rfl, by decide +kernel, by decide +kernel⟩
noncomputable def S__law_pick : S :=
  (sRet (dBin ixD (dVar 1) (dCall m__law_draw [(dVar 0), (dBlt lenD [(dVar 1)])])))
noncomputable def m__law_pick : List D → M D := runS (["pen", "some"] : List Str) S__law_pick
theorem h__law_pick (H : Hd K mg) : Has P w K mg base 2 "_law_pick" 2 m__law_pick := by
  obtain ⟨fd, F⟩ := H.says.2.def_ 2 (d := d__law_pick) rfl
  refine def_has (st := st__law_pick) (k := 1) F sc__law_pick H.g__law_pick (F.bindsN fun _ _ _ _ _ _ us hl => match us, hl with | [_, _], _ => rfl) fun cdv A outer s H0 E p hr => ?_
  exact (dss_one (ds_ret (de_ix is_seq (de_var 1) (de_call (h__law_draw H) (hr.mono (by decide)) (da_cons (de_var 0) (da_cons (de_len H.bl.len (da_cons (de_var 1) da_nil)) da_nil))))))
theorem sc__law_shuffled : FnScope ["pen", "some", "lap", "remain", "found"] ["pen", "some"] (defScope st__law_shuffled) := ⟨rfl, rfl, rfl, by decide +kernel, rfl, by decide +kernel, by decide +kernel⟩
noncomputable def S__law_shuffled : S :=
  (sSeq (sParV [3, 4] [vN (nList [(dVar 1)]), vN (nLst [])])
  (sSeq (sFor (nRng1 (dBlt lenD [(dVar 1)])) (gNm 2) (sAppPop 4 3 (dCall m__law_draw [(dVar 0), (dThaw (dBlt lenD [(dVar 3)]))])))
  (sRet (dVar 4))))
noncomputable def m__law_shuffled : List D → M D := runS (["pen", "some", "lap", "remain", "found"] : List Str) S__law_shuffled
theorem h__law_shuffled (H : Hd K mg) : Has P w K mg base 2 "_law_shuffled" 2 m__law_shuffled := by
  obtain ⟨fd, F⟩ := H.says.2.def_ 3 (d := d__law_shuffled) rfl
  refine def_has (st := st__law_shuffled) (k := 1) F sc__law_shuffled H.g__law_shuffled (F.bindsN fun _ _ _ _ _ _ us hl => match us, hl with | [_, _], _ => rfl) fun cdv A outer s H0 E p hr => ?_
  exact (dss_cons (ds_par2 (i := 3) (j := 4) sc__law_shuffled.nd (dv_new (dn_list H.bl.list (da_cons (de_var 1) da_nil)) (dv_new (dn_lst da_nil) dv_nil)))
  (dss_cons (ds_for (di_rng1 H.bl.range (da_cons (de_len H.bl.len (da_cons (de_var 1) da_nil)) da_nil)) (dg_name sc__law_shuffled.nd (i := 2)) (dss_one (ds_appPop (i := 4) (j := 3) (hij := by decide) (de_call (h__law_draw H) (hr.mono (by decide)) (da_cons (de_var 0) (da_cons (de_thaw (de_len H.bl.len (da_cons (de_var 3) da_nil))) da_nil))) (pe_bm PySem.F.plainAttrs_list PySem.F.slot_list_append PySem.F.type_list_append mt_append (pv _) (pa_cons (pe_bm PySem.F.plainAttrs_list PySem.F.slot_list_pop PySem.F.type_list_pop mt_popAt (pv _) (pa_cons pe_self pa_nil)) pa_nil)))) (passes_of rfl))
  (dss_one (ds_ret (de_var 4)))))
theorem sc__law_web_arrows : FnScope ["pen", "size", "much", "at", "order", "way", "arrows", "later", "keep"] ["pen", "size"] (defScope st__law_web_arrows) := ⟨rfl, rfl, rfl, by decide +kernel, rfl, by decide +kernel, by decide +kernel⟩
noncomputable def S__law_web_arrows : S :=
  (sSeq (sParV [4, 5, 6] [vD (dCall m__law_shuffled [(dVar 0), (dNew (nRng1 (dVar 1)))]), vD (dCall m__law_draw [(dVar 0), (dC (.int 6))]), vN (nLst [])])
  (sSeq (sSet 2 (dCall m__law_pick [(dVar 0), (dNew (nLst [(dC (.int 2)), (dC (.int 3)), (dC (.int 2)), (dC (.int 4))]))]))
  (sSeq (sFor (nRng1 (dVar 1)) (gNm 3) (sFor (nRng2 (dBin addD (dVar 3) (dC (.int 1))) (dVar 1)) (gNm 7) (sSeq (sSet 8 (dBin eqD (dCall m__law_draw [(dVar 0), (dVar 2)]) (dC (.int 0))))
  (sSeq (sIf (tCmp eqD (dVar 5) (dC (.int 2))) (sSet 8 (dOr (dBin eqD (dVar 3) (dBin (iiD fun i j => .int (i - j)) (dVar 7) (dC (.int 1)))) (dBin eqD (dCall m__law_draw [(dVar 0), (dC (.int 9))]) (dC (.int 0))))) (sIf (tCmp eqD (dVar 5) (dC (.int 3))) (sSet 8 (dBin (odD .gt) (dCall m__law_draw [(dVar 0), (dC (.int 5))]) (dC (.int 0)))) sNil))
  (sIf (tAnd (tVal (dVar 8)) (tCmp neD (dVar 5) (dC (.int 4)))) (sApp 6 (dTup [(dBin ixD (dVar 4) (dVar 3)), (dBin ixD (dVar 4) (dVar 7))])) sNil)))))
  (sSeq (sIf (tCmp eqD (dVar 5) (dC (.int 4))) (sFor (nRng2 (dC (.int 1)) (dVar 1)) (gNm 7) (sSeq (sSet 3 (dCall m__law_draw [(dVar 0), (dVar 7)]))
  (sApp 6 (dIf (tCmp (odD .gt) (dCall m__law_draw [(dVar 0), (dC (.int 3))]) (dC (.int 0))) (dTup [(dBin ixD (dVar 4) (dVar 3)), (dBin ixD (dVar 4) (dVar 7))]) (dTup [(dBin ixD (dVar 4) (dVar 7)), (dBin ixD (dVar 4) (dVar 3))]))))) sNil)
  (sRet (dBlt tupleD [(dSl (dNew (nSorted [(dVar 6)])) oN (oS (dC (.int 12))))]))))))
noncomputable def m__law_web_arrows : List D → M D := runS (["pen", "size", "much", "at", "order", "way", "arrows", "later", "keep"] : List Str) S__law_web_arrows
theorem h__law_web_arrows (H : Hd K mg) : Has P w K mg base 3 "_law_web_arrows" 2 m__law_web_arrows := by
  obtain ⟨fd, F⟩ := H.says.2.def_ 4 (d := d__law_web_arrows) rfl
  refine def_has (st := st__law_web_arrows) (k := 2) F sc__law_web_arrows H.g__law_web_arrows (F.bindsN fun _ _ _ _ _ _ us hl => match us, hl with | [_, _], _ => rfl) fun cdv A outer s H0 E p hr => ?_
  exact (dss_cons (ds_par3 (i := 4) (j := 5) (l := 6) sc__law_web_arrows.nd (dv_dat (de_call (h__law_shuffled H) (hr.mono (by decide)) (da_cons (de_var 0) (da_cons (de_new (dn_rng1 H.bl.range H.bl.list (de_var 1))) da_nil))) (dv_dat (de_call (h__law_draw H) (hr.mono (by decide)) (da_cons (de_var 0) (da_cons de_int da_nil))) (dv_new (dn_lst da_nil) dv_nil))))
  (dss_cons (ds_set 2 sc__law_web_arrows.nd (de_call (h__law_pick H) (hr.mono (by decide)) (da_cons (de_var 0) (da_cons (de_new (dn_lst (da_cons de_int (da_cons de_int (da_cons de_int (da_cons de_int da_nil)))))) da_nil))))
  (dss_cons (ds_for (di_rng1 H.bl.range (da_cons (de_var 1) da_nil)) (dg_name sc__law_web_arrows.nd (i := 3)) (dss_one (ds_for (di_rng2 H.bl.range (da_cons (de_bin bs_add (de_var 3) de_int) (da_cons (de_var 1) da_nil))) (dg_name sc__law_web_arrows.nd (i := 7)) (dss_cons (ds_set 8 sc__law_web_arrows.nd (de_cmp (bs_eq hr) (de_call (h__law_draw H) (hr.mono (by decide)) (da_cons (de_var 0) (da_cons (de_var 2) da_nil))) de_int))
  (dss_cons (ds_if (dt_cmp (bs_eq hr) (de_var 5) de_int) (dss_one (ds_set 8 sc__law_web_arrows.nd (de_or (de_cmp (bs_eq hr) (de_var 3) (de_bin bs_sub (de_var 7) de_int)) (de_one (de_cmp (bs_eq hr) (de_call (h__law_draw H) (hr.mono (by decide)) (da_cons (de_var 0) (da_cons de_int da_nil))) de_int))))) (dss_one (ds_if (dt_cmp (bs_eq hr) (de_var 5) de_int) (dss_one (ds_set 8 sc__law_web_arrows.nd (de_cmp (bs_gt hr) (de_call (h__law_draw H) (hr.mono (by decide)) (da_cons (de_var 0) (da_cons de_int da_nil))) de_int))) dss_nil)))
  (dss_one (ds_if (dt_of (dw_and (dt_val (de_var 8)) (dw_and1 (dt_cmp (bs_ne hr) (de_var 5) de_int)))) (dss_one (ds_app 6 (de_tup (da_cons (de_ix is_seq (de_var 4) (de_var 3)) (da_cons (de_ix is_seq (de_var 4) (de_var 7)) da_nil))))) dss_nil)))) (passes_of rfl))) (passes_of rfl))
  (dss_cons (ds_if (dt_cmp (bs_eq hr) (de_var 5) de_int) (dss_one (ds_for (di_rng2 H.bl.range (da_cons de_int (da_cons (de_var 1) da_nil))) (dg_name sc__law_web_arrows.nd (i := 7)) (dss_cons (ds_set 3 sc__law_web_arrows.nd (de_call (h__law_draw H) (hr.mono (by decide)) (da_cons (de_var 0) (da_cons (de_var 7) da_nil))))
  (dss_one (ds_app 6 (de_if (dt_cmp (bs_gt hr) (de_call (h__law_draw H) (hr.mono (by decide)) (da_cons (de_var 0) (da_cons de_int da_nil))) de_int) (de_tup (da_cons (de_ix is_seq (de_var 4) (de_var 3)) (da_cons (de_ix is_seq (de_var 4) (de_var 7)) da_nil))) (de_tup (da_cons (de_ix is_seq (de_var 4) (de_var 7)) (da_cons (de_ix is_seq (de_var 4) (de_var 3)) da_nil))))))) (passes_of rfl))) dss_nil)
  (dss_one (ds_ret (de_tuple H.bl.tuple (da_cons (de_slice (de_new (dn_sorted H.bl.sorted (da_cons (de_var 6) da_nil))) do_none (do_some de_int)) da_nil))))))))
theorem sc_is_whole : FnScope ["value"] ["value"] (defScope st_is_whole) := ⟨rfl, rfl, rfl, by decide +kernel, rfl, by decide +kernel, by decide +kernel⟩
noncomputable def S_is_whole : S :=
  (sRet (dAnd (dIsi CS TS [.ty "int"] (dVar 0)) (dNot (dIsi CS TS [.ty "bool"] (dVar 0)))))
noncomputable def m_is_whole : List D → M D := runS (["value"] : List Str) S_is_whole
theorem h_is_whole (H : Hd K mg) : Has P w K mg base 1 "is_whole" 1 m_is_whole := by
  obtain ⟨fd, F⟩ := H.says.2.def_ 5 (d := d_is_whole) rfl
  refine def_has (st := st_is_whole) (k := 0) F sc_is_whole H.g_is_whole (F.bindsN fun _ _ _ _ _ _ us hl => match us, hl with | [_], _ => rfl) fun cdv A outer s H0 E p hr => ?_
  exact (dss_one (ds_ret (de_and (de_isi1 H.kt H.bl.isinstance (de_var 0) (pe_ty H.bl.int (by decide +kernel))) (de_one (de_not (de_isi1 H.kt H.bl.isinstance (de_var 0) (pe_ty H.bl.bool (by decide +kernel))))))))
theorem sc_is_list : FnScope ["value"] ["value"] (defScope st_is_list) := ⟨rfl, rfl, rfl, by decide +kernel, rfl, by decide +kernel, by decide +kernel⟩
noncomputable def S_is_list : S :=
  (sRet (dIsi CS TS [.ty "tuple", .ty "list"] (dVar 0)))
noncomputable def m_is_list : List D → M D := runS (["value"] : List Str) S_is_list
theorem h_is_list (H : Hd K mg) : Has P w K mg base 1 "is_list" 1 m_is_list := by
  obtain ⟨fd, F⟩ := H.says.2.def_ 6 (d := d_is_list) rfl
  refine def_has (st := st_is_list) (k := 0) F sc_is_list H.g_is_list (F.bindsN fun _ _ _ _ _ _ us hl => match us, hl with | [_], _ => rfl) fun cdv A outer s H0 E p hr => ?_
  exact (dss_one (ds_ret (de_isi2 H.kt H.bl.isinstance (de_var 0) (pe_ty H.bl.tuple (by decide +kernel)) (pe_ty H.bl.list (by decide +kernel)))))
theorem sc_is_index : FnScope ["many", "value"] ["many", "value"] (defScope st_is_index) := ⟨rfl, rfl, rfl, by decide +kernel, rfl, by decide +kernel, by decide +kernel⟩
noncomputable def S_is_index : S :=
  (sRet (dAnd (dCall m_is_whole [(dVar 1)]) (dChain (odD .le) (odD .lt) (dC (.int 0)) (dVar 1) (dVar 0))))
noncomputable def m_is_index : List D → M D := runS (["many", "value"] : List Str) S_is_index
theorem h_is_index (H : Hd K mg) : Has P w K mg base 2 "is_index" 2 m_is_index := by
  obtain ⟨fd, F⟩ := H.says.2.def_ 7 (d := d_is_index) rfl
  refine def_has (st := st_is_index) (k := 1) F sc_is_index H.g_is_index (F.bindsN fun _ _ _ _ _ _ us hl => match us, hl with | [_, _], _ => rfl) fun cdv A outer s H0 E p hr => ?_
  exact (dss_one (ds_ret (de_and (de_call (h_is_whole H) (hr.mono (by decide)) (da_cons (de_var 1) da_nil)) (de_one (de_chain (bs_le hr) (bs_lt hr) de_int (de_var 1) (de_var 0))))))
theorem sc_is_arrow : FnScope ["many", "value", "place"] ["many", "value"] (defScope st_is_arrow) := ⟨rfl, rfl, rfl, by decide +kernel, rfl, by decide +kernel, by decide +kernel⟩
noncomputable def S_is_arrow : S :=
  (sSeq (sIf (tOr (tNot (tVal (dCall m_is_list [(dVar 1)]))) (tOr (tCmp neD (dBlt lenD [(dVar 1)]) (dC (.int 2))) (tNot (tVal (dBlt allD [(dNew (lcM [2] (nSeq (dVar 1)) (gNm 2) tYes (dCall m_is_index [(dVar 0), (dVar 2)])))]))))) (sRet (dC (.bl false))) sNil)
  (sRet (dBin neD (dBin ixD (dVar 1) (dC (.int 0))) (dBin ixD (dVar 1) (dC (.int 1))))))
noncomputable def m_is_arrow : List D → M D := runS (["many", "value", "place"] : List Str) S_is_arrow
theorem h_is_arrow (H : Hd K mg) : Has P w K mg base 3 "is_arrow" 2 m_is_arrow := by
  obtain ⟨fd, F⟩ := H.says.2.def_ 8 (d := d_is_arrow) rfl
  refine def_has (st := st_is_arrow) (k := 2) F sc_is_arrow H.g_is_arrow (F.bindsN fun _ _ _ _ _ _ us hl => match us, hl with | [_, _], _ => rfl) fun cdv A outer s H0 E p hr => ?_
  exact (dss_cons (ds_if (dt_of (dw_or (dt_not (dt_val (de_call (h_is_list H) (hr.mono (by decide)) (da_cons (de_var 1) da_nil)))) (dw_or (dt_cmp (bs_ne hr) (de_len H.bl.len (da_cons (de_var 1) da_nil)) de_int) (dw_or1 (dt_not (dt_val (de_all H.bl.all (da_cons (de_new (dn_lc [("place", 2)] sc_is_arrow.nd (di_seq (de_var 1)) (fun _ _ _ _ _ => (dg_name sc_is_arrow.nd (i := 2))) (fun _ _ _ _ _ => dts_nil) (fun _ _ _ _ _ => (de_call (h_is_index H) (hr.mono (by decide)) (da_cons (de_var 0) (da_cons (de_var 2) da_nil)))))) da_nil)))))))) (dss_one (ds_ret de_bl)) dss_nil)
  (dss_one (ds_ret (de_cmp (bs_ne hr) (de_ix is_seq (de_var 1) de_int) (de_ix is_seq (de_var 1) de_int)))))
theorem sc_are_arrows : FnScope ["many", "value", "told", "arrow", "at", "one", "other"] ["many", "value"] (defScope st_are_arrows) := ⟨rfl, rfl, rfl, by decide +kernel, rfl, by decide +kernel, by decide +kernel⟩
noncomputable def S_are_arrows : S :=
  (sSeq (sIf (tOr (tNot (tVal (dCall m_is_list [(dVar 1)]))) (tNot (tVal (dBlt allD [(dNew (lcM [3] (nSeq (dVar 1)) (gNm 3) tYes (dCall m_is_arrow [(dVar 0), (dVar 3)])))])))) (sRet (dC (.bl false))) sNil)
  (sSeq (sSet 2 (dNew (lcM [3] (nSeq (dVar 1)) (gNm 3) tYes (dBlt tupleD [(dVar 3)]))))
  (sSeq (sIf (tVal (dBlt anyD [(dNew (lcM [4] (nRng1 (dBin (iiD fun i j => .int (i - j)) (dBlt lenD [(dVar 2)]) (dC (.int 1)))) (gNm 4) tYes (dBin (odD .ge) (dBin ixD (dVar 2) (dVar 4)) (dBin ixD (dVar 2) (dBin addD (dVar 4) (dC (.int 1)))))))])) (sRet (dC (.bl false))) sNil)
  (sRet (dNot (dBlt anyD [(dNew (lcM [5, 6] (nSeq (dVar 2)) (unpackD [gNm 5, gNm 6]) tYes (dBin inD (dTup [(dVar 6), (dVar 5)]) (dVar 2))))]))))))
noncomputable def m_are_arrows : List D → M D := runS (["many", "value", "told", "arrow", "at", "one", "other"] : List Str) S_are_arrows
theorem h_are_arrows (H : Hd K mg) : Has P w K mg base 4 "are_arrows" 2 m_are_arrows := by
  obtain ⟨fd, F⟩ := H.says.2.def_ 9 (d := d_are_arrows) rfl
  refine def_has (st := st_are_arrows) (k := 3) F sc_are_arrows H.g_are_arrows (F.bindsN fun _ _ _ _ _ _ us hl => match us, hl with | [_, _], _ => rfl) fun cdv A outer s H0 E p hr => ?_
  exact (dss_cons (ds_if (dt_of (dw_or (dt_not (dt_val (de_call (h_is_list H) (hr.mono (by decide)) (da_cons (de_var 1) da_nil)))) (dw_or1 (dt_not (dt_val (de_all H.bl.all (da_cons (de_new (dn_lc [("arrow", 3)] sc_are_arrows.nd (di_seq (de_var 1)) (fun _ _ _ _ _ => (dg_name sc_are_arrows.nd (i := 3))) (fun _ _ _ _ _ => dts_nil) (fun _ _ _ _ _ => (de_call (h_is_arrow H) (hr.mono (by decide)) (da_cons (de_var 0) (da_cons (de_var 3) da_nil)))))) da_nil))))))) (dss_one (ds_ret de_bl)) dss_nil)
  (dss_cons (ds_set 2 sc_are_arrows.nd (de_new (dn_lc [("arrow", 3)] sc_are_arrows.nd (di_seq (de_var 1)) (fun _ _ _ _ _ => (dg_name sc_are_arrows.nd (i := 3))) (fun _ _ _ _ _ => dts_nil) (fun _ _ _ _ _ => (de_tuple H.bl.tuple (da_cons (de_var 3) da_nil))))))
  (dss_cons (ds_if (dt_val (de_any H.bl.any (da_cons (de_new (dn_lc [("at", 4)] sc_are_arrows.nd (di_rng1 H.bl.range (da_cons (de_bin bs_sub (de_len H.bl.len (da_cons (de_var 2) da_nil)) de_int) da_nil)) (fun _ _ _ _ _ => (dg_name sc_are_arrows.nd (i := 4))) (fun _ _ _ _ _ => dts_nil) (fun _ _ _ _ _ => (de_cmp (bs_ge hr) (de_ix is_seq (de_var 2) (de_var 4)) (de_ix is_seq (de_var 2) (de_bin bs_add (de_var 4) de_int)))))) da_nil))) (dss_one (ds_ret de_bl)) dss_nil)
  (dss_one (ds_ret (de_not (de_any H.bl.any (da_cons (de_new (dn_lc [("one", 5), ("other", 6)] sc_are_arrows.nd (di_seq (de_var 2)) (fun _ _ _ _ _ => (dg_tup (dgs_cons sc_are_arrows.nd (i := 5) (dgs_cons sc_are_arrows.nd (i := 6) dgs_nil)))) (fun _ _ _ _ _ => dts_nil) (fun _ _ _ _ _ => (de_cmp (bs_in hr) (de_tup (da_cons (de_var 6) (da_cons (de_var 5) da_nil))) (de_var 2))))) da_nil))))))))
theorem sc_has_round : FnScope ["size", "arrows", "left", "free", "place", "arrow"] ["size", "arrows"] (defScope st_has_round) := ⟨rfl, rfl, rfl, by decide +kernel, rfl, by decide +kernel, by decide +kernel⟩
noncomputable def S_has_round : S :=
  (sSeq (sSet 2 (dNew (nRng1 (dVar 0))))
  (sSeq (sWhile 1000 (tCmp (odD .gt) (dBlt lenD [(dVar 2)]) (dC (.int 0))) (sSeq (sSet 3 (dNew (lcM [4] (nSeq (dVar 2)) (gNm 4) (tNot (tVal (dBlt anyD [(dNew (lcM [5] (nSeq (dVar 1)) (gNm 5) tYes (dAnd (dBin eqD (dBin ixD (dVar 5) (dC (.int 1))) (dVar 4)) (dBin inD (dBin ixD (dVar 5) (dC (.int 0))) (dVar 2)))))]))) (dVar 4))))
  (sSeq (sIf (tCmp eqD (dBlt lenD [(dVar 3)]) (dC (.int 0))) (sRet (dC (.bl true))) sNil)
  (sSet 2 (dNew (lcM [4] (nSeq (dVar 2)) (gNm 4) (tCmp ninD (dVar 4) (dVar 3)) (dVar 4)))))))
  (sRet (dC (.bl false)))))
noncomputable def m_has_round : List D → M D := runS (["size", "arrows", "left", "free", "place", "arrow"] : List Str) S_has_round
theorem h_has_round (H : Hd K mg) : Has P w K mg base 1 "has_round" 2 m_has_round := by
  obtain ⟨fd, F⟩ := H.says.2.def_ 10 (d := d_has_round) rfl
  refine def_has (st := st_has_round) (k := 0) F sc_has_round H.g_has_round (F.bindsN fun _ _ _ _ _ _ us hl => match us, hl with | [_, _], _ => rfl) fun cdv A outer s H0 E p hr => ?_
  exact (dss_cons (ds_set 2 sc_has_round.nd (de_new (dn_rng1 H.bl.range H.bl.list (de_var 0))))
  (dss_cons (ds_while 1000 (dt_cmp (bs_gt hr) (de_len H.bl.len (da_cons (de_var 2) da_nil)) de_int) (dss_cons (ds_set 3 sc_has_round.nd (de_new (dn_lc [("place", 4)] sc_has_round.nd (di_seq (de_var 2)) (fun _ _ _ _ _ => (dg_name sc_has_round.nd (i := 4))) (fun _ _ _ _ _ => (dts_one (dt_not (dt_val (de_any H.bl.any (da_cons (de_new (dn_lc [("arrow", 5)] sc_has_round.nd (di_seq (de_var 1)) (fun _ _ _ _ _ => (dg_name sc_has_round.nd (i := 5))) (fun _ _ _ _ _ => dts_nil) (fun _ _ _ _ _ => (de_and (de_cmp (bs_eq hr) (de_ix is_seq (de_var 5) de_int) (de_var 4)) (de_one (de_cmp (bs_in hr) (de_ix is_seq (de_var 5) de_int) (de_var 2))))))) da_nil)))))) (fun _ _ _ _ _ => (de_var 4)))))
  (dss_cons (ds_if (dt_cmp (bs_eq hr) (de_len H.bl.len (da_cons (de_var 3) da_nil)) de_int) (dss_one (ds_ret de_bl)) dss_nil)
  (dss_one (ds_set 2 sc_has_round.nd (de_new (dn_lc [("place", 4)] sc_has_round.nd (di_seq (de_var 2)) (fun _ _ _ _ _ => (dg_name sc_has_round.nd (i := 4))) (fun _ _ _ _ _ => (dts_one (dt_cmp (bs_nin hr) (de_var 4) (de_var 3)))) (fun _ _ _ _ _ => (de_var 4)))))))) (passes_of rfl))
  (dss_one (ds_ret de_bl))))
theorem sc_arrows_looked : FnScope ["size", "arrows"] ["size", "arrows"] (defScope st_arrows_looked) := ⟨rfl, rfl, rfl, by decide +kernel, rfl, by decide +kernel, by decide +kernel⟩
noncomputable def S_arrows_looked : S :=
  (sIf (tVal (dCall m_has_round [(dVar 0), (dVar 1)])) sBad sNil)
noncomputable def m_arrows_looked : List D → M D := runS (["size", "arrows"] : List Str) S_arrows_looked
theorem h_arrows_looked (H : Hd K mg) : Has P w K mg base 2 "arrows_looked" 2 m_arrows_looked := by
  obtain ⟨fd, F⟩ := H.says.2.def_ 11 (d := d_arrows_looked) rfl
  refine def_has (st := st_arrows_looked) (k := 1) F sc_arrows_looked H.g_arrows_looked (F.bindsN fun _ _ _ _ _ _ us hl => match us, hl with | [_, _], _ => rfl) fun cdv A outer s H0 E p hr => ?_
  exact (dss_one (ds_if (dt_val (de_call (h_has_round H) (hr.mono (by decide)) (da_cons (de_var 0) (da_cons (de_var 1) da_nil)))) (dss_one ds_never) dss_nil))
theorem sc_new_Web : FnScope ["self", "size", "arrows", "told", "arrow"] ["self", "size", "arrows"] (defScope st_new_Web) := ⟨rfl, rfl, rfl, by decide +kernel, rfl, by decide +kernel, by decide +kernel⟩
noncomputable def S_new_Web : S :=
  (sSeq (sIf (tOr (tNot (tVal (dCall m_is_whole [(dVar 1)]))) (tCmp (odD .lt) (dVar 1) (dC (.int 1)))) sBad sNil)
  (sSeq (sIf (tNot (tVal (dCall m_are_arrows [(dVar 1), (dVar 2)]))) sBad sNil)
  (sSeq (sSet 3 (dBlt tupleD [(dNew (lcM [4] (nSeq (dVar 2)) (gNm 4) tYes (dBlt tupleD [(dVar 4)])))]))
  (sSeq (sDrop (dCall m_arrows_looked [(dVar 1), (dVar 3)]))
  (sSeq (sFldS CS "size" (dVar 1))
  (sFldS CS "arrows" (dVar 3)))))))
noncomputable def m_Web : List D → M D := runI (["self", "size", "arrows", "told", "arrow"] : List Str) "Web" S_new_Web
theorem h_Web (H : Hd K mg) : HasI P w K mg base 5 "Web" 2 m_Web := by
  obtain ⟨fd, F⟩ := H.says.2.def_ 12 (d := d_new_Web) rfl
  refine init_has (st := st_new_Web) (k := 4) F sc_new_Web H.m_Web H.o_Web (F.bindsN fun _ _ _ _ _ _ us hl => match us, hl with | [_, _, _], _ => rfl) rfl fun cdv A outer s H0 E p hr => ?_
  exact (dss_cons (ds_if (dt_of (dw_or (dt_not (dt_val (de_call (h_is_whole H) (hr.mono (by decide)) (da_cons (de_var 1) da_nil)))) (dw_or1 (dt_cmp (bs_lt hr) (de_var 1) de_int)))) (dss_one ds_never) dss_nil)
  (dss_cons (ds_if (dt_not (dt_val (de_call (h_are_arrows H) (hr.mono (by decide)) (da_cons (de_var 1) (da_cons (de_var 2) da_nil))))) (dss_one ds_never) dss_nil)
  (dss_cons (ds_set 3 sc_new_Web.nd (de_tuple H.bl.tuple (da_cons (de_new (dn_lc [("arrow", 4)] sc_new_Web.nd (di_seq (de_var 2)) (fun _ _ _ _ _ => (dg_name sc_new_Web.nd (i := 4))) (fun _ _ _ _ _ => dts_nil) (fun _ _ _ _ _ => (de_tuple H.bl.tuple (da_cons (de_var 4) da_nil))))) da_nil)))
  (dss_cons (ds_expr (de_call (h_arrows_looked H) (hr.mono (by decide)) (da_cons (de_var 1) (da_cons (de_var 3) da_nil))))
  (dss_cons (ds_fld H.kl (de_var 1))
  (dss_one (ds_fld H.kl (de_var 3))))))))
theorem sc_place_told : FnScope ["web", "place"] ["web", "place"] (defScope st_place_told) := ⟨rfl, rfl, rfl, by decide +kernel, rfl, by decide +kernel, by decide +kernel⟩
noncomputable def S_place_told : S :=
  (sSeq (sIf (tNot (tVal (dCall m_is_index [(dAttr CS "size" (dVar 0)), (dVar 1)]))) sBad sNil)
  (sRet (dVar 1)))
noncomputable def m_place_told : List D → M D := runS (["web", "place"] : List Str) S_place_told
theorem h_place_told (H : Hd K mg) : Has P w K mg base 3 "place_told" 2 m_place_told := by
  obtain ⟨fd, F⟩ := H.says.2.def_ 13 (d := d_place_told) rfl
  refine def_has (st := st_place_told) (k := 2) F sc_place_told H.g_place_told (F.bindsN fun _ _ _ _ _ _ us hl => match us, hl with | [_, _], _ => rfl) fun cdv A outer s H0 E p hr => ?_
  exact (dss_cons (ds_if (dt_not (dt_val (de_call (h_is_index H) (hr.mono (by decide)) (da_cons (de_attr H.kl (de_var 0)) (da_cons (de_var 1) da_nil))))) (dss_one ds_never) dss_nil)
  (dss_one (ds_ret (de_var 1))))
theorem sc_targets_in : FnScope ["web", "place", "other"] ["web", "place"] (defScope st_targets_in) := ⟨rfl, rfl, rfl, by decide +kernel, rfl, by decide +kernel, by decide +kernel⟩
noncomputable def S_targets_in : S :=
  (sRet (dBlt tupleD [(dNew (lcM [2] (nRng1 (dAttr CS "size" (dVar 0))) (gNm 2) (tCmp inD (dTup [(dVar 1), (dVar 2)]) (dAttr CS "arrows" (dVar 0))) (dVar 2)))]))
noncomputable def m_targets_in : List D → M D := runS (["web", "place", "other"] : List Str) S_targets_in
theorem h_targets_in (H : Hd K mg) : Has P w K mg base 1 "targets_in" 2 m_targets_in := by
  obtain ⟨fd, F⟩ := H.says.2.def_ 14 (d := d_targets_in) rfl
  refine def_has (st := st_targets_in) (k := 0) F sc_targets_in H.g_targets_in (F.bindsN fun _ _ _ _ _ _ us hl => match us, hl with | [_, _], _ => rfl) fun cdv A outer s H0 E p hr => ?_
  exact (dss_one (ds_ret (de_tuple H.bl.tuple (da_cons (de_new (dn_lc [("other", 2)] sc_targets_in.nd (di_rng1 H.bl.range (da_cons (de_attr H.kl (de_var 0)) da_nil)) (fun _ _ _ _ _ => (dg_name sc_targets_in.nd (i := 2))) (fun _ _ _ _ _ => (dts_one (dt_cmp (bs_in hr) (de_tup (da_cons (de_var 1) (da_cons (de_var 2) da_nil))) (de_attr H.kl (de_var 0))))) (fun _ _ _ _ _ => (de_var 2)))) da_nil))))
theorem sc_targets : FnScope ["web", "place"] ["web", "place"] (defScope st_targets) := ⟨rfl, rfl, rfl, by decide +kernel, rfl, by decide +kernel, by decide +kernel⟩
noncomputable def S_targets : S :=
  (sRet (dCall m_targets_in [(dVar 0), (dCall m_place_told [(dVar 0), (dVar 1)])]))
noncomputable def m_targets : List D → M D := runS (["web", "place"] : List Str) S_targets
theorem h_targets (H : Hd K mg) : Has P w K mg base 4 "targets" 2 m_targets := by
  obtain ⟨fd, F⟩ := H.says.2.def_ 15 (d := d_targets) rfl
  refine def_has (st := st_targets) (k := 3) F sc_targets H.g_targets (F.bindsN fun _ _ _ _ _ _ us hl => match us, hl with | [_, _], _ => rfl) fun cdv A outer s H0 E p hr => ?_
  exact (dss_one (ds_ret (de_call (h_targets_in H) (hr.mono (by decide)) (da_cons (de_var 0) (da_cons (de_call (h_place_told H) (hr.mono (by decide)) (da_cons (de_var 0) (da_cons (de_var 1) da_nil))) da_nil)))))
theorem sc_is_lot_of : FnScope ["many", "value", "last", "item"] ["many", "value"] (defScope st_is_lot_of) := ⟨rfl, rfl, rfl, by decide +kernel, rfl, by decide +kernel, by decide +kernel⟩
noncomputable def S_is_lot_of : S :=
  (sSeq (sIf (tNot (tVal (dCall m_is_list [(dVar 1)]))) (sRet (dC (.bl false))) sNil)
  (sSeq (sSet 2 (dNeg (dC (.int 1))))
  (sSeq (sFor (nSeq (dVar 1)) (gNm 3) (sSeq (sIf (tOr (tNot (tVal (dCall m_is_index [(dVar 0), (dVar 3)]))) (tCmp (odD .le) (dVar 3) (dVar 2))) (sRet (dC (.bl false))) sNil)
  (sSet 2 (dVar 3))))
  (sRet (dC (.bl true))))))
noncomputable def m_is_lot_of : List D → M D := runS (["many", "value", "last", "item"] : List Str) S_is_lot_of
theorem h_is_lot_of (H : Hd K mg) : Has P w K mg base 3 "is_lot_of" 2 m_is_lot_of := by
  obtain ⟨fd, F⟩ := H.says.2.def_ 16 (d := d_is_lot_of) rfl
  refine def_has (st := st_is_lot_of) (k := 2) F sc_is_lot_of H.g_is_lot_of (F.bindsN fun _ _ _ _ _ _ us hl => match us, hl with | [_, _], _ => rfl) fun cdv A outer s H0 E p hr => ?_
  exact (dss_cons (ds_if (dt_not (dt_val (de_call (h_is_list H) (hr.mono (by decide)) (da_cons (de_var 1) da_nil)))) (dss_one (ds_ret de_bl)) dss_nil)
  (dss_cons (ds_set 2 sc_is_lot_of.nd (de_neg de_int))
  (dss_cons (ds_for (di_seq (de_var 1)) (dg_name sc_is_lot_of.nd (i := 3)) (dss_cons (ds_if (dt_of (dw_or (dt_not (dt_val (de_call (h_is_index H) (hr.mono (by decide)) (da_cons (de_var 0) (da_cons (de_var 3) da_nil))))) (dw_or1 (dt_cmp (bs_le hr) (de_var 3) (de_var 2))))) (dss_one (ds_ret de_bl)) dss_nil)
  (dss_one (ds_set 2 sc_is_lot_of.nd (de_var 3)))) (passes_of rfl))
  (dss_one (ds_ret de_bl)))))
theorem sc_part_in : FnScope ["web", "places", "number", "at", "place", "one", "other"] ["web", "places"] (defScope st_part_in) := ⟨rfl, rfl, rfl, by decide +kernel, rfl, by decide +kernel, by decide +kernel⟩
noncomputable def S_part_in : S :=
  (sSeq (sSet 2 (dDc (dcM [3, 4] (nEnum (dVar 1)) (unpackD [gNm 3, gNm 4]) tYes (dVar 4) (dVar 3))))
  (sRet (dCall m_Web [(dBlt lenD [(dVar 1)]), (dNew (lcM [5, 6] (nSeq (dAttr CS "arrows" (dVar 0))) (unpackD [gNm 5, gNm 6]) (tAnd (tDin false (dVar 5) (dVar 2)) (tDin false (dVar 6) (dVar 2))) (dTup [(dDget (dVar 2) (dVar 5)), (dDget (dVar 2) (dVar 6))])))])))
noncomputable def m_part_in : List D → M D := runS (["web", "places", "number", "at", "place", "one", "other"] : List Str) S_part_in
theorem h_part_in (H : Hd K mg) : Has P w K mg base 7 "part_in" 2 m_part_in := by
  obtain ⟨fd, F⟩ := H.says.2.def_ 17 (d := d_part_in) rfl
  refine def_has (st := st_part_in) (k := 6) F sc_part_in H.g_part_in (F.bindsN fun _ _ _ _ _ _ us hl => match us, hl with | [_, _], _ => rfl) fun cdv A outer s H0 E p hr => ?_
  exact (dss_cons (ds_set 2 sc_part_in.nd (de_dc [("at", 3), ("place", 4)] sc_part_in.nd (di_enum H.bl.enumerate (da_cons (de_var 1) da_nil)) (fun _ _ _ _ _ => (dg_tup (dgs_cons sc_part_in.nd (i := 3) (dgs_cons sc_part_in.nd (i := 4) dgs_nil)))) (fun _ _ _ _ _ => dts_nil) (fun _ _ _ _ _ => (de_var 4)) (fun _ _ _ _ _ => (de_var 3))))
  (dss_one (ds_ret (de_make (h_Web H) (hr.mono (by decide)) (da_cons (de_len H.bl.len (da_cons (de_var 1) da_nil)) (da_cons (de_new (dn_lc [("one", 5), ("other", 6)] sc_part_in.nd (di_seq (de_attr H.kl (de_var 0))) (fun _ _ _ _ _ => (dg_tup (dgs_cons sc_part_in.nd (i := 5) (dgs_cons sc_part_in.nd (i := 6) dgs_nil)))) (fun _ _ _ _ _ => (dts_one (dt_of (dw_and (dt_din hr (de_var 5) (de_var 2)) (dw_and1 (dt_din hr (de_var 6) (de_var 2))))))) (fun _ _ _ _ _ => (de_tup (da_cons (de_dget hr (de_var 2) (de_var 5)) (da_cons (de_dget hr (de_var 2) (de_var 6)) da_nil)))))) da_nil))))))
theorem sc_struck : FnScope ["web", "places", "place"] ["web", "places"] (defScope st_struck) := ⟨rfl, rfl, rfl, by decide +kernel, rfl, by decide +kernel, by decide +kernel⟩
noncomputable def S_struck : S :=
  (sSeq (sIf (tOr (tNot (tVal (dCall m_is_lot_of [(dAttr CS "size" (dVar 0)), (dVar 1)]))) (tCmp eqD (dBlt lenD [(dVar 1)]) (dAttr CS "size" (dVar 0)))) sBad sNil)
  (sRet (dCall m_part_in [(dVar 0), (dNew (lcM [2] (nRng1 (dAttr CS "size" (dVar 0))) (gNm 2) (tCmp ninD (dVar 2) (dVar 1)) (dVar 2)))])))
noncomputable def m_struck : List D → M D := runS (["web", "places", "place"] : List Str) S_struck
theorem h_struck (H : Hd K mg) : Has P w K mg base 8 "struck" 2 m_struck := by
  obtain ⟨fd, F⟩ := H.says.2.def_ 18 (d := d_struck) rfl
  refine def_has (st := st_struck) (k := 7) F sc_struck H.g_struck (F.bindsN fun _ _ _ _ _ _ us hl => match us, hl with | [_, _], _ => rfl) fun cdv A outer s H0 E p hr => ?_
  exact (dss_cons (ds_if (dt_of (dw_or (dt_not (dt_val (de_call (h_is_lot_of H) (hr.mono (by decide)) (da_cons (de_attr H.kl (de_var 0)) (da_cons (de_var 1) da_nil))))) (dw_or1 (dt_cmp (bs_eq hr) (de_len H.bl.len (da_cons (de_var 1) da_nil)) (de_attr H.kl (de_var 0)))))) (dss_one ds_never) dss_nil)
  (dss_one (ds_ret (de_call (h_part_in H) (hr.mono (by decide)) (da_cons (de_var 0) (da_cons (de_new (dn_lc [("place", 2)] sc_struck.nd (di_rng1 H.bl.range (da_cons (de_attr H.kl (de_var 0)) da_nil)) (fun _ _ _ _ _ => (dg_name sc_struck.nd (i := 2))) (fun _ _ _ _ _ => (dts_one (dt_cmp (bs_nin hr) (de_var 2) (de_var 1)))) (fun _ _ _ _ _ => (de_var 2)))) da_nil))))))
theorem sc_lots_of : FnScope ["places", "found", "place", "lot"] ["places"] (defScope st_lots_of) := ⟨rfl, rfl, rfl, by decide +kernel, rfl, by decide +kernel, by decide +kernel⟩
noncomputable def S_lots_of : S :=
  (sSeq (sSet 1 (dNew (nLst [(dTup [])])))
  (sSeq (sFor (nSeq (dVar 0)) (gNm 2) (sSet 1 (dBin addD (dVar 1) (dNew (lcM [3] (nSeq (dVar 1)) (gNm 3) tYes (dBin addD (dVar 3) (dTup [(dVar 2)])))))))
  (sRet (dNew (nSortT [(dVar 1)])))))
noncomputable def m_lots_of : List D → M D := runS (["places", "found", "place", "lot"] : List Str) S_lots_of
theorem h_lots_of (H : Hd K mg) : Has P w K mg base 1 "lots_of" 1 m_lots_of := by
  obtain ⟨fd, F⟩ := H.says.2.def_ 19 (d := d_lots_of) rfl
  refine def_has (st := st_lots_of) (k := 0) F sc_lots_of H.g_lots_of (F.bindsN fun _ _ _ _ _ _ us hl => match us, hl with | [_], _ => rfl) fun cdv A outer s H0 E p hr => ?_
  exact (dss_cons (ds_set 1 sc_lots_of.nd (de_new (dn_lst (da_cons (de_tup da_nil) da_nil))))
  (dss_cons (ds_for (di_seq (de_var 0)) (dg_name sc_lots_of.nd (i := 2)) (dss_one (ds_set 1 sc_lots_of.nd (de_bin bs_add (de_var 1) (de_new (dn_lc [("lot", 3)] sc_lots_of.nd (di_seq (de_var 1)) (fun _ _ _ _ _ => (dg_name sc_lots_of.nd (i := 3))) (fun _ _ _ _ _ => dts_nil) (fun _ _ _ _ _ => (de_bin bs_add (de_var 3) (de_tup (da_cons (de_var 2) da_nil))))))))) (passes_of rfl))
  (dss_one (ds_ret (de_new (dn_sortT hr H.bl.sorted (da_cons (de_var 1) da_nil)))))))
theorem sc_sources_in : FnScope ["web", "place", "one"] ["web", "place"] (defScope st_sources_in) := ⟨rfl, rfl, rfl, by decide +kernel, rfl, by decide +kernel, by decide +kernel⟩
noncomputable def S_sources_in : S :=
  (sRet (dBlt tupleD [(dNew (lcM [2] (nRng1 (dAttr CS "size" (dVar 0))) (gNm 2) (tCmp inD (dTup [(dVar 2), (dVar 1)]) (dAttr CS "arrows" (dVar 0))) (dVar 2)))]))
noncomputable def m_sources_in : List D → M D := runS (["web", "place", "one"] : List Str) S_sources_in
theorem h_sources_in (H : Hd K mg) : Has P w K mg base 1 "sources_in" 2 m_sources_in := by
  obtain ⟨fd, F⟩ := H.says.2.def_ 20 (d := d_sources_in) rfl
  refine def_has (st := st_sources_in) (k := 0) F sc_sources_in H.g_sources_in (F.bindsN fun _ _ _ _ _ _ us hl => match us, hl with | [_, _], _ => rfl) fun cdv A outer s H0 E p hr => ?_
  exact (dss_one (ds_ret (de_tuple H.bl.tuple (da_cons (de_new (dn_lc [("one", 2)] sc_sources_in.nd (di_rng1 H.bl.range (da_cons (de_attr H.kl (de_var 0)) da_nil)) (fun _ _ _ _ _ => (dg_name sc_sources_in.nd (i := 2))) (fun _ _ _ _ _ => (dts_one (dt_cmp (bs_in hr) (de_tup (da_cons (de_var 2) (da_cons (de_var 1) da_nil))) (de_attr H.kl (de_var 0))))) (fun _ _ _ _ _ => (de_var 2)))) da_nil))))
theorem sc_reached : FnScope ["web", "places", "back", "seen", "waiting", "here", "there", "place"] ["web", "places", "back"] (defScope st_reached) := ⟨rfl, rfl, rfl, by decide +kernel, rfl, by decide +kernel, by decide +kernel⟩
noncomputable def S_reached : S :=
  (sSeq (sOwnK 3 (dcM [7] (nSeq (dVar 1)) (gNm 7) tYes (dVar 7) (dC (.bl true))))
  (sSeq (sOwnS 4 (nList [(dVar 1)]))
  (sSeq (sWhile 1000 (tThaw (tCmp (odD .gt) (dBlt lenD [(dVar 4)]) (dC (.int 0)))) (sSeq (sPop 5 4)
  (sFor (nSeq (dIf (tVal (dVar 2)) (dCall m_sources_in [(dVar 0), (dVar 5)]) (dCall m_targets_in [(dVar 0), (dVar 5)]))) (gNm 6) (sIf (tThaw (tDin true (dVar 6) (dVar 3))) (sSeq (sDput 3 (dVar 6) (dC (.bl true)))
  (sApp 4 (dVar 6))) sNil))))
  (sRet (dBlt tupleD [(dNew (nSorted [(dNew (nListK [(dVar 3)]))]))])))))
noncomputable def m_reached : List D → M D := runS (["web", "places", "back", "seen", "waiting", "here", "there", "place"] : List Str) S_reached
theorem h_reached (H : Hd K mg) : Has P w K mg base 2 "reached" 3 m_reached := by
  obtain ⟨fd, F⟩ := H.says.2.def_ 21 (d := d_reached) rfl
  refine def_has (st := st_reached) (k := 1) F sc_reached H.g_reached (F.bindsN fun _ _ _ _ _ _ us hl => match us, hl with | [_, _, _], _ => rfl) fun cdv A outer s H0 E p hr => ?_
  exact (dss_cons (ds_dcO 3 [("place", 7)] sc_reached.nd (di_seq (de_var 1)) (fun _ _ _ _ _ => (dg_name sc_reached.nd (i := 7))) (fun _ _ _ _ _ => dts_nil) (fun _ _ _ _ _ => (de_var 7)) (fun _ _ _ _ _ => de_bl))
  (dss_cons (ds_own 4 sc_reached.nd (dn_list H.bl.list (da_cons (de_var 1) da_nil)))
  (dss_cons (ds_while 1000 (dt_thaw (dt_cmp (bs_gt hr) (de_len H.bl.len (da_cons (de_var 4) da_nil)) de_int)) (dss_cons (ds_pop (i := 5) (j := 4) sc_reached.nd)
  (dss_one (ds_for (di_seq (de_if (dt_val (de_var 2)) (de_call (h_sources_in H) (hr.mono (by decide)) (da_cons (de_var 0) (da_cons (de_var 5) da_nil))) (de_call (h_targets_in H) (hr.mono (by decide)) (da_cons (de_var 0) (da_cons (de_var 5) da_nil))))) (dg_name sc_reached.nd (i := 6)) (dss_one (ds_if (dt_thaw (dt_dnotin hr (de_var 6) (de_var 3))) (dss_cons (ds_dput 3 hr de_bl (de_var 6))
  (dss_one (ds_app 4 (de_var 6)))) dss_nil)) (passes_of rfl)))) (passes_of rfl))
  (dss_one (ds_ret (de_tuple H.bl.tuple (da_cons (de_new (dn_sorted H.bl.sorted (da_cons (de_new (dn_listK H.bl.list (da_cons (de_var 3) da_nil))) da_nil))) da_nil)))))))
theorem sc_ahead_in : FnScope ["web", "places"] ["web", "places"] (defScope st_ahead_in) := ⟨rfl, rfl, rfl, by decide +kernel, rfl, by decide +kernel, by decide +kernel⟩
noncomputable def S_ahead_in : S :=
  (sRet (dCall m_reached [(dVar 0), (dVar 1), (dC (.bl true))]))
noncomputable def m_ahead_in : List D → M D := runS (["web", "places"] : List Str) S_ahead_in
theorem h_ahead_in (H : Hd K mg) : Has P w K mg base 3 "ahead_in" 2 m_ahead_in := by
  obtain ⟨fd, F⟩ := H.says.2.def_ 22 (d := d_ahead_in) rfl
  refine def_has (st := st_ahead_in) (k := 2) F sc_ahead_in H.g_ahead_in (F.bindsN fun _ _ _ _ _ _ us hl => match us, hl with | [_, _], _ => rfl) fun cdv A outer s H0 E p hr => ?_
  exact (dss_one (ds_ret (de_call (h_reached H) (hr.mono (by decide)) (da_cons (de_var 0) (da_cons (de_var 1) (da_cons de_bl da_nil))))))
theorem sc_near_in : FnScope ["web", "field", "near", "place", "lot", "one", "source", "other"] ["web", "field"] (defScope st_near_in) := ⟨rfl, rfl, rfl, by decide +kernel, rfl, by decide +kernel, by decide +kernel⟩
noncomputable def S_near_in : S :=
  (sNear 2 3 (nSeq (dVar 1)) (snFor 3 (nSeq (dVar 1)) (snSeq (snLc 2 4 (lcM [6] (nSeq (dCall m_sources_in [(dVar 0), (dVar 3)])) (gNm 6) (tDin false (dVar 6) (dVar 2)) (dVar 6)))
  (snFor 5 (nSeq (dVar 4)) (snSeq (snApp (dVar 5) (dVar 3))
  (snSeq (snApp (dVar 3) (dVar 5))
  (snExt (dVar 5) (lcM [7] (nSeq (dVar 4)) (gNm 7) (tCmp neD (dVar 7) (dVar 5)) (dVar 7)))))))))
noncomputable def m_near_in : List D → M D := runS (["web", "field", "near", "place", "lot", "one", "source", "other"] : List Str) S_near_in
theorem h_near_in (H : Hd K mg) : Has P w K mg base 2 "near_in" 2 m_near_in := by
  obtain ⟨fd, F⟩ := H.says.2.def_ 23 (d := d_near_in) rfl
  refine def_has (st := st_near_in) (k := 1) F sc_near_in H.g_near_in (F.bindsN fun _ _ _ _ _ _ us hl => match us, hl with | [_, _], _ => rfl) fun cdv A outer s H0 E p hr => ?_
  exact (dss_near (n := 2) 3 [("place", 3)] sc_near_in.nd (di_seq (de_var 1)) (fun _ _ _ _ _ => (dg_name sc_near_in.nd (i := 3))) (fun _ _ _ _ _ => (de_var 3)) (fun _ _ _ _ _ => (dn_lst da_nil))
  (dsn_for 3 sc_near_in.nd (di_seq (de_var 1)) (dsn_cons (dsn_lc 4 [("source", 6)] sc_near_in.nd (di_seq (de_call (h_sources_in H) (hr.mono (by decide)) (da_cons (de_var 0) (da_cons (de_var 3) da_nil)))) (fun _ _ _ _ _ => (dg_name sc_near_in.nd (i := 6))) (fun _ _ _ _ _ => (dts_one (dt_din hr (de_var 6) (de_var 2)))) (fun _ _ _ _ _ => (de_var 6)))
  (dsn_one (dsn_for 5 sc_near_in.nd (di_seq (de_var 4)) (dsn_cons (dsn_app hr (de_var 5) (de_var 3))
  (dsn_cons (dsn_app hr (de_var 3) (de_var 5))
  (dsn_one (dsn_ext hr (de_var 5) (dn_lc [("other", 7)] sc_near_in.nd (di_seq (de_var 4)) (fun _ _ _ _ _ => (dg_name sc_near_in.nd (i := 7))) (fun _ _ _ _ _ => (dts_one (dt_cmp (bs_ne hr) (de_var 7) (de_var 5)))) (fun _ _ _ _ _ => (de_var 7))))))) (passes_of rfl)))) (passes_of rfl)))
theorem sc_side_of : FnScope ["web", "one", "other", "given", "near", "seen", "waiting", "here", "there", "place"] ["web", "one", "other", "given"] (defScope st_side_of) := ⟨rfl, rfl, rfl, by decide +kernel, rfl, by decide +kernel, by decide +kernel⟩
noncomputable def S_side_of : S :=
  (sSeq (sSet 4 (dCall m_near_in [(dVar 0), (dCall m_ahead_in [(dVar 0), (dNew (nSorted [(dBin addD (dBin addD (dVar 1) (dVar 2)) (dVar 3))]))])]))
  (sSeq (sOwnK 5 (dcM [9] (nSeq (dVar 1)) (gNm 9) tYes (dVar 9) (dC (.bl true))))
  (sSeq (sOwnS 6 (nList [(dVar 1)]))
  (sSeq (sWhile 1000 (tThaw (tCmp (odD .gt) (dBlt lenD [(dVar 6)]) (dC (.int 0)))) (sSeq (sPop 7 6)
  (sFor (nSeq (dDget (dVar 4) (dVar 7))) (gNm 8) (sIf (tThaw (tAnd (tDin true (dVar 8) (dVar 5)) (tCmp ninD (dVar 8) (dVar 3)))) (sSeq (sDput 5 (dVar 8) (dC (.bl true)))
  (sApp 6 (dVar 8))) sNil))))
  (sRet (dBlt tupleD [(dNew (nSorted [(dNew (nListK [(dVar 5)]))]))]))))))
noncomputable def m_side_of : List D → M D := runS (["web", "one", "other", "given", "near", "seen", "waiting", "here", "there", "place"] : List Str) S_side_of
theorem h_side_of (H : Hd K mg) : Has P w K mg base 4 "side_of" 4 m_side_of := by
  obtain ⟨fd, F⟩ := H.says.2.def_ 24 (d := d_side_of) rfl
  refine def_has (st := st_side_of) (k := 3) F sc_side_of H.g_side_of (F.bindsN fun _ _ _ _ _ _ us hl => match us, hl with | [_, _, _, _], _ => rfl) fun cdv A outer s H0 E p hr => ?_
  exact (dss_cons (ds_set 4 sc_side_of.nd (de_call (h_near_in H) (hr.mono (by decide)) (da_cons (de_var 0) (da_cons (de_call (h_ahead_in H) (hr.mono (by decide)) (da_cons (de_var 0) (da_cons (de_new (dn_sorted H.bl.sorted (da_cons (de_bin bs_add (de_bin bs_add (de_var 1) (de_var 2)) (de_var 3)) da_nil))) da_nil))) da_nil))))
  (dss_cons (ds_dcO 5 [("place", 9)] sc_side_of.nd (di_seq (de_var 1)) (fun _ _ _ _ _ => (dg_name sc_side_of.nd (i := 9))) (fun _ _ _ _ _ => dts_nil) (fun _ _ _ _ _ => (de_var 9)) (fun _ _ _ _ _ => de_bl))
  (dss_cons (ds_own 6 sc_side_of.nd (dn_list H.bl.list (da_cons (de_var 1) da_nil)))
  (dss_cons (ds_while 1000 (dt_thaw (dt_cmp (bs_gt hr) (de_len H.bl.len (da_cons (de_var 6) da_nil)) de_int)) (dss_cons (ds_pop (i := 7) (j := 6) sc_side_of.nd)
  (dss_one (ds_for (di_seq (de_dget hr (de_var 4) (de_var 7))) (dg_name sc_side_of.nd (i := 8)) (dss_one (ds_if (dt_thaw (dt_of (dw_and (dt_dnotin hr (de_var 8) (de_var 5)) (dw_and1 (dt_cmp (bs_nin hr) (de_var 8) (de_var 3)))))) (dss_cons (ds_dput 5 hr de_bl (de_var 8))
  (dss_one (ds_app 6 (de_var 8)))) dss_nil)) (passes_of rfl)))) (passes_of rfl))
  (dss_one (ds_ret (de_tuple H.bl.tuple (da_cons (de_new (dn_sorted H.bl.sorted (da_cons (de_new (dn_listK H.bl.list (da_cons (de_var 5) da_nil))) da_nil))) da_nil))))))))
theorem sc_are_apart : FnScope ["web", "one", "other", "given", "side", "place"] ["web", "one", "other", "given"] (defScope st_are_apart) := ⟨rfl, rfl, rfl, by decide +kernel, rfl, by decide +kernel, by decide +kernel⟩
noncomputable def S_are_apart : S :=
  (sSeq (sSet 4 (dCall m_side_of [(dVar 0), (dVar 1), (dVar 2), (dVar 3)]))
  (sRet (dNot (dBlt anyD [(dNew (lcM [5] (nSeq (dVar 2)) (gNm 5) tYes (dBin inD (dVar 5) (dVar 4))))]))))
noncomputable def m_are_apart : List D → M D := runS (["web", "one", "other", "given", "side", "place"] : List Str) S_are_apart
theorem h_are_apart (H : Hd K mg) : Has P w K mg base 5 "are_apart" 4 m_are_apart := by
  obtain ⟨fd, F⟩ := H.says.2.def_ 25 (d := d_are_apart) rfl
  refine def_has (st := st_are_apart) (k := 4) F sc_are_apart H.g_are_apart (F.bindsN fun _ _ _ _ _ _ us hl => match us, hl with | [_, _, _, _], _ => rfl) fun cdv A outer s H0 E p hr => ?_
  exact (dss_cons (ds_set 4 sc_are_apart.nd (de_call (h_side_of H) (hr.mono (by decide)) (da_cons (de_var 0) (da_cons (de_var 1) (da_cons (de_var 2) (da_cons (de_var 3) da_nil))))))
  (dss_one (ds_ret (de_not (de_any H.bl.any (da_cons (de_new (dn_lc [("place", 5)] sc_are_apart.nd (di_seq (de_var 2)) (fun _ _ _ _ _ => (dg_name sc_are_apart.nd (i := 5))) (fun _ _ _ _ _ => dts_nil) (fun _ _ _ _ _ => (de_cmp (bs_in hr) (de_var 5) (de_var 4))))) da_nil))))))
theorem sc_all_apart : FnScope ["web", "found", "one", "other", "rest", "place", "lot"] ["web"] (defScope st_all_apart) := ⟨rfl, rfl, rfl, by decide +kernel, rfl, by decide +kernel, by decide +kernel⟩
noncomputable def S_all_apart : S :=
  (sSeq (sOwnS 1 (nLst []))
  (sSeq (sFor (nRng1 (dAttr CS "size" (dVar 0))) (gNm 2) (sFor (nRng2 (dBin addD (dVar 2) (dC (.int 1))) (dAttr CS "size" (dVar 0))) (gNm 3) (sSeq (sSet 4 (dNew (lcM [5] (nRng1 (dAttr CS "size" (dVar 0))) (gNm 5) (tCmp ninD (dVar 5) (dTup [(dVar 2), (dVar 3)])) (dVar 5))))
  (sExt 1 (lcM [6] (nSeq (dCall m_lots_of [(dVar 4)])) (gNm 6) (tVal (dCall m_are_apart [(dVar 0), (dTup [(dVar 2)]), (dTup [(dVar 3)]), (dVar 6)])) (dTup [(dVar 2), (dVar 3), (dVar 6)]))))))
  (sRet (dBlt tupleD [(dVar 1)]))))
noncomputable def m_all_apart : List D → M D := runS (["web", "found", "one", "other", "rest", "place", "lot"] : List Str) S_all_apart
theorem h_all_apart (H : Hd K mg) : Has P w K mg base 6 "all_apart" 1 m_all_apart := by
  obtain ⟨fd, F⟩ := H.says.2.def_ 26 (d := d_all_apart) rfl
  refine def_has (st := st_all_apart) (k := 5) F sc_all_apart H.g_all_apart (F.bindsN fun _ _ _ _ _ _ us hl => match us, hl with | [_], _ => rfl) fun cdv A outer s H0 E p hr => ?_
  exact (dss_cons (ds_own 1 sc_all_apart.nd (dn_lst da_nil))
  (dss_cons (ds_for (di_rng1 H.bl.range (da_cons (de_attr H.kl (de_var 0)) da_nil)) (dg_name sc_all_apart.nd (i := 2)) (dss_one (ds_for (di_rng2 H.bl.range (da_cons (de_bin bs_add (de_var 2) de_int) (da_cons (de_attr H.kl (de_var 0)) da_nil))) (dg_name sc_all_apart.nd (i := 3)) (dss_cons (ds_lcD 4 [("place", 5)] sc_all_apart.nd (di_rng1 H.bl.range (da_cons (de_attr H.kl (de_var 0)) da_nil)) (fun _ _ _ _ _ => (dg_name sc_all_apart.nd (i := 5))) (fun _ _ _ _ _ => (dts_one (dt_cmp (bs_nin hr) (de_var 5) (de_tup (da_cons (de_var 2) (da_cons (de_var 3) da_nil)))))) (fun _ _ _ _ _ => (de_var 5)))
  (dss_one (ds_ext 1 (dn_lc [("lot", 6)] sc_all_apart.nd (di_seq (de_call (h_lots_of H) (hr.mono (by decide)) (da_cons (de_var 4) da_nil))) (fun _ _ _ _ _ => (dg_name sc_all_apart.nd (i := 6))) (fun _ _ _ _ _ => (dts_one (dt_val (de_call (h_are_apart H) (hr.mono (by decide)) (da_cons (de_var 0) (da_cons (de_tup (da_cons (de_var 2) da_nil)) (da_cons (de_tup (da_cons (de_var 3) da_nil)) (da_cons (de_var 6) da_nil)))))))) (fun _ _ _ _ _ => (de_tup (da_cons (de_var 2) (da_cons (de_var 3) (da_cons (de_var 6) da_nil))))))))) (passes_of rfl))) (passes_of rfl))
  (dss_one (ds_ret (de_tuple H.bl.tuple (da_cons (de_var 1) da_nil))))))
theorem sc__law_moved : FnScope ["lot", "places", "i"] ["lot", "places"] (defScope st__law_moved) := ⟨rfl, rfl, rfl, by decide +kernel, rfl, by decide +kernel, by decide +kernel⟩
noncomputable def S__law_moved : S :=
  (sRet (dBlt tupleD [(dNew (lcM [2] (nSeq (dVar 0)) (gNm 2) tYes (dIndexL (dVar 1) (dVar 2))))]))
noncomputable def m__law_moved : List D → M D := runS (["lot", "places", "i"] : List Str) S__law_moved
theorem h__law_moved (H : Hd K mg) : Has P w K mg base 1 "_law_moved" 2 m__law_moved := by
  obtain ⟨fd, F⟩ := H.says.2.def_ 27 (d := d__law_moved) rfl
  refine def_has (st := st__law_moved) (k := 0) F sc__law_moved H.g__law_moved (F.bindsN fun _ _ _ _ _ _ us hl => match us, hl with | [_, _], _ => rfl) fun cdv A outer s H0 E p hr => ?_
  exact (dss_one (ds_ret (de_tuple H.bl.tuple (da_cons (de_new (dn_lc [("i", 2)] sc__law_moved.nd (di_seq (de_var 0)) (fun _ _ _ _ _ => (dg_name sc__law_moved.nd (i := 2))) (fun _ _ _ _ _ => dts_nil) (fun _ _ _ _ _ => (de_indexL (de_var 1) (de_var 2))))) da_nil))))
theorem sc__law_three_lots : FnScope ["pen", "size", "order", "cut", "more", "rest", "i"] ["pen", "size"] (defScope st__law_three_lots) := ⟨rfl, rfl, rfl, by decide +kernel, rfl, by decide +kernel, by decide +kernel⟩
noncomputable def S__law_three_lots : S :=
  (sSeq (sSet 2 (dCall m__law_shuffled [(dVar 0), (dNew (nRng1 (dVar 1)))]))
  (sSeq (sSet 3 (dBin addD (dC (.int 1)) (dCall m__law_draw [(dVar 0), (dBlt max2D [(dC (.int 1)), (dBlt min2D [(dC (.int 2)), (dBin (iiD fun i j => .int (i - j)) (dVar 1) (dC (.int 1)))])])])))
  (sSeq (sSet 4 (dIf (tCmp (odD .lt) (dBin addD (dVar 3) (dC (.int 1))) (dVar 1)) (dBin addD (dBin addD (dVar 3) (dC (.int 1))) (dCall m__law_draw [(dVar 0), (dC (.int 2))])) (dBin addD (dVar 3) (dC (.int 1)))))
  (sSeq (sSet 5 (dNew (lcM [6] (nSeq (dSl (dVar 2) (oS (dVar 4)) oN)) (gNm 6) (tCmp eqD (dCall m__law_draw [(dVar 0), (dC (.int 2))]) (dC (.int 0))) (dVar 6))))
  (sRet (dTup [(dBlt tupleD [(dNew (nSorted [(dSl (dVar 2) oN (oS (dVar 3)))]))]), (dBlt tupleD [(dNew (nSorted [(dSl (dVar 2) (oS (dVar 3)) (oS (dVar 4)))]))]), (dBlt tupleD [(dNew (nSorted [(dVar 5)]))])]))))))
noncomputable def m__law_three_lots : List D → M D := runS (["pen", "size", "order", "cut", "more", "rest", "i"] : List Str) S__law_three_lots
theorem h__law_three_lots (H : Hd K mg) : Has P w K mg base 3 "_law_three_lots" 2 m__law_three_lots := by
  obtain ⟨fd, F⟩ := H.says.2.def_ 28 (d := d__law_three_lots) rfl
  refine def_has (st := st__law_three_lots) (k := 2) F sc__law_three_lots H.g__law_three_lots (F.bindsN fun _ _ _ _ _ _ us hl => match us, hl with | [_, _], _ => rfl) fun cdv A outer s H0 E p hr => ?_
  exact (dss_cons (ds_set 2 sc__law_three_lots.nd (de_call (h__law_shuffled H) (hr.mono (by decide)) (da_cons (de_var 0) (da_cons (de_new (dn_rng1 H.bl.range H.bl.list (de_var 1))) da_nil))))
  (dss_cons (ds_set 3 sc__law_three_lots.nd (de_bin bs_add de_int (de_call (h__law_draw H) (hr.mono (by decide)) (da_cons (de_var 0) (da_cons (de_max2 H.bl.max (da_cons de_int (da_cons (de_min2 H.bl.min (da_cons de_int (da_cons (de_bin bs_sub (de_var 1) de_int) da_nil))) da_nil))) da_nil)))))
  (dss_cons (ds_set 4 sc__law_three_lots.nd (de_if (dt_cmp (bs_lt hr) (de_bin bs_add (de_var 3) de_int) (de_var 1)) (de_bin bs_add (de_bin bs_add (de_var 3) de_int) (de_call (h__law_draw H) (hr.mono (by decide)) (da_cons (de_var 0) (da_cons de_int da_nil)))) (de_bin bs_add (de_var 3) de_int)))
  (dss_cons (ds_lcD 5 [("i", 6)] sc__law_three_lots.nd (di_seq (de_slice (de_var 2) (do_some (de_var 4)) do_none)) (fun _ _ _ _ _ => (dg_name sc__law_three_lots.nd (i := 6))) (fun _ _ _ _ _ => (dts_one (dt_cmp (bs_eq hr) (de_call (h__law_draw H) (hr.mono (by decide)) (da_cons (de_var 0) (da_cons de_int da_nil))) de_int))) (fun _ _ _ _ _ => (de_var 6)))
  (dss_one (ds_ret (de_tup (da_cons (de_tuple H.bl.tuple (da_cons (de_new (dn_sorted H.bl.sorted (da_cons (de_slice (de_var 2) do_none (do_some (de_var 3))) da_nil))) da_nil)) (da_cons (de_tuple H.bl.tuple (da_cons (de_new (dn_sorted H.bl.sorted (da_cons (de_slice (de_var 2) (do_some (de_var 3)) (do_some (de_var 4))) da_nil))) da_nil)) (da_cons (de_tuple H.bl.tuple (da_cons (de_new (dn_sorted H.bl.sorted (da_cons (de_var 5) da_nil))) da_nil)) da_nil))))))))))
theorem sc_lot_told : FnScope ["what", "many", "lot"] ["what", "many", "lot"] (defScope st_lot_told) := ⟨rfl, rfl, rfl, by decide +kernel, rfl, by decide +kernel, by decide +kernel⟩
noncomputable def S_lot_told : S :=
  (sSeq (sIf (tNot (tVal (dCall m_is_lot_of [(dVar 1), (dVar 2)]))) sBad sNil)
  (sRet (dBlt tupleD [(dVar 2)])))
noncomputable def m_lot_told : List D → M D := runS (["what", "many", "lot"] : List Str) S_lot_told
theorem h_lot_told (H : Hd K mg) : Has P w K mg base 4 "lot_told" 3 m_lot_told := by
  obtain ⟨fd, F⟩ := H.says.2.def_ 29 (d := d_lot_told) rfl
  refine def_has (st := st_lot_told) (k := 3) F sc_lot_told H.g_lot_told (F.bindsN fun _ _ _ _ _ _ us hl => match us, hl with | [_, _, _], _ => rfl) fun cdv A outer s H0 E p hr => ?_
  exact (dss_cons (ds_if (dt_not (dt_val (de_call (h_is_lot_of H) (hr.mono (by decide)) (da_cons (de_var 1) (da_cons (de_var 2) da_nil))))) (dss_one ds_never) dss_nil)
  (dss_one (ds_ret (de_tuple H.bl.tuple (da_cons (de_var 2) da_nil)))))
theorem sc_ahead_of : FnScope ["web", "places"] ["web", "places"] (defScope st_ahead_of) := ⟨rfl, rfl, rfl, by decide +kernel, rfl, by decide +kernel, by decide +kernel⟩
noncomputable def S_ahead_of : S :=
  (sRet (dCall m_ahead_in [(dVar 0), (dCall m_lot_told [(dC (.str "places")), (dAttr CS "size" (dVar 0)), (dVar 1)])]))
noncomputable def m_ahead_of : List D → M D := runS (["web", "places"] : List Str) S_ahead_of
theorem h_ahead_of (H : Hd K mg) : Has P w K mg base 5 "ahead_of" 2 m_ahead_of := by
  obtain ⟨fd, F⟩ := H.says.2.def_ 30 (d := d_ahead_of) rfl
  refine def_has (st := st_ahead_of) (k := 4) F sc_ahead_of H.g_ahead_of (F.bindsN fun _ _ _ _ _ _ us hl => match us, hl with | [_, _], _ => rfl) fun cdv A outer s H0 E p hr => ?_
  exact (dss_one (ds_ret (de_call (h_ahead_in H) (hr.mono (by decide)) (da_cons (de_var 0) (da_cons (de_call (h_lot_told H) (hr.mono (by decide)) (da_cons (de_str (by decide +kernel)) (da_cons (de_attr H.kl (de_var 0)) (da_cons (de_var 1) da_nil)))) da_nil)))))
theorem sc_some_lot_told : FnScope ["what", "many", "lot"] ["what", "many", "lot"] (defScope st_some_lot_told) := ⟨rfl, rfl, rfl, by decide +kernel, rfl, by decide +kernel, by decide +kernel⟩
noncomputable def S_some_lot_told : S :=
  (sSeq (sIf (tOr (tNot (tVal (dCall m_is_lot_of [(dVar 1), (dVar 2)]))) (tCmp eqD (dBlt lenD [(dVar 2)]) (dC (.int 0)))) sBad sNil)
  (sRet (dBlt tupleD [(dVar 2)])))
noncomputable def m_some_lot_told : List D → M D := runS (["what", "many", "lot"] : List Str) S_some_lot_told
theorem h_some_lot_told (H : Hd K mg) : Has P w K mg base 4 "some_lot_told" 3 m_some_lot_told := by
  obtain ⟨fd, F⟩ := H.says.2.def_ 31 (d := d_some_lot_told) rfl
  refine def_has (st := st_some_lot_told) (k := 3) F sc_some_lot_told H.g_some_lot_told (F.bindsN fun _ _ _ _ _ _ us hl => match us, hl with | [_, _, _], _ => rfl) fun cdv A outer s H0 E p hr => ?_
  exact (dss_cons (ds_if (dt_of (dw_or (dt_not (dt_val (de_call (h_is_lot_of H) (hr.mono (by decide)) (da_cons (de_var 1) (da_cons (de_var 2) da_nil))))) (dw_or1 (dt_cmp (bs_eq hr) (de_len H.bl.len (da_cons (de_var 2) da_nil)) de_int)))) (dss_one ds_never) dss_nil)
  (dss_one (ds_ret (de_tuple H.bl.tuple (da_cons (de_var 2) da_nil)))))
theorem sc_part_of : FnScope ["web", "places"] ["web", "places"] (defScope st_part_of) := ⟨rfl, rfl, rfl, by decide +kernel, rfl, by decide +kernel, by decide +kernel⟩
noncomputable def S_part_of : S :=
  (sRet (dCall m_part_in [(dVar 0), (dCall m_some_lot_told [(dC (.str "places")), (dAttr CS "size" (dVar 0)), (dVar 1)])]))
noncomputable def m_part_of : List D → M D := runS (["web", "places"] : List Str) S_part_of
theorem h_part_of (H : Hd K mg) : Has P w K mg base 8 "part_of" 2 m_part_of := by
  obtain ⟨fd, F⟩ := H.says.2.def_ 32 (d := d_part_of) rfl
  refine def_has (st := st_part_of) (k := 7) F sc_part_of H.g_part_of (F.bindsN fun _ _ _ _ _ _ us hl => match us, hl with | [_, _], _ => rfl) fun cdv A outer s H0 E p hr => ?_
  exact (dss_one (ds_ret (de_call (h_part_in H) (hr.mono (by decide)) (da_cons (de_var 0) (da_cons (de_call (h_some_lot_told H) (hr.mono (by decide)) (da_cons (de_str (by decide +kernel)) (da_cons (de_attr H.kl (de_var 0)) (da_cons (de_var 1) da_nil)))) da_nil)))))
theorem sc_statement_told : FnScope ["web", "one", "other", "given", "first", "second", "third", "left", "right", "place"] ["web", "one", "other", "given"] (defScope st_statement_told) := ⟨rfl, rfl, rfl, by decide +kernel, rfl, by decide +kernel, by decide +kernel⟩
noncomputable def S_statement_told : S :=
  (sSeq (sSet 4 (dCall m_some_lot_told [(dC (.str "one")), (dAttr CS "size" (dVar 0)), (dVar 1)]))
  (sSeq (sSet 5 (dCall m_some_lot_told [(dC (.str "other")), (dAttr CS "size" (dVar 0)), (dVar 2)]))
  (sSeq (sSet 6 (dCall m_lot_told [(dC (.str "given")), (dAttr CS "size" (dVar 0)), (dVar 3)]))
  (sSeq (sFor (nSeq (dTup [(dTup [(dVar 4), (dVar 5)]), (dTup [(dVar 4), (dVar 6)]), (dTup [(dVar 5), (dVar 6)])])) (unpackD [gNm 7, gNm 8]) (sIf (tVal (dBlt anyD [(dNew (lcM [9] (nSeq (dVar 7)) (gNm 9) tYes (dBin inD (dVar 9) (dVar 8))))])) sBad sNil))
  (sRet (dTup [(dVar 4), (dVar 5), (dVar 6)]))))))
noncomputable def m_statement_told : List D → M D := runS (["web", "one", "other", "given", "first", "second", "third", "left", "right", "place"] : List Str) S_statement_told
theorem h_statement_told (H : Hd K mg) : Has P w K mg base 5 "statement_told" 4 m_statement_told := by
  obtain ⟨fd, F⟩ := H.says.2.def_ 33 (d := d_statement_told) rfl
  refine def_has (st := st_statement_told) (k := 4) F sc_statement_told H.g_statement_told (F.bindsN fun _ _ _ _ _ _ us hl => match us, hl with | [_, _, _, _], _ => rfl) fun cdv A outer s H0 E p hr => ?_
  exact (dss_cons (ds_set 4 sc_statement_told.nd (de_call (h_some_lot_told H) (hr.mono (by decide)) (da_cons (de_str (by decide +kernel)) (da_cons (de_attr H.kl (de_var 0)) (da_cons (de_var 1) da_nil)))))
  (dss_cons (ds_set 5 sc_statement_told.nd (de_call (h_some_lot_told H) (hr.mono (by decide)) (da_cons (de_str (by decide +kernel)) (da_cons (de_attr H.kl (de_var 0)) (da_cons (de_var 2) da_nil)))))
  (dss_cons (ds_set 6 sc_statement_told.nd (de_call (h_lot_told H) (hr.mono (by decide)) (da_cons (de_str (by decide +kernel)) (da_cons (de_attr H.kl (de_var 0)) (da_cons (de_var 3) da_nil)))))
  (dss_cons (ds_for (di_seq (de_tup (da_cons (de_tup (da_cons (de_var 4) (da_cons (de_var 5) da_nil))) (da_cons (de_tup (da_cons (de_var 4) (da_cons (de_var 6) da_nil))) (da_cons (de_tup (da_cons (de_var 5) (da_cons (de_var 6) da_nil))) da_nil))))) (dg_tup (dgs_cons sc_statement_told.nd (i := 7) (dgs_cons sc_statement_told.nd (i := 8) dgs_nil))) (dss_one (ds_if (dt_val (de_any H.bl.any (da_cons (de_new (dn_lc [("place", 9)] sc_statement_told.nd (di_seq (de_var 7)) (fun _ _ _ _ _ => (dg_name sc_statement_told.nd (i := 9))) (fun _ _ _ _ _ => dts_nil) (fun _ _ _ _ _ => (de_cmp (bs_in hr) (de_var 9) (de_var 8))))) da_nil))) (dss_one ds_never) dss_nil)) (passes_of rfl))
  (dss_one (ds_ret (de_tup (da_cons (de_var 4) (da_cons (de_var 5) (da_cons (de_var 6) da_nil))))))))))
theorem sc_apart : FnScope ["web", "one", "other", "given", "first", "second", "third"] ["web", "one", "other", "given"] (defScope st_apart) := ⟨rfl, rfl, rfl, by decide +kernel, rfl, by decide +kernel, by decide +kernel⟩
noncomputable def S_apart : S :=
  (sSeq (sAsg (unpackD [gNm 4, gNm 5, gNm 6]) (dCall m_statement_told [(dVar 0), (dVar 1), (dVar 2), (dVar 3)]))
  (sRet (dCall m_are_apart [(dVar 0), (dVar 4), (dVar 5), (dVar 6)])))
noncomputable def m_apart : List D → M D := runS (["web", "one", "other", "given", "first", "second", "third"] : List Str) S_apart
theorem h_apart (H : Hd K mg) : Has P w K mg base 6 "apart" 4 m_apart := by
  obtain ⟨fd, F⟩ := H.says.2.def_ 34 (d := d_apart) rfl
  refine def_has (st := st_apart) (k := 5) F sc_apart H.g_apart (F.bindsN fun _ _ _ _ _ _ us hl => match us, hl with | [_, _, _, _], _ => rfl) fun cdv A outer s H0 E p hr => ?_
  exact (dss_cons (ds_asg (de_call (h_statement_told H) (hr.mono (by decide)) (da_cons (de_var 0) (da_cons (de_var 1) (da_cons (de_var 2) (da_cons (de_var 3) da_nil))))) (dg_tup (dgs_cons sc_apart.nd (i := 4) (dgs_cons sc_apart.nd (i := 5) (dgs_cons sc_apart.nd (i := 6) dgs_nil)))))
  (dss_one (ds_ret (de_call (h_are_apart H) (hr.mono (by decide)) (da_cons (de_var 0) (da_cons (de_var 4) (da_cons (de_var 5) (da_cons (de_var 6) da_nil))))))))
theorem sc_arrow_told : FnScope ["web", "arrow"] ["web", "arrow"] (defScope st_arrow_told) := ⟨rfl, rfl, rfl, by decide +kernel, rfl, by decide +kernel, by decide +kernel⟩
noncomputable def S_arrow_told : S :=
  (sSeq (sIf (tOr (tNot (tVal (dCall m_is_arrow [(dAttr CS "size" (dVar 0)), (dVar 1)]))) (tCmp ninD (dBlt tupleD [(dVar 1)]) (dAttr CS "arrows" (dVar 0)))) sBad sNil)
  (sRet (dBlt tupleD [(dVar 1)])))
noncomputable def m_arrow_told : List D → M D := runS (["web", "arrow"] : List Str) S_arrow_told
theorem h_arrow_told (H : Hd K mg) : Has P w K mg base 4 "arrow_told" 2 m_arrow_told := by
  obtain ⟨fd, F⟩ := H.says.2.def_ 35 (d := d_arrow_told) rfl
  refine def_has (st := st_arrow_told) (k := 3) F sc_arrow_told H.g_arrow_told (F.bindsN fun _ _ _ _ _ _ us hl => match us, hl with | [_, _], _ => rfl) fun cdv A outer s H0 E p hr => ?_
  exact (dss_cons (ds_if (dt_of (dw_or (dt_not (dt_val (de_call (h_is_arrow H) (hr.mono (by decide)) (da_cons (de_attr H.kl (de_var 0)) (da_cons (de_var 1) da_nil))))) (dw_or1 (dt_cmp (bs_nin hr) (de_tuple H.bl.tuple (da_cons (de_var 1) da_nil)) (de_attr H.kl (de_var 0)))))) (dss_one ds_never) dss_nil)
  (dss_one (ds_ret (de_tuple H.bl.tuple (da_cons (de_var 1) da_nil)))))
theorem sc_without_arrow : FnScope ["web", "arrow", "gone", "other"] ["web", "arrow"] (defScope st_without_arrow) := ⟨rfl, rfl, rfl, by decide +kernel, rfl, by decide +kernel, by decide +kernel⟩
noncomputable def S_without_arrow : S :=
  (sSeq (sSet 2 (dCall m_arrow_told [(dVar 0), (dVar 1)]))
  (sRet (dCall m_Web [(dAttr CS "size" (dVar 0)), (dNew (lcM [3] (nSeq (dAttr CS "arrows" (dVar 0))) (gNm 3) (tCmp neD (dVar 3) (dVar 2)) (dVar 3)))])))
noncomputable def m_without_arrow : List D → M D := runS (["web", "arrow", "gone", "other"] : List Str) S_without_arrow
theorem h_without_arrow (H : Hd K mg) : Has P w K mg base 7 "without_arrow" 2 m_without_arrow := by
  obtain ⟨fd, F⟩ := H.says.2.def_ 36 (d := d_without_arrow) rfl
  refine def_has (st := st_without_arrow) (k := 6) F sc_without_arrow H.g_without_arrow (F.bindsN fun _ _ _ _ _ _ us hl => match us, hl with | [_, _], _ => rfl) fun cdv A outer s H0 E p hr => ?_
  exact (dss_cons (ds_set 2 sc_without_arrow.nd (de_call (h_arrow_told H) (hr.mono (by decide)) (da_cons (de_var 0) (da_cons (de_var 1) da_nil))))
  (dss_one (ds_ret (de_make (h_Web H) (hr.mono (by decide)) (da_cons (de_attr H.kl (de_var 0)) (da_cons (de_new (dn_lc [("other", 3)] sc_without_arrow.nd (di_seq (de_attr H.kl (de_var 0))) (fun _ _ _ _ _ => (dg_name sc_without_arrow.nd (i := 3))) (fun _ _ _ _ _ => (dts_one (dt_cmp (bs_ne hr) (de_var 3) (de_var 2)))) (fun _ _ _ _ _ => (de_var 3)))) da_nil))))))
theorem sc_is_tie : FnScope ["web", "one", "other"] ["web", "one", "other"] (defScope st_is_tie) := ⟨rfl, rfl, rfl, by decide +kernel, rfl, by decide +kernel, by decide +kernel⟩
noncomputable def S_is_tie : S :=
  (sRet (dOr (dBin inD (dTup [(dVar 1), (dVar 2)]) (dAttr CS "arrows" (dVar 0))) (dBin inD (dTup [(dVar 2), (dVar 1)]) (dAttr CS "arrows" (dVar 0)))))
noncomputable def m_is_tie : List D → M D := runS (["web", "one", "other"] : List Str) S_is_tie
theorem h_is_tie (H : Hd K mg) : Has P w K mg base 1 "is_tie" 3 m_is_tie := by
  obtain ⟨fd, F⟩ := H.says.2.def_ 37 (d := d_is_tie) rfl
  refine def_has (st := st_is_tie) (k := 0) F sc_is_tie H.g_is_tie (F.bindsN fun _ _ _ _ _ _ us hl => match us, hl with | [_, _, _], _ => rfl) fun cdv A outer s H0 E p hr => ?_
  exact (dss_one (ds_ret (de_or (de_cmp (bs_in hr) (de_tup (da_cons (de_var 1) (da_cons (de_var 2) da_nil))) (de_attr H.kl (de_var 0))) (de_one (de_cmp (bs_in hr) (de_tup (da_cons (de_var 2) (da_cons (de_var 1) da_nil))) (de_attr H.kl (de_var 0)))))))
theorem sc_with_arrow : FnScope ["web", "arrow"] ["web", "arrow"] (defScope st_with_arrow) := ⟨rfl, rfl, rfl, by decide +kernel, rfl, by decide +kernel, by decide +kernel⟩
noncomputable def S_with_arrow : S :=
  (sSeq (sIf (tOr (tNot (tVal (dCall m_is_arrow [(dAttr CS "size" (dVar 0)), (dVar 1)]))) (tVal (dCall m_is_tie [(dVar 0), (dBin ixD (dVar 1) (dC (.int 0))), (dBin ixD (dVar 1) (dC (.int 1)))]))) sBad sNil)
  (sRet (dCall m_Web [(dAttr CS "size" (dVar 0)), (dNew (nSorted [(dBin addD (dNew (nList [(dAttr CS "arrows" (dVar 0))])) (dNew (nLst [(dBlt tupleD [(dVar 1)])])))]))])))
noncomputable def m_with_arrow : List D → M D := runS (["web", "arrow"] : List Str) S_with_arrow
theorem h_with_arrow (H : Hd K mg) : Has P w K mg base 7 "with_arrow" 2 m_with_arrow := by
  obtain ⟨fd, F⟩ := H.says.2.def_ 38 (d := d_with_arrow) rfl
  refine def_has (st := st_with_arrow) (k := 6) F sc_with_arrow H.g_with_arrow (F.bindsN fun _ _ _ _ _ _ us hl => match us, hl with | [_, _], _ => rfl) fun cdv A outer s H0 E p hr => ?_
  exact (dss_cons (ds_if (dt_of (dw_or (dt_not (dt_val (de_call (h_is_arrow H) (hr.mono (by decide)) (da_cons (de_attr H.kl (de_var 0)) (da_cons (de_var 1) da_nil))))) (dw_or1 (dt_val (de_call (h_is_tie H) (hr.mono (by decide)) (da_cons (de_var 0) (da_cons (de_ix is_seq (de_var 1) de_int) (da_cons (de_ix is_seq (de_var 1) de_int) da_nil)))))))) (dss_one ds_never) dss_nil)
  (dss_one (ds_ret (de_make (h_Web H) (hr.mono (by decide)) (da_cons (de_attr H.kl (de_var 0)) (da_cons (de_new (dn_sorted H.bl.sorted (da_cons (de_bin bs_add (de_new (dn_list H.bl.list (da_cons (de_attr H.kl (de_var 0)) da_nil))) (de_new (dn_lst (da_cons (de_tuple H.bl.tuple (da_cons (de_var 1) da_nil)) da_nil)))) da_nil))) da_nil))))))
theorem sc_eq_Web : FnScope ["self", "other"] ["self", "other"] (defScope st_eq_Web) := ⟨rfl, rfl, rfl, by decide +kernel, rfl, by decide +kernel, by decide +kernel⟩
noncomputable def S_eq_Web : S :=
  (sRet (dAnd (dIsi CS TS [.own "Web"] (dVar 1)) (dAnd (dBin eqD (dAttr CS "size" (dVar 0)) (dAttr CS "size" (dVar 1))) (dBin eqD (dAttr CS "arrows" (dVar 0)) (dAttr CS "arrows" (dVar 1))))))
noncomputable def m_eq_Web : List D → M D := runS (["self", "other"] : List Str) S_eq_Web
theorem h_eq_Web (H : Hd K mg) : HasM P w K mg base 1 "Web" "__eq__" 2 m_eq_Web := by
  obtain ⟨fd, F⟩ := H.says.2.def_ 39 (d := d_eq_Web) rfl
  refine meth_has (st := st_eq_Web) (k := 0) F sc_eq_Web H.e_Web.at_ H.e_Web.fn (F.bindsN fun _ _ _ _ _ _ us hl => match us, hl with | [_, _], _ => rfl) fun cdv A outer s H0 E p hr => ?_
  exact (dss_one (ds_ret (de_and (de_isi1 H.kt H.bl.isinstance (de_var 1) (pe_own H.o_Web)) (de_and (de_cmp (bs_eq hr) (de_attr H.kl (de_var 0)) (de_attr H.kl (de_var 1))) (de_one (de_cmp (bs_eq hr) (de_attr H.kl (de_var 0)) (de_attr H.kl (de_var 1))))))))
noncomputable def tblE : List (Str × (List D → M D)) := [("Web", m_eq_Web)]
theorem tbE (H : Hd K mg) : EqTb P w K mg base 1 CS tblE := by
  refine ⟨fun c m e => ?_⟩
  unfold tblE at e
  rw [List.lookup_cons] at e
  by_cases q : (c == "Web") = true
  · rw [q] at e
    cases e
    rw [show c = "Web" from by simpa using q]
    exact ⟨(h_eq_Web H).mono (by decide), eqKit_of (es := ES) H.says.1 H.kt (by decide) (by decide)⟩
  · rw [show (c == "Web") = false from by simpa using q] at e
    simp only at e
    cases e
theorem sc_law : FnScope ["script", "pen", "size", "arrows", "web", "last", "gone", "lap", "rest", "less", "due", "field", "part", "here", "i", "one", "other", "lot", "arrow", "thin", "j"] ["script"] (defScope st_law) := ⟨rfl, rfl, rfl, by decide +kernel, rfl, by decide +kernel, by decide +kernel⟩
abbrev N_law : List Str := (["script", "pen", "size", "arrows", "web", "last", "gone", "lap", "rest", "less", "due", "field", "part", "here", "i", "one", "other", "lot", "arrow", "thin", "j"] : List Str)
noncomputable def S_law : S :=
  (sSeq (sSet 2 (dCall m__law_pick [(dVar 1), (dNew (nLst [(dC (.int 4)), (dC (.int 3)), (dC (.int 5)), (dC (.int 6))]))]))
  (sSeq (sSet 3 (dCall m__law_web_arrows [(dVar 1), (dVar 2)]))
  (sSeq (sSet 4 (dCall m_Web [(dVar 2), (dVar 3)]))
  (sSeq (sSet 5 (dNew (lcM [14] (nRng1 (dVar 2)) (gNm 14) (tCmp eqD (dCall m_targets [(dVar 4), (dVar 14)]) (dTup [])) (dVar 14))))
  (sSeq (sSet 6 (dCall m__law_pick [(dVar 1), (dVar 5)]))
  (sSeq (sAsg (unpackD [gNm 8, gNm 9]) (dTup [(dNew (lcM [14] (nRng1 (dVar 2)) (gNm 14) (tCmp neD (dVar 14) (dVar 6)) (dVar 14))), (dCall m_struck [(dVar 4), (dTup [(dVar 6)])])]))
  (sSeq (sIf (tCmp (odD .lt) (dVar 2) (dC (.int 6))) (sSeq (sSet 10 (dNew (lcM [14, 20, 17] (nSeq (dCall m_all_apart [(dVar 4)])) (unpackD [gNm 14, gNm 20, gNm 17]) (tAnd (tCmp ninD (dVar 6) (dTup [(dVar 14), (dVar 20)])) (tCmp ninD (dVar 6) (dVar 17))) (dTup [(dIndexL (dVar 8) (dVar 14)), (dIndexL (dVar 8) (dVar 20)), (dCall m__law_moved [(dVar 17), (dVar 8)])]))))
  (sIf (tCmp neD (dCall m_all_apart [(dVar 9)]) (dBlt tupleD [(dNew (nSort3 [(dVar 10)]))])) (sRet (dC (.bl false))) sNil)) sNil)
  (sSeq (sFor (nRng1 (dC (.int 6))) (gNm 7) (sSeq (sAsg (unpackD [gNm 15, gNm 16, gNm 17]) (dCall m__law_three_lots [(dVar 1), (dVar 2)]))
  (sSeq (sSet 11 (dCall m_ahead_of [(dVar 4), (dBlt tupleD [(dNew (nSorted [(dBin addD (dBin addD (dVar 15) (dVar 16)) (dVar 17))]))])]))
  (sSeq (sSet 12 (dCall m_part_of [(dVar 4), (dVar 11)]))
  (sSeq (sSet 13 (dCall m_apart [(dVar 4), (dVar 15), (dVar 16), (dVar 17)]))
  (sSeq (sIf (tCmp neD (dCall m_apart [(dVar 12), (dCall m__law_moved [(dVar 15), (dNew (nList [(dVar 11)]))]), (dCall m__law_moved [(dVar 16), (dNew (nList [(dVar 11)]))]), (dCall m__law_moved [(dVar 17), (dNew (nList [(dVar 11)]))])]) (dVar 13)) (sRet (dC (.bl false))) sNil)
  (sIf (tCmp neD (dVar 3) (dTup [])) (sSeq (sSet 18 (dCall m__law_pick [(dVar 1), (dNew (nList [(dVar 3)]))]))
  (sSeq (sSet 19 (dCall m_without_arrow [(dVar 4), (dVar 18)]))
  (sSeq (sIf (tAnd (tVal (dVar 13)) (tNot (tVal (dCall m_apart [(dVar 19), (dVar 15), (dVar 16), (dVar 17)])))) (sRet (dC (.bl false))) sNil)
  (sIf (tEqI tblE CS true (dCall m_with_arrow [(dVar 19), (dVar 18)]) (dVar 4)) (sRet (dC (.bl false))) sNil)))) sNil)))))))
  (sRet (dC (.bl true)))))))))))
theorem h_law (H : Hd K mg) (main : ∀ ns : List Int, ns.length ≤ 63 → wpM (runL (["script", "pen", "size", "arrows", "web", "last", "gone", "lap", "rest", "less", "due", "field", "part", "here", "i", "one", "other", "lot", "arrow", "thin", "j"] : List Str) S_law) (pen0 ns) (fun d _ => d = .bl true) fun _ _ _ => False) : ∃ fd, (∀ (s : Shared) (u : Value), BindsTo s fd ⟨[u], []⟩ [("script", u)]) ∧ ∀ base : Heap, FnOk P w K mg base (L2.CX P w) 10 (He.ga K "law") fd ["script"] (spLaw K) := by
  obtain ⟨fd, F⟩ := H.says.2.def_ 40 (d := d_law) rfl
  have b := FunD.bindsA (ps := ["script"]) F fun _ _
      _ _ _ _ us hl => match us, hl with | [_], _ => rfl
  refine ⟨fd, fun s u => b s [u] rfl, fun base => ?_⟩
  obtain ⟨fdp, bp, kp, hp⟩ := h__law_pen (P := P) (w := w) (base := base) H
  refine law_has (st := st_law) (k := 8) F sc_law rfl hp H.g__law_pen kp bp (by rfl) (fun cdv A outer s H0 E => ⟨by first | exact .inl rfl | exact .inr (.inl rfl) | exact .inr (.inr rfl), by first | exact .inl rfl | exact .inr rfl, by first | exact .inr rfl | exact .inl rfl, rfl⟩) (fun cdv A outer s H0 E p hr => ?_) main
  exact (dss_cons (ds_set 2 sc_law.nd (de_call (h__law_pick H) (hr.mono (by decide)) (da_cons (de_var 1) (da_cons (de_new (dn_lst (da_cons de_int (da_cons de_int (da_cons de_int (da_cons de_int da_nil)))))) da_nil))))
  (dss_cons (ds_set 3 sc_law.nd (de_call (h__law_web_arrows H) (hr.mono (by decide)) (da_cons (de_var 1) (da_cons (de_var 2) da_nil))))
  (dss_cons (ds_set 4 sc_law.nd (de_make (h_Web H) (hr.mono (by decide)) (da_cons (de_var 2) (da_cons (de_var 3) da_nil))))
  (dss_cons (ds_lcD 5 [("i", 14)] sc_law.nd (di_rng1 H.bl.range (da_cons (de_var 2) da_nil)) (fun _ _ _ _ _ => (dg_name sc_law.nd (i := 14))) (fun _ _ _ _ _ => (dts_one (dt_cmp (bs_eq hr) (de_call (h_targets H) (hr.mono (by decide)) (da_cons (de_var 4) (da_cons (de_var 14) da_nil))) (de_tup da_nil)))) (fun _ _ _ _ _ => (de_var 14)))
  (dss_cons (ds_set 6 sc_law.nd (de_call (h__law_pick H) (hr.mono (by decide)) (da_cons (de_var 1) (da_cons (de_var 5) da_nil))))
  (dss_cons (ds_asg (de_tup (da_cons (de_new (dn_lc [("i", 14)] sc_law.nd (di_rng1 H.bl.range (da_cons (de_var 2) da_nil)) (fun _ _ _ _ _ => (dg_name sc_law.nd (i := 14))) (fun _ _ _ _ _ => (dts_one (dt_cmp (bs_ne hr) (de_var 14) (de_var 6)))) (fun _ _ _ _ _ => (de_var 14)))) (da_cons (de_call (h_struck H) (hr.mono (by decide)) (da_cons (de_var 4) (da_cons (de_tup (da_cons (de_var 6) da_nil)) da_nil))) da_nil))) (dg_tup (dgs_cons sc_law.nd (i := 8) (dgs_cons sc_law.nd (i := 9) dgs_nil))))
  (dss_cons (ds_if (dt_cmp (bs_lt hr) (de_var 2) de_int) (dss_cons (ds_lcD 10 [("i", 14), ("j", 20), ("lot", 17)] sc_law.nd (di_seq (de_call (h_all_apart H) (hr.mono (by decide)) (da_cons (de_var 4) da_nil))) (fun _ _ _ _ _ => (dg_tup (dgs_cons sc_law.nd (i := 14) (dgs_cons sc_law.nd (i := 20) (dgs_cons sc_law.nd (i := 17) dgs_nil))))) (fun _ _ _ _ _ => (dts_one (dt_of (dw_and (dt_cmp (bs_nin hr) (de_var 6) (de_tup (da_cons (de_var 14) (da_cons (de_var 20) da_nil)))) (dw_and1 (dt_cmp (bs_nin hr) (de_var 6) (de_var 17))))))) (fun _ _ _ _ _ => (de_tup (da_cons (de_indexL (de_var 8) (de_var 14)) (da_cons (de_indexL (de_var 8) (de_var 20)) (da_cons (de_call (h__law_moved H) (hr.mono (by decide)) (da_cons (de_var 17) (da_cons (de_var 8) da_nil))) da_nil))))))
  (dss_one (ds_if (dt_cmp (bs_ne hr) (de_call (h_all_apart H) (hr.mono (by decide)) (da_cons (de_var 9) da_nil)) (de_tuple H.bl.tuple (da_cons (de_new (dn_sort3 hr H.bl.sorted (da_cons (de_var 10) da_nil))) da_nil))) (dss_one (ds_ret de_bl)) dss_nil))) dss_nil)
  (dss_cons (ds_for (di_rng1 H.bl.range (da_cons de_int da_nil)) (dg_name sc_law.nd (i := 7)) (dss_cons (ds_asg (de_call (h__law_three_lots H) (hr.mono (by decide)) (da_cons (de_var 1) (da_cons (de_var 2) da_nil))) (dg_tup (dgs_cons sc_law.nd (i := 15) (dgs_cons sc_law.nd (i := 16) (dgs_cons sc_law.nd (i := 17) dgs_nil)))))
  (dss_cons (ds_set 11 sc_law.nd (de_call (h_ahead_of H) (hr.mono (by decide)) (da_cons (de_var 4) (da_cons (de_tuple H.bl.tuple (da_cons (de_new (dn_sorted H.bl.sorted (da_cons (de_bin bs_add (de_bin bs_add (de_var 15) (de_var 16)) (de_var 17)) da_nil))) da_nil)) da_nil))))
  (dss_cons (ds_set 12 sc_law.nd (de_call (h_part_of H) (hr.mono (by decide)) (da_cons (de_var 4) (da_cons (de_var 11) da_nil))))
  (dss_cons (ds_set 13 sc_law.nd (de_call (h_apart H) (hr.mono (by decide)) (da_cons (de_var 4) (da_cons (de_var 15) (da_cons (de_var 16) (da_cons (de_var 17) da_nil))))))
  (dss_cons (ds_if (dt_cmp (bs_ne hr) (de_call (h_apart H) (hr.mono (by decide)) (da_cons (de_var 12) (da_cons (de_call (h__law_moved H) (hr.mono (by decide)) (da_cons (de_var 15) (da_cons (de_new (dn_list H.bl.list (da_cons (de_var 11) da_nil))) da_nil))) (da_cons (de_call (h__law_moved H) (hr.mono (by decide)) (da_cons (de_var 16) (da_cons (de_new (dn_list H.bl.list (da_cons (de_var 11) da_nil))) da_nil))) (da_cons (de_call (h__law_moved H) (hr.mono (by decide)) (da_cons (de_var 17) (da_cons (de_new (dn_list H.bl.list (da_cons (de_var 11) da_nil))) da_nil))) da_nil))))) (de_var 13)) (dss_one (ds_ret de_bl)) dss_nil)
  (dss_one (ds_if (dt_cmp (bs_ne hr) (de_var 3) (de_tup da_nil)) (dss_cons (ds_set 18 sc_law.nd (de_call (h__law_pick H) (hr.mono (by decide)) (da_cons (de_var 1) (da_cons (de_new (dn_list H.bl.list (da_cons (de_var 3) da_nil))) da_nil))))
  (dss_cons (ds_set 19 sc_law.nd (de_call (h_without_arrow H) (hr.mono (by decide)) (da_cons (de_var 4) (da_cons (de_var 18) da_nil))))
  (dss_cons (ds_if (dt_of (dw_and (dt_val (de_var 13)) (dw_and1 (dt_not (dt_val (de_call (h_apart H) (hr.mono (by decide)) (da_cons (de_var 19) (da_cons (de_var 15) (da_cons (de_var 16) (da_cons (de_var 17) da_nil)))))))))) (dss_one (ds_ret de_bl)) dss_nil)
  (dss_one (ds_if (dt_neI (tbE H) (hr.mono (by decide)) (de_call (h_with_arrow H) (hr.mono (by decide)) (da_cons (de_var 19) (da_cons (de_var 18) da_nil))) (de_var 4)) (dss_one (ds_ret de_bl)) dss_nil))))) dss_nil))))))) (passes_of rfl))
  (dss_one (ds_ret de_bl))))))))))
end
end SayLaw

namespace SayLaw
open Say
def drawT : S := (sSeq (sIf (tCmp (odD .gt) (dPen 0 .dig) (dC (.int 0))) (sSeq (sSet 4 (dBin (iicD cPos fun i j => .int (i % j)) (dBlt intD [(dPen 0 .dig)]) (dVar 1)))
  (sSeq (sPenSet 0 .dig (dBin (iicD cDiv fun i j => .int (i / j)) (dPen 0 .dig) (dVar 1)))
  (sRet (dVar 4)))) sNil)
  (sSeq (sSet 2 (dBin addD (dBin addD (dPen 0 .fld) (dBin (iicD cMul fun i j => .int (i * j)) (dPen 0 .cnt) (dC (.int 8513)))) (dC (.int 61))))
  (sRet (dBin (iicD cPos fun i j => .int (i % j)) (dBin (iicD cDiv fun i j => .int (i / j)) (dBlt intD [(dBin (iicD cPos fun i j => .int (i % j)) (dBin (iicD cPow fun i j => .int (i ^ j.toNat)) (dVar 2) (dC (.int 19))) (dC (.int 2305843009213693951)))]) (dC (.int 256))) (dVar 1)))))
theorem drawT_ok {many : Nat} (h1 : 1 ≤ many) (h2 : many < 1073741824) {x : Sl} {k b c : Say.Env → M D} {s : Pen} (ok : s.Ok) (hs : s.count ≤ 1000000001) {R : D → Pen → Prop} (q : ∀ (r : Nat) (s' : Pen), r < many → s'.Ok → s'.count = s.count → R (.int (r : Int)) s') : wpM (drawT k pure b c [.dat .pen, .dat (.int (many : Int)), .no, x, .no]) s R fun _ _ _ => False := by
  obtain ⟨o1, o2, o3, o4, o5⟩ := ok
  have hm : (0 : Int) < (many : Int) := by omega
  have cd : cDiv s.digits (many : Int) = true := decide_eq_true (p := 0 < (many : Int) ∧ (many : Int) < 1073741824) ⟨hm, by omega⟩
  have res : ∀ i : Int, ∃ r : Nat, i % (many : Int) = (r : Int) ∧ r < many := fun i => ⟨(i % (many : Int)).toNat, by rw [Int.toNat_of_nonneg (Int.emod_nonneg _ (by omega))], by have := Int.emod_lt_of_pos i hm; have := Int.emod_nonneg i (show (many : Int) ≠ 0 by omega); omega⟩
  have cp : ∀ i : Int, cPos i (many : Int) = true := fun i => decide_eq_true (p := 0 < (many : Int)) hm
  unfold drawT
  simp only [sSeq, sIf, sSet, sPenSet, sRet, sNil, tCmp, dPen, dC, dBin, dBlt, dVar, isPen, Say.pure_bind, List.getElem?_cons_zero, List.getElem?_cons_succ, seqA, Say.bind_assoc, slD, List.set_cons_succ, List.set_cons_zero, thaw, Sl.thaw, List.map_cons, List.map_nil, wp_bind, wp_getP, PF.get, od_int, lift_some, truB_bl, wp_pure, wp_if, toInt_int, add_int]
  by_cases hd : 0 < s.digits
  · have e1 : Od.gt.i s.digits 0 = true := decide_eq_true (p := 0 < s.digits) hd
    rw [if_pos e1]
    simp only [iic_int _ (cp _), lift_some, wp_pure, wp_bind, wp_getP, PF.get, iic_int _ cd]
    obtain ⟨r, e, hr⟩ := res s.digits
    have nn : 0 ≤ s.digits / (many : Int) := Int.ediv_nonneg o2 (by omega)
    rw [wp_setP (f := .dig) (decide_eq_true (p := 0 ≤ s.digits / (many : Int)) nn), e]
    exact q r _ hr ⟨o1, nn, o3, o4, o5⟩ rfl
  · have e1 : ¬ Od.gt.i s.digits 0 = true := fun z => hd (of_decide_eq_true z)
    rw [if_neg e1]
    have c1 : cMul s.count 8513 = true := by simp [cMul]
    simp only [iic_int _ c1, lift_some, wp_pure, wp_bind, wp_getP, PF.get, add_int]
    have c2 : cPow (s.fold + s.count * 8513 + 61) 19 = true := decide_eq_true (p := (0 : Int) ≤ 19 ∧ (19 : Int) ≤ 1000000 ∧ (s.fold + s.count * 8513 + 61).natAbs < 2 ^ 64) ⟨by decide, by decide, by omega⟩
    simp only [iic_int _ c2, lift_some, wp_pure, wp_bind]
    rw [iic_int _ (show cPos _ 2305843009213693951 = true from rfl)]
    simp only [lift_some, wp_pure, toInt_int]
    rw [iic_int _ (show cDiv _ 256 = true from rfl)]
    simp only [lift_some, wp_pure, iic_int _ (cp _)]
    obtain ⟨r, e, hr⟩ := res ((s.fold + s.count * 8513 + 61) ^ (Int.toNat 19) % 2305843009213693951 / 256)
    rw [e]
    exact q r _ hr ⟨o1, o2, o3, o4, o5⟩ rfl
theorem draw_ok {many : Nat} (h1 : 1 ≤ many) (h2 : many < 1073741824) : Tr 1 (m__law_draw [.pen, .int (many : Int)]) (fun d => ∃ r : Nat, d = .int (r : Int) ∧ r < many) := by
  intro s ok hs
  obtain ⟨o1, o2, o3, o4, o5⟩ := ok
  show wpM (sSeq _ (sSeq _ drawT) _ _ _ _ [.dat .pen, .dat (.int (many : Int)), .no, .no, .no]) s _ _
  simp only [sSeq, sIf, sSet, sPenSet, sNil, tCmp, tAnd, andB, dPen, dPenLen, dPenCell, dC, dBin, dBlt, dVar, isPen, Say.pure_bind, List.getElem?_cons_zero, List.getElem?_cons_succ, seqA, Say.bind_assoc, slD, List.set_cons_succ, List.set_cons_zero, wp_bind, wp_getP, PF.get, od_int, lift_some, truB_bl, wp_pure, wp_if, toInt_int, add_int, eq_int]
  rw [wp_setP (f := .cnt) (decide_eq_true (p := 0 ≤ s.count + 1) (by omega))]
  have fin : ∀ (x : Sl) (s' : Pen), s'.Ok → s'.count = s.count + 1 → wpM (drawT (fun _ => pure .non) pure (fun _ => bad) (fun _ => bad) [.dat .pen, .dat (.int (many : Int)), .no, x, .no]) s' (fun a s' => (∃ r : Nat, a = .int (r : Int) ∧ r < many) ∧ s'.Ok ∧ s'.count ≤ s.count + ((1 : Nat) : Int)) fun _ _ _ => False := fun x s' ok' hc => drawT_ok h1 h2 ok' (by omega) fun r s2 hr ok2 c2 => ⟨⟨r, rfl, hr⟩, ok2, by omega⟩
  simp only [PF.put, wp_lenP, od_int, lift_some, wp_pure, truB_bl]
  by_cases hd : s.digits = 0
  · simp only [hd, decide_true, ↓reduceIte]
    by_cases hp : (s.pos : Int) < (s.cells.length : Int)
    · rw [if_pos (show Od.lt.i (s.pos : Int) (s.cells.length : Int) = true from decide_eq_true hp)]
      have hp' : s.pos < s.cells.length := by omega
      have at_ : L2.atI s.cells (s.pos : Int) = some s.cells[s.pos] := by
        unfold L2.atI L2.ixN
        rw [if_pos (by omega), if_pos hp]
        show s.cells[(s.pos : Int).toNat]? = _
        rw [Int.toNat_natCast, List.getElem?_eq_getElem hp']
      simp only [cellM, wp_bind, wp_cells, at_, Option.map_some, lift_some, wp_pure]
      rw [wp_setP (f := .at) (i := (s.pos : Int) + 1) (show PF.may .at ((s.pos : Int) + 1) = true from decide_eq_true (p := 0 ≤ (s.pos : Int) + 1) (by omega))]
      rw [iic_int _ (show cPow 10 18 = true from by decide)]
      simp only [lift_some, wp_pure, od_int, truB_bl, ii_int, PF.put]
      generalize s.cells[s.pos] = cell
      by_cases hg : (10 : Int) ^ (Int.toNat 18) ≤ cell
      · rw [if_pos (show Od.ge.i cell _ = true from decide_eq_true hg)]
        rw [wp_setP (f := .dig) (decide_eq_true (p := 0 ≤ cell - (10 : Int) ^ (Int.toNat 18)) (by omega))]
        exact fin _ _ ⟨o1, by show 0 ≤ cell - _; omega, by show 0 ≤ s.count + 1; omega, o4, o5⟩ rfl
      · rw [if_neg (show ¬ Od.ge.i cell _ = true from fun z => hg (of_decide_eq_true z))]
        rw [iic_int _ (show cMul s.fold 48271 = true from by simp [cMul])]
        simp only [lift_some, wp_pure, add_int, toInt_int]
        rw [iic_int _ (show cPos _ 2147483563 = true from rfl)]
        simp only [lift_some, wp_pure]
        rw [wp_setP (f := .fld) (fld_in _)]
        have b := of_decide_eq_true (p := 0 ≤ (s.fold * 48271 + cell) % 2147483563 ∧ (s.fold * 48271 + cell) % 2147483563 < 2147483563) (fld_in _)
        exact fin _ _ ⟨o1, Int.le_refl 0, by show 0 ≤ s.count + 1; omega, b.1, b.2⟩ rfl
    · rw [if_neg (show ¬ Od.lt.i (s.pos : Int) (s.cells.length : Int) = true from fun z => hp (of_decide_eq_true z))]
      exact fin _ _ ⟨o1, Int.le_refl 0, by show 0 ≤ s.count + 1; omega, o4, o5⟩ rfl
  · simp only [hd, decide_false, Bool.false_eq_true, ↓reduceIte]
    exact fin _ _ ⟨o1, o2, by show 0 ≤ s.count + 1; omega, o4, o5⟩ rfl
theorem atI_nat {α : Type} {xs : List α} {r : Nat} (h : r < xs.length) : L2.atI xs (r : Int) = some xs[r] := by
  unfold L2.atI L2.ixN
  rw [if_pos (by omega),
      if_pos (by omega)]
  show xs[(r : Int).toNat]? = _
  rw [Int.toNat_natCast, List.getElem?_eq_getElem h]
theorem pick_ok {xs : List D} (h1 : 1 ≤ xs.length) (h2 : xs.length < 1073741824) : Tr 1 (m__law_pick [.pen, .lst xs]) (fun d => d ∈ xs) := by
  have e : m__law_pick [.pen, .lst xs] = m__law_draw [.pen, .int (xs.length : Int)] >>= fun y => lift (ixD (.lst xs) y) := by
    simp only [m__law_pick, S__law_pick, runS, startE, sSeq, sIf, sSet, sRet, sRetN, sNil, sParV, sFor, sApp, sAppPop, tCmp, tVal, tAnd, tOr, tNot, tYes, tThaw, andB, orB, notB, andV, orV, notV, dC, dBin, dBlt, dVar, dCall, dNew, dThaw, dTup, dIf, dAnd, dOr, dNot, dIsi, dSl, dAttr, oN, oS, nLst, nList, nRng1, nRng2, nSeq, nOwn, nSorted, nThaw, gNm, vD, vN, seqV, setE, Say.pure_bind, Say.bind_assoc, List.getElem?_cons_zero, List.getElem?_cons_succ, seqA, slD, List.set_cons_succ, List.set_cons_zero, thaw, Sl.thaw, List.map_cons, List.map_nil, lift_some, truB_bl, bindT, ownL, slOwn, List.length_cons, List.length_nil, List.cons_append, List.nil_append, List.replicate, Nat.reduceAdd, Nat.reduceSub, List.all_cons, List.all_nil, mkTup0, mkTup1, mkTup2, mkLst0, mkLst1, mkLst4, mkLst5, mkLst8, wipeE, sPar, sOwnS, sStore2, sPut, dNeg, negD, lenD, Say.bind_pure]
  rw [e]
  refine Tr.bind (C2 := 0) (draw_ok h1 h2) (fun y ⟨r, ey, hr⟩ => ?_)
  subst ey
  show Tr 0 (lift (L2.atI xs (r : Int))) _
  rw [atI_nat hr]
  exact Tr.pure (List.getElem_mem hr)
theorem seqIx {r n : Nat} (h : r < n) : PySem.seqIndex? (r : Int) n = some r := by
  unfold PySem.seqIndex?
  have e : (if (r : Int) < 0 then (r : Int) + (n : Int) else (r : Int)) = (r : Int) := if_neg (by omega)
  simp only [e]
  rw [if_pos (by simp; omega)]
  rfl
theorem eraseIdx_perm {α : Type} : ∀ {xs : List α} {r : Nat} (h : r < xs.length), xs.Perm (xs[r] :: xs.eraseIdx r)
  | x :: xs, 0, _ => List.Perm.refl _
  | x :: xs, r + 1, h => by
    have h' : r < xs.length := Nat.lt_of_succ_lt_succ h
    refine ((eraseIdx_perm h').cons x).trans ?_
    exact List.Perm.swap _ _ _
theorem eraseIdx_map' {α β : Type} (f : α → β) : ∀ (xs : List α) (r : Nat), (xs.map f).eraseIdx r = (xs.eraseIdx r).map f
  | [], _ => rfl
  | x :: xs, 0 => rfl
  | x :: xs, r + 1 => congrArg (f x :: ·) (eraseIdx_map' f xs r)
theorem shuffled_ok {ns : List Int} (h : ns.length ≤ 1000) : Tr ns.length (m__law_shuffled [.pen, .lst (ns.map D.int)]) (fun d => ∃ ms : List Int, d = .lst (ms.map D.int) ∧ ms.Perm ns) := by
  simp only [m__law_shuffled, S__law_shuffled, runS, startE, sSeq, sIf, sSet, sRet, sRetN, sNil, sParV, sFor, sApp, sAppPop, tCmp, tVal, tAnd, tOr, tNot, tYes, tThaw, andB, orB, notB, andV, orV, notV, dC, dBin, dBlt, dVar, dCall, dNew, dThaw, dTup, dIf, dAnd, dOr, dNot, dIsi, dSl, dAttr, oN, oS, nLst, nList, nRng1, nRng2, nSeq, nOwn, nSorted, nThaw, gNm, vD, vN, seqV, setE, Say.pure_bind, Say.bind_assoc, List.getElem?_cons_zero, List.getElem?_cons_succ, seqA, slD, List.set_cons_succ, List.set_cons_zero, thaw, Sl.thaw, List.map_cons, List.map_nil, lift_some, truB_bl, bindT, ownL, slOwn, List.length_cons, List.length_nil, List.cons_append, List.nil_append, List.replicate, Nat.reduceAdd, Nat.reduceSub, List.all_cons, List.all_nil, mkTup0, mkTup1, mkTup2, mkLst0, mkLst1, mkLst4, mkLst5, mkLst8, wipeE, sPar, sOwnS, sStore2, sPut, dNeg, negD, lenD, listD, mkLst0, List.length_map, if_true, rngM_nat ns.length (by omega)]
  refine Tr.mono (Tr.for (C := 1) (C0 := 0) (fun xs ρ => ∃ (x2 : Sl) (rem found : List Int), ρ = [.dat .pen, .dat (.lst (ns.map D.int)), x2, .own (.lst (rem.map D.int)), .own (.lst (found.map D.int))] ∧ xs.length = rem.length ∧ (found ++ rem).Perm ns) ?_ ?_ _ _ ⟨.no, ns, [], rfl, by simp, by simp⟩) (fun _ z => z) (by simp)
  · rintro ρ ⟨x2, rem, found, rfl, hl, hp⟩
    have : rem = [] := List.length_eq_zero_iff.mp hl.symm
    subst this
    simp only [runS, startE, sSeq, sIf, sSet, sRet, sRetN, sNil, sParV, sFor, sApp, sAppPop, tCmp, tVal, tAnd, tOr, tNot, tYes, tThaw, andB, orB, notB, andV, orV, notV, dC, dBin, dBlt, dVar, dCall, dNew, dThaw, dTup, dIf, dAnd, dOr, dNot, dIsi, dSl, dAttr, oN, oS, nLst, nList, nRng1, nRng2, nSeq, nOwn, nSorted, nThaw, gNm, vD, vN, seqV, setE, Say.pure_bind, Say.bind_assoc, List.getElem?_cons_zero, List.getElem?_cons_succ, seqA, slD, List.set_cons_succ, List.set_cons_zero, thaw, Sl.thaw, List.map_cons, List.map_nil, lift_some, truB_bl, bindT, ownL, slOwn, List.length_cons, List.length_nil, List.cons_append, List.nil_append, List.replicate, Nat.reduceAdd, Nat.reduceSub, List.all_cons, List.all_nil, mkTup0, mkTup1, mkTup2, mkLst0, mkLst1, mkLst4, mkLst5, mkLst8, wipeE, sPar, sOwnS, sStore2, sPut, dNeg, negD]
    exact Tr.pure ⟨found, rfl, by simpa using hp⟩
  · rintro x xs ρ ⟨x2, rem, found, rfl, hl, hp⟩ n k' hk
    have hr : 1 ≤ rem.length := by rw [List.length_cons] at hl; omega
    have hlen : rem.length ≤ 1000 := by have := hp.length_eq; rw [List.length_append] at this; omega
    have hfl : found.length < 1000000 := by have := hp.length_eq; rw [List.length_append] at this; omega
    simp only [runS, startE, sSeq, sIf, sSet, sRet, sRetN, sNil, sParV, sFor, sApp, sAppPop, tCmp, tVal, tAnd, tOr, tNot, tYes, tThaw, andB, orB, notB, andV, orV, notV, dC, dBin, dBlt, dVar, dCall, dNew, dThaw, dTup, dIf, dAnd, dOr, dNot, dIsi, dSl, dAttr, oN, oS, nLst, nList, nRng1, nRng2, nSeq, nOwn, nSorted, nThaw, gNm, vD, vN, seqV, setE, Say.pure_bind, Say.bind_assoc, List.getElem?_cons_zero, List.getElem?_cons_succ, seqA, slD, List.set_cons_succ, List.set_cons_zero, thaw, Sl.thaw, List.map_cons, List.map_nil, lift_some, truB_bl, bindT, ownL, slOwn, List.length_cons, List.length_nil, List.cons_append, List.nil_append, List.replicate, Nat.reduceAdd, Nat.reduceSub, List.all_cons, List.all_nil, mkTup0, mkTup1, mkTup2, mkLst0, mkLst1, mkLst4, mkLst5, mkLst8, wipeE, sPar, sOwnS, sStore2, sPut, dNeg, negD, lenD, immD, D.imm, List.length_map, if_true]
    refine Tr.bind (C2 := n) (draw_ok hr (by omega)) (fun y ⟨r, ey, hr'⟩ => ?_)
    subst ey
    have ep : popD (rem.map D.int) (.int (r : Int)) = pure (.int rem[r], (rem.eraseIdx r).map D.int) := by
      unfold popD
      simp only [List.length_map]
      rw [if_pos (by omega), seqIx hr']
      simp [List.getElem?_eq_getElem hr', eraseIdx_map']
    have eq2 : pushD (found.map D.int) (.int rem[r]) = pure ((found ++ [rem[r]]).map D.int) := by
      unfold pushD
      rw [if_pos (by rw [List.length_map]; omega)]
      simp
    rw [ep]
    simp only [Say.pure_bind]
    rw [eq2]
    simp only [Say.pure_bind]
    refine hk _ ⟨_, rem.eraseIdx r, found ++ [rem[r]], rfl, ?_, ?_⟩
    · rw [List.length_eraseIdx_of_lt hr']
      rw [List.length_cons] at hl
      omega
    · rw [List.append_assoc]
      exact ((eraseIdx_perm hr').symm.append_left found).trans hp
def isInt : D → Bool
  | .int _ => true
  | _ => false
def scal : D → Bool
  | .non | .bl _ | .int _ => true
  | _ => false
theorem whole_ok {d : D} (h : scal d = true) : m_is_whole [d] = pure (.bl (isInt d)) := by
  cases d <;> first | (cases h; done) | rfl
def idx (n : Nat) : D → Bool
  | .int i => decide (0 ≤ i ∧ i < (n : Int))
  | _ => false
theorem index_ok (n : Nat) {d : D} (h : scal d = true) : m_is_index [.int (n : Int), d] = pure (.bl (idx n d)) := by
  simp only [m_is_index, S_is_index, runS, startE, sSeq, sIf, sSet, sRet, sRetN, sNil, sParV, sFor, sApp, sAppPop, tCmp, tVal, tAnd, tOr, tNot, tYes, tThaw, andB, orB, notB, andV, orV, notV, dC, dBin, dBlt, dVar, dCall, dNew, dThaw, dTup, dIf, dAnd, dOr, dNot, dIsi, dSl, dAttr, oN, oS, nLst, nList, nRng1, nRng2, nSeq, nOwn, nSorted, nThaw, gNm, vD, vN, seqV, setE, Say.pure_bind, Say.bind_assoc, List.getElem?_cons_zero, List.getElem?_cons_succ, seqA, slD, List.set_cons_succ, List.set_cons_zero, thaw, Sl.thaw, List.map_cons, List.map_nil, lift_some, truB_bl, bindT, ownL, slOwn, List.length_cons, List.length_nil, List.cons_append, List.nil_append, List.replicate, Nat.reduceAdd, Nat.reduceSub, List.all_cons, List.all_nil, mkTup0, mkTup1, mkTup2, mkLst0, mkLst1, mkLst4, mkLst5, mkLst8, wipeE, sPar, sOwnS, sStore2, sPut, dNeg, negD, dChain, chainM, whole_ok h]
  cases d <;> first | (cases h; done) | skip
  · rfl
  · rfl
  · rename_i i
    simp only [isInt, if_true, Say.pure_bind, od_int, lift_some, truB_bl, idx, Od.i]
    by_cases h0 : 0 ≤ i
    · simp [h0]
    · simp [h0]
theorem list_tup (xs : List D) : m_is_list [.tup xs] = pure (.bl true) := rfl
theorem arrow_ok (n : Nat) (a b : Int) (ha : 0 ≤ a ∧ a < (n : Int)) (hb : 0 ≤ b ∧ b < (n : Int)) (hab : a ≠ b) : m_is_arrow [.int (n : Int), .tup [.int a, .int b]] = pure (.bl true) := by
  simp only [m_is_arrow, S_is_arrow, runS, startE, sSeq, sIf, sSet, sRet, sRetN, sNil, sParV, sFor, sApp, sAppPop, tCmp, tVal, tAnd, tOr, tNot, tYes, tThaw, andB, orB, notB, andV, orV, notV, dC, dBin, dBlt, dVar, dCall, dNew, dThaw, dTup, dIf, dAnd, dOr, dNot, dIsi, dSl, dAttr, oN, oS, nLst, nList, nRng1, nRng2, nSeq, nOwn, nSorted, nThaw, gNm, vD, vN, seqV, setE, Say.pure_bind, Say.bind_assoc, List.getElem?_cons_zero, List.getElem?_cons_succ, seqA, slD, List.set_cons_succ, List.set_cons_zero, thaw, Sl.thaw, List.map_cons, List.map_nil, lift_some, truB_bl, bindT, ownL, slOwn, List.length_cons, List.length_nil, List.cons_append, List.nil_append, List.replicate, Nat.reduceAdd, Nat.reduceSub, List.all_cons, List.all_nil, mkTup0, mkTup1, mkTup2, mkLst0, mkLst1, mkLst4, mkLst5, mkLst8, wipeE, sPar, sOwnS, sStore2, sPut, dNeg, negD, list_tup, Bool.not_true, Bool.false_eq_true, if_false]
  rw [lc_yes (l := [a, b]) (f := D.int) (y := fun i => .bl (idx n (.int i))) rfl rfl]
  · rw [show lenD [D.tup [D.int a, D.int b]] = some (.int 2) from rfl]
    simp only [runS, startE, sSeq, sIf, sSet, sRet, sRetN, sNil, sParV, sFor, sApp, sAppPop, tCmp, tVal, tAnd, tOr, tNot, tYes, tThaw, andB, orB, notB, andV, orV, notV, dC, dBin, dBlt, dVar, dCall, dNew, dThaw, dTup, dIf, dAnd, dOr, dNot, dIsi, dSl, dAttr, oN, oS, nLst, nList, nRng1, nRng2, nSeq, nOwn, nSorted, nThaw, gNm, vD, vN, seqV, setE, Say.pure_bind, Say.bind_assoc, List.getElem?_cons_zero, List.getElem?_cons_succ, seqA, slD, List.set_cons_succ, List.set_cons_zero, thaw, Sl.thaw, List.map_cons, List.map_nil, lift_some, truB_bl, bindT, ownL, slOwn, List.length_cons, List.length_nil, List.cons_append, List.nil_append, List.replicate, Nat.reduceAdd, Nat.reduceSub, List.all_cons, List.all_nil, mkTup0, mkTup1, mkTup2, mkLst0, mkLst1, mkLst4, mkLst5, mkLst8, wipeE, sPar, sOwnS, sStore2, sPut, dNeg, negD, ne_int, decide_true, Bool.not_true, if_false, Bool.false_eq_true]
    rw [show allD [.lst [.bl (idx n (.int a)), .bl (idx n (.int b))]] = some (.bl (idx n (.int a) && (idx n (.int b) && true))) from rfl, show idx n (.int a) = true from decide_eq_true ha, show idx n (.int b) = true from decide_eq_true hb]
    rw [show ixD (D.tup [D.int a, D.int b]) (D.int 0) = some (.int a) from rfl, show ixD (D.tup [D.int a, D.int b]) (D.int 1) = some (.int b) from rfl]
    simp only [runS, startE, sSeq, sIf, sSet, sRet, sRetN, sNil, sParV, sFor, sApp, sAppPop, tCmp, tVal, tAnd, tOr, tNot, tYes, tThaw, andB, orB, notB, andV, orV, notV, dC, dBin, dBlt, dVar, dCall, dNew, dThaw, dTup, dIf, dAnd, dOr, dNot, dIsi, dSl, dAttr, oN, oS, nLst, nList, nRng1, nRng2, nSeq, nOwn, nSorted, nThaw, gNm, vD, vN, seqV, setE, Say.pure_bind, Say.bind_assoc, List.getElem?_cons_zero, List.getElem?_cons_succ, seqA, slD, List.set_cons_succ, List.set_cons_zero, thaw, Sl.thaw, List.map_cons, List.map_nil, lift_some, truB_bl, bindT, ownL, slOwn, List.length_cons, List.length_nil, List.cons_append, List.nil_append, List.replicate, Nat.reduceAdd, Nat.reduceSub, List.all_cons, List.all_nil, mkTup0, mkTup1, mkTup2, mkLst0, mkLst1, mkLst4, mkLst5, mkLst8, wipeE, sPar, sOwnS, sStore2, sPut, dNeg, negD, ne_int, Bool.not_true, if_false, Bool.false_eq_true, hab, decide_false, Bool.not_false, Bool.and_self]
  · intro i _
    exact index_ok n rfl
/-- what the law's arrows are -/
structure Good (n : Nat) (E : List (Int × Int)) : Prop where
  rng : ∀ x ∈ E, (0 ≤ x.1 ∧ x.1 < (n : Int)) ∧ (0 ≤ x.2 ∧ x.2 < (n : Int))
  srt : E.Pairwise fun x y => x.1 < y.1 ∨ (x.1 = y.1 ∧ x.2 < y.2)
  rank : ∃ r : Int → Nat, ∀ x ∈ E, r x.1 < r x.2
  len : E.length ≤ 1000
theorem Good.ne {n : Nat} {E : List (Int × Int)} (g : Good n E) {x : Int × Int} (h : x ∈ E) : x.1 ≠ x.2 := fun e => by
  obtain ⟨r, hr⟩ := g.rank
  have := hr x h
  rw [e] at this
  omega
theorem Good.back {n : Nat} {E : List (Int × Int)} (g : Good n E) {x : Int × Int} (h : x ∈ E) : (x.2, x.1) ∉ E := fun h2 => by
  obtain ⟨r, hr⟩ := g.rank
  have a := hr x h
  have b := hr _ h2
  simp only at b
  omega
theorem arrows_ok {n : Nat} {E : List (Int × Int)} (g : Good n E) : m_are_arrows [.int (n : Int), .tup (E.map prD)] = pure (.bl true) := by
  simp only [m_are_arrows, S_are_arrows, runS, startE, sSeq, sIf, sSet, sRet, sRetN, sNil, sParV, sFor, sApp, sAppPop, tCmp, tVal, tAnd, tOr, tNot, tYes, tThaw, andB, orB, notB, andV, orV, notV, dC, dBin, dBlt, dVar, dCall, dNew, dThaw, dTup, dIf, dAnd, dOr, dNot, dIsi, dSl, dAttr, oN, oS, nLst, nList, nRng1, nRng2, nSeq, nOwn, nSorted, nThaw, gNm, vD, vN, seqV, setE, Say.pure_bind, Say.bind_assoc, List.getElem?_cons_zero, List.getElem?_cons_succ, seqA, slD, List.set_cons_succ, List.set_cons_zero, thaw, Sl.thaw, List.map_cons, List.map_nil, lift_some, truB_bl, bindT, ownL, slOwn, List.length_cons, List.length_nil, List.cons_append, List.nil_append, List.replicate, Nat.reduceAdd, Nat.reduceSub, List.all_cons, List.all_nil, mkTup0, mkTup1, mkTup2, mkLst0, mkLst1, mkLst4, mkLst5, mkLst8, wipeE, sPar, sOwnS, sStore2, sPut, dNeg, negD, list_tup, Bool.not_true, Bool.false_eq_true, if_false]
  rw [lc_yes (l := E) (f := prD) (y := fun _ => .bl true) rfl rfl fun x hx => arrow_ok n x.1 x.2 (g.rng x hx).1 (g.rng x hx).2 (g.ne hx)]
  simp only [runS, startE, sSeq, sIf, sSet, sRet, sRetN, sNil, sParV, sFor, sApp, sAppPop, tCmp, tVal, tAnd, tOr, tNot, tYes, tThaw, andB, orB, notB, andV, orV, notV, dC, dBin, dBlt, dVar, dCall, dNew, dThaw, dTup, dIf, dAnd, dOr, dNot, dIsi, dSl, dAttr, oN, oS, nLst, nList, nRng1, nRng2, nSeq, nOwn, nSorted, nThaw, gNm, vD, vN, seqV, setE, Say.pure_bind, Say.bind_assoc, List.getElem?_cons_zero, List.getElem?_cons_succ, seqA, slD, List.set_cons_succ, List.set_cons_zero, thaw, Sl.thaw, List.map_cons, List.map_nil, lift_some, truB_bl, bindT, ownL, slOwn, List.length_cons, List.length_nil, List.cons_append, List.nil_append, List.replicate, Nat.reduceAdd, Nat.reduceSub, List.all_cons, List.all_nil, mkTup0, mkTup1, mkTup2, mkLst0, mkLst1, mkLst4, mkLst5, mkLst8, wipeE, sPar, sOwnS, sStore2, sPut, dNeg, negD]
  rw [all_map (fun _ => true) E]
  rw [lc_yes (l := E) (f := prD) (y := prD) rfl rfl fun x hx => rfl]
  simp only [runS, startE, sSeq, sIf, sSet, sRet, sRetN, sNil, sParV, sFor, sApp, sAppPop, tCmp, tVal, tAnd, tOr, tNot, tYes, tThaw, andB, orB, notB, andV, orV, notV, dC, dBin, dBlt, dVar, dCall, dNew, dThaw, dTup, dIf, dAnd, dOr, dNot, dIsi, dSl, dAttr, oN, oS, nLst, nList, nRng1, nRng2, nSeq, nOwn, nSorted, nThaw, gNm, vD, vN, seqV, setE, Say.pure_bind, Say.bind_assoc, List.getElem?_cons_zero, List.getElem?_cons_succ, seqA, slD, List.set_cons_succ, List.set_cons_zero, thaw, Sl.thaw, List.map_cons, List.map_nil, lift_some, truB_bl, bindT, ownL, slOwn, List.length_cons, List.length_nil, List.cons_append, List.nil_append, List.replicate, Nat.reduceAdd, Nat.reduceSub, List.all_cons, List.all_nil, mkTup0, mkTup1, mkTup2, mkLst0, mkLst1, mkLst4, mkLst5, mkLst8, wipeE, sPar, sOwnS, sStore2, sPut, dNeg, negD, List.all_eq_true.mpr (fun (x : Int × Int) (_ : x ∈ E) => rfl), Bool.not_true, Bool.false_eq_true, if_false]
  rw [lc_yes (l := List.range (E.length - 1)) (f := fun (k : Nat) => D.int (k : Int)) (y := fun _ => .bl false)]
  · simp only [runS, startE, sSeq, sIf, sSet, sRet, sRetN, sNil, sParV, sFor, sApp, sAppPop, tCmp, tVal, tAnd, tOr, tNot, tYes, tThaw, andB, orB, notB, andV, orV, notV, dC, dBin, dBlt, dVar, dCall, dNew, dThaw, dTup, dIf, dAnd, dOr, dNot, dIsi, dSl, dAttr, oN, oS, nLst, nList, nRng1, nRng2, nSeq, nOwn, nSorted, nThaw, gNm, vD, vN, seqV, setE, Say.pure_bind, Say.bind_assoc, List.getElem?_cons_zero, List.getElem?_cons_succ, seqA, slD, List.set_cons_succ, List.set_cons_zero, thaw, Sl.thaw, List.map_cons, List.map_nil, lift_some, truB_bl, bindT, ownL, slOwn, List.length_cons, List.length_nil, List.cons_append, List.nil_append, List.replicate, Nat.reduceAdd, Nat.reduceSub, List.all_cons, List.all_nil, mkTup0, mkTup1, mkTup2, mkLst0, mkLst1, mkLst4, mkLst5, mkLst8, wipeE, sPar, sOwnS, sStore2, sPut, dNeg, negD]
    rw [any_map (fun _ => false)]
    simp only [runS, startE, sSeq, sIf, sSet, sRet, sRetN, sNil, sParV, sFor, sApp, sAppPop, tCmp, tVal, tAnd, tOr, tNot, tYes, tThaw, andB, orB, notB, andV, orV, notV, dC, dBin, dBlt, dVar, dCall, dNew, dThaw, dTup, dIf, dAnd, dOr, dNot, dIsi, dSl, dAttr, oN, oS, nLst, nList, nRng1, nRng2, nSeq, nOwn, nSorted, nThaw, gNm, vD, vN, seqV, setE, Say.pure_bind, Say.bind_assoc, List.getElem?_cons_zero, List.getElem?_cons_succ, seqA, slD, List.set_cons_succ, List.set_cons_zero, thaw, Sl.thaw, List.map_cons, List.map_nil, lift_some, truB_bl, bindT, ownL, slOwn, List.length_cons, List.length_nil, List.cons_append, List.nil_append, List.replicate, Nat.reduceAdd, Nat.reduceSub, List.all_cons, List.all_nil, mkTup0, mkTup1, mkTup2, mkLst0, mkLst1, mkLst4, mkLst5, mkLst8, wipeE, sPar, sOwnS, sStore2, sPut, dNeg, negD]
    rw [List.any_eq_false.mpr (fun _ _ => by decide)]
    simp only [Bool.false_eq_true, if_false, runS, startE, sSeq, sIf, sSet, sRet, sRetN, sNil, sParV, sFor, sApp, sAppPop, tCmp, tVal, tAnd, tOr, tNot, tYes, tThaw, andB, orB, notB, andV, orV, notV, dC, dBin, dBlt, dVar, dCall, dNew, dThaw, dTup, dIf, dAnd, dOr, dNot, dIsi, dSl, dAttr, oN, oS, nLst, nList, nRng1, nRng2, nSeq, nOwn, nSorted, nThaw, gNm, vD, vN, seqV, setE, Say.pure_bind, Say.bind_assoc, List.getElem?_cons_zero, List.getElem?_cons_succ, seqA, slD, List.set_cons_succ, List.set_cons_zero, thaw, Sl.thaw, List.map_cons, List.map_nil, lift_some, truB_bl, bindT, ownL, slOwn, List.length_cons, List.length_nil, List.cons_append, List.nil_append, List.replicate, Nat.reduceAdd, Nat.reduceSub, List.all_cons, List.all_nil, mkTup0, mkTup1, mkTup2, mkLst0, mkLst1, mkLst4, mkLst5, mkLst8, wipeE, sPar, sOwnS, sStore2, sPut, dNeg, negD]
    rw [lc_two (l := E) (y := fun x => .bl (decide ((x.2, x.1) ∈ E))) rfl rfl]
    · simp only [runS, startE, sSeq, sIf, sSet, sRet, sRetN, sNil, sParV, sFor, sApp, sAppPop, tCmp, tVal, tAnd, tOr, tNot, tYes, tThaw, andB, orB, notB, andV, orV, notV, dC, dBin, dBlt, dVar, dCall, dNew, dThaw, dTup, dIf, dAnd, dOr, dNot, dIsi, dSl, dAttr, oN, oS, nLst, nList, nRng1, nRng2, nSeq, nOwn, nSorted, nThaw, gNm, vD, vN, seqV, setE, Say.pure_bind, Say.bind_assoc, List.getElem?_cons_zero, List.getElem?_cons_succ, seqA, slD, List.set_cons_succ, List.set_cons_zero, thaw, Sl.thaw, List.map_cons, List.map_nil, lift_some, truB_bl, bindT, ownL, slOwn, List.length_cons, List.length_nil, List.cons_append, List.nil_append, List.replicate, Nat.reduceAdd, Nat.reduceSub, List.all_cons, List.all_nil, mkTup0, mkTup1, mkTup2, mkLst0, mkLst1, mkLst4, mkLst5, mkLst8, wipeE, sPar, sOwnS, sStore2, sPut, dNeg, negD]
      rw [any_map (fun x : Int × Int => decide ((x.2, x.1) ∈ E))]
      simp only [runS, startE, sSeq, sIf, sSet, sRet, sRetN, sNil, sParV, sFor, sApp, sAppPop, tCmp, tVal, tAnd, tOr, tNot, tYes, tThaw, andB, orB, notB, andV, orV, notV, dC, dBin, dBlt, dVar, dCall, dNew, dThaw, dTup, dIf, dAnd, dOr, dNot, dIsi, dSl, dAttr, oN, oS, nLst, nList, nRng1, nRng2, nSeq, nOwn, nSorted, nThaw, gNm, vD, vN, seqV, setE, Say.pure_bind, Say.bind_assoc, List.getElem?_cons_zero, List.getElem?_cons_succ, seqA, slD, List.set_cons_succ, List.set_cons_zero, thaw, Sl.thaw, List.map_cons, List.map_nil, lift_some, truB_bl, bindT, ownL, slOwn, List.length_cons, List.length_nil, List.cons_append, List.nil_append, List.replicate, Nat.reduceAdd, Nat.reduceSub, List.all_cons, List.all_nil, mkTup0, mkTup1, mkTup2, mkLst0, mkLst1, mkLst4, mkLst5, mkLst8, wipeE, sPar, sOwnS, sStore2, sPut, dNeg, negD]
      rw [List.any_eq_false.mpr (fun x hx => by simpa using g.back hx)]
      rfl
    · intro x hx
      simp only [runS, startE, sSeq, sIf, sSet, sRet, sRetN, sNil, sParV, sFor, sApp, sAppPop, tCmp, tVal, tAnd, tOr, tNot, tYes, tThaw, andB, orB, notB, andV, orV, notV, dC, dBin, dBlt, dVar, dCall, dNew, dThaw, dTup, dIf, dAnd, dOr, dNot, dIsi, dSl, dAttr, oN, oS, nLst, nList, nRng1, nRng2, nSeq, nOwn, nSorted, nThaw, gNm, vD, vN, seqV, setE, Say.pure_bind, Say.bind_assoc, List.getElem?_cons_zero, List.getElem?_cons_succ, seqA, slD, List.set_cons_succ, List.set_cons_zero, thaw, Sl.thaw, List.map_cons, List.map_nil, lift_some, truB_bl, bindT, ownL, slOwn, List.length_cons, List.length_nil, List.cons_append, List.nil_append, List.replicate, Nat.reduceAdd, Nat.reduceSub, List.all_cons, List.all_nil, mkTup0, mkTup1, mkTup2, mkLst0, mkLst1, mkLst4, mkLst5, mkLst8, wipeE, sPar, sOwnS, sStore2, sPut, dNeg, negD, in_prsL]
  · simp only [runS, startE, sSeq, sIf, sSet, sRet, sRetN, sNil, sParV, sFor, sApp, sAppPop, tCmp, tVal, tAnd, tOr, tNot, tYes, tThaw, andB, orB, notB, andV, orV, notV, dC, dBin, dBlt, dVar, dCall, dNew, dThaw, dTup, dIf, dAnd, dOr, dNot, dIsi, dSl, dAttr, oN, oS, nLst, nList, nRng1, nRng2, nSeq, nOwn, nSorted, nThaw, gNm, vD, vN, seqV, setE, Say.pure_bind, Say.bind_assoc, List.getElem?_cons_zero, List.getElem?_cons_succ, seqA, slD, List.set_cons_succ, List.set_cons_zero, thaw, Sl.thaw, List.map_cons, List.map_nil, lift_some, truB_bl, bindT, ownL, slOwn, List.length_cons, List.length_nil, List.cons_append, List.nil_append, List.replicate, Nat.reduceAdd, Nat.reduceSub, List.all_cons, List.all_nil, mkTup0, mkTup1, mkTup2, mkLst0, mkLst1, mkLst4, mkLst5, mkLst8, wipeE, sPar, sOwnS, sStore2, sPut, dNeg, negD, lenD, List.length_map, ii_int]
    exact rngM_pred E.length (by have := g.len; omega)
  · rfl
  · intro k hk
    have hk' : k + 1 < E.length := by have := List.mem_range.mp hk; omega
    simp only [runS, startE, sSeq, sIf, sSet, sRet, sRetN, sNil, sParV, sFor, sApp, sAppPop, tCmp, tVal, tAnd, tOr, tNot, tYes, tThaw, andB, orB, notB, andV, orV, notV, dC, dBin, dBlt, dVar, dCall, dNew, dThaw, dTup, dIf, dAnd, dOr, dNot, dIsi, dSl, dAttr, oN, oS, nLst, nList, nRng1, nRng2, nSeq, nOwn, nSorted, nThaw, gNm, vD, vN, seqV, setE, Say.pure_bind, Say.bind_assoc, List.getElem?_cons_zero, List.getElem?_cons_succ, seqA, slD, List.set_cons_succ, List.set_cons_zero, thaw, Sl.thaw, List.map_cons, List.map_nil, lift_some, truB_bl, bindT, ownL, slOwn, List.length_cons, List.length_nil, List.cons_append, List.nil_append, List.replicate, Nat.reduceAdd, Nat.reduceSub, List.all_cons, List.all_nil, mkTup0, mkTup1, mkTup2, mkLst0, mkLst1, mkLst4, mkLst5, mkLst8, wipeE, sPar, sOwnS, sStore2, sPut, dNeg, negD, add_int]
    rw [ix_lst prD (show k < E.length by omega), show ((k : Int) + 1) = ((k + 1 : Nat) : Int) by omega, ix_lst prD hk']
    simp only [runS, startE, sSeq, sIf, sSet, sRet, sRetN, sNil, sParV, sFor, sApp, sAppPop, tCmp, tVal, tAnd, tOr, tNot, tYes, tThaw, andB, orB, notB, andV, orV, notV, dC, dBin, dBlt, dVar, dCall, dNew, dThaw, dTup, dIf, dAnd, dOr, dNot, dIsi, dSl, dAttr, oN, oS, nLst, nList, nRng1, nRng2, nSeq, nOwn, nSorted, nThaw, gNm, vD, vN, seqV, setE, Say.pure_bind, Say.bind_assoc, List.getElem?_cons_zero, List.getElem?_cons_succ, seqA, slD, List.set_cons_succ, List.set_cons_zero, thaw, Sl.thaw, List.map_cons, List.map_nil, lift_some, truB_bl, bindT, ownL, slOwn, List.length_cons, List.length_nil, List.cons_append, List.nil_append, List.replicate, Nat.reduceAdd, Nat.reduceSub, List.all_cons, List.all_nil, mkTup0, mkTup1, mkTup2, mkLst0, mkLst1, mkLst4, mkLst5, mkLst8, wipeE, sPar, sOwnS, sStore2, sPut, dNeg, negD]
    rw [ge_prD (List.pairwise_iff_getElem.mp g.srt k (k + 1) _ hk' (Nat.lt_succ_self k))]
    rfl
/-! ### has_round -/
def freeP (E : List (Int × Int)) (left : List Int) (p : Int) : Bool := !(E.any fun a => decide (a.2 = p) && decide (a.1 ∈ left))
theorem free_some {n : Nat} {E : List (Int × Int)} (g : Good n E) {left : List Int} (h : left ≠ []) : ∃ p ∈ left, freeP E left p = true := by
  obtain ⟨r, hr⟩ := g.rank
  have least : ∀ (l : List Int), l ≠ [] → ∃ p ∈ l, ∀ q ∈ l, r p ≤ r q := by
    intro l
    induction l with
    | nil => exact fun z => absurd rfl z
    | cons a l ih =>
      intro _
      by_cases e : l = []
      · subst e
        exact ⟨a, by simp, by simp⟩
      · obtain ⟨p, hp, hq⟩ := ih e
        by_cases c : r a ≤ r p
        · exact ⟨a, by simp, fun q hm => by
            rcases List.mem_cons.mp
                hm with rfl | hm
            · exact Nat.le_refl _
            · exact Nat.le_trans c (hq q hm)⟩
        · exact ⟨p, List.mem_cons_of_mem _ hp, fun q hm => by
            rcases List.mem_cons.mp
                hm with rfl | hm
            · omega
            · exact hq q hm⟩
  obtain ⟨p, hp, hq⟩ := least left h
  refine ⟨p, hp, ?_⟩
  unfold freeP
  rw [Bool.not_eq_true', List.any_eq_false]
  intro a ha z
  simp only [Bool.and_eq_true, decide_eq_true_iff] at z
  have := hr a ha
  have := hq _ z.2
  rw [z.1] at *
  omega
theorem round_loop {n : Nat} {E : List (Int × Int)} (g : Good n E) : ∀ (fuel : Nat) (left : List Int) (x3 : Sl), left.length ≤ 100000 → left.length < fuel → x3.held = false →
    whileS (tCmp (odD .gt) (dBlt lenD [(dVar 2)]) (dC (.int 0))) (sSeq (sSet 3 (dNew (lcM [4] (nSeq (dVar 2)) (gNm 4) (tNot (tVal (dBlt anyD [(dNew (lcM [5] (nSeq (dVar 1)) (gNm 5) tYes (dAnd (dBin eqD (dBin ixD (dVar 5) (dC (.int 1))) (dVar 4)) (dBin inD (dBin ixD (dVar 5) (dC (.int 0))) (dVar 2)))))]))) (dVar 4))))
  (sSeq (sIf (tCmp eqD (dBlt lenD [(dVar 3)]) (dC (.int 0))) (sRet (dC (.bl true))) sNil)
  (sSet 2 (dNew (lcM [4] (nSeq (dVar 2)) (gNm 4) (tCmp ninD (dVar 4) (dVar 3)) (dVar 4)))))) (fun _ => pure (.bl false)) pure fuel [.dat (.int (n : Int)), .dat (.tup (E.map prD)), .dat (.lst (left.map D.int)), x3, .no, .no] = pure (.bl false) := by
  intro fuel
  induction fuel with
  | zero => exact fun _ _ _ h _ => absurd h (Nat.not_lt_zero _)
  | succ fuel ih =>
    intro left x3 hb hl hx3
    rw [whileS_succ]
    simp only [runS, startE, sSeq, sIf, sSet, sRet, sRetN, sNil, sParV, sFor, sApp, sAppPop, tCmp, tVal, tAnd, tOr, tNot, tYes, tThaw, andB, orB, notB, andV, orV, notV, dC, dBin, dBlt, dVar, dCall, dNew, dThaw, dTup, dIf, dAnd, dOr, dNot, dIsi, dSl, dAttr, oN, oS, nLst, nList, nRng1, nRng2, nSeq, nOwn, nSorted, nThaw, gNm, vD, vN, seqV, setE, Say.pure_bind, Say.bind_assoc, List.getElem?_cons_zero, List.getElem?_cons_succ, seqA, slD, List.set_cons_succ, List.set_cons_zero, thaw, Sl.thaw, List.map_cons, List.map_nil, lift_some, truB_bl, bindT, ownL, slOwn, List.length_cons, List.length_nil, List.cons_append, List.nil_append, List.replicate, Nat.reduceAdd, Nat.reduceSub, List.all_cons, List.all_nil, mkTup0, mkTup1, mkTup2, mkLst0, mkLst1, mkLst4, mkLst5, mkLst8, wipeE, sPar, sOwnS, sStore2, sPut, dNeg, negD, lenD, od_int, List.length_map]
    by_cases e : left = []
    · subst e
      rfl
    · have hp : 0 < left.length := List.length_pos_iff.mpr e
      have c : Od.gt.i (left.length : Int) 0 = true := decide_eq_true (p := (0 : Int) < (left.length : Int)) (by omega)
      rw [if_pos c]
      rw [lc_nm (l := left) (f := D.int) (b := freeP E left) (y := D.int) rfl (by cases x3 <;> rfl)]
      · simp only [runS, startE, sSeq, sIf, sSet, sRet, sRetN, sNil, sParV, sFor, sApp, sAppPop, tCmp, tVal, tAnd, tOr, tNot, tYes, tThaw, andB, orB, notB, andV, orV, notV, dC, dBin, dBlt, dVar, dCall, dNew, dThaw, dTup, dIf, dAnd, dOr, dNot, dIsi, dSl, dAttr, oN, oS, nLst, nList, nRng1, nRng2, nSeq, nOwn, nSorted, nThaw, gNm, vD, vN, seqV, setE, Say.pure_bind, Say.bind_assoc, List.getElem?_cons_zero, List.getElem?_cons_succ, seqA, slD, List.set_cons_succ, List.set_cons_zero, thaw, Sl.thaw, List.map_cons, List.map_nil, lift_some, truB_bl, bindT, ownL, slOwn, List.length_cons, List.length_nil, List.cons_append, List.nil_append, List.replicate, Nat.reduceAdd, Nat.reduceSub, List.all_cons, List.all_nil, mkTup0, mkTup1, mkTup2, mkLst0, mkLst1, mkLst4, mkLst5, mkLst8, wipeE, sPar, sOwnS, sStore2, sPut, dNeg, negD, lenD, List.length_map, eq_int]
        obtain ⟨p, hpm, hpf⟩ := free_some g e
        have hf : p ∈ left.filter (freeP E left) := List.mem_filter.mpr ⟨hpm, hpf⟩
        have nf : ¬ decide (((left.filter (freeP E left)).length : Int) = 0) = true := by
          rw [decide_eq_true_iff]
          have := List.length_pos_of_mem hf
          omega
        rw [if_neg nf]
        rw [lc_nm (l := left) (f := D.int) (b := fun q => !decide (q ∈ left.filter (freeP E left))) (y := D.int) rfl rfl]
        · simp only [runS, startE, sSeq, sIf, sSet, sRet, sRetN, sNil, sParV, sFor, sApp, sAppPop, tCmp, tVal, tAnd, tOr, tNot, tYes, tThaw, andB, orB, notB, andV, orV, notV, dC, dBin, dBlt, dVar, dCall, dNew, dThaw, dTup, dIf, dAnd, dOr, dNot, dIsi, dSl, dAttr, oN, oS, nLst, nList, nRng1, nRng2, nSeq, nOwn, nSorted, nThaw, gNm, vD, vN, seqV, setE, Say.pure_bind, Say.bind_assoc, List.getElem?_cons_zero, List.getElem?_cons_succ, seqA, slD, List.set_cons_succ, List.set_cons_zero, thaw, Sl.thaw, List.map_cons, List.map_nil, lift_some, truB_bl, bindT, ownL, slOwn, List.length_cons, List.length_nil, List.cons_append, List.nil_append, List.replicate, Nat.reduceAdd, Nat.reduceSub, List.all_cons, List.all_nil, mkTup0, mkTup1, mkTup2, mkLst0, mkLst1, mkLst4, mkLst5, mkLst8, wipeE, sPar, sOwnS, sStore2, sPut, dNeg, negD]
          have shorter : (left.filter fun q => !decide (q ∈ left.filter (freeP E left))).length < left.length := by
            refine Nat.lt_of_le_of_ne (List.length_filter_le _ _) fun z => ?_
            have all := List.filter_eq_self.mp (List.Sublist.eq_of_length List.filter_sublist z)
            have := all p hpm
            simp [hf] at this
          exact ih _ _ (by omega) (by omega) rfl
        · intro q hq
          simp only [runS, startE, sSeq, sIf, sSet, sRet, sRetN, sNil, sParV, sFor, sApp, sAppPop, tCmp, tVal, tAnd, tOr, tNot, tYes, tThaw, andB, orB, notB, andV, orV, notV, dC, dBin, dBlt, dVar, dCall, dNew, dThaw, dTup, dIf, dAnd, dOr, dNot, dIsi, dSl, dAttr, oN, oS, nLst, nList, nRng1, nRng2, nSeq, nOwn, nSorted, nThaw, gNm, vD, vN, seqV, setE, Say.pure_bind, Say.bind_assoc, List.getElem?_cons_zero, List.getElem?_cons_succ, seqA, slD, List.set_cons_succ, List.set_cons_zero, thaw, Sl.thaw, List.map_cons, List.map_nil, lift_some, truB_bl, bindT, ownL, slOwn, List.length_cons, List.length_nil, List.cons_append, List.nil_append, List.replicate, Nat.reduceAdd, Nat.reduceSub, List.all_cons, List.all_nil, mkTup0, mkTup1, mkTup2, mkLst0, mkLst1, mkLst4, mkLst5, mkLst8, wipeE, sPar, sOwnS, sStore2, sPut, dNeg, negD, nin_intsL]
          exact ⟨trivial, fun _ => trivial⟩
      · intro q hq
        simp only [runS, startE, sSeq, sIf, sSet, sRet, sRetN, sNil, sParV, sFor, sApp, sAppPop, tCmp, tVal, tAnd, tOr, tNot, tYes, tThaw, andB, orB, notB, andV, orV, notV, dC, dBin, dBlt, dVar, dCall, dNew, dThaw, dTup, dIf, dAnd, dOr, dNot, dIsi, dSl, dAttr, oN, oS, nLst, nList, nRng1, nRng2, nSeq, nOwn, nSorted, nThaw, gNm, vD, vN, seqV, setE, Say.pure_bind, Say.bind_assoc, List.getElem?_cons_zero, List.getElem?_cons_succ, seqA, slD, List.set_cons_succ, List.set_cons_zero, thaw, Sl.thaw, List.map_cons, List.map_nil, lift_some, truB_bl, bindT, ownL, slOwn, List.length_cons, List.length_nil, List.cons_append, List.nil_append, List.replicate, Nat.reduceAdd, Nat.reduceSub, List.all_cons, List.all_nil, mkTup0, mkTup1, mkTup2, mkLst0, mkLst1, mkLst4, mkLst5, mkLst8, wipeE, sPar, sOwnS, sStore2, sPut, dNeg, negD]
        rw [lc_yes (l := E) (f := prD) (y := fun a => .bl (decide (a.2 = q) && decide (a.1 ∈ left))) rfl (by cases x3 <;> rfl)]
        · simp only [runS, startE, sSeq, sIf, sSet, sRet, sRetN, sNil, sParV, sFor, sApp, sAppPop, tCmp, tVal, tAnd, tOr, tNot, tYes, tThaw, andB, orB, notB, andV, orV, notV, dC, dBin, dBlt, dVar, dCall, dNew, dThaw, dTup, dIf, dAnd, dOr, dNot, dIsi, dSl, dAttr, oN, oS, nLst, nList, nRng1, nRng2, nSeq, nOwn, nSorted, nThaw, gNm, vD, vN, seqV, setE, Say.pure_bind, Say.bind_assoc, List.getElem?_cons_zero, List.getElem?_cons_succ, seqA, slD, List.set_cons_succ, List.set_cons_zero, thaw, Sl.thaw, List.map_cons, List.map_nil, lift_some, truB_bl, bindT, ownL, slOwn, List.length_cons, List.length_nil, List.cons_append, List.nil_append, List.replicate, Nat.reduceAdd, Nat.reduceSub, List.all_cons, List.all_nil, mkTup0, mkTup1, mkTup2, mkLst0, mkLst1, mkLst4, mkLst5, mkLst8, wipeE, sPar, sOwnS, sStore2, sPut, dNeg, negD]
          rw [any_map (fun a : Int × Int => decide (a.2 = q) && decide (a.1 ∈ left))]
          exact ⟨rfl, fun _ => trivial⟩
        · intro a ha
          simp only [runS, startE, sSeq, sIf, sSet, sRet, sRetN, sNil, sParV, sFor, sApp, sAppPop, tCmp, tVal, tAnd, tOr, tNot, tYes, tThaw, andB, orB, notB, andV, orV, notV, dC, dBin, dBlt, dVar, dCall, dNew, dThaw, dTup, dIf, dAnd, dOr, dNot, dIsi, dSl, dAttr, oN, oS, nLst, nList, nRng1, nRng2, nSeq, nOwn, nSorted, nThaw, gNm, vD, vN, seqV, setE, Say.pure_bind, Say.bind_assoc, List.getElem?_cons_zero, List.getElem?_cons_succ, seqA, slD, List.set_cons_succ, List.set_cons_zero, thaw, Sl.thaw, List.map_cons, List.map_nil, lift_some, truB_bl, bindT, ownL, slOwn, List.length_cons, List.length_nil, List.cons_append, List.nil_append, List.replicate, Nat.reduceAdd, Nat.reduceSub, List.all_cons, List.all_nil, mkTup0, mkTup1, mkTup2, mkLst0, mkLst1, mkLst4, mkLst5, mkLst8, wipeE, sPar, sOwnS, sStore2, sPut, dNeg, negD]
          rw [show ixD (prD a) (.int 1) = some (.int a.2) from rfl, show ixD (prD a) (.int 0) = some (.int a.1) from rfl]
          simp only [runS, startE, sSeq, sIf, sSet, sRet, sRetN, sNil, sParV, sFor, sApp, sAppPop, tCmp, tVal, tAnd, tOr, tNot, tYes, tThaw, andB, orB, notB, andV, orV, notV, dC, dBin, dBlt, dVar, dCall, dNew, dThaw, dTup, dIf, dAnd, dOr, dNot, dIsi, dSl, dAttr, oN, oS, nLst, nList, nRng1, nRng2, nSeq, nOwn, nSorted, nThaw, gNm, vD, vN, seqV, setE, Say.pure_bind, Say.bind_assoc, List.getElem?_cons_zero, List.getElem?_cons_succ, seqA, slD, List.set_cons_succ, List.set_cons_zero, thaw, Sl.thaw, List.map_cons, List.map_nil, lift_some, truB_bl, bindT, ownL, slOwn, List.length_cons, List.length_nil, List.cons_append, List.nil_append, List.replicate, Nat.reduceAdd, Nat.reduceSub, List.all_cons, List.all_nil, mkTup0, mkTup1, mkTup2, mkLst0, mkLst1, mkLst4, mkLst5, mkLst8, wipeE, sPar, sOwnS, sStore2, sPut, dNeg, negD, eq_int, in_intsL]
          by_cases z : a.2 = q
          · simp [z]
          · simp [z]
theorem round_ok {n : Nat} {E : List (Int × Int)} (g : Good n E) (hn : n ≤ 100) : m_has_round [.int (n : Int), .tup (E.map prD)] = pure (.bl false) := by
  simp only [m_has_round, S_has_round, runS, startE, sSeq, sIf, sSet, sRet, sRetN, sNil, sParV, sFor, sApp, sAppPop, tCmp, tVal, tAnd, tOr, tNot, tYes, tThaw, andB, orB, notB, andV, orV, notV, dC, dBin, dBlt, dVar, dCall, dNew, dThaw, dTup, dIf, dAnd, dOr, dNot, dIsi, dSl, dAttr, oN, oS, nLst, nList, nRng1, nRng2, nSeq, nOwn, nSorted, nThaw, gNm, vD, vN, seqV, setE, Say.pure_bind, Say.bind_assoc, List.getElem?_cons_zero, List.getElem?_cons_succ, seqA, slD, List.set_cons_succ, List.set_cons_zero, thaw, Sl.thaw, List.map_cons, List.map_nil, lift_some, truB_bl, bindT, ownL, slOwn, List.length_cons, List.length_nil, List.cons_append, List.nil_append, List.replicate, Nat.reduceAdd, Nat.reduceSub, List.all_cons, List.all_nil, mkTup0, mkTup1, mkTup2, mkLst0, mkLst1, mkLst4, mkLst5, mkLst8, wipeE, sPar, sOwnS, sStore2, sPut, dNeg, negD, sWhile, rngM_nat n (by omega)]
  have := round_loop g 1000 ((List.range n).map fun (k : Nat) => (k : Int)) .no (by simp; omega) (by simp; omega) rfl
  rw [List.map_map] at this
  exact this
def webD (n : Nat) (E : List (Int × Int)) : D := .ins "Web" [("size", .int (n : Int)), ("arrows", .tup (E.map prD))]
theorem web_ok {n : Nat} {E : List (Int × Int)} (g : Good n E) (h1 : 1 ≤ n) (hn : n ≤ 100) : m_Web [.int (n : Int), .tup (E.map prD)] = pure (webD n E) := by
  have lk : m_arrows_looked [.int (n : Int), .tup (E.map prD)] = pure .non := by
    simp only [m_arrows_looked, S_arrows_looked, runS, startE, sSeq, sIf, sSet, sRet, sRetN, sNil, sParV, sFor, sApp, sAppPop, tCmp, tVal, tAnd, tOr, tNot, tYes, tThaw, andB, orB, notB, andV, orV, notV, dC, dBin, dBlt, dVar, dCall, dNew, dThaw, dTup, dIf, dAnd, dOr, dNot, dIsi, dSl, dAttr, oN, oS, nLst, nList, nRng1, nRng2, nSeq, nOwn, nSorted, nThaw, gNm, vD, vN, seqV, setE, Say.pure_bind, Say.bind_assoc, List.getElem?_cons_zero, List.getElem?_cons_succ, seqA, slD, List.set_cons_succ, List.set_cons_zero, thaw, Sl.thaw, List.map_cons, List.map_nil, lift_some, truB_bl, bindT, ownL, slOwn, List.length_cons, List.length_nil, List.cons_append, List.nil_append, List.replicate, Nat.reduceAdd, Nat.reduceSub, List.all_cons, List.all_nil, mkTup0, mkTup1, mkTup2, mkLst0, mkLst1, mkLst4, mkLst5, mkLst8, wipeE, sPar, sOwnS, sStore2, sPut, dNeg, negD, round_ok g hn, Bool.false_eq_true, if_false]
  have c : Od.lt.i (n : Int) 1 = false := decide_eq_false (p := (n : Int) < 1) (by omega)
  simp only [m_Web, S_new_Web, runI, startI, sDrop, runS, startE, sSeq, sIf, sSet, sRet, sRetN, sNil, sParV, sFor, sApp, sAppPop, tCmp, tVal, tAnd, tOr, tNot, tYes, tThaw, andB, orB, notB, andV, orV, notV, dC, dBin, dBlt, dVar, dCall, dNew, dThaw, dTup, dIf, dAnd, dOr, dNot, dIsi, dSl, dAttr, oN, oS, nLst, nList, nRng1, nRng2, nSeq, nOwn, nSorted, nThaw, gNm, vD, vN, seqV, setE, Say.pure_bind, Say.bind_assoc, List.getElem?_cons_zero, List.getElem?_cons_succ, seqA, slD, List.set_cons_succ, List.set_cons_zero, thaw, Sl.thaw, List.map_cons, List.map_nil, lift_some, truB_bl, bindT, ownL, slOwn, List.length_cons, List.length_nil, List.cons_append, List.nil_append, List.replicate, Nat.reduceAdd, Nat.reduceSub, List.all_cons, List.all_nil, mkTup0, mkTup1, mkTup2, mkLst0, mkLst1, mkLst4, mkLst5, mkLst8, wipeE, sPar, sOwnS, sStore2, sPut, dNeg, negD, whole_ok (d := .int (n : Int)) rfl, isInt, Bool.not_true, Bool.false_eq_true, if_false, od_int, c, arrows_ok g]
  rw [lc_yes (l := E) (f := prD) (y := prD) rfl rfl fun x hx => rfl]
  simp only [runS, startE, sSeq, sIf, sSet, sRet, sRetN, sNil, sParV, sFor, sApp, sAppPop, tCmp, tVal, tAnd, tOr, tNot, tYes, tThaw, andB, orB, notB, andV, orV, notV, dC, dBin, dBlt, dVar, dCall, dNew, dThaw, dTup, dIf, dAnd, dOr, dNot, dIsi, dSl, dAttr, oN, oS, nLst, nList, nRng1, nRng2, nSeq, nOwn, nSorted, nThaw, gNm, vD, vN, seqV, setE, Say.pure_bind, Say.bind_assoc, List.getElem?_cons_zero, List.getElem?_cons_succ, seqA, slD, List.set_cons_succ, List.set_cons_zero, thaw, Sl.thaw, List.map_cons, List.map_nil, lift_some, truB_bl, bindT, ownL, slOwn, List.length_cons, List.length_nil, List.cons_append, List.nil_append, List.replicate, Nat.reduceAdd, Nat.reduceSub, List.all_cons, List.all_nil, mkTup0, mkTup1, mkTup2, mkLst0, mkLst1, mkLst4, mkLst5, mkLst8, wipeE, sPar, sOwnS, sStore2, sPut, dNeg, negD, tupleD, lk]
  rfl
theorem size_at (n : Nat) (E : List (Int × Int)) : attrD CS "size" (webD n E) = pure (.int (n : Int)) := rfl
theorem arrows_at (n : Nat) (E : List (Int × Int)) : attrD CS "arrows" (webD n E) = pure (.tup (E.map prD)) := rfl
/-- the sources of a place -/
def src (n : Nat) (E : List (Int × Int)) (p : Nat) : List Nat := (List.range n).filter fun o : Nat => decide (((o : Int), (p : Int)) ∈ E)
theorem src_ok (n : Nat) (E : List (Int × Int)) (p : Nat) (hn : n ≤ 100) : m_sources_in [webD n E, .int (p : Int)] = pure (.tup ((src n E p).map fun o : Nat => .int (o : Int))) := by
  simp only [m_sources_in, S_sources_in, runS, startE, sSeq, sIf, sSet, sRet, sRetN, sNil, sParV, sFor, sApp, sAppPop, tCmp, tVal, tAnd, tOr, tNot, tYes, tThaw, andB, orB, notB, andV, orV, notV, dC, dBin, dBlt, dVar, dCall, dNew, dThaw, dTup, dIf, dAnd, dOr, dNot, dIsi, dSl, dAttr, oN, oS, nLst, nList, nRng1, nRng2, nSeq, nOwn, nSorted, nThaw, gNm, vD, vN, seqV, setE, Say.pure_bind, Say.bind_assoc, List.getElem?_cons_zero, List.getElem?_cons_succ, seqA, slD, List.set_cons_succ, List.set_cons_zero, thaw, Sl.thaw, List.map_cons, List.map_nil, lift_some, truB_bl, bindT, ownL, slOwn, List.length_cons, List.length_nil, List.cons_append, List.nil_append, List.replicate, Nat.reduceAdd, Nat.reduceSub, List.all_cons, List.all_nil, mkTup0, mkTup1, mkTup2, mkLst0, mkLst1, mkLst4, mkLst5, mkLst8, wipeE, sPar, sOwnS, sStore2, sPut, dNeg, negD]
  rw [lc_nm (l := List.range n) (f := fun (k : Nat) => D.int (k : Int)) (b := fun o : Nat => decide (((o : Int), (p : Int)) ∈ E)) (y := fun (k : Nat) => D.int (k : Int))]
  · rfl
  · simp only [runS, startE, sSeq, sIf, sSet, sRet, sRetN, sNil, sParV, sFor, sApp, sAppPop, tCmp, tVal, tAnd, tOr, tNot, tYes, tThaw, andB, orB, notB, andV, orV, notV, dC, dBin, dBlt, dVar, dCall, dNew, dThaw, dTup, dIf, dAnd, dOr, dNot, dIsi, dSl, dAttr, oN, oS, nLst, nList, nRng1, nRng2, nSeq, nOwn, nSorted, nThaw, gNm, vD, vN, seqV, setE, Say.pure_bind, Say.bind_assoc, List.getElem?_cons_zero, List.getElem?_cons_succ, seqA, slD, List.set_cons_succ, List.set_cons_zero, thaw, Sl.thaw, List.map_cons, List.map_nil, lift_some, truB_bl, bindT, ownL, slOwn, List.length_cons, List.length_nil, List.cons_append, List.nil_append, List.replicate, Nat.reduceAdd, Nat.reduceSub, List.all_cons, List.all_nil, mkTup0, mkTup1, mkTup2, mkLst0, mkLst1, mkLst4, mkLst5, mkLst8, wipeE, sPar, sOwnS, sStore2, sPut, dNeg, negD, size_at]
    exact rngM_nat n (by omega)
  · rfl
  · intro o _
    simp only [runS, startE, sSeq, sIf, sSet, sRet, sRetN, sNil, sParV, sFor, sApp, sAppPop, tCmp, tVal, tAnd, tOr, tNot, tYes, tThaw, andB, orB, notB, andV, orV, notV, dC, dBin, dBlt, dVar, dCall, dNew, dThaw, dTup, dIf, dAnd, dOr, dNot, dIsi, dSl, dAttr, oN, oS, nLst, nList, nRng1, nRng2, nSeq, nOwn, nSorted, nThaw, gNm, vD, vN, seqV, setE, Say.pure_bind, Say.bind_assoc, List.getElem?_cons_zero, List.getElem?_cons_succ, seqA, slD, List.set_cons_succ, List.set_cons_zero, thaw, Sl.thaw, List.map_cons, List.map_nil, lift_some, truB_bl, bindT, ownL, slOwn, List.length_cons, List.length_nil, List.cons_append, List.nil_append, List.replicate, Nat.reduceAdd, Nat.reduceSub, List.all_cons, List.all_nil, mkTup0, mkTup1, mkTup2, mkLst0, mkLst1, mkLst4, mkLst5, mkLst8, wipeE, sPar, sOwnS, sStore2, sPut, dNeg, negD, arrows_at, in_prs']
    exact ⟨trivial, fun _ => trivial⟩
theorem all_in (way : List Int) (l : List Nat) : (l.all fun o : Nat => decide ((o : Int) ∈ way)) = (l.all fun o : Nat => decide ((o : Int) ∈ way)) := rfl
theorem add_lst (xs ys : List D) (h : xs.length + ys.length ≤ 1000000) : addD (.lst xs) (.lst ys) = some (.lst (xs ++ ys)) := by
  show (if xs.length + ys.length ≤ 16777216 then some (D.lst (xs ++ ys)) else none) = _
  rw [if_pos (by omega)]
theorem sub_len : ∀ {l f : List Int}, l.Nodup → (∀ x ∈ l, x ∈ f) → l.length ≤ f.length
  | [], f, _, _ => Nat.zero_le _
  | x :: l, f, nd, h => by
    obtain ⟨n1, n2⟩ :=
        List.nodup_cons.mp nd
    have hx := h x List.mem_cons_self
    have := sub_len (l := l) (f := f.erase x) n2 fun y hy => (List.mem_erase_of_ne (fun (e : y = x) => n1 (by rw [← e]; exact hy))).mpr (h y (List.mem_cons_of_mem _ hy))
    rw [List.length_erase_of_mem hx] at this
    have := List.length_pos_of_mem hx
    rw [List.length_cons]
    omega
theorem range_nodup (n : Nat) : ((List.range n).map fun k : Nat => (k : Int)).Nodup := List.pairwise_map.mpr (List.nodup_range.imp fun h e => h (by omega))
/-- sorted(w) == list(range(n)) -/
theorem sort_range {n : Nat} {w : List Int} : sortI w = (List.range n).map (fun k : Nat => (k : Int)) ↔ w.Perm ((List.range n).map fun k : Nat => (k : Int)) := by
  constructor
  · intro h
    rw [← h]
    exact (sortI_perm w).symm
  · intro h
    refine (sortI_uniq h.symm (List.pairwise_map.mpr ?_)).symm
    exact List.pairwise_lt_range.imp fun a => by omega
theorem perm_range {n : Nat} {w : List Int} : w.Perm ((List.range n).map fun k : Nat => (k : Int)) ↔ w.length = n ∧ w.Nodup ∧ ∀ x ∈ w, 0 ≤ x ∧ x < (n : Int) := by
  constructor
  · intro h
    refine ⟨by rw [h.length_eq]; simp, h.nodup_iff.mpr (range_nodup n), fun x hx => ?_⟩
    obtain ⟨k, hk, rfl⟩ := List.mem_map.mp (h.mem_iff.mp hx)
    have := List.mem_range.mp hk
    omega
  · rintro ⟨h1, h2, h3⟩
    have key : ∀ (l m : List Int), l.Nodup → m.Nodup → (∀ x ∈ l, x ∈ m) → l.length = m.length → l.Perm m := by
      intro l
      induction l with
      | nil => intro m _ _ _ e; rw [List.length_eq_zero_iff.mp e.symm]
      | cons a l ih =>
        intro m nl nm sub e
        have ha := sub a List.mem_cons_self
        obtain ⟨n1, n2⟩ := List.nodup_cons.mp nl
        refine (List.Perm.cons a (ih (m.erase a) n2 (nm.erase a) (fun x hx => (List.mem_erase_of_ne fun (e : x = a) => n1 (by rw [← e]; exact hx)).mpr (sub x (List.mem_cons_of_mem _ hx))) ?_)).trans (List.perm_cons_erase ha).symm
        rw [List.length_erase_of_mem ha, ← e]
        rfl
    refine key w _ h2 (range_nodup n) (fun x hx => ?_) (by rw [h1]; simp)
    obtain ⟨a, b⟩ := h3 x hx
    exact List.mem_map.mpr ⟨x.toNat, List.mem_range.mpr (by omega), Int.toNat_of_nonneg a⟩
theorem idx_some {z : Int} : ∀ {w : List Int}, z ∈ w → ∃ j, idxI z w = some j
  | y :: w, h => by
    unfold idxI
    by_cases e : y = z
    · exact ⟨0, if_pos e⟩
    · rw [if_neg e]
      rcases List.mem_cons.mp
          h with q | q
      · exact absurd q.symm e
      · obtain ⟨j, hj⟩ := idx_some q
        exact ⟨j + 1, by rw [hj]; rfl⟩
theorem idx_at {z : Int} {w : List Int} (nd : w.Nodup) {i j : Nat} (hi : idxI z w = some i) (hj : w[j]? = some z) : i = j := by
  obtain ⟨h1, h2⟩ := idxI_ok hi
  obtain ⟨i1, e1⟩ := List.getElem?_eq_some_iff.mp h1
  obtain ⟨j1, e2⟩ := List.getElem?_eq_some_iff.mp hj
  refine Classical.byContradiction fun ne => ?_
  rcases Nat.lt_or_gt_of_ne ne with h | h
  · exact List.pairwise_iff_getElem.mp nd i j i1 j1 h (e1.trans e2.symm)
  · exact List.pairwise_iff_getElem.mp nd j i j1 i1 h (e2.trans e1.symm)
theorem ne_ints (xs ys : List Int) : neD (.lst (xs.map D.int)) (.lst (ys.map D.int)) = some (.bl (!decide (xs = ys))) := by
  have hp : ∀ zs : List Int, (D.lst (zs.map D.int)).plain = true := fun zs => by
    show (D.lst (zs.map D.int)).plainN 60 = true
    simp only [D.plainN]
    exact plainL_map D.int (plain_int 59) zs
  show (if ((D.lst (xs.map D.int)).plain && (D.lst (ys.map D.int)).plain) = true then some (D.bl (!eqV (.lst (xs.map D.int)) (.lst (ys.map D.int)))) else none) = _
  rw [if_pos (by rw [hp, hp]; rfl), eqV_lst]
  refine congrArg some (congrArg D.bl (congrArg not ?_))
  rw [Bool.eq_iff_iff, eqL_map D.int (fun a b => by rw [eqV_int]; exact decide_eq_true_iff), decide_eq_true_iff]
/-- a loop over m numbers -/
theorem forN {h : D → Say.Env → Option Say.Env} {body : S} {k : Say.Env → M D} {r : D → M D} {P : D → Prop} {C C0 : Nat} (m : Nat) (f : Nat → D) (I : Nat → Say.Env → Prop) (fin : ∀ ρ, I m ρ → Tr C0 (k ρ) P)
    (step : ∀ j, j < m → ∀ ρ, I j ρ → ∀ (n : Nat) (k' : Say.Env → M D), (∀ ρ', I (j + 1) ρ' → Tr n (k' ρ') P) → Tr (C + n) (bindT (h (f j) ρ) fun ρ' => body k' r k k' ρ') P) (ρ : Say.Env) (i0 : I 0 ρ) : Tr (C * m + C0) (forS h body k r ((List.range m).map f) ρ) P := by
  refine Tr.mono (Tr.for (C := C) (C0 := C0) (fun xs ρ => ∃ j, j ≤ m ∧ xs = (List.range' j (m - j)).map f ∧ I j ρ) ?_ ?_ _ _ ⟨0, Nat.zero_le _, by rw [List.range_eq_range', Nat.sub_zero], i0⟩) (fun _ z => z) (by simp)
  · rintro ρ ⟨j, hj, e, i⟩
    have ej : j = m := by
      have := congrArg List.length e
      simp at this
      omega
    subst ej
    exact fin ρ i
  · rintro x xs ρ ⟨j, hj, e, i⟩ n k' hk
    have lt : j < m := by
      have := congrArg List.length e
      simp at this
      omega
    rw [show m - j = (m - (j + 1)) + 1 by omega, List.range'_succ, List.map_cons] at e
    obtain ⟨rfl, rfl⟩ := List.cons.inj e
    exact step j lt ρ i n k' fun ρ' i' => hk ρ' ⟨j + 1, lt, rfl, i'⟩
/-- an arrow by the places of its ends in the order -/
def arw (ms : List Int) (p : Nat × Nat) : Int × Int := (ms.getD p.1 0, ms.getD p.2 0)
theorem ix_ms {ms : List Int} {i : Nat} (h : i < ms.length) : ixD (.lst (ms.map D.int)) (.int (i : Int)) = some (.int (ms.getD i 0)) := by
  rw [ix_lst D.int h]
  simp [List.getD,
      List.getElem?_eq_getElem h]
/-- the places so far -/
structure Pl (n : Nat) (is : List (Nat × Nat)) : Prop where
  nd : is.Nodup
  rng : ∀ p ∈ is, p.1 < n ∧ p.2 < n
  rank : ∃ r : Nat → Nat, ∀ p ∈ is, r p.1 < r p.2
  len : is.length ≤ 100
theorem Pl.good {n : Nat} {ms : List Int} (pm : ms.Perm ((List.range n).map fun k : Nat => (k : Int))) {is : List (Nat × Nat)} (p : Pl n is) : Good n ((sortP (is.map (arw ms))).take 12) := by
  obtain ⟨h1, h2, h3⟩ := perm_range.mp pm
  have inj : ∀ i j : Nat, i < n → j < n → ms.getD i 0 = ms.getD j 0 → i = j := fun i j hi hj e => by
    have ei : ms.getD i 0 = ms[i]'(by omega) := by simp [List.getD, List.getElem?_eq_getElem (show i < ms.length by omega)]
    have ej : ms.getD j 0 = ms[j]'(by omega) := by simp [List.getD, List.getElem?_eq_getElem (show j < ms.length by omega)]
    rw [ei, ej] at e
    refine Classical.byContradiction fun ne => ?_
    rcases Nat.lt_or_gt_of_ne ne with h | h
    · exact List.pairwise_iff_getElem.mp h2 i j (by omega) (by omega) h e
    · exact List.pairwise_iff_getElem.mp h2 j i (by omega) (by omega) h e.symm
  have mem : ∀ i : Nat, i < n → 0 ≤ ms.getD i 0 ∧ ms.getD i 0 < (n : Int) := fun i hi => by
    have ei : ms.getD i 0 = ms[i]'(by omega) := by simp [List.getD, List.getElem?_eq_getElem (show i < ms.length by omega)]
    rw [ei]
    exact h3 _ (List.getElem_mem _)
  have back : ∀ x ∈ (sortP (is.map (arw ms))).take 12, ∃ q ∈ is, x = arw ms q := fun x hx => by
    have := (sortP_perm _).mem_iff.mp (List.mem_of_mem_take hx)
    obtain ⟨q, hq, rfl⟩ := List.mem_map.mp this
    exact ⟨q, hq, rfl⟩
  have nd : (is.map (arw ms)).Nodup := by
    refine List.pairwise_map.mpr (List.Pairwise.imp_of_mem ?_ p.nd)
    intro a b ha hb ne e
    obtain ⟨a1, a2⟩ := p.rng a ha
    obtain ⟨b1, b2⟩ := p.rng b hb
    have e1 := inj _ _ a1 b1 (congrArg Prod.fst e)
    have e2 := inj _ _ a2 b2 (congrArg Prod.snd e)
    exact ne (Prod.ext e1 e2)
  refine ⟨fun x hx => ?_, ?_, ?_, ?_⟩
  · obtain ⟨q, hq, rfl⟩ := back x hx
    exact ⟨mem _ (p.rng q hq).1, mem _ (p.rng q hq).2⟩
  · have a := (sortP_pw (is.map (arw ms))).and ((sortP_perm (is.map (arw ms))).nodup_iff.mpr nd)
    refine (List.Pairwise.imp ?_ a).sublist (List.take_sublist _ _)
    rintro x y ⟨l, ne⟩
    unfold leP at l
    simp at l
    rcases l with l | ⟨l1, l2⟩
    · exact .inl l
    · refine .inr ⟨l1, ?_⟩
      rcases Int.lt_or_eq_of_le l2 with q | q
      · exact q
      · exact absurd (Prod.ext l1 q) ne
  · obtain ⟨r, hr⟩ := p.rank
    refine ⟨fun v => r ((idxI v ms).getD 0), fun x hx => ?_⟩
    obtain ⟨q, hq, rfl⟩ := back x hx
    have at_ : ∀ i : Nat, i < n → (idxI (ms.getD i 0) ms).getD 0 = i := fun i hi => by
      have ei : ms[i]? = some (ms.getD i 0) := by simp [List.getD, List.getElem?_eq_getElem (show i < ms.length by omega)]
      obtain ⟨j, hj⟩ := idx_some (List.mem_of_getElem? ei)
      rw [hj]
      exact idx_at h2 hj ei
    show r ((idxI (ms.getD q.1 0) ms).getD 0) < r ((idxI (ms.getD q.2 0) ms).getD 0)
    rw [at_ _ (p.rng q hq).1, at_ _ (p.rng q hq).2]
    exact hr q hq
  · rw [List.length_take]
    omega
def stE (n : Nat) (ms : List Int) (way much : Nat) (is : List (Nat × Nat)) (x3 x7 x8 : Sl) : Say.Env := [.dat .pen, .dat (.int (n : Int)), .dat (.int (much : Int)), x3, .dat (.lst (ms.map D.int)), .dat (.int (way : Int)), .own (.lst ((is.map (arw ms)).map prD)), x7, x8]
theorem push_prs {ms : List Int} {is : List (Nat × Nat)} (h : is.length ≤ 1000) (p : Nat × Nat) : pushD ((is.map (arw ms)).map prD) (prD (arw ms p)) = pure (((is ++ [p]).map (arw ms)).map prD) := by
  unfold pushD
  rw [if_pos (by simp; omega)]
  simp
/-- keep and way != 4: the arrow joins -/
theorem keep_ok {n : Nat} {ms : List Int} {way much a l : Nat} {is : List (Nat × Nat)} {b : Bool} {N : Nat} {k' kk : Say.Env → M D} {P : D → Prop} (hl : is.length ≤ 1000) (ha : a < ms.length) (hb : l < ms.length) (hk : ∀ is', (is' = is ∨ (way ≠ 4 ∧ is' = is ++ [(a, l)])) → Tr N (k' (stE n ms way much is' (.dat (.int (a : Int))) (.dat (.int (l : Int))) (.dat (.bl b)))) P) :
    Tr N ((sIf (tAnd (tVal (dVar 8)) (tCmp neD (dVar 5) (dC (.int 4)))) (sApp 6 (dTup [(dBin ixD (dVar 4) (dVar 3)), (dBin ixD (dVar 4) (dVar 7))])) sNil) k' pure kk k' (stE n ms way much is (.dat (.int (a : Int))) (.dat (.int (l : Int))) (.dat (.bl b)))) P := by
  simp only [stE, runS, startE, sSeq, sIf, sSet, sRet, sRetN, sNil, sParV, sFor, sApp, sAppPop, tCmp, tVal, tAnd, tOr, tNot, tYes, tThaw, andB, orB, notB, andV, orV, notV, dC, dBin, dBlt, dVar, dCall, dNew, dThaw, dTup, dIf, dAnd, dOr, dNot, dIsi, dSl, dAttr, oN, oS, nLst, nList, nRng1, nRng2, nSeq, nOwn, nSorted, nThaw, gNm, vD, vN, seqV, setE, Say.pure_bind, Say.bind_assoc, List.getElem?_cons_zero, List.getElem?_cons_succ, seqA, slD, List.set_cons_succ, List.set_cons_zero, thaw, Sl.thaw, List.map_cons, List.map_nil, lift_some, truB_bl, bindT, ownL, slOwn, List.length_cons, List.length_nil, List.cons_append, List.nil_append, List.replicate, Nat.reduceAdd, Nat.reduceSub, List.all_cons, List.all_nil, mkTup0, mkTup1, mkTup2, mkLst0, mkLst1, mkLst4, mkLst5, mkLst8, wipeE, sPar, sOwnS, sStore2, sPut, dNeg, negD, ne_int, ix_ms ha, ix_ms hb]
  cases b with
  | false =>
    simp only [Bool.false_eq_true, if_false, Say.pure_bind]
    exact hk is (.inl rfl)
  | true =>
    simp only [if_true, Say.pure_bind]
    by_cases w : (way : Int) = 4
    · simp only [w, decide_true, Bool.not_true, Bool.false_eq_true, if_false]
      have := hk is (.inl rfl)
      unfold stE at this
      rw [w] at this
      exact this
    · simp only [w, decide_false, Bool.not_false, if_true]
      rw [show D.tup [D.int (ms.getD a 0), D.int (ms.getD l 0)] = prD (arw ms (a, l)) from rfl, push_prs hl]
      simp only [Say.pure_bind, runS, startE, sSeq, sIf, sSet, sRet, sRetN, sNil, sParV, sFor, sApp, sAppPop, tCmp, tVal, tAnd, tOr, tNot, tYes, tThaw, andB, orB, notB, andV, orV, notV, dC, dBin, dBlt, dVar, dCall, dNew, dThaw, dTup, dIf, dAnd, dOr, dNot, dIsi, dSl, dAttr, oN, oS, nLst, nList, nRng1, nRng2, nSeq, nOwn, nSorted, nThaw, gNm, vD, vN, seqV, setE, Say.pure_bind, Say.bind_assoc, List.getElem?_cons_zero, List.getElem?_cons_succ, seqA, slD, List.set_cons_succ, List.set_cons_zero, thaw, Sl.thaw, List.map_cons, List.map_nil, lift_some, truB_bl, bindT, ownL, slOwn, List.length_cons, List.length_nil, List.cons_append, List.nil_append, List.replicate, Nat.reduceAdd, Nat.reduceSub, List.all_cons, List.all_nil, mkTup0, mkTup1, mkTup2, mkLst0, mkLst1, mkLst4, mkLst5, mkLst8, wipeE, sPar, sOwnS, sStore2, sPut, dNeg, negD]
      exact hk _ (.inr ⟨by omega, rfl⟩)
theorem turn_ok {n : Nat} {ms : List Int} {way much a l : Nat} {is : List (Nat × Nat)} {x8 : Sl} {N : Nat} {k' kk : Say.Env → M D} {P : D → Prop} (hm : 1 ≤ much) (hm2 : much ≤ 4) (hl : is.length ≤ 1000) (ha : a < ms.length) (hb : l < ms.length) (hk : ∀ is', (is' = is ∨ (way ≠ 4 ∧ is' = is ++ [(a, l)])) → ∀ x8, Tr N (k' (stE n ms way much is' (.dat (.int (a : Int))) (.dat (.int (l : Int))) x8)) P) :
    Tr (2 + N) ((sSeq (sSet 8 (dBin eqD (dCall m__law_draw [(dVar 0), (dVar 2)]) (dC (.int 0))))
  (sSeq (sIf (tCmp eqD (dVar 5) (dC (.int 2))) (sSet 8 (dOr (dBin eqD (dVar 3) (dBin (iiD fun i j => .int (i - j)) (dVar 7) (dC (.int 1)))) (dBin eqD (dCall m__law_draw [(dVar 0), (dC (.int 9))]) (dC (.int 0))))) (sIf (tCmp eqD (dVar 5) (dC (.int 3))) (sSet 8 (dBin (odD .gt) (dCall m__law_draw [(dVar 0), (dC (.int 5))]) (dC (.int 0)))) sNil))
  (sIf (tAnd (tVal (dVar 8)) (tCmp neD (dVar 5) (dC (.int 4)))) (sApp 6 (dTup [(dBin ixD (dVar 4) (dVar 3)), (dBin ixD (dVar 4) (dVar 7))])) sNil))) k' pure kk k' (stE n ms way much is (.dat (.int (a : Int))) (.dat (.int (l : Int))) x8)) P := by
  have tail : ∀ b : Bool, Tr N ((sIf (tAnd (tVal (dVar 8)) (tCmp neD (dVar 5) (dC (.int 4)))) (sApp 6 (dTup [(dBin ixD (dVar 4) (dVar 3)), (dBin ixD (dVar 4) (dVar 7))])) sNil) k' pure kk k' (stE n ms way much is (.dat (.int (a : Int))) (.dat (.int (l : Int))) (.dat (.bl b)))) P := fun b => keep_ok hl ha hb fun is' h => hk is' h _
  generalize (sIf (tAnd (tVal (dVar 8)) (tCmp neD (dVar 5) (dC (.int 4)))) (sApp 6 (dTup [(dBin ixD (dVar 4) (dVar 3)), (dBin ixD (dVar 4) (dVar 7))])) sNil : S) = C at tail ⊢
  unfold stE at tail ⊢
  simp only [runS, startE, sSeq, sIf, sSet, sRet, sRetN, sNil, sParV, sFor, sApp, sAppPop, tCmp, tVal, tAnd, tOr, tNot, tYes, tThaw, andB, orB, notB, andV, orV, notV, dC, dBin, dBlt, dVar, dCall, dNew, dThaw, dTup, dIf, dAnd, dOr, dNot, dIsi, dSl, dAttr, oN, oS, nLst, nList, nRng1, nRng2, nSeq, nOwn, nSorted, nThaw, gNm, vD, vN, seqV, setE, Say.pure_bind, Say.bind_assoc, List.getElem?_cons_zero, List.getElem?_cons_succ, seqA, slD, List.set_cons_succ, List.set_cons_zero, thaw, Sl.thaw, List.map_cons, List.map_nil, lift_some, truB_bl, bindT, ownL, slOwn, List.length_cons, List.length_nil, List.cons_append, List.nil_append, List.replicate, Nat.reduceAdd, Nat.reduceSub, List.all_cons, List.all_nil, mkTup0, mkTup1, mkTup2, mkLst0, mkLst1, mkLst4, mkLst5, mkLst8, wipeE, sPar, sOwnS, sStore2, sPut, dNeg, negD]
  refine Tr.bind (C2 := 1 + N) (draw_ok hm (by omega)) fun d ⟨r, ed, hr⟩ => ?_
  subst ed
  simp only [runS, startE, sSeq, sIf, sSet, sRet, sRetN, sNil, sParV, sFor, sApp, sAppPop, tCmp, tVal, tAnd, tOr, tNot, tYes, tThaw, andB, orB, notB, andV, orV, notV, dC, dBin, dBlt, dVar, dCall, dNew, dThaw, dTup, dIf, dAnd, dOr, dNot, dIsi, dSl, dAttr, oN, oS, nLst, nList, nRng1, nRng2, nSeq, nOwn, nSorted, nThaw, gNm, vD, vN, seqV, setE, Say.pure_bind, Say.bind_assoc, List.getElem?_cons_zero, List.getElem?_cons_succ, seqA, slD, List.set_cons_succ, List.set_cons_zero, thaw, Sl.thaw, List.map_cons, List.map_nil, lift_some, truB_bl, bindT, ownL, slOwn, List.length_cons, List.length_nil, List.cons_append, List.nil_append, List.replicate, Nat.reduceAdd, Nat.reduceSub, List.all_cons, List.all_nil, mkTup0, mkTup1, mkTup2, mkLst0, mkLst1, mkLst4, mkLst5, mkLst8, wipeE, sPar, sOwnS, sStore2, sPut, dNeg, negD, eq_int, ii_int, od_int]
  by_cases w2 : (way : Int) = 2
  · simp only [w2, decide_true, if_true]
    rw [w2] at tail
    by_cases e : (a : Int) = (l : Int) - 1
    · simp only [e, decide_true, if_true, Say.pure_bind]
      rw [e] at tail
      exact (tail true).mono (fun _ z => z)
    · simp only [e, decide_false, Bool.false_eq_true, if_false, Say.bind_assoc]
      refine Tr.bind (C1 := 1) (C2 := N) (draw_ok (many := 9) (by decide) (by decide)) fun d ⟨r, ed, hr⟩ => ?_
      subst ed
      simp only [runS, startE, sSeq, sIf, sSet, sRet, sRetN, sNil, sParV, sFor, sApp, sAppPop, tCmp, tVal, tAnd, tOr, tNot, tYes, tThaw, andB, orB, notB, andV, orV, notV, dC, dBin, dBlt, dVar, dCall, dNew, dThaw, dTup, dIf, dAnd, dOr, dNot, dIsi, dSl, dAttr, oN, oS, nLst, nList, nRng1, nRng2, nSeq, nOwn, nSorted, nThaw, gNm, vD, vN, seqV, setE, Say.pure_bind, Say.bind_assoc, List.getElem?_cons_zero, List.getElem?_cons_succ, seqA, slD, List.set_cons_succ, List.set_cons_zero, thaw, Sl.thaw, List.map_cons, List.map_nil, lift_some, truB_bl, bindT, ownL, slOwn, List.length_cons, List.length_nil, List.cons_append, List.nil_append, List.replicate, Nat.reduceAdd, Nat.reduceSub, List.all_cons, List.all_nil, mkTup0, mkTup1, mkTup2, mkLst0, mkLst1, mkLst4, mkLst5, mkLst8, wipeE, sPar, sOwnS, sStore2, sPut, dNeg, negD, eq_int]
      exact tail _
  · simp only [w2, decide_false, Bool.false_eq_true, if_false]
    by_cases w3 : (way : Int) = 3
    · simp only [w3, decide_true, if_true]
      rw [w3] at tail
      refine Tr.bind (C1 := 1) (C2 := N) (draw_ok (many := 5) (by decide) (by decide)) fun d ⟨r, ed, hr⟩ => ?_
      subst ed
      simp only [runS, startE, sSeq, sIf, sSet, sRet, sRetN, sNil, sParV, sFor, sApp, sAppPop, tCmp, tVal, tAnd, tOr, tNot, tYes, tThaw, andB, orB, notB, andV, orV, notV, dC, dBin, dBlt, dVar, dCall, dNew, dThaw, dTup, dIf, dAnd, dOr, dNot, dIsi, dSl, dAttr, oN, oS, nLst, nList, nRng1, nRng2, nSeq, nOwn, nSorted, nThaw, gNm, vD, vN, seqV, setE, Say.pure_bind, Say.bind_assoc, List.getElem?_cons_zero, List.getElem?_cons_succ, seqA, slD, List.set_cons_succ, List.set_cons_zero, thaw, Sl.thaw, List.map_cons, List.map_nil, lift_some, truB_bl, bindT, ownL, slOwn, List.length_cons, List.length_nil, List.cons_append, List.nil_append, List.replicate, Nat.reduceAdd, Nat.reduceSub, List.all_cons, List.all_nil, mkTup0, mkTup1, mkTup2, mkLst0, mkLst1, mkLst4, mkLst5, mkLst8, wipeE, sPar, sOwnS, sStore2, sPut, dNeg, negD, od_int]
      exact tail _
    · simp only [w3, decide_false, Bool.false_eq_true, if_false]
      exact (tail _).mono (fun _ z => z)
theorem sortD_prs (l : List (Int × Int)) : sortD (l.map prD) = some ((sortP l).map prD) := by
  cases l with
  | nil => simp [sortD, intsOf, sortI, sortP]
  | cons x l =>
    show (match intsOf (prD x :: l.map prD) with | some ns => some ((sortI ns).map D.int) | none => (pairsOf ((x :: l).map prD)).map fun ns => (sortP ns).map prD) = _
    rw [pairsOf_map]
    rfl
theorem cut12 {α : Type} (xs : List α) : cutG xs none (some 12) = xs.take 12 := by
  unfold cutG
  rw [show (12 : Int) = ((12 : Nat) : Int) from rfl, HT.sIx_none, HT.sIx_nat, List.drop_zero, Nat.sub_zero]
  by_cases h : 12 ≤ xs.length
  · rw [Nat.min_eq_left h]
  · rw [Nat.min_eq_right (by omega), List.take_length, List.take_of_length_le (by omega)]
/-- the end: sorted, cut -/
theorem arrows_end {n : Nat} {ms : List Int} (pm : ms.Perm ((List.range n).map fun k : Nat => (k : Int))) {way much : Nat} {is : List (Nat × Nat)} (p : Pl n is) (x3 x7 x8 : Sl) :
    Tr 0 (sRet (dBlt tupleD [(dSl (dNew (nSorted [(dVar 6)])) oN (oS (dC (.int 12))))]) (fun _ => pure .non) pure (fun _ => bad) (fun _ => bad) (stE n ms way much is x3 x7 x8)) (fun d => ∃ E, d = .tup (E.map prD) ∧ Good n E) := by
  simp only [stE, runS, startE, sSeq, sIf, sSet, sRet, sRetN, sNil, sParV, sFor, sApp, sAppPop, tCmp, tVal, tAnd, tOr, tNot, tYes, tThaw, andB, orB, notB, andV, orV, notV, dC, dBin, dBlt, dVar, dCall, dNew, dThaw, dTup, dIf, dAnd, dOr, dNot, dIsi, dSl, dAttr, oN, oS, nLst, nList, nRng1, nRng2, nSeq, nOwn, nSorted, nThaw, gNm, vD, vN, seqV, setE, Say.pure_bind, Say.bind_assoc, List.getElem?_cons_zero, List.getElem?_cons_succ, seqA, slD, List.set_cons_succ, List.set_cons_zero, thaw, Sl.thaw, List.map_cons, List.map_nil, lift_some, truB_bl, bindT, ownL, slOwn, List.length_cons, List.length_nil, List.cons_append, List.nil_append, List.replicate, Nat.reduceAdd, Nat.reduceSub, List.all_cons, List.all_nil, mkTup0, mkTup1, mkTup2, mkLst0, mkLst1, mkLst4, mkLst5, mkLst8, wipeE, sPar, sOwnS, sStore2, sPut, dNeg, negD, sortedM, sortD_prs, intM, sliceD, cut12]
  rw [← List.map_take]
  simp only [tupleD, lift_some]
  exact Tr.pure ⟨_, rfl, p.good pm⟩
theorem loop4 {n : Nat} {ms : List Int} (h1n : 1 ≤ n) (hn : n ≤ 6) (hms : ms.length = n) {way much N : Nat} {k : Say.Env → M D} {P : D → Prop} (hk : ∀ is x3 x7 x8, Pl n is → Tr N (k (stE n ms way much is x3 x7 x8)) P) (x3 x7 x8 : Sl) :
    Tr (2 * (n - 1) + N) (forS (gNm 7) (sSeq (sSet 3 (dCall m__law_draw [(dVar 0), (dVar 7)]))
  (sApp 6 (dIf (tCmp (odD .gt) (dCall m__law_draw [(dVar 0), (dC (.int 3))]) (dC (.int 0))) (dTup [(dBin ixD (dVar 4) (dVar 3)), (dBin ixD (dVar 4) (dVar 7))]) (dTup [(dBin ixD (dVar 4) (dVar 7)), (dBin ixD (dVar 4) (dVar 3))])))) k pure ((List.range (n - 1)).map fun (j : Nat) => D.int ((1 + j : Nat) : Int)) (stE n ms way much [] x3 x7 x8)) P := by
  refine forN (C := 2) (n - 1) (fun (j : Nat) => D.int ((1 + j : Nat) : Int)) (fun j ρ => ∃ is x3 x7 x8, ρ = stE n ms way much is x3 x7 x8 ∧ is.Nodup ∧ (∀ p ∈ is, p.1 < 1 + j ∧ p.2 < 1 + j) ∧ (∃ r : Nat → Nat, ∀ p ∈ is, r p.1 < r p.2) ∧ is.length ≤ j) ?_ ?_ _ ⟨[], x3, x7, x8, rfl, .nil, fun p h => (by cases h), ⟨fun _ => 0, fun p h => (by cases h)⟩, Nat.le_refl _⟩
  · rintro ρ ⟨is, x3, x7, x8, rfl, h1, h2, h3, h4⟩
    refine hk is _ _ _ ⟨h1, fun p hp => ?_, h3, ?_⟩
    · have := h2 p hp
      omega
    · omega
  · rintro j hj ρ ⟨is, x3, x7, x8, rfl, h1, h2, ⟨r, h3⟩, h4⟩ N' k' hk'
    simp only [stE, runS, startE, sSeq, sIf, sSet, sRet, sRetN, sNil, sParV, sFor, sApp, sAppPop, tCmp, tVal, tAnd, tOr, tNot, tYes, tThaw, andB, orB, notB, andV, orV, notV, dC, dBin, dBlt, dVar, dCall, dNew, dThaw, dTup, dIf, dAnd, dOr, dNot, dIsi, dSl, dAttr, oN, oS, nLst, nList, nRng1, nRng2, nSeq, nOwn, nSorted, nThaw, gNm, vD, vN, seqV, setE, Say.pure_bind, Say.bind_assoc, List.getElem?_cons_zero, List.getElem?_cons_succ, seqA, slD, List.set_cons_succ, List.set_cons_zero, thaw, Sl.thaw, List.map_cons, List.map_nil, lift_some, truB_bl, bindT, ownL, slOwn, List.length_cons, List.length_nil, List.cons_append, List.nil_append, List.replicate, Nat.reduceAdd, Nat.reduceSub, List.all_cons, List.all_nil, mkTup0, mkTup1, mkTup2, mkLst0, mkLst1, mkLst4, mkLst5, mkLst8, wipeE, sPar, sOwnS, sStore2, sPut, dNeg, negD]
    refine Tr.bind (C1 := 1) (C2 := 1 + N') (draw_ok (many := 1 + j) (by omega) (by omega)) fun d ⟨a, ed, ha⟩ => ?_
    subst ed
    refine Tr.bind (C1 := 1) (C2 := N') (draw_ok (many := 3) (by decide) (by decide)) fun d ⟨b, ed, hb⟩ => ?_
    subst ed
    simp only [runS, startE, sSeq, sIf, sSet, sRet, sRetN, sNil, sParV, sFor, sApp, sAppPop, tCmp, tVal, tAnd, tOr, tNot, tYes, tThaw, andB, orB, notB, andV, orV, notV, dC, dBin, dBlt, dVar, dCall, dNew, dThaw, dTup, dIf, dAnd, dOr, dNot, dIsi, dSl, dAttr, oN, oS, nLst, nList, nRng1, nRng2, nSeq, nOwn, nSorted, nThaw, gNm, vD, vN, seqV, setE, Say.pure_bind, Say.bind_assoc, List.getElem?_cons_zero, List.getElem?_cons_succ, seqA, slD, List.set_cons_succ, List.set_cons_zero, thaw, Sl.thaw, List.map_cons, List.map_nil, lift_some, truB_bl, bindT, ownL, slOwn, List.length_cons, List.length_nil, List.cons_append, List.nil_append, List.replicate, Nat.reduceAdd, Nat.reduceSub, List.all_cons, List.all_nil, mkTup0, mkTup1, mkTup2, mkLst0, mkLst1, mkLst4, mkLst5, mkLst8, wipeE, sPar, sOwnS, sStore2, sPut, dNeg, negD, od_int, ix_ms (show a < ms.length by omega), ix_ms (show 1 + j < ms.length by omega)]
    have both : ∀ q : Nat × Nat, (q = (a, 1 + j) ∨ q = (1 + j, a)) → (∃ r' : Nat → Nat, ∀ p ∈ is ++ [q], r' p.1 < r' p.2) → Tr N' (k' [.dat .pen, .dat (.int (n : Int)), .dat (.int (much : Int)), .dat (.int (a : Int)), .dat (.lst (ms.map D.int)), .dat (.int (way : Int)), .own (.lst (((is ++ [q]).map (arw ms)).map prD)), .dat (.int ((1 + j : Nat) : Int)), x8]) P := fun q hq hr => by
      refine hk' _ ⟨is ++ [q], _, _, _, rfl, ?_, fun p hp => ?_, hr, by simp; omega⟩
      · rw [List.nodup_append]
        refine ⟨h1, by simp, fun p hp z hz e => ?_⟩
        rw [List.mem_singleton.mp hz] at e
        have := h2 p hp
        rcases hq with rfl | rfl <;> (rw [e] at this; simp only at this; omega)
      · rcases List.mem_append.mp
            hp with hp | hp
        · have := h2 p hp
          omega
        · rw
              [List.mem_singleton.mp hp]
          rcases hq with rfl | rfl <;> (simp only; omega)
    cases Od.gt.i (b : Int) 0 with
    | true =>
      simp only [if_true]
      rw [show D.tup [D.int (ms.getD a 0), D.int (ms.getD (1 + j) 0)] = prD (arw ms (a, 1 + j)) from rfl, Say.pure_bind, push_prs (by omega)]
      simp only [runS, startE, sSeq, sIf, sSet, sRet, sRetN, sNil, sParV, sFor, sApp, sAppPop, tCmp, tVal, tAnd, tOr, tNot, tYes, tThaw, andB, orB, notB, andV, orV, notV, dC, dBin, dBlt, dVar, dCall, dNew, dThaw, dTup, dIf, dAnd, dOr, dNot, dIsi, dSl, dAttr, oN, oS, nLst, nList, nRng1, nRng2, nSeq, nOwn, nSorted, nThaw, gNm, vD, vN, seqV, setE, Say.pure_bind, Say.bind_assoc, List.getElem?_cons_zero, List.getElem?_cons_succ, seqA, slD, List.set_cons_succ, List.set_cons_zero, thaw, Sl.thaw, List.map_cons, List.map_nil, lift_some, truB_bl, bindT, ownL, slOwn, List.length_cons, List.length_nil, List.cons_append, List.nil_append, List.replicate, Nat.reduceAdd, Nat.reduceSub, List.all_cons, List.all_nil, mkTup0, mkTup1, mkTup2, mkLst0, mkLst1, mkLst4, mkLst5, mkLst8, wipeE, sPar, sOwnS, sStore2, sPut, dNeg, negD]
      refine both (a, 1 + j) (.inl rfl) ⟨fun v => if v = 1 + j then r a + 1 else r v, fun p hp => ?_⟩
      rcases List.mem_append.mp
          hp with hp | hp
      · have := h2 p hp
        simp only [if_neg (show ¬ p.1 = 1 + j by omega), if_neg (show ¬ p.2 = 1 + j by omega)]
        exact h3 p hp
      · rw
            [List.mem_singleton.mp hp]
        simp only [if_neg (show ¬ a = 1 + j by omega), if_true]
        omega
    | false =>
      simp only [Bool.false_eq_true,
          if_false]
      rw [show D.tup [D.int (ms.getD (1 + j) 0), D.int (ms.getD a 0)] = prD (arw ms (1 + j, a)) from rfl, Say.pure_bind, push_prs (by omega)]
      simp only [runS, startE, sSeq, sIf, sSet, sRet, sRetN, sNil, sParV, sFor, sApp, sAppPop, tCmp, tVal, tAnd, tOr, tNot, tYes, tThaw, andB, orB, notB, andV, orV, notV, dC, dBin, dBlt, dVar, dCall, dNew, dThaw, dTup, dIf, dAnd, dOr, dNot, dIsi, dSl, dAttr, oN, oS, nLst, nList, nRng1, nRng2, nSeq, nOwn, nSorted, nThaw, gNm, vD, vN, seqV, setE, Say.pure_bind, Say.bind_assoc, List.getElem?_cons_zero, List.getElem?_cons_succ, seqA, slD, List.set_cons_succ, List.set_cons_zero, thaw, Sl.thaw, List.map_cons, List.map_nil, lift_some, truB_bl, bindT, ownL, slOwn, List.length_cons, List.length_nil, List.cons_append, List.nil_append, List.replicate, Nat.reduceAdd, Nat.reduceSub, List.all_cons, List.all_nil, mkTup0, mkTup1, mkTup2, mkLst0, mkLst1, mkLst4, mkLst5, mkLst8, wipeE, sPar, sOwnS, sStore2, sPut, dNeg, negD]
      refine both (1 + j, a) (.inr rfl) ⟨fun v => if v = 1 + j then 0 else r v + 1, fun p hp => ?_⟩
      rcases List.mem_append.mp
          hp with hp | hp
      · have := h2 p hp
        simp only [if_neg (show ¬ p.1 = 1 + j by omega), if_neg (show ¬ p.2 = 1 + j by omega)]
        have := h3 p hp
        omega
      · rw
            [List.mem_singleton.mp hp]
        simp only [if_neg (show ¬ a = 1 + j by omega), if_true]
        omega
theorem arrows_made {n : Nat} (h1n : 1 ≤ n) (hn : n ≤ 6) : Tr 120 (m__law_web_arrows [.pen, .int (n : Int)]) (fun d => ∃ E, d = .tup (E.map prD) ∧ Good n E) := by
  simp only [m__law_web_arrows, S__law_web_arrows, runS, startE, sSeq, sIf, sSet, sRet, sRetN, sNil, sParV, sFor, sApp, sAppPop, tCmp, tVal, tAnd, tOr, tNot, tYes, tThaw, andB, orB, notB, andV, orV, notV, dC, dBin, dBlt, dVar, dCall, dNew, dThaw, dTup, dIf, dAnd, dOr, dNot, dIsi, dSl, dAttr, oN, oS, nLst, nList, nRng1, nRng2, nSeq, nOwn, nSorted, nThaw, gNm, vD, vN, seqV, setE, Say.pure_bind, Say.bind_assoc, List.getElem?_cons_zero, List.getElem?_cons_succ, seqA, slD, List.set_cons_succ, List.set_cons_zero, thaw, Sl.thaw, List.map_cons, List.map_nil, lift_some, truB_bl, bindT, ownL, slOwn, List.length_cons, List.length_nil, List.cons_append, List.nil_append, List.replicate, Nat.reduceAdd, Nat.reduceSub, List.all_cons, List.all_nil, mkTup0, mkTup1, mkTup2, mkLst0, mkLst1, mkLst4, mkLst5, mkLst8, wipeE, sPar, sOwnS, sStore2, sPut, dNeg, negD, rngM_nat n (by omega), Nat.reduceLT, decide_true, Bool.and_self, if_true]
  rw [show ((List.range n).map fun k : Nat => D.int (k : Int)) = ((List.range n).map fun k : Nat => (k : Int)).map D.int from by rw [List.map_map]; rfl]
  refine Tr.bind (C1 := 6) (C2 := 114) ((shuffled_ok (ns := (List.range n).map fun k : Nat => (k : Int)) (by simp; omega)).mono (fun _ z => z) (by simp; omega)) fun d ⟨ms, ed, pm⟩ => ?_
  subst ed
  refine Tr.bind (C1 := 1) (C2 := 113) (draw_ok (many := 6) (by decide) (by decide)) fun d ⟨way, ed, hway⟩ => ?_
  subst ed
  refine Tr.bind (C1 := 1) (C2 := 112) (pick_ok (by show 1 ≤ 4; decide) (by show 4 < 1073741824; decide)) fun d hd => ?_
  obtain ⟨much, rfl, hm1, hm2⟩ : ∃ much : Nat, d = .int (much : Int) ∧ 1 ≤ much ∧ much ≤ 4 := by
    simp only [List.mem_cons, List.not_mem_nil, or_false] at hd
    rcases hd with rfl | rfl | rfl | rfl
    · exact ⟨2, rfl, by decide, by decide⟩
    · exact ⟨3, rfl, by decide, by decide⟩
    · exact ⟨2, rfl, by decide, by decide⟩
    · exact ⟨4, rfl, by decide, by decide⟩
  have hms : ms.length = n := (perm_range.mp pm).1
  rw [show (((List.range n).map fun k : Nat => (k : Int)).map D.int) = ((List.range n).map fun k : Nat => D.int (k : Int)) from by rw [List.map_map]; rfl]
  refine Tr.mono (forN (C := 12) (C0 := 10) n (fun (k : Nat) => D.int (k : Int)) (fun j ρ => ∃ is x3 x7 x8, ρ = stE n ms way much is x3 x7 x8 ∧ is.Nodup ∧ (∀ p ∈ is, p.1 < p.2 ∧ p.2 < n ∧ p.1 < j) ∧ (way = 4 → is = []) ∧ is.length ≤ 6 * j) ?_ ?_ _ ⟨[], .no, .no, .no, rfl, .nil, fun p h => (by cases h), fun _ => rfl, Nat.zero_le _⟩) (fun _ z => z) (by omega)
  · rintro ρ ⟨is, x3, x7, x8, rfl, h1, h2, h3, h4⟩
    by_cases w : (way : Int) = 4
    · have e := h3 (by omega)
      subst e
      have L := loop4 (way := way) (much := much) (N := 0) h1n hn hms (k := fun ρ => sRet (dBlt tupleD [(dSl (dNew (nSorted [(dVar 6)])) oN (oS (dC (.int 12))))]) (fun _ => pure .non) pure (fun _ => bad) (fun _ => bad) ρ) (P := fun d => ∃ E, d = .tup (E.map prD) ∧ Good n E) (fun is x3 x7 x8 p => arrows_end pm p x3 x7 x8) x3 x7 x8
      have e0 : sSeq (sIf (tCmp eqD (dVar 5) (dC (.int 4))) (sFor (nRng2 (dC (.int 1)) (dVar 1)) (gNm 7) (sSeq (sSet 3 (dCall m__law_draw [(dVar 0), (dVar 7)]))
  (sApp 6 (dIf (tCmp (odD .gt) (dCall m__law_draw [(dVar 0), (dC (.int 3))]) (dC (.int 0))) (dTup [(dBin ixD (dVar 4) (dVar 3)), (dBin ixD (dVar 4) (dVar 7))]) (dTup [(dBin ixD (dVar 4) (dVar 7)), (dBin ixD (dVar 4) (dVar 3))]))))) sNil) (sRet (dBlt tupleD [(dSl (dNew (nSorted [(dVar 6)])) oN (oS (dC (.int 12))))])) (fun _ => pure .non) pure (fun _ => bad) (fun _ => bad) (stE n ms way much [] x3 x7 x8) = forS (gNm 7) (sSeq (sSet 3 (dCall m__law_draw [(dVar 0), (dVar 7)]))
  (sApp 6 (dIf (tCmp (odD .gt) (dCall m__law_draw [(dVar 0), (dC (.int 3))]) (dC (.int 0))) (dTup [(dBin ixD (dVar 4) (dVar 3)), (dBin ixD (dVar 4) (dVar 7))]) (dTup [(dBin ixD (dVar 4) (dVar 7)), (dBin ixD (dVar 4) (dVar 3))])))) (fun ρ => sRet (dBlt tupleD [(dSl (dNew (nSorted [(dVar 6)])) oN (oS (dC (.int 12))))]) (fun _ => pure .non) pure (fun _ => bad) (fun _ => bad) ρ) pure ((List.range (n - 1)).map fun (j : Nat) => D.int ((1 + j : Nat) : Int)) (stE n ms way much [] x3 x7 x8) := by
        rw [sSeq, sIf]
        have t1 : tCmp eqD (dVar 5) (dC (.int 4)) (stE n ms way much [] x3 x7 x8) = pure true := by
          simp only [stE, runS, startE, sSeq, sIf, sSet, sRet, sRetN, sNil, sParV, sFor, sApp, sAppPop, tCmp, tVal, tAnd, tOr, tNot, tYes, tThaw, andB, orB, notB, andV, orV, notV, dC, dBin, dBlt, dVar, dCall, dNew, dThaw, dTup, dIf, dAnd, dOr, dNot, dIsi, dSl, dAttr, oN, oS, nLst, nList, nRng1, nRng2, nSeq, nOwn, nSorted, nThaw, gNm, vD, vN, seqV, setE, Say.pure_bind, Say.bind_assoc, List.getElem?_cons_zero, List.getElem?_cons_succ, seqA, slD, List.set_cons_succ, List.set_cons_zero, thaw, Sl.thaw, List.map_cons, List.map_nil, lift_some, truB_bl, bindT, ownL, slOwn, List.length_cons, List.length_nil, List.cons_append, List.nil_append, List.replicate, Nat.reduceAdd, Nat.reduceSub, List.all_cons, List.all_nil, mkTup0, mkTup1, mkTup2, mkLst0, mkLst1, mkLst4, mkLst5, mkLst8, wipeE, sPar, sOwnS, sStore2, sPut, dNeg, negD, eq_int, w, decide_true]
        rw [t1, Say.pure_bind, if_pos rfl, sFor]
        have t2 : nRng2 (dC (.int 1)) (dVar 1) (stE n ms way much [] x3 x7 x8) = pure ((List.range (n - 1)).map fun (j : Nat) => D.int ((1 + j : Nat) : Int)) := by
          simp only [stE, runS, startE, sSeq, sIf, sSet, sRet, sRetN, sNil, sParV, sFor, sApp, sAppPop, tCmp, tVal, tAnd, tOr, tNot, tYes, tThaw, andB, orB, notB, andV, orV, notV, dC, dBin, dBlt, dVar, dCall, dNew, dThaw, dTup, dIf, dAnd, dOr, dNot, dIsi, dSl, dAttr, oN, oS, nLst, nList, nRng1, nRng2, nSeq, nOwn, nSorted, nThaw, gNm, vD, vN, seqV, setE, Say.pure_bind, Say.bind_assoc, List.getElem?_cons_zero, List.getElem?_cons_succ, seqA, slD, List.set_cons_succ, List.set_cons_zero, thaw, Sl.thaw, List.map_cons, List.map_nil, lift_some, truB_bl, bindT, ownL, slOwn, List.length_cons, List.length_nil, List.cons_append, List.nil_append, List.replicate, Nat.reduceAdd, Nat.reduceSub, List.all_cons, List.all_nil, mkTup0, mkTup1, mkTup2, mkLst0, mkLst1, mkLst4, mkLst5, mkLst8, wipeE, sPar, sOwnS, sStore2, sPut, dNeg, negD]
          exact rngM_two 1 n (by omega) (by decide)
        rw [t2, Say.pure_bind]
      exact (Tr.eq e0 L).mono (fun _ z => z) (by omega)
    · have e0 : sSeq (sIf (tCmp eqD (dVar 5) (dC (.int 4))) (sFor (nRng2 (dC (.int 1)) (dVar 1)) (gNm 7) (sSeq (sSet 3 (dCall m__law_draw [(dVar 0), (dVar 7)]))
  (sApp 6 (dIf (tCmp (odD .gt) (dCall m__law_draw [(dVar 0), (dC (.int 3))]) (dC (.int 0))) (dTup [(dBin ixD (dVar 4) (dVar 3)), (dBin ixD (dVar 4) (dVar 7))]) (dTup [(dBin ixD (dVar 4) (dVar 7)), (dBin ixD (dVar 4) (dVar 3))]))))) sNil) (sRet (dBlt tupleD [(dSl (dNew (nSorted [(dVar 6)])) oN (oS (dC (.int 12))))])) (fun _ => pure .non) pure (fun _ => bad) (fun _ => bad) (stE n ms way much is x3 x7 x8) = sRet (dBlt tupleD [(dSl (dNew (nSorted [(dVar 6)])) oN (oS (dC (.int 12))))]) (fun _ => pure .non) pure (fun _ => bad) (fun _ => bad) (stE n ms way much is x3 x7 x8) := by
        rw [sSeq, sIf]
        have t1 : tCmp eqD (dVar 5) (dC (.int 4)) (stE n ms way much is x3 x7 x8) = pure false := by
          simp only [stE, runS, startE, sSeq, sIf, sSet, sRet, sRetN, sNil, sParV, sFor, sApp, sAppPop, tCmp, tVal, tAnd, tOr, tNot, tYes, tThaw, andB, orB, notB, andV, orV, notV, dC, dBin, dBlt, dVar, dCall, dNew, dThaw, dTup, dIf, dAnd, dOr, dNot, dIsi, dSl, dAttr, oN, oS, nLst, nList, nRng1, nRng2, nSeq, nOwn, nSorted, nThaw, gNm, vD, vN, seqV, setE, Say.pure_bind, Say.bind_assoc, List.getElem?_cons_zero, List.getElem?_cons_succ, seqA, slD, List.set_cons_succ, List.set_cons_zero, thaw, Sl.thaw, List.map_cons, List.map_nil, lift_some, truB_bl, bindT, ownL, slOwn, List.length_cons, List.length_nil, List.cons_append, List.nil_append, List.replicate, Nat.reduceAdd, Nat.reduceSub, List.all_cons, List.all_nil, mkTup0, mkTup1, mkTup2, mkLst0, mkLst1, mkLst4, mkLst5, mkLst8, wipeE, sPar, sOwnS, sStore2, sPut, dNeg, negD, eq_int, w, decide_false]
        rw [t1, Say.pure_bind, if_neg (by decide)]
        rfl
      refine (Tr.eq e0 (arrows_end pm ⟨h1, fun p hp => ?_, ⟨id, fun p hp => (h2 p hp).1⟩, by omega⟩ x3 x7 x8)).mono (fun _ z => z)
      have := h2 p hp
      omega
  · rintro j hj ρ ⟨is, x3, x7, x8, rfl, h1, h2, h3, h4⟩ N' k' hk
    have t2 : nRng2 (dBin addD (dVar 3) (dC (.int 1))) (dVar 1) (stE n ms way much is (.dat (.int (j : Int))) x7 x8) = pure ((List.range (n - (j + 1))).map fun (i : Nat) => D.int ((j + 1 + i : Nat) : Int)) := by
      simp only [stE, runS, startE, sSeq, sIf, sSet, sRet, sRetN, sNil, sParV, sFor, sApp, sAppPop, tCmp, tVal, tAnd, tOr, tNot, tYes, tThaw, andB, orB, notB, andV, orV, notV, dC, dBin, dBlt, dVar, dCall, dNew, dThaw, dTup, dIf, dAnd, dOr, dNot, dIsi, dSl, dAttr, oN, oS, nLst, nList, nRng1, nRng2, nSeq, nOwn, nSorted, nThaw, gNm, vD, vN, seqV, setE, Say.pure_bind, Say.bind_assoc, List.getElem?_cons_zero, List.getElem?_cons_succ, seqA, slD, List.set_cons_succ, List.set_cons_zero, thaw, Sl.thaw, List.map_cons, List.map_nil, lift_some, truB_bl, bindT, ownL, slOwn, List.length_cons, List.length_nil, List.cons_append, List.nil_append, List.replicate, Nat.reduceAdd, Nat.reduceSub, List.all_cons, List.all_nil, mkTup0, mkTup1, mkTup2, mkLst0, mkLst1, mkLst4, mkLst5, mkLst8, wipeE, sPar, sOwnS, sStore2, sPut, dNeg, negD, add_int]
      exact rngM_two (j + 1) n (by omega) (by omega)
    show Tr (12 + N') (sFor _ _ _ k' pure k' k' (stE n ms way much is (.dat (.int (j : Int))) x7 x8)) _
    rw [sFor, t2, Say.pure_bind]
    refine Tr.mono (forN (C := 2) (C0 := N') (n - (j + 1)) (fun (i : Nat) => D.int ((j + 1 + i : Nat) : Int)) (fun i ρ => ∃ is x7 x8, ρ = stE n ms way much is (.dat (.int (j : Int))) x7 x8 ∧ is.Nodup ∧ (∀ p ∈ is, p.1 < p.2 ∧ p.2 < n ∧ (p.1 < j ∨ (p.1 = j ∧ p.2 < j + 1 + i))) ∧ (way = 4 → is = []) ∧ is.length ≤ 6 * j + i) ?_ ?_ _ ⟨is, x7, x8, rfl, h1, fun p hp => ?_, h3, h4⟩) (fun _ z => z) (by omega)
    · rintro ρ ⟨is, x7, x8, rfl, g1, g2, g3, g4⟩
      refine hk _ ⟨is, _, x7, x8, rfl, g1, fun p hp => ?_, g3, by omega⟩
      have := g2 p hp
      omega
    · rintro i hi ρ ⟨is, x7, x8, rfl, g1, g2, g3, g4⟩ M k2 hk2
      refine turn_ok (a := j) (l := j + 1 + i) hm1 hm2 (by omega) (by omega) (by omega) fun is' his x8 => hk2 _ ?_
      rcases his with rfl | ⟨w, rfl⟩
      · refine ⟨is', _, x8, rfl, g1, fun p hp => ?_, g3, by omega⟩
        have := g2 p hp
        omega
      · refine ⟨_, _, x8, rfl, ?_, fun p hp => ?_, fun z => absurd z w, by simp; omega⟩
        · rw [List.nodup_append]
          refine ⟨g1, by simp, fun p hp z hz e => ?_⟩
          rw [List.mem_singleton.mp hz] at e
          have := g2 p hp
          rw [e] at this
          simp only at this
          omega
        · rcases List.mem_append.mp
              hp with hp | hp
          · have := g2 p hp
            omega
          · rw
                [List.mem_singleton.mp hp]
            exact ⟨by show j < j + 1 + i; omega, by show j + 1 + i < n; omega, .inr ⟨rfl, by show j + 1 + i < j + 1 + (i + 1); omega⟩⟩
    · have := h2 p hp
      omega
theorem ix_ti {w : List Int} {i : Nat} (h : i < w.length) : ixD (ti w) (.int (i : Int)) = some (.int (w.getD i 0)) := by
  have := ix_ms (ms := w) h
  exact this
theorem imm_ints : ∀ w : List Int, immL (w.map D.int) = true
  | [] => by simp [immL]
  | x :: w => by simp [immL, D.imm, imm_ints w]
theorem cut_ints (w : List Int) (a b : Option Int) : ∃ v : List Int, cutG (w.map D.int) a b = v.map D.int ∧ v.length ≤ w.length := by
  refine ⟨cutG w a b, ?_, cutG_len w a b⟩
  unfold cutG
  rw [List.length_map, List.map_take, List.map_drop]
theorem add_tup (xs ys : List D) (h : xs.length + ys.length ≤ 1000000) : addD (.tup xs) (.tup ys) = some (.tup (xs ++ ys)) := by
  show (if xs.length + ys.length ≤ 16777216 then some (D.tup (xs ++ ys)) else none) = _
  rw [if_pos (by omega)]
end SayLaw

namespace SayLaw
open Say
/-! ### all that is reached -/
inductive Rch (A : Int → Prop) (nb : Int → List Int) (ok : Int → Bool) : Int → Prop
  | base {x : Int} (h : A x) : Rch A nb ok x
  | step {x y : Int} (h : Rch A nb ok x) (m : y ∈ nb x) (o : ok y = true) : Rch A nb ok y
structure FInv (U A : List Int) (nb : Int → List Int) (ok : Int → Bool) (s w : List Int) : Prop where
  ns : s.Nodup
  nw : w.Nodup
  sub : ∀ z ∈ w, z ∈ s
  a : ∀ z ∈ A, z ∈ s
  u : ∀ z ∈ s, z ∈ U
  r : ∀ z ∈ s, Rch (· ∈ A) nb ok z
structure FMid (U A : List Int) (nb : Int → List Int) (ok : Int → Bool) (here : Int) (m : Nat) (done s w : List Int) : Prop extends FInv U A nb ok s w where
  h : here ∈ s
  cl : ∀ z ∈ s, z ∉ w → z ≠ here → ∀ y ∈ nb z, ok y = true → y ∈ s
  dn : ∀ y ∈ done, ok y = true → y ∈ s
  ms : (U.length - s.length) + w.length ≤ m
theorem FInv.sl {U A : List Int} {nb : Int → List Int} {ok : Int → Bool} {s w : List Int} (i : FInv U A nb ok s w) : s.length ≤ U.length := sub_len i.ns i.u
theorem FInv.wl {U A : List Int} {nb : Int → List Int} {ok : Int → Bool} {s w : List Int} (i : FInv U A nb ok s w) : w.length ≤ s.length := sub_len i.nw i.sub
section
variable {U A : List Int} {nb : Int → List Int} {ok : Int → Bool} {st : List Int → List Int → Sl → Sl → Say.Env} {t : Say.Env → M Bool} {bodyW bodyF : S} {h : D → Say.Env → Option Say.Env} {r : D → M D}
theorem flood_inner (hU : U.length ≤ 1000) (x : Sl) {here : Int} {m : Nat} (hnb : ∀ y ∈ nb here, ok y = true → y ∈ U)
    (hB : ∀ (s w : List Int) (y : Sl) (t : Int) (k k' : Say.Env → M D), s.length ≤ 1000 → w.length ≤ 1000 → bindT (h (.int t) (st s w x y)) (fun ρ => bodyF k' r k k' ρ) = if t ∉ s ∧ ok t = true then k' (st (s ++ [t]) (w ++ [t]) x (.dat (.int t))) else k' (st s w x (.dat (.int t))))
    {s w : List Int} {y : Sl} (i : FMid U A nb ok here m [] s w) : ∃ s' w' y', FMid U A nb ok here m (nb here) s' w' ∧ ∀ k : Say.Env → M D, forS h bodyF k r ((nb here).map D.int) (st s w x y) = k (st s' w' x y') := by
  obtain ⟨ρ, ⟨s', w', y', e, q⟩, hk⟩ := forS_fold (h := h) (body := bodyF) (r := r) D.int (fun done ρ => ∃ s' w' y', ρ = st s' w' x y' ∧ FMid U A nb ok here m done s' w') (nb here) [] (st s w x y) ⟨s, w, y, rfl, i⟩ (by
    rintro done a rest ρ e ⟨s1, w1, y1, rfl, j⟩
    have hs := j.sl
    have hw := j.wl
    by_cases c : a ∉ s1 ∧ ok a = true
    · refine ⟨_, ⟨s1 ++ [a], w1 ++ [a], .dat (.int a), rfl, ?_⟩, fun k k' => by rw [hB s1 w1 y1 a k k' (by omega) (by omega), if_pos c]⟩
      have ha : a ∈ nb here := by
        have e : nb here = done ++ a :: rest := e
        rw [e]; simp
      have sl2 : (s1 ++ [a]).length ≤ U.length := sub_len (List.nodup_append.mpr ⟨j.ns, by simp, fun z hz z' hz' => by
        rw [List.mem_singleton.mp hz']
        exact fun e => c.1 (by rw [← e]; exact hz)⟩) fun z hz => by
          rcases List.mem_append.mp hz with q | q
          · exact j.u z q
          · rw [List.mem_singleton.mp q]; exact hnb a ha c.2
      rw [List.length_append, List.length_singleton] at sl2
      refine ⟨⟨?_, ?_, ?_, ?_, ?_, ?_⟩, ?_, ?_, ?_, ?_⟩
      · exact List.nodup_append.mpr ⟨j.ns, by simp, fun z hz z' hz' => by
          rw [List.mem_singleton.mp hz']
          exact fun e => c.1 (by rw [← e]; exact hz)⟩
      · exact List.nodup_append.mpr ⟨j.nw, by simp, fun z hz z' hz' => by
          rw [List.mem_singleton.mp hz']
          exact fun e => c.1 (by rw [← e]; exact j.sub _ hz)⟩
      · intro z hz
        rcases List.mem_append.mp hz with q | q
        · exact List.mem_append_left _ (j.sub z q)
        · exact List.mem_append_right _ q
      · exact fun z hz => List.mem_append_left _ (j.a z hz)
      · intro z hz
        rcases List.mem_append.mp hz with q | q
        · exact j.u z q
        · rw [List.mem_singleton.mp q]; exact hnb a ha c.2
      · intro z hz
        rcases List.mem_append.mp hz with q | q
        · exact j.r z q
        · rw [List.mem_singleton.mp q]; exact .step (j.r _ j.h) ha c.2
      · exact List.mem_append_left _ j.h
      · intro z hz hzw hne v hv ho
        rcases List.mem_append.mp hz with q | q
        · exact List.mem_append_left _ (j.cl z q (fun z => hzw (List.mem_append_left _ z)) hne v hv ho)
        · exact (hzw (List.mem_append_right _ q)).elim
      · intro v hv ho
        rcases List.mem_append.mp hv with q | q
        · exact List.mem_append_left _ (j.dn v q ho)
        · exact List.mem_append_right _ q
      · have := j.ms
        rw [List.length_append, List.length_append, List.length_singleton]
        omega
    · refine ⟨_, ⟨s1, w1, .dat (.int a), rfl, ⟨j.toFInv, j.h, j.cl, fun v hv ho => ?_, j.ms⟩⟩, fun k k' => by rw [hB s1 w1 y1 a k k' (by omega) (by omega), if_neg c]⟩
      rcases List.mem_append.mp hv with q | q
      · exact j.dn v q ho
      · rw [List.mem_singleton.mp q] at ho ⊢
        by_cases m : a ∈ s1
        · exact m
        · exact (c ⟨m, ho⟩).elim)
  subst e
  exact ⟨s', w', y', q, hk⟩
theorem flood_loop (hU : U.length ≤ 1000) (hnb : ∀ x ∈ U, ∀ y ∈ nb x, ok y = true → y ∈ U)
    (hT : ∀ (s w : List Int) (x y : Sl), w.length ≤ 1000 → t (st s w x y) = pure (decide (w ≠ [])))
    (hW : ∀ (s w : List Int) (z : Int) (x y : Sl) (k b c : Say.Env → M D), s.length ≤ 1000 → w.length ≤ 1000 → w.getLast? = some z → z ∈ U → bodyW k r b c (st s w x y) = forS h bodyF k r ((nb z).map D.int) (st s w.dropLast (.dat (.int z)) y))
    (hB : ∀ (s w : List Int) (x y : Sl) (t : Int) (k k' : Say.Env → M D), s.length ≤ 1000 → w.length ≤ 1000 → bindT (h (.int t) (st s w x y)) (fun ρ => bodyF k' r k k' ρ) = if t ∉ s ∧ ok t = true then k' (st (s ++ [t]) (w ++ [t]) x (.dat (.int t))) else k' (st s w x (.dat (.int t)))) :
    ∀ (fuel : Nat) (s w : List Int) (x y : Sl), FInv U A nb ok s w → (∀ z ∈ s, z ∉ w → ∀ y ∈ nb z, ok y = true → y ∈ s) → (U.length - s.length) + w.length < fuel →
      ∃ s' x' y', s'.Nodup ∧ (∀ z ∈ s', z ∈ U) ∧ (∀ z, z ∈ s' ↔ Rch (· ∈ A) nb ok z) ∧ ∀ k : Say.Env → M D, whileS t bodyW k r fuel (st s w x y) = k (st s' [] x' y')
  | 0, _, _, _, _, _, _, h => absurd h (Nat.not_lt_zero _)
  | fuel + 1, s, w, x, y, i, cl, hf => by
    have hs := i.sl
    have hw := i.wl
    by_cases e : w = []
    · subst e
      refine ⟨s, x, y, i.ns, i.u, fun z => ⟨i.r z, fun q => ?_⟩, fun k => ?_⟩
      · induction q with
        | base q => exact i.a _ q
        | step q m o ih => exact cl _ ih (by simp) _ m o
      · rw [whileS_succ, hT s [] x y (by simp), Say.pure_bind]
        rfl
    · obtain ⟨z, hz⟩ : ∃ z, w.getLast? = some z := by
        cases q : w.getLast? with
        | none => exact (e (List.getLast?_eq_none_iff.mp q)).elim
        | some z => exact ⟨z, rfl⟩
      have ew : w = w.dropLast ++ [z] := by
        obtain ⟨ys, e⟩ := List.getLast?_eq_some_iff.mp hz
        rw [e]
        simp
      have zw : z ∈ w := by rw [ew]; simp
      have zs := i.sub z zw
      have nd : w.dropLast.Nodup := i.nw.sublist (List.dropLast_sublist w)
      have hlen : w.dropLast.length + 1 = w.length := by
        have := congrArg List.length ew
        rw [List.length_append, List.length_singleton] at this
        omega
      have mid : FMid U A nb ok z ((U.length - s.length) + w.dropLast.length) [] s w.dropLast := by
        refine ⟨⟨i.ns, nd, fun v hv => i.sub v (List.dropLast_subset w hv), i.a, i.u, i.r⟩, zs, fun v hv hnw hne u hu ho => ?_, (fun v hv => nomatch hv), Nat.le_refl _⟩
        refine cl v hv (fun q => ?_) u hu ho
        rw [ew] at q
        rcases List.mem_append.mp q with q | q
        · exact hnw q
        · exact hne (List.mem_singleton.mp q)
      obtain ⟨s1, w1, y1, j, hk⟩ := flood_inner hU (.dat (.int z)) (fun y hy ho => hnb z (i.u z zs) y hy ho) (fun s w y t k k' => hB s w _ y t k k') (y := y) mid
      have := j.ms
      obtain ⟨s2, x2, y2, f1, f2, f3, f4⟩ := flood_loop hU hnb hT hW hB fuel s1 w1 (.dat (.int z)) y1 j.toFInv (fun v hv hnw u hu ho => by
        by_cases e : v = z
        · subst e; exact j.dn u hu ho
        · exact j.cl v hv hnw e u hu ho) (by omega)
      refine ⟨s2, x2, y2, f1, f2, f3, fun k => ?_⟩
      rw [whileS_succ, hT s w x y (by omega), Say.pure_bind, if_pos (by simpa using e), hW s w z x y _ _ _ (by omega) (by omega) hz (i.u z zs), hk, f4]
end
end SayLaw

namespace SayLaw
open Say
/-! ### places, lots -/
def rg (n : Nat) : List Int := (List.range n).map fun k : Nat => (k : Int)
theorem mem_rg {n : Nat} {x : Int} : x ∈ rg n ↔ 0 ≤ x ∧ x < (n : Int) := by
  unfold rg
  rw [List.mem_map]
  constructor
  · rintro ⟨k, hk, rfl⟩
    rw [List.mem_range] at hk
    omega
  · rintro ⟨h1, h2⟩
    exact ⟨x.toNat, by rw [List.mem_range]; omega, by omega⟩
theorem rg_len (n : Nat) : (rg n).length = n := by simp [rg]
theorem rg_asc (n : Nat) : (rg n).Pairwise (· < ·) := List.pairwise_map.mpr (List.pairwise_lt_range.imp fun h => by omega)
theorem asc_nodup {l : List Int} (h : l.Pairwise (· < ·)) : l.Nodup := List.nodup_iff_pairwise_ne.mpr (h.imp fun q => by omega)
theorem rg_map (n : Nat) : ((List.range n).map fun k : Nat => D.int (k : Int)) = (rg n).map D.int := by
  unfold rg
  rw [List.map_map]
  rfl
noncomputable def lotOf (n : Nat) (P : Int → Prop) : List Int := (rg n).filter fun z => @decide (P z) (Classical.propDecidable _)
theorem mem_lotOf {n : Nat} {P : Int → Prop} {z : Int} : z ∈ lotOf n P ↔ z ∈ rg n ∧ P z := by
  unfold lotOf
  rw [List.mem_filter]
  exact and_congr_right fun _ => @decide_eq_true_iff _ (Classical.propDecidable _)
theorem asc_lotOf (n : Nat) (P : Int → Prop) : (lotOf n P).Pairwise (· < ·) := (rg_asc n).filter _
theorem lotOf_len (n : Nat) (P : Int → Prop) : (lotOf n P).length ≤ n := by
  have := List.length_filter_le (fun z => @decide (P z) (Classical.propDecidable _)) (rg n)
  rw [rg_len] at this
  exact this
theorem lotOf_congr {n : Nat} {P Q : Int → Prop} (h : ∀ z, z ∈ rg n → (P z ↔ Q z)) : lotOf n P = lotOf n Q := asc_ext (asc_lotOf n P) (asc_lotOf n Q) fun z => by
  rw [mem_lotOf, mem_lotOf]
  exact ⟨fun ⟨a, b⟩ => ⟨a, (h z a).mp b⟩, fun ⟨a, b⟩ => ⟨a, (h z a).mpr b⟩⟩
theorem sort_lotOf {n : Nat} {s : List Int} {P : Int → Prop} (nd : s.Nodup) (h : ∀ z, z ∈ s ↔ z ∈ rg n ∧ P z) : sortI s = lotOf n P := by
  have pm : (sortI s).Perm s := List.mergeSort_perm s leI
  have pw : (sortI s).Pairwise fun a b => leI a b = true := List.pairwise_mergeSort leI_trans leI_total s
  have nd2 : (sortI s).Nodup := pm.nodup_iff.mpr nd
  refine asc_ext ?_ (asc_lotOf n P) fun z => by rw [pm.mem_iff, h z, mem_lotOf]
  exact (pw.and (List.nodup_iff_pairwise_ne.mp nd2)).imp fun ⟨q1, q2⟩ => by
    have := of_decide_eq_true (p := _ ≤ _) q1
    omega
def ar (E : List (Int × Int)) : Int → Int → Prop := fun x y => (x, y) ∈ E
def srcI (n : Nat) (E : List (Int × Int)) (p : Int) : List Int := (rg n).filter fun o => decide ((o, p) ∈ E)
def tgtI (n : Nat) (E : List (Int × Int)) (p : Int) : List Int := (rg n).filter fun o => decide ((p, o) ∈ E)
theorem mem_srcI {n : Nat} {E : List (Int × Int)} (g : Good n E) {p o : Int} : o ∈ srcI n E p ↔ ar E o p := by
  unfold srcI
  rw [List.mem_filter, decide_eq_true_iff]
  exact ⟨fun h => h.2, fun h => ⟨mem_rg.mpr (g.rng _ h).1, h⟩⟩
theorem mem_tgtI {n : Nat} {E : List (Int × Int)} (g : Good n E) {p o : Int} : o ∈ tgtI n E p ↔ ar E p o := by
  unfold tgtI
  rw [List.mem_filter, decide_eq_true_iff]
  exact ⟨fun h => h.2, fun h => ⟨mem_rg.mpr (g.rng _ h).2, h⟩⟩
theorem src_okI (n : Nat) (E : List (Int × Int)) (p : Int) (hn : n ≤ 100) : m_sources_in [webD n E, .int p] = pure (ti (srcI n E p)) := by
  simp only [m_sources_in, S_sources_in, runS, startE, sSeq, sIf, sSet, sRet, sRetN, sNil, sParV, sFor, sApp, sAppPop, tCmp, tVal, tAnd, tOr, tNot, tYes, tThaw, andB, orB, notB, andV, orV, notV, dC, dBin, dBlt, dVar, dCall, dNew, dThaw, dTup, dIf, dAnd, dOr, dNot, dIsi, dSl, dAttr, oN, oS, nLst, nList, nRng1, nRng2, nSeq, nOwn, nSorted, nThaw, gNm, vD, vN, seqV, setE, Say.pure_bind, Say.bind_assoc, List.getElem?_cons_zero, List.getElem?_cons_succ, seqA, slD, List.set_cons_succ, List.set_cons_zero, thaw, Sl.thaw, List.map_cons, List.map_nil, lift_some, truB_bl, bindT, ownL, slOwn, List.length_cons, List.length_nil, List.cons_append, List.nil_append, List.replicate, Nat.reduceAdd, Nat.reduceSub, List.all_cons, List.all_nil, mkTup0, mkTup1, mkTup2, mkLst0, mkLst1, mkLst4, mkLst5, mkLst8, wipeE, sPar, sOwnS, sStore2, sPut, dNeg, negD]
  rw [lc_nm (l := rg n) (f := D.int) (b := fun o => decide ((o, p) ∈ E)) (y := D.int)]
  · rfl
  · simp only [runS, startE, sSeq, sIf, sSet, sRet, sRetN, sNil, sParV, sFor, sApp, sAppPop, tCmp, tVal, tAnd, tOr, tNot, tYes, tThaw, andB, orB, notB, andV, orV, notV, dC, dBin, dBlt, dVar, dCall, dNew, dThaw, dTup, dIf, dAnd, dOr, dNot, dIsi, dSl, dAttr, oN, oS, nLst, nList, nRng1, nRng2, nSeq, nOwn, nSorted, nThaw, gNm, vD, vN, seqV, setE, Say.pure_bind, Say.bind_assoc, List.getElem?_cons_zero, List.getElem?_cons_succ, seqA, slD, List.set_cons_succ, List.set_cons_zero, thaw, Sl.thaw, List.map_cons, List.map_nil, lift_some, truB_bl, bindT, ownL, slOwn, List.length_cons, List.length_nil, List.cons_append, List.nil_append, List.replicate, Nat.reduceAdd, Nat.reduceSub, List.all_cons, List.all_nil, mkTup0, mkTup1, mkTup2, mkLst0, mkLst1, mkLst4, mkLst5, mkLst8, wipeE, sPar, sOwnS, sStore2, sPut, dNeg, negD, size_at]
    rw [rngM_nat n (by omega), rg_map]
  · rfl
  · intro o _
    simp only [runS, startE, sSeq, sIf, sSet, sRet, sRetN, sNil, sParV, sFor, sApp, sAppPop, tCmp, tVal, tAnd, tOr, tNot, tYes, tThaw, andB, orB, notB, andV, orV, notV, dC, dBin, dBlt, dVar, dCall, dNew, dThaw, dTup, dIf, dAnd, dOr, dNot, dIsi, dSl, dAttr, oN, oS, nLst, nList, nRng1, nRng2, nSeq, nOwn, nSorted, nThaw, gNm, vD, vN, seqV, setE, Say.pure_bind, Say.bind_assoc, List.getElem?_cons_zero, List.getElem?_cons_succ, seqA, slD, List.set_cons_succ, List.set_cons_zero, thaw, Sl.thaw, List.map_cons, List.map_nil, lift_some, truB_bl, bindT, ownL, slOwn, List.length_cons, List.length_nil, List.cons_append, List.nil_append, List.replicate, Nat.reduceAdd, Nat.reduceSub, List.all_cons, List.all_nil, mkTup0, mkTup1, mkTup2, mkLst0, mkLst1, mkLst4, mkLst5, mkLst8, wipeE, sPar, sOwnS, sStore2, sPut, dNeg, negD, arrows_at, in_prs']
    exact ⟨trivial, fun _ => trivial⟩
theorem tgt_okI (n : Nat) (E : List (Int × Int)) (p : Int) (hn : n ≤ 100) : m_targets_in [webD n E, .int p] = pure (ti (tgtI n E p)) := by
  simp only [m_targets_in, S_targets_in, runS, startE, sSeq, sIf, sSet, sRet, sRetN, sNil, sParV, sFor, sApp, sAppPop, tCmp, tVal, tAnd, tOr, tNot, tYes, tThaw, andB, orB, notB, andV, orV, notV, dC, dBin, dBlt, dVar, dCall, dNew, dThaw, dTup, dIf, dAnd, dOr, dNot, dIsi, dSl, dAttr, oN, oS, nLst, nList, nRng1, nRng2, nSeq, nOwn, nSorted, nThaw, gNm, vD, vN, seqV, setE, Say.pure_bind, Say.bind_assoc, List.getElem?_cons_zero, List.getElem?_cons_succ, seqA, slD, List.set_cons_succ, List.set_cons_zero, thaw, Sl.thaw, List.map_cons, List.map_nil, lift_some, truB_bl, bindT, ownL, slOwn, List.length_cons, List.length_nil, List.cons_append, List.nil_append, List.replicate, Nat.reduceAdd, Nat.reduceSub, List.all_cons, List.all_nil, mkTup0, mkTup1, mkTup2, mkLst0, mkLst1, mkLst4, mkLst5, mkLst8, wipeE, sPar, sOwnS, sStore2, sPut, dNeg, negD]
  rw [lc_nm (l := rg n) (f := D.int) (b := fun o => decide ((p, o) ∈ E)) (y := D.int)]
  · rfl
  · simp only [runS, startE, sSeq, sIf, sSet, sRet, sRetN, sNil, sParV, sFor, sApp, sAppPop, tCmp, tVal, tAnd, tOr, tNot, tYes, tThaw, andB, orB, notB, andV, orV, notV, dC, dBin, dBlt, dVar, dCall, dNew, dThaw, dTup, dIf, dAnd, dOr, dNot, dIsi, dSl, dAttr, oN, oS, nLst, nList, nRng1, nRng2, nSeq, nOwn, nSorted, nThaw, gNm, vD, vN, seqV, setE, Say.pure_bind, Say.bind_assoc, List.getElem?_cons_zero, List.getElem?_cons_succ, seqA, slD, List.set_cons_succ, List.set_cons_zero, thaw, Sl.thaw, List.map_cons, List.map_nil, lift_some, truB_bl, bindT, ownL, slOwn, List.length_cons, List.length_nil, List.cons_append, List.nil_append, List.replicate, Nat.reduceAdd, Nat.reduceSub, List.all_cons, List.all_nil, mkTup0, mkTup1, mkTup2, mkLst0, mkLst1, mkLst4, mkLst5, mkLst8, wipeE, sPar, sOwnS, sStore2, sPut, dNeg, negD, size_at]
    rw [rngM_nat n (by omega), rg_map]
  · rfl
  · intro o _
    simp only [runS, startE, sSeq, sIf, sSet, sRet, sRetN, sNil, sParV, sFor, sApp, sAppPop, tCmp, tVal, tAnd, tOr, tNot, tYes, tThaw, andB, orB, notB, andV, orV, notV, dC, dBin, dBlt, dVar, dCall, dNew, dThaw, dTup, dIf, dAnd, dOr, dNot, dIsi, dSl, dAttr, oN, oS, nLst, nList, nRng1, nRng2, nSeq, nOwn, nSorted, nThaw, gNm, vD, vN, seqV, setE, Say.pure_bind, Say.bind_assoc, List.getElem?_cons_zero, List.getElem?_cons_succ, seqA, slD, List.set_cons_succ, List.set_cons_zero, thaw, Sl.thaw, List.map_cons, List.map_nil, lift_some, truB_bl, bindT, ownL, slOwn, List.length_cons, List.length_nil, List.cons_append, List.nil_append, List.replicate, Nat.reduceAdd, Nat.reduceSub, List.all_cons, List.all_nil, mkTup0, mkTup1, mkTup2, mkLst0, mkLst1, mkLst4, mkLst5, mkLst8, wipeE, sPar, sOwnS, sStore2, sPut, dNeg, negD, arrows_at, in_prs']
    exact ⟨trivial, fun _ => trivial⟩
/-! ### {x: True for ..} -/
def tr (i : Int) : D × D := (.int i, .bl true)
theorem any_tr (k : Int) : ∀ s : List Int, ((s.map tr).any fun x => isI k x.1) = decide (k ∈ s)
  | [] => rfl
  | i :: s => by
    rw [List.map_cons, List.any_cons, any_tr k s]
    show (decide (i = k) || decide (k ∈ s)) = _
    by_cases e : i = k
    · simp [e]
    · simp [e, Ne.symm e]
theorem put_tr {s : List Int} {k : Int} (h : k ∉ s) : putI (s.map tr) k (.bl true) = (s ++ [k]).map tr := by
  unfold putI
  rw [any_tr, if_neg (by simp [h]), List.map_append]
  rfl
theorem get_tr (k : Int) : ∀ s : List Int, (getI k (s.map tr)).isSome = decide (k ∈ s)
  | [] => rfl
  | i :: s => by
    show (if decide (i = k) = true then some (D.bl true) else getI k (s.map tr)).isSome = _
    by_cases e : i = k
    · simp [e]
    · rw [if_neg (by simp [e]), get_tr k s]
      simp [Ne.symm e]
theorem compK_tr {i : Nat} {ρ : Say.Env} (hi : i < ρ.length) : ∀ (l done : List Int), (done ++ l).Nodup → (done ++ l).length ≤ 1000 → compK (fun x => gNm i x ρ) tYes (dVar i) (dC (.bl true)) (done.map tr) (l.map D.int) = pure ((done ++ l).map tr)
  | [], done, _, _ => by
    rw [List.append_nil]
    rfl
  | a :: l, done, nd, hl => by
    have na : a ∉ done := fun m => (List.nodup_append.mp nd).2.2 a m a List.mem_cons_self rfl
    have sl : slD ((ρ.set i (.dat (.int a)))[i]?) = pure (.int a) := by rw [List.getElem?_set_self hi]; rfl
    show (nx (tYes (ρ.set i (.dat (.int a)))) >>= fun b => if b = true then nx (dVar i (ρ.set i (.dat (.int a)))) >>= fun k => nx (dC (.bl true) (ρ.set i (.dat (.int a)))) >>= fun v => putM (done.map tr) k v >>= fun acc' => compK (fun x => gNm i x ρ) tYes (dVar i) (dC (.bl true)) acc' (l.map D.int) else compK (fun x => gNm i x ρ) tYes (dVar i) (dC (.bl true)) (done.map tr) (l.map D.int)) = _
    simp only [tYes, dVar, dC, sl, nx_pure, Say.pure_bind, if_true]
    have hl' : (done.map tr).length < 16777216 := by
      rw [List.length_append] at hl
      rw [List.length_map]
      omega
    have ep : putM (done.map tr) (.int a) (.bl true) = pure ((done ++ [a]).map tr) := by
      show (if (done.map tr).length < 16777216 then pure (putI (done.map tr) a (.bl true)) else bad) = _
      rw [if_pos hl', put_tr na]
    rw [ep, Say.pure_bind, compK_tr hi l (done ++ [a]) (by rw [List.append_assoc]; exact nd) (by rw [List.append_assoc]; exact hl)]
    rw [List.append_assoc]
    rfl
theorem dc_tr {vs : List Nat} {i : Nat} {g : Say.Env → M (List D)} {ρ : Say.Env} {A : List Int} (hg : g ρ = pure (A.map D.int)) (ok : okW vs ρ = true) (hi : i < (wipeE ρ vs).length) (nd : A.Nodup) (hl : A.length ≤ 1000) : dcM vs g (gNm i) tYes (dVar i) (dC (.bl true)) ρ = pure (A.map tr) := by
  unfold dcM
  rw [hg, Say.pure_bind, if_pos ok]
  exact compK_tr hi A [] nd hl
theorem keys_tr (s : List Int) (h : s.length ≤ 1000) : listKM [.dct (s.map tr)] = pure (s.map D.int) := by
  show (if (s.map tr).length ≤ 16777216 ∧ ((s.map tr).all fun x => match x.1 with | .int _ => true | _ => false) = true then pure ((s.map tr).map (·.1)) else bad) = _
  rw [if_pos ⟨by rw [List.length_map]; omega, List.all_eq_true.mpr fun x hx => (by
    obtain ⟨k, _, rfl⟩ := List.mem_map.mp hx
    rfl)⟩, List.map_map]
  rfl
theorem sorted_ints (s : List Int) : sortedM [.lst (s.map D.int)] = pure ((sortI s).map D.int) := by
  show lift (sortD (s.map D.int)) = _
  unfold sortD
  rw [intsOf_map]
  rfl
theorem gt0 (w : List Int) : Od.gt.i (w.length : Int) 0 = decide (w ≠ []) := by
  show decide ((0 : Int) < (w.length : Int)) = _
  cases w with
  | nil => rfl
  | cons a w => simp only [List.length_cons]; rw [decide_eq_true (by omega)]; simp
theorem last_ints {w : List Int} {z : Int} (h : w.getLast? = some z) : lastM (w.map D.int) = pure (.int z) := by
  unfold lastM
  rw [List.length_map, List.getElem?_map]
  rw [List.getLast?_eq_getElem?] at h
  rw [h]
  rfl
theorem push_ints {w : List Int} (t : Int) (h : w.length ≤ 1000) : pushD (w.map D.int) (.int t) = pure ((w ++ [t]).map D.int) := by
  unfold pushD
  rw [if_pos (by rw [List.length_map]; omega), List.map_append]
  rfl
theorem putM_tr {s : List Int} {t : Int} (h : t ∉ s) (hl : s.length ≤ 1000) : putM (s.map tr) (.int t) (.bl true) = pure ((s ++ [t]).map tr) := by
  show (if (s.map tr).length < 16777216 then pure (putI (s.map tr) t (.bl true)) else bad) = _
  rw [if_pos (by rw [List.length_map]; omega), put_tr h]
theorem din_tr (neg : Bool) (t : Int) (s : List Int) : dinM neg (.int t) (.dct (s.map tr)) = pure (if neg = true then !decide (t ∈ s) else decide (t ∈ s)) := by
  show pure (if neg = true then !(getI t (s.map tr)).isSome else (getI t (s.map tr)).isSome) = _
  rw [get_tr]
def stR (n : Nat) (E : List (Int × Int)) (d : D) (back : Bool) (s w : List Int) (x y : Sl) : Say.Env := [.dat (webD n E), .dat d, .dat (.bl back), .own (.dct (s.map tr)), .own (.lst (w.map D.int)), x, y, .no]
theorem reached_ok {n : Nat} {E : List (Int × Int)} (g : Good n E) (hn : n ≤ 100) {d : D} {A : List Int} (hd : seqM d = pure (A.map D.int)) (hl : listD [d] = pure (A.map D.int)) (nd : A.Nodup) (hr : ∀ x ∈ A, x ∈ rg n) (back : Bool) :
    m_reached [webD n E, d, .bl back] = pure (ti (lotOf n (Rch (· ∈ A) (if back = true then srcI n E else tgtI n E) fun _ => true))) := by
  have hAn : A.length ≤ n := by have := sub_len nd hr; rw [rg_len] at this; exact this
  simp only [m_reached, S_reached, runS, startE, sSeq, sIf, sSet, sRet, sRetN, sNil, sParV, sFor, sApp, sAppPop, tCmp, tVal, tAnd, tOr, tNot, tYes, tThaw, andB, orB, notB, andV, orV, notV, dC, dBin, dBlt, dVar, dCall, dNew, dThaw, dTup, dIf, dAnd, dOr, dNot, dIsi, dSl, dAttr, oN, oS, nLst, nList, nRng1, nRng2, nSeq, nOwn, nSorted, nThaw, gNm, vD, vN, seqV, setE, Say.pure_bind, Say.bind_assoc, List.getElem?_cons_zero, List.getElem?_cons_succ, seqA, slD, List.set_cons_succ, List.set_cons_zero, thaw, Sl.thaw, List.map_cons, List.map_nil, lift_some, truB_bl, bindT, ownL, slOwn, List.length_cons, List.length_nil, List.cons_append, List.nil_append, List.replicate, Nat.reduceAdd, Nat.reduceSub, List.all_cons, List.all_nil, mkTup0, mkTup1, mkTup2, mkLst0, mkLst1, mkLst4, mkLst5, mkLst8, wipeE, sPar, sOwnS, sStore2, sPut, dNeg, negD, sOwnK, nListK, dDget, tDin, dDin, nSetS, sPop, sDput, sExt, ownK, dDc, sWhile, sBad, sAsg, sDrop, nSortT]
  rw [if_pos (by omega), dc_tr (A := A) (by simp only [runS, startE, sSeq, sIf, sSet, sRet, sRetN, sNil, sParV, sFor, sApp, sAppPop, tCmp, tVal, tAnd, tOr, tNot, tYes, tThaw, andB, orB, notB, andV, orV, notV, dC, dBin, dBlt, dVar, dCall, dNew, dThaw, dTup, dIf, dAnd, dOr, dNot, dIsi, dSl, dAttr, oN, oS, nLst, nList, nRng1, nRng2, nSeq, nOwn, nSorted, nThaw, gNm, vD, vN, seqV, setE, Say.pure_bind, Say.bind_assoc, List.getElem?_cons_zero, List.getElem?_cons_succ, seqA, slD, List.set_cons_succ, List.set_cons_zero, thaw, Sl.thaw, List.map_cons, List.map_nil, lift_some, truB_bl, bindT, ownL, slOwn, List.length_cons, List.length_nil, List.cons_append, List.nil_append, List.replicate, Nat.reduceAdd, Nat.reduceSub, List.all_cons, List.all_nil, mkTup0, mkTup1, mkTup2, mkLst0, mkLst1, mkLst4, mkLst5, mkLst8, wipeE, sPar, sOwnS, sStore2, sPut, dNeg, negD, sOwnK, nListK, dDget, tDin, dDin, nSetS, sPop, sDput, sExt, ownK, dDc, sWhile, sBad, sAsg, sDrop, nSortT, hd]) rfl (by show 7 < 8; omega) nd (by omega)]
  simp only [runS, startE, sSeq, sIf, sSet, sRet, sRetN, sNil, sParV, sFor, sApp, sAppPop, tCmp, tVal, tAnd, tOr, tNot, tYes, tThaw, andB, orB, notB, andV, orV, notV, dC, dBin, dBlt, dVar, dCall, dNew, dThaw, dTup, dIf, dAnd, dOr, dNot, dIsi, dSl, dAttr, oN, oS, nLst, nList, nRng1, nRng2, nSeq, nOwn, nSorted, nThaw, gNm, vD, vN, seqV, setE, Say.pure_bind, Say.bind_assoc, List.getElem?_cons_zero, List.getElem?_cons_succ, seqA, slD, List.set_cons_succ, List.set_cons_zero, thaw, Sl.thaw, List.map_cons, List.map_nil, lift_some, truB_bl, bindT, ownL, slOwn, List.length_cons, List.length_nil, List.cons_append, List.nil_append, List.replicate, Nat.reduceAdd, Nat.reduceSub, List.all_cons, List.all_nil, mkTup0, mkTup1, mkTup2, mkLst0, mkLst1, mkLst4, mkLst5, mkLst8, wipeE, sPar, sOwnS, sStore2, sPut, dNeg, negD, sOwnK, nListK, dDget, tDin, dDin, nSetS, sPop, sDput, sExt, ownK, dDc, sWhile, sBad, sAsg, sDrop, nSortT, hl]
  rw [if_pos (by omega)]
  refine Exists.elim (flood_loop (U := rg n) (A := A) (nb := if back = true then srcI n E else tgtI n E) (ok := fun _ => true) (st := stR n E d back) (r := pure) (h := gNm 6)
    (t := tThaw (tCmp (odD .gt) (dBlt lenD [(dVar 4)]) (dC (.int 0))))
    (bodyF := (sIf (tThaw (tDin true (dVar 6) (dVar 3))) (sSeq (sDput 3 (dVar 6) (dC (.bl true))) (sApp 4 (dVar 6))) sNil))
    (bodyW := (sSeq (sPop 5 4) (sFor (nSeq (dIf (tVal (dVar 2)) (dCall m_sources_in [(dVar 0), (dVar 5)]) (dCall m_targets_in [(dVar 0), (dVar 5)]))) (gNm 6) (sIf (tThaw (tDin true (dVar 6) (dVar 3))) (sSeq (sDput 3 (dVar 6) (dC (.bl true))) (sApp 4 (dVar 6))) sNil))))
    (by rw [rg_len]; omega) ?_ ?_ ?_ ?_ 1000 A A .no .no ⟨nd, nd, fun _ z => z, fun _ z => z, hr, fun z hz => .base hz⟩ (fun z h1 h2 => (h2 h1).elim) (by rw [rg_len]; omega)) ?_
  rotate_left 4
  · rintro s' ⟨x', y', f1, f2, f3, f4⟩
    have f4 := f4 (fun ρ => sRet (dBlt tupleD [(dNew (nSorted [(dNew (nListK [(dVar 3)]))]))]) (fun _ => pure .non) pure (fun _ => bad) (fun _ => bad) ρ)
    have f5 : s'.length ≤ n := by have := sub_len f1 f2; rw [rg_len] at this; exact this
    refine Eq.trans f4 ?_
    simp only [stR, runS, startE, sSeq, sIf, sSet, sRet, sRetN, sNil, sParV, sFor, sApp, sAppPop, tCmp, tVal, tAnd, tOr, tNot, tYes, tThaw, andB, orB, notB, andV, orV, notV, dC, dBin, dBlt, dVar, dCall, dNew, dThaw, dTup, dIf, dAnd, dOr, dNot, dIsi, dSl, dAttr, oN, oS, nLst, nList, nRng1, nRng2, nSeq, nOwn, nSorted, nThaw, gNm, vD, vN, seqV, setE, Say.pure_bind, Say.bind_assoc, List.getElem?_cons_zero, List.getElem?_cons_succ, seqA, slD, List.set_cons_succ, List.set_cons_zero, thaw, Sl.thaw, List.map_cons, List.map_nil, lift_some, truB_bl, bindT, ownL, slOwn, List.length_cons, List.length_nil, List.cons_append, List.nil_append, List.replicate, Nat.reduceAdd, Nat.reduceSub, List.all_cons, List.all_nil, mkTup0, mkTup1, mkTup2, mkLst0, mkLst1, mkLst4, mkLst5, mkLst8, wipeE, sPar, sOwnS, sStore2, sPut, dNeg, negD, sOwnK, nListK, dDget, tDin, dDin, nSetS, sPop, sDput, sExt, ownK, dDc, sWhile, sBad, sAsg, sDrop, nSortT, keys_tr s' (by omega), sorted_ints]
    rw [sort_lotOf f1 fun z => ⟨fun h => ⟨f2 z h, (f3 z).mp h⟩, fun h => (f3 z).mpr h.2⟩]
    rfl
  · intro x _ y hy _
    cases back with
    | true => exact mem_rg.mpr (g.rng _ ((mem_srcI g).mp hy)).1
    | false => exact mem_rg.mpr (g.rng _ ((mem_tgtI g).mp hy)).2
  · intro s w x y hw
    simp only [stR, runS, startE, sSeq, sIf, sSet, sRet, sRetN, sNil, sParV, sFor, sApp, sAppPop, tCmp, tVal, tAnd, tOr, tNot, tYes, tThaw, andB, orB, notB, andV, orV, notV, dC, dBin, dBlt, dVar, dCall, dNew, dThaw, dTup, dIf, dAnd, dOr, dNot, dIsi, dSl, dAttr, oN, oS, nLst, nList, nRng1, nRng2, nSeq, nOwn, nSorted, nThaw, gNm, vD, vN, seqV, setE, Say.pure_bind, Say.bind_assoc, List.getElem?_cons_zero, List.getElem?_cons_succ, seqA, slD, List.set_cons_succ, List.set_cons_zero, thaw, Sl.thaw, List.map_cons, List.map_nil, lift_some, truB_bl, bindT, ownL, slOwn, List.length_cons, List.length_nil, List.cons_append, List.nil_append, List.replicate, Nat.reduceAdd, Nat.reduceSub, List.all_cons, List.all_nil, mkTup0, mkTup1, mkTup2, mkLst0, mkLst1, mkLst4, mkLst5, mkLst8, wipeE, sPar, sOwnS, sStore2, sPut, dNeg, negD, sOwnK, nListK, dDget, tDin, dDin, nSetS, sPop, sDput, sExt, ownK, dDc, sWhile, sBad, sAsg, sDrop, nSortT, lenD, List.length_map, od_int, gt0]
  · intro s w z x y k b c hs hw hz hzU
    simp only [stR, runS, startE, sSeq, sIf, sSet, sRet, sRetN, sNil, sParV, sFor, sApp, sAppPop, tCmp, tVal, tAnd, tOr, tNot, tYes, tThaw, andB, orB, notB, andV, orV, notV, dC, dBin, dBlt, dVar, dCall, dNew, dThaw, dTup, dIf, dAnd, dOr, dNot, dIsi, dSl, dAttr, oN, oS, nLst, nList, nRng1, nRng2, nSeq, nOwn, nSorted, nThaw, gNm, vD, vN, seqV, setE, Say.pure_bind, Say.bind_assoc, List.getElem?_cons_zero, List.getElem?_cons_succ, seqA, slD, List.set_cons_succ, List.set_cons_zero, thaw, Sl.thaw, List.map_cons, List.map_nil, lift_some, truB_bl, bindT, ownL, slOwn, List.length_cons, List.length_nil, List.cons_append, List.nil_append, List.replicate, Nat.reduceAdd, Nat.reduceSub, List.all_cons, List.all_nil, mkTup0, mkTup1, mkTup2, mkLst0, mkLst1, mkLst4, mkLst5, mkLst8, wipeE, sPar, sOwnS, sStore2, sPut, dNeg, negD, sOwnK, nListK, dDget, tDin, dDin, nSetS, sPop, sDput, sExt, ownK, dDc, sWhile, sBad, sAsg, sDrop, nSortT, last_ints hz, sFor]
    cases back with
    | true =>
      simp only [runS, startE, sSeq, sIf, sSet, sRet, sRetN, sNil, sParV, sFor, sApp, sAppPop, tCmp, tVal, tAnd, tOr, tNot, tYes, tThaw, andB, orB, notB, andV, orV, notV, dC, dBin, dBlt, dVar, dCall, dNew, dThaw, dTup, dIf, dAnd, dOr, dNot, dIsi, dSl, dAttr, oN, oS, nLst, nList, nRng1, nRng2, nSeq, nOwn, nSorted, nThaw, gNm, vD, vN, seqV, setE, Say.pure_bind, Say.bind_assoc, List.getElem?_cons_zero, List.getElem?_cons_succ, seqA, slD, List.set_cons_succ, List.set_cons_zero, thaw, Sl.thaw, List.map_cons, List.map_nil, lift_some, truB_bl, bindT, ownL, slOwn, List.length_cons, List.length_nil, List.cons_append, List.nil_append, List.replicate, Nat.reduceAdd, Nat.reduceSub, List.all_cons, List.all_nil, mkTup0, mkTup1, mkTup2, mkLst0, mkLst1, mkLst4, mkLst5, mkLst8, wipeE, sPar, sOwnS, sStore2, sPut, dNeg, negD, sOwnK, nListK, dDget, tDin, dDin, nSetS, sPop, sDput, sExt, ownK, dDc, sWhile, sBad, sAsg, sDrop, nSortT, if_true, src_okI n E z hn, List.map_dropLast]
      rfl
    | false =>
      simp only [runS, startE, sSeq, sIf, sSet, sRet, sRetN, sNil, sParV, sFor, sApp, sAppPop, tCmp, tVal, tAnd, tOr, tNot, tYes, tThaw, andB, orB, notB, andV, orV, notV, dC, dBin, dBlt, dVar, dCall, dNew, dThaw, dTup, dIf, dAnd, dOr, dNot, dIsi, dSl, dAttr, oN, oS, nLst, nList, nRng1, nRng2, nSeq, nOwn, nSorted, nThaw, gNm, vD, vN, seqV, setE, Say.pure_bind, Say.bind_assoc, List.getElem?_cons_zero, List.getElem?_cons_succ, seqA, slD, List.set_cons_succ, List.set_cons_zero, thaw, Sl.thaw, List.map_cons, List.map_nil, lift_some, truB_bl, bindT, ownL, slOwn, List.length_cons, List.length_nil, List.cons_append, List.nil_append, List.replicate, Nat.reduceAdd, Nat.reduceSub, List.all_cons, List.all_nil, mkTup0, mkTup1, mkTup2, mkLst0, mkLst1, mkLst4, mkLst5, mkLst8, wipeE, sPar, sOwnS, sStore2, sPut, dNeg, negD, sOwnK, nListK, dDget, tDin, dDin, nSetS, sPop, sDput, sExt, ownK, dDc, sWhile, sBad, sAsg, sDrop, nSortT, Bool.false_eq_true, if_false, tgt_okI n E z hn, List.map_dropLast]
      rfl
  · intro s w x y t k k' hs hw
    simp only [stR, runS, startE, sSeq, sIf, sSet, sRet, sRetN, sNil, sParV, sFor, sApp, sAppPop, tCmp, tVal, tAnd, tOr, tNot, tYes, tThaw, andB, orB, notB, andV, orV, notV, dC, dBin, dBlt, dVar, dCall, dNew, dThaw, dTup, dIf, dAnd, dOr, dNot, dIsi, dSl, dAttr, oN, oS, nLst, nList, nRng1, nRng2, nSeq, nOwn, nSorted, nThaw, gNm, vD, vN, seqV, setE, Say.pure_bind, Say.bind_assoc, List.getElem?_cons_zero, List.getElem?_cons_succ, seqA, slD, List.set_cons_succ, List.set_cons_zero, thaw, Sl.thaw, List.map_cons, List.map_nil, lift_some, truB_bl, bindT, ownL, slOwn, List.length_cons, List.length_nil, List.cons_append, List.nil_append, List.replicate, Nat.reduceAdd, Nat.reduceSub, List.all_cons, List.all_nil, mkTup0, mkTup1, mkTup2, mkLst0, mkLst1, mkLst4, mkLst5, mkLst8, wipeE, sPar, sOwnS, sStore2, sPut, dNeg, negD, sOwnK, nListK, dDget, tDin, dDin, nSetS, sPop, sDput, sExt, ownK, dDc, sWhile, sBad, sAsg, sDrop, nSortT, din_tr, if_true]
    by_cases m : t ∈ s
    · simp only [m, decide_true, Bool.not_true, Bool.false_eq_true, if_false, not_true, false_and]
    · simp only [m, decide_false, Bool.not_false, if_true, not_false_iff, true_and, putM_tr m hs, runS, startE, sSeq, sIf, sSet, sRet, sRetN, sNil, sParV, sFor, sApp, sAppPop, tCmp, tVal, tAnd, tOr, tNot, tYes, tThaw, andB, orB, notB, andV, orV, notV, dC, dBin, dBlt, dVar, dCall, dNew, dThaw, dTup, dIf, dAnd, dOr, dNot, dIsi, dSl, dAttr, oN, oS, nLst, nList, nRng1, nRng2, nSeq, nOwn, nSorted, nThaw, gNm, vD, vN, seqV, setE, Say.pure_bind, Say.bind_assoc, List.getElem?_cons_zero, List.getElem?_cons_succ, seqA, slD, List.set_cons_succ, List.set_cons_zero, thaw, Sl.thaw, List.map_cons, List.map_nil, lift_some, truB_bl, bindT, ownL, slOwn, List.length_cons, List.length_nil, List.cons_append, List.nil_append, List.replicate, Nat.reduceAdd, Nat.reduceSub, List.all_cons, List.all_nil, mkTup0, mkTup1, mkTup2, mkLst0, mkLst1, mkLst4, mkLst5, mkLst8, wipeE, sPar, sOwnS, sStore2, sPut, dNeg, negD, sOwnK, nListK, dDget, tDin, dDin, nSetS, sPop, sDput, sExt, ownK, dDc, sWhile, sBad, sAsg, sDrop, nSortT, push_ints t hw]
theorem rch_an {E : Int → Int → Prop} {A : Int → Prop} {nb : Int → List Int} (h : ∀ x y, y ∈ nb x ↔ E y x) {z : Int} : Rch A nb (fun _ => true) z ↔ DSep.An E A z := by
  constructor
  · intro q
    induction q with
    | base q => exact .base q
    | step _ m _ ih => exact .step ((h _ _).mp m) ih
  · intro q
    induction q with
    | base q => exact .base q
    | step e _ ih => exact .step ih ((h _ _).mpr e) rfl
theorem an_rg {n : Nat} {E : List (Int × Int)} (g : Good n E) {A : Int → Prop} (hA : ∀ x, A x → x ∈ rg n) {z : Int} (h : DSep.An (ar E) A z) : z ∈ rg n := by
  cases h with
  | base q => exact hA z q
  | step e _ => exact mem_rg.mpr (g.rng _ e).1
theorem ahead_in_ok {n : Nat} {E : List (Int × Int)} (g : Good n E) (hn : n ≤ 100) {d : D} {A : List Int} (hd : seqM d = pure (A.map D.int)) (hl : listD [d] = pure (A.map D.int)) (nd : A.Nodup) (hr : ∀ x ∈ A, x ∈ rg n) :
    m_ahead_in [webD n E, d] = pure (ti (lotOf n (DSep.An (ar E) (· ∈ A)))) := by
  simp only [m_ahead_in, S_ahead_in, runS, startE, sSeq, sIf, sSet, sRet, sRetN, sNil, sParV, sFor, sApp, sAppPop, tCmp, tVal, tAnd, tOr, tNot, tYes, tThaw, andB, orB, notB, andV, orV, notV, dC, dBin, dBlt, dVar, dCall, dNew, dThaw, dTup, dIf, dAnd, dOr, dNot, dIsi, dSl, dAttr, oN, oS, nLst, nList, nRng1, nRng2, nSeq, nOwn, nSorted, nThaw, gNm, vD, vN, seqV, setE, Say.pure_bind, Say.bind_assoc, List.getElem?_cons_zero, List.getElem?_cons_succ, seqA, slD, List.set_cons_succ, List.set_cons_zero, thaw, Sl.thaw, List.map_cons, List.map_nil, lift_some, truB_bl, bindT, ownL, slOwn, List.length_cons, List.length_nil, List.cons_append, List.nil_append, List.replicate, Nat.reduceAdd, Nat.reduceSub, List.all_cons, List.all_nil, mkTup0, mkTup1, mkTup2, mkLst0, mkLst1, mkLst4, mkLst5, mkLst8, wipeE, sPar, sOwnS, sStore2, sPut, dNeg, negD, sOwnK, nListK, dDget, tDin, dDin, nSetS, sPop, sDput, sExt, ownK, dDc, sWhile, sBad, sAsg, sDrop, nSortT, reached_ok g hn hd hl nd hr true, if_true]
  rw [lotOf_congr fun z _ => rch_an (nb := srcI n E) fun x y => mem_srcI g]
end SayLaw

namespace SayLaw
open Say
/-! ### near places -/
theorem forNn_fold {i : Nat} {f : SN} (I : List Int → Say.Env → KV → Prop) : ∀ (l done : List Int) (ρ : Say.Env) (kv : KV), I done ρ kv →
    (∀ done' a rest ρ kv, done ++ l = done' ++ a :: rest → I done' ρ kv → ∃ ρ' kv', I (done' ++ [a]) ρ' kv' ∧ ∀ k : Say.Env → KV → M D, f k (ρ.set i (.dat (.int a))) kv = k ρ' kv') → ∃ ρ' kv', I (done ++ l) ρ' kv' ∧ ∀ k : Say.Env → KV → M D, forNn i f k l ρ kv = k ρ' kv'
  | [], done, ρ, kv, i, _ => ⟨ρ, kv, by rw [List.append_nil]; exact i, fun _ => rfl⟩
  | a :: l, done, ρ, kv, i, H => by
    obtain ⟨ρ1, kv1, i1, e1⟩ := H done a l ρ kv rfl i
    obtain ⟨ρ2, kv2, i2, e2⟩ := forNn_fold (f := f) I l (done ++ [a]) ρ1 kv1 i1 (by rw [List.append_assoc]; exact H)
    refine ⟨ρ2, kv2, by rw [List.append_assoc] at i2; exact i2, fun k => ?_⟩
    show f (forNn _ f k l) (ρ.set _ (.dat (.int a))) kv = _
    rw [e1, e2]
structure NP (F : List Int) (kvs : KV) (rel : Int → Int → Prop) (B : Nat) : Prop where
  get : ∀ x ∈ F, ∃ ns, getN x kvs = some ns ∧ ns.length ≤ B ∧ ∀ y, y ∈ ns ↔ rel x y
  no : ∀ x, x ∉ F → getN x kvs = none
theorem getN_set {x k : Int} {ms : List Int} : ∀ {kvs : KV}, getN x (setN k ms kvs) = if x = k ∧ (getN k kvs).isSome = true then some ms else getN x kvs
  | [] => by simp [setN, getN]
  | (j, v) :: r => by
    unfold setN
    by_cases e : j = k
    · subst e
      simp only [if_true, getN]
      by_cases c : j = x
      · subst c; simp
      · simp [c, Ne.symm c]
    · rw [if_neg e]
      simp only [getN]
      by_cases c : j = x
      · subst c; simp [e]
      · rw [if_neg c, getN_set (kvs := r), if_neg c, if_neg e]
theorem NP.add {F : List Int} {kvs : KV} {rel : Int → Int → Prop} {B : Nat} (h : NP F kvs rel B) {x0 : Int} (m : x0 ∈ F) (ms : List Int) : ∃ ns, getN x0 kvs = some ns ∧ ns.length ≤ B ∧ NP F (setN x0 (ns ++ ms) kvs) (fun x y => rel x y ∨ (x = x0 ∧ y ∈ ms)) (B + ms.length) := by
  obtain ⟨ns, e, hl, hm⟩ := h.get x0 m
  refine ⟨ns, e, hl, ⟨fun x hx => ?_, fun x hx => by rw [getN_set, if_neg fun z => hx (by rw [z.1]; exact m)]; exact h.no x hx⟩⟩
  by_cases c : x = x0
  · subst c
    refine ⟨ns ++ ms, by rw [getN_set, if_pos ⟨rfl, by rw [e]; rfl⟩], by rw [List.length_append]; omega, fun y => ?_⟩
    rw [List.mem_append, hm y]
    simp
  · obtain ⟨ns', e', hl', hm'⟩ := h.get x hx
    refine ⟨ns', by rw [getN_set, if_neg fun z => c z.1]; exact e', by omega, fun y => ?_⟩
    rw [hm' y]
    simp [c]
theorem NP.congr {F : List Int} {kvs : KV} {rel rel' : Int → Int → Prop} {B B' : Nat} (h : NP F kvs rel B) (e : ∀ x y, rel x y ↔ rel' x y) (hB : B ≤ B') : NP F kvs rel' B' := ⟨fun x hx => by
  obtain ⟨ns, e1, hl, hm⟩ := h.get x hx
  exact ⟨ns, e1, by omega, fun y => (hm y).trans (e x y)⟩, h.no⟩
theorem getN_new (x : Int) : ∀ {F : List Int}, x ∈ F → getN x (F.map fun k => (k, ([] : List Int))) = some []
  | [], h => nomatch h
  | j :: F, h => by
    show (if j = x then some [] else getN x (F.map fun k => (k, []))) = _
    by_cases c : j = x
    · rw [if_pos c]
    · rw [if_neg c]
      exact getN_new x ((List.mem_cons.mp h).resolve_left (Ne.symm c))
theorem getN_none (x : Int) : ∀ {F : List Int}, x ∉ F → getN x (F.map fun k => (k, ([] : List Int))) = none
  | [], h => rfl
  | j :: F, h => by
    rw [List.mem_cons,
        not_or] at h
    show (if j = x then some [] else getN x (F.map fun k => (k, []))) = _
    rw [if_neg (Ne.symm h.1)]
    exact getN_none x h.2
def lotN (n : Nat) (E : List (Int × Int)) (F : List Int) (c : Int) : List Int := (srcI n E c).filter fun o => decide (o ∈ F)
def relN (n : Nat) (E : List (Int × Int)) (F done : List Int) (x y : Int) : Prop := ∃ c ∈ done, (x ∈ lotN n E F c ∧ y = c) ∨ (x = c ∧ y ∈ lotN n E F c) ∨ (x ∈ lotN n E F c ∧ y ∈ lotN n E F c ∧ y ≠ x)
def stN (n : Nat) (E : List (Int × Int)) (F : List Int) (x3 x4 x5 : Sl) : Say.Env := [.dat (webD n E), .dat (ti F), .no, x3, x4, x5, .no, .no]
theorem getI_kv (x : Int) : ∀ kvs : KV, getI x (kvs.map fun x => (D.int x.1, D.lst (x.2.map D.int))) = (getN x kvs).map fun ns => D.lst (ns.map D.int)
  | [] => rfl
  | (j, v) :: r => by
    show (if decide (j = x) = true then some (D.lst (v.map D.int)) else getI x (r.map fun x => (D.int x.1, D.lst (x.2.map D.int)))) = (if j = x then some v else getN x r).map _
    by_cases c : j = x
    · simp [c]
    · rw [if_neg c, if_neg (by simp [c]), getI_kv x r]
theorem din_kv (t : Int) (kvs : KV) : dinM false (.int t) (kvD kvs) = pure ((getN t kvs).isSome) := by
  show pure (if false = true then !(getI t (kvs.map fun x => (D.int x.1, D.lst (x.2.map D.int)))).isSome else (getI t (kvs.map fun x => (D.int x.1, D.lst (x.2.map D.int)))).isSome) = _
  rw [if_neg (by decide), getI_kv, Option.isSome_map]
theorem getNM_some {k : Int} {kvs : KV} {ns : List Int} (h : getN k kvs = some ns) : getNM k kvs = pure ns := by
  unfold getNM
  rw [h]
theorem intL_ints (ns : List Int) : intL (ns.map D.int) = pure ns := by
  unfold intL
  rw [intsOf_map]
theorem turnN {n : Nat} {E : List (Int × Int)} {F : List Int} {kvs : KV} {rel : Int → Int → Prop} {B : Nat} {c o : Int} {lot : List Int} (h : NP F kvs rel B) (hc : c ∈ F) (ho : o ∈ F) (hl : lot.length ≤ 100) (hB : B ≤ 10000000) :
    ∃ kvs', NP F kvs' (fun x y => ((rel x y ∨ (x = o ∧ y ∈ [c])) ∨ (x = c ∧ y ∈ [o])) ∨ (x = o ∧ y ∈ lot.filter fun z => !decide (z = o))) (B + 1 + 1 + 100) ∧ ∀ k : Say.Env → KV → M D,
      snSeq (snApp (dVar 5) (dVar 3)) (snSeq (snApp (dVar 3) (dVar 5)) (snExt (dVar 5) (lcM [7] (nSeq (dVar 4)) (gNm 7) (tCmp neD (dVar 7) (dVar 5)) (dVar 7)))) k (stN n E F (.dat (.int c)) (.dat (.lst (lot.map D.int))) (.dat (.int o))) kvs = k (stN n E F (.dat (.int c)) (.dat (.lst (lot.map D.int))) (.dat (.int o))) kvs' := by
  obtain ⟨n1, e1, l1, h1⟩ := h.add ho [c]
  obtain ⟨n2, e2, l2, h2⟩ := h1.add hc [o]
  obtain ⟨n3, e3, l3, h3⟩ := h2.add ho (lot.filter fun z => !decide (z = o))
  have lf := List.length_filter_le (fun z => !decide (z = o)) lot
  simp only [List.length_singleton] at l2 l3 h3
  refine ⟨_, h3.congr (fun _ _ => Iff.rfl) (by omega), fun k => ?_⟩
  have el : lcM [7] (nSeq (dVar 4)) (gNm 7) (tCmp neD (dVar 7) (dVar 5)) (dVar 7) (stN n E F (.dat (.int c)) (.dat (.lst (lot.map D.int))) (.dat (.int o))) = pure ((lot.filter fun z => !decide (z = o)).map D.int) := by
    refine lc_nm (l := lot) D.int (fun z => !decide (z = o)) D.int rfl rfl fun z hz => ?_
    simp only [stN, runS, startE, sSeq, sIf, sSet, sRet, sRetN, sNil, sParV, sFor, sApp, sAppPop, tCmp, tVal, tAnd, tOr, tNot, tYes, tThaw, andB, orB, notB, andV, orV, notV, dC, dBin, dBlt, dVar, dCall, dNew, dThaw, dTup, dIf, dAnd, dOr, dNot, dIsi, dSl, dAttr, oN, oS, nLst, nList, nRng1, nRng2, nSeq, nOwn, nSorted, nThaw, gNm, vD, vN, seqV, setE, Say.pure_bind, Say.bind_assoc, List.getElem?_cons_zero, List.getElem?_cons_succ, seqA, slD, List.set_cons_succ, List.set_cons_zero, thaw, Sl.thaw, List.map_cons, List.map_nil, lift_some, truB_bl, bindT, ownL, slOwn, List.length_cons, List.length_nil, List.cons_append, List.nil_append, List.replicate, Nat.reduceAdd, Nat.reduceSub, List.all_cons, List.all_nil, mkTup0, mkTup1, mkTup2, mkLst0, mkLst1, mkLst4, mkLst5, mkLst8, wipeE, sPar, sOwnS, sStore2, sPut, dNeg, negD, sOwnK, nListK, dDget, tDin, dDin, nSetS, sPop, sDput, sExt, ownK, dDc, sWhile, sBad, sAsg, sDrop, nSortT, ne_int]
    exact ⟨trivial, fun _ => trivial⟩
  simp only [snSeq, snApp, snExt, el, nx_pure, Say.pure_bind, intL_ints]
  simp only [stN, runS, startE, sSeq, sIf, sSet, sRet, sRetN, sNil, sParV, sFor, sApp, sAppPop, tCmp, tVal, tAnd, tOr, tNot, tYes, tThaw, andB, orB, notB, andV, orV, notV, dC, dBin, dBlt, dVar, dCall, dNew, dThaw, dTup, dIf, dAnd, dOr, dNot, dIsi, dSl, dAttr, oN, oS, nLst, nList, nRng1, nRng2, nSeq, nOwn, nSorted, nThaw, gNm, vD, vN, seqV, setE, Say.pure_bind, Say.bind_assoc, List.getElem?_cons_zero, List.getElem?_cons_succ, seqA, slD, List.set_cons_succ, List.set_cons_zero, thaw, Sl.thaw, List.map_cons, List.map_nil, lift_some, truB_bl, bindT, ownL, slOwn, List.length_cons, List.length_nil, List.cons_append, List.nil_append, List.replicate, Nat.reduceAdd, Nat.reduceSub, List.all_cons, List.all_nil, mkTup0, mkTup1, mkTup2, mkLst0, mkLst1, mkLst4, mkLst5, mkLst8, wipeE, sPar, sOwnS, sStore2, sPut, dNeg, negD, sOwnK, nListK, dDget, tDin, dDin, nSetS, sPop, sDput, sExt, ownK, dDc, sWhile, sBad, sAsg, sDrop, nSortT, nx_pure, intE, getNM_some e1, getNM_some e2, getNM_some e3]
  rw [if_pos (by omega), if_pos (by omega), if_pos (by omega)]
theorem near_in_ok {n : Nat} {E : List (Int × Int)} (g : Good n E) (hn : n ≤ 100) {F : List Int} (nd : F.Nodup) (hr : ∀ x ∈ F, x ∈ rg n) :
    ∃ kvs, m_near_in [webD n E, ti F] = pure (kvD kvs) ∧ NP F kvs (relN n E F F) 10000000 := by
  have hF : F.length ≤ n := by have := sub_len nd hr; rw [rg_len] at this; exact this
  have lotl : ∀ c, (lotN n E F c).length ≤ 100 := fun c => by
    have h1 := List.length_filter_le (fun o => decide (o ∈ F)) (srcI n E c)
    have h2 := List.length_filter_le (fun o => decide ((o, c) ∈ E)) (rg n)
    rw [rg_len] at h2
    show ((srcI n E c).filter fun o => decide (o ∈ F)).length ≤ 100
    have h3 : (srcI n E c).length ≤ n := h2
    omega
  obtain ⟨ρ', kvs, ⟨⟨x3, x4, x5, e1⟩, q⟩, hk⟩ := forNn_fold (i := 3) (f := (snSeq (snLc 2 4 (lcM [6] (nSeq (dCall m_sources_in [(dVar 0), (dVar 3)])) (gNm 6) (tDin false (dVar 6) (dVar 2)) (dVar 6)))
  (snFor 5 (nSeq (dVar 4)) (snSeq (snApp (dVar 5) (dVar 3))
  (snSeq (snApp (dVar 3) (dVar 5))
  (snExt (dVar 5) (lcM [7] (nSeq (dVar 4)) (gNm 7) (tCmp neD (dVar 7) (dVar 5)) (dVar 7)))))))) (fun done ρ kv => (∃ x3 x4 x5, ρ = stN n E F x3 x4 x5) ∧ NP F kv (relN n E F done) (done.length * 20000)) F [] (stN n E F .no .no .no) (F.map fun k => (k, [])) ⟨⟨_, _, _, rfl⟩, ⟨fun x hx => ⟨[], getN_new x hx, Nat.zero_le _, fun y => by simp [relN]⟩, fun x hx => getN_none x hx⟩⟩ (by
    rintro done c rest ρ kv e ⟨⟨x3, x4, x5, rfl⟩, h⟩
    have e : F = done ++ c :: rest := e
    have hc : c ∈ F := by rw [e]; simp
    have hd : done.length + 1 ≤ F.length := by rw [e]; simp
    have el : lcM [6] (nSeq (dCall m_sources_in [(dVar 0), (dVar 3)])) (gNm 6) (tDin false (dVar 6) (dVar 2)) (dVar 6) (((stN n E F x3 x4 x5).set 3 (.dat (.int c))).set 2 (.dat (kvD kv))) = pure ((lotN n E F c).map D.int) := by
      refine lc_nm (l := srcI n E c) D.int (fun o => decide (o ∈ F)) D.int ?_ rfl fun z hz => ?_
      · simp only [stN, runS, startE, sSeq, sIf, sSet, sRet, sRetN, sNil, sParV, sFor, sApp, sAppPop, tCmp, tVal, tAnd, tOr, tNot, tYes, tThaw, andB, orB, notB, andV, orV, notV, dC, dBin, dBlt, dVar, dCall, dNew, dThaw, dTup, dIf, dAnd, dOr, dNot, dIsi, dSl, dAttr, oN, oS, nLst, nList, nRng1, nRng2, nSeq, nOwn, nSorted, nThaw, gNm, vD, vN, seqV, setE, Say.pure_bind, Say.bind_assoc, List.getElem?_cons_zero, List.getElem?_cons_succ, seqA, slD, List.set_cons_succ, List.set_cons_zero, thaw, Sl.thaw, List.map_cons, List.map_nil, lift_some, truB_bl, bindT, ownL, slOwn, List.length_cons, List.length_nil, List.cons_append, List.nil_append, List.replicate, Nat.reduceAdd, Nat.reduceSub, List.all_cons, List.all_nil, mkTup0, mkTup1, mkTup2, mkLst0, mkLst1, mkLst4, mkLst5, mkLst8, wipeE, sPar, sOwnS, sStore2, sPut, dNeg, negD, sOwnK, nListK, dDget, tDin, dDin, nSetS, sPop, sDput, sExt, ownK, dDc, sWhile, sBad, sAsg, sDrop, nSortT, src_okI n E c hn]
        rfl
      · simp only [stN, runS, startE, sSeq, sIf, sSet, sRet, sRetN, sNil, sParV, sFor, sApp, sAppPop, tCmp, tVal, tAnd, tOr, tNot, tYes, tThaw, andB, orB, notB, andV, orV, notV, dC, dBin, dBlt, dVar, dCall, dNew, dThaw, dTup, dIf, dAnd, dOr, dNot, dIsi, dSl, dAttr, oN, oS, nLst, nList, nRng1, nRng2, nSeq, nOwn, nSorted, nThaw, gNm, vD, vN, seqV, setE, Say.pure_bind, Say.bind_assoc, List.getElem?_cons_zero, List.getElem?_cons_succ, seqA, slD, List.set_cons_succ, List.set_cons_zero, thaw, Sl.thaw, List.map_cons, List.map_nil, lift_some, truB_bl, bindT, ownL, slOwn, List.length_cons, List.length_nil, List.cons_append, List.nil_append, List.replicate, Nat.reduceAdd, Nat.reduceSub, List.all_cons, List.all_nil, mkTup0, mkTup1, mkTup2, mkLst0, mkLst1, mkLst4, mkLst5, mkLst8, wipeE, sPar, sOwnS, sStore2, sPut, dNeg, negD, sOwnK, nListK, dDget, tDin, dDin, nSetS, sPop, sDput, sExt, ownK, dDc, sWhile, sBad, sAsg, sDrop, nSortT, din_kv]
        have es : (getN z kv).isSome = decide (z ∈ F) := by
          by_cases m : z ∈ F
          · obtain ⟨ns, e, _⟩ := h.get z m
            rw [e]; simp [m]
          · rw [h.no z m]; simp [m]
        rw [es]
        exact ⟨rfl, fun _ => trivial⟩
    obtain ⟨ρ1, kv1, ⟨⟨y5, e1⟩, q1⟩, hk1⟩ := forNn_fold (i := 5) (f := (snSeq (snApp (dVar 5) (dVar 3)) (snSeq (snApp (dVar 3) (dVar 5)) (snExt (dVar 5) (lcM [7] (nSeq (dVar 4)) (gNm 7) (tCmp neD (dVar 7) (dVar 5)) (dVar 7))))))
      (fun done2 ρ kv => (∃ x5, ρ = stN n E F (.dat (.int c)) (.dat (.lst ((lotN n E F c).map D.int))) x5) ∧ NP F kv (fun x y => relN n E F done x y ∨ ∃ o ∈ done2, (x = o ∧ y = c) ∨ (x = c ∧ y = o) ∨ (x = o ∧ y ∈ lotN n E F c ∧ y ≠ o)) (done.length * 20000 + done2.length * 102)) (lotN n E F c) [] (stN n E F (.dat (.int c)) (.dat (.lst ((lotN n E F c).map D.int))) x5) kv ⟨⟨x5, rfl⟩, h.congr (fun x y => by simp) (by omega)⟩ (by
        rintro done2 o rest2 ρ2 kv2 e2 ⟨⟨y5, rfl⟩, h2⟩
        have e2 : lotN n E F c = done2 ++ o :: rest2 := e2
        have ho : o ∈ F := by
          have : o ∈ lotN n E F c := by rw [e2]; simp
          exact of_decide_eq_true (List.mem_filter.mp this).2
        have hl2 : done2.length + 1 ≤ 100 := by
          have := lotl c
          rw [e2] at this
          simp at this
          omega
        obtain ⟨kv3, h3, hk3⟩ := turnN (n := n) (E := E) h2 hc ho (lotl c) (by omega)
        refine ⟨_, kv3, ⟨⟨.dat (.int o), rfl⟩, h3.congr (fun x y => ?_) ?_⟩, fun k => hk3 k⟩
        · constructor
          · rintro ((((q | ⟨o', m, q⟩) | ⟨q1, q2⟩) | ⟨q1, q2⟩) | ⟨q1, q2⟩)
            · exact .inl q
            · exact .inr ⟨o', List.mem_append_left _ m, q⟩
            · exact .inr ⟨o, by simp, .inl ⟨q1, List.mem_singleton.mp q2⟩⟩
            · exact .inr ⟨o, by simp, .inr (.inl ⟨q1, List.mem_singleton.mp q2⟩)⟩
            · obtain ⟨q3, q4⟩ := List.mem_filter.mp q2
              exact .inr ⟨o, by simp, .inr (.inr ⟨q1, q3, by simpa using q4⟩)⟩
          · rintro (q | ⟨o', m, q⟩)
            · exact .inl (.inl (.inl (.inl q)))
            · rcases List.mem_append.mp m with m | m
              · exact .inl (.inl (.inl (.inr ⟨o', m, q⟩)))
              · rw [List.mem_singleton] at m
                subst m
                rcases q with q | q | ⟨q1, q2, q3⟩
                · exact .inl (.inl (.inr ⟨q.1, by simp [q.2]⟩))
                · exact .inl (.inr ⟨q.1, by simp [q.2]⟩)
                · exact .inr ⟨q1, List.mem_filter.mpr ⟨q2, by simpa using q3⟩⟩
        · rw [List.length_append,
              List.length_singleton]
          omega)
    subst e1
    refine ⟨_, kv1, ⟨⟨.dat (.int c), .dat (.lst ((lotN n E F c).map D.int)), y5, rfl⟩, q1.congr (fun x y => ?_) ?_⟩, fun k => ?_⟩
    · constructor
      · rintro (⟨d, m, q⟩ | ⟨o, m, q⟩)
        · exact ⟨d, List.mem_append_left _ m, q⟩
        · refine ⟨c, by simp, ?_⟩
          rcases q with ⟨q1, q2⟩ | ⟨q1, q2⟩ | ⟨q1, q2, q3⟩
          · exact .inl ⟨by rw [q1]; exact m, q2⟩
          · exact .inr (.inl ⟨q1, by rw [q2]; exact m⟩)
          · exact .inr (.inr ⟨by rw [q1]; exact m, q2, by rw [q1]; exact q3⟩)
      · rintro ⟨d, m, q⟩
        rcases List.mem_append.mp m with m | m
        · exact .inl ⟨d, m, q⟩
        · rw [List.mem_singleton] at m
          subst m
          rcases q with ⟨q1, q2⟩ | ⟨q1, q2⟩ | ⟨q1, q2, q3⟩
          · exact .inr ⟨x, q1, .inl ⟨rfl, q2⟩⟩
          · exact .inr ⟨y, q2, .inr (.inl ⟨q1, rfl⟩)⟩
          · exact .inr ⟨x, q1, .inr (.inr ⟨rfl, q2, q3⟩)⟩
    · have := lotl c
      rw [List.nil_append, List.length_append, List.length_singleton]
      omega
    · show nx (lcM [6] (nSeq (dCall m_sources_in [(dVar 0), (dVar 3)])) (gNm 6) (tDin false (dVar 6) (dVar 2)) (dVar 6) (((stN n E F x3 x4 x5).set 3 (.dat (.int c))).set 2 (.dat (kvD kv)))) >>= _ = _
      rw [el, nx_pure, Say.pure_bind, intL_ints, Say.pure_bind]
      show nx (nSeq (dVar 4) (stN n E F (.dat (.int c)) (.dat (.lst ((lotN n E F c).map D.int))) x5)) >>= _ = _
      rw [show nSeq (dVar 4) (stN n E F (.dat (.int c)) (.dat (.lst ((lotN n E F c).map D.int))) x5) = pure ((lotN n E F c).map D.int) from rfl, nx_pure, Say.pure_bind, intL_ints, Say.pure_bind]
      exact hk1 k)
  subst e1
  refine ⟨kvs, ?_, q.congr (fun _ _ => Iff.rfl) (by rw [List.nil_append]; omega)⟩
  have e0 : nSeq (dVar 1) [.dat (webD n E), .dat (ti F), .no, .no, .no, .no, .no, .no] = pure (F.map D.int) := rfl
  show sNear 2 3 (nSeq (dVar 1)) _ (fun _ => pure .non) pure (fun _ => bad) (fun _ => bad) [.dat (webD n E), .dat (ti F), .no, .no, .no, .no, .no, .no] = _
  unfold sNear
  rw [if_pos ⟨rfl, by simp, by simp⟩, e0, nx_pure, Say.pure_bind, intL_ints, Say.pure_bind, if_pos nd]
  show nx (nSeq (dVar 1) (stN n E F .no .no .no)) >>= _ = _
  rw [show nSeq (dVar 1) (stN n E F .no .no .no) = pure (F.map D.int) from rfl, nx_pure, Say.pure_bind, intL_ints, Say.pure_bind]
  exact hk _
end SayLaw

namespace SayLaw
open Say
/-! ### lots of a statement -/
structure Lt (n : Nat) (a : List Int) : Prop where
  asc : a.Pairwise (· < ·)
  rng : ∀ x ∈ a, x ∈ rg n
theorem Lt.nd {n : Nat} {a : List Int} (h : Lt n a) : a.Nodup := asc_nodup h.asc
theorem Lt.len {n : Nat} {a : List Int} (h : Lt n a) : a.length ≤ n := by
  have := sub_len h.nd h.rng
  rw [rg_len] at this
  exact this
structure St (n : Nat) (a b c : List Int) : Prop where
  la : Lt n a
  lb : Lt n b
  lc : Lt n c
  ab : ∀ x ∈ a, x ∉ b
  ac : ∀ x ∈ a, x ∉ c
  bc : ∀ x ∈ b, x ∉ c
theorem Good.asy {n : Nat} {E : List (Int × Int)} (g : Good n E) : ∀ x y, ar E x y → ¬ ar E y x := fun x y h h' => g.back h h'
theorem nodup_cat {α : Type} {a b : List α} (ha : a.Nodup) (hb : b.Nodup) (h : ∀ x ∈ a, x ∉ b) : (a ++ b).Nodup := List.nodup_append.mpr ⟨ha, hb, fun x hx y hy e => h x hx (by rw [e]; exact hy)⟩
theorem sort_perm (s : List Int) : (sortI s).Perm s := List.mergeSort_perm s leI
theorem dget_kv {x : Int} {kvs : KV} {ns : List Int} (h : getN x kvs = some ns) : dgetM (kvD kvs) (.int x) = pure (.lst (ns.map D.int)) := by
  show (match getI x (kvs.map fun x => (D.int x.1, D.lst (x.2.map D.int))) with | some d => pure d | none => bad) = _
  rw [getI_kv, h]
  rfl
theorem sorted_ti (s : List Int) : sortedM [ti s] = pure ((sortI s).map D.int) := by
  show lift ((intsOf (s.map D.int)).map fun ns => (sortI ns).map D.int) = _
  rw [intsOf_map]
  rfl
theorem near_rel {n : Nat} {E : List (Int × Int)} (g : Good n E) {F : List Int} {x y : Int} (h : relN n E F F x y) (hx : x ∈ F) : DSep.Near (ar E) (· ∈ F) x y := by
  have src : ∀ {c z : Int}, z ∈ lotN n E F c → ar E z c ∧ z ∈ F := fun h => by
    obtain ⟨h1, h2⟩ := List.mem_filter.mp h
    exact ⟨(mem_srcI g).mp h1, of_decide_eq_true h2⟩
  obtain ⟨c, hc, ⟨q1, q2⟩ | ⟨q1, q2⟩ | ⟨q1, q2, _⟩⟩ := h
  · subst q2
    exact ⟨hx, hc, .inl (.inl (src q1).1)⟩
  · subst q1
    exact ⟨hx, (src q2).2, .inl (.inr (src q2).1)⟩
  · exact ⟨hx, (src q2).2, .inr ⟨c, hc, (src q1).1, (src q2).1⟩⟩
theorem rel_near {n : Nat} {E : List (Int × Int)} (g : Good n E) {F : List Int} {x y : Int} (h : DSep.Near (ar E) (· ∈ F) x y) (ne : y ≠ x) : relN n E F F x y := by
  have lot : ∀ {c z : Int}, ar E z c → z ∈ F → z ∈ lotN n E F c := fun e m => List.mem_filter.mpr ⟨(mem_srcI g).mpr e, decide_eq_true m⟩
  obtain ⟨h1, h2, (e | e) | ⟨c, hc, e1, e2⟩⟩ := h
  · exact ⟨y, h2, .inl ⟨lot e h1, rfl⟩⟩
  · exact ⟨x, h1, .inr (.inl ⟨rfl, lot e h2⟩)⟩
  · exact ⟨c, hc, .inr (.inr ⟨lot e1 h1, lot e2 h2, ne⟩)⟩
def stS (n : Nat) (E : List (Int × Int)) (a b c : List Int) (kvs : KV) (s w : List Int) (x y : Sl) : Say.Env := [.dat (webD n E), .dat (ti a), .dat (ti b), .dat (ti c), .dat (kvD kvs), .own (.dct (s.map tr)), .own (.lst (w.map D.int)), x, y, .no]
theorem side_of_ok {n : Nat} {E : List (Int × Int)} (g : Good n E) (hn : n ≤ 100) {a b c : List Int} (S : St n a b c) :
    m_side_of [webD n E, ti a, ti b, ti c] = pure (ti (lotOf n (DSep.Side (ar E) (· ∈ a) (· ∈ c) (DSep.Fld (ar E) (· ∈ a) (· ∈ b) (· ∈ c))))) := by
  have la := S.la.len
  have lb := S.lb.len
  have lc := S.lc.len
  have nd : ((a ++ b) ++ c).Nodup := nodup_cat (nodup_cat S.la.nd S.lb.nd S.ab) S.lc.nd fun x hx => (List.mem_append.mp hx).elim (S.ac x) (S.bc x)
  have pm := sort_perm ((a ++ b) ++ c)
  have hA : ∀ x ∈ sortI ((a ++ b) ++ c), x ∈ rg n := fun x hx => by
    have hx := pm.mem_iff.mp hx
    rcases List.mem_append.mp
        hx with q | q
    · rcases List.mem_append.mp
          q with q | q
      · exact S.la.rng x q
      · exact S.lb.rng x q
    · exact S.lc.rng x q
  have eF : lotOf n (DSep.An (ar E) (· ∈ sortI ((a ++ b) ++ c))) = lotOf n (DSep.Fld (ar E) (· ∈ a) (· ∈ b) (· ∈ c)) := lotOf_congr fun z _ => by
    constructor
    · exact fun h => h.mono fun x hx => by
        rcases List.mem_append.mp (pm.mem_iff.mp hx) with q | q
        · exact (List.mem_append.mp q).imp id .inl
        · exact .inr (.inr q)
    · exact fun h => h.mono fun x hx => pm.mem_iff.mpr (by
        rcases hx with q | q | q
        · exact List.mem_append_left _ (List.mem_append_left _ q)
        · exact List.mem_append_left _ (List.mem_append_right _ q)
        · exact List.mem_append_right _ q)
  have memF : ∀ z, z ∈ lotOf n (DSep.Fld (ar E) (· ∈ a) (· ∈ b) (· ∈ c)) ↔ DSep.Fld (ar E) (· ∈ a) (· ∈ b) (· ∈ c) z := fun z => by
    rw [mem_lotOf]
    exact ⟨fun h => h.2, fun h => ⟨an_rg g (fun x hx => by
      rcases hx with q | q | q
      · exact S.la.rng x q
      · exact S.lb.rng x q
      · exact S.lc.rng x q) h, h⟩⟩
  have eP : (· ∈ lotOf n (DSep.Fld (ar E) (· ∈ a) (· ∈ b) (· ∈ c))) = DSep.Fld (ar E) (· ∈ a) (· ∈ b) (· ∈ c) := funext fun z => propext (memF z)
  obtain ⟨kvs, ek, np⟩ := near_in_ok g hn (F := lotOf n (DSep.Fld (ar E) (· ∈ a) (· ∈ b) (· ∈ c))) (asc_nodup (asc_lotOf _ _)) fun x hx => (mem_lotOf.mp hx).1
  have nbF : ∀ x, x ∈ lotOf n (DSep.Fld (ar E) (· ∈ a) (· ∈ b) (· ∈ c)) → ∀ y, y ∈ (getN x kvs).getD [] → DSep.Near (ar E) (DSep.Fld (ar E) (· ∈ a) (· ∈ b) (· ∈ c)) x y := fun x hx y hy => by
    obtain ⟨ns, e, _, hm⟩ := np.get x hx
    rw [e] at hy
    have := near_rel g ((hm y).mp hy) hx
    rw [eP] at this
    exact this
  have aF : ∀ x ∈ a, x ∈ lotOf n (DSep.Fld (ar E) (· ∈ a) (· ∈ b) (· ∈ c)) := fun x hx => (memF x).mpr (.base (.inl hx))
  have rs : ∀ z, Rch (· ∈ a) (fun z => (getN z kvs).getD []) (fun t => !decide (t ∈ c)) z ↔ DSep.Side (ar E) (· ∈ a) (· ∈ c) (DSep.Fld (ar E) (· ∈ a) (· ∈ b) (· ∈ c)) z := fun z => by
    constructor
    · intro h
      have : z ∈ lotOf n (DSep.Fld (ar E) (· ∈ a) (· ∈ b) (· ∈ c)) ∧ DSep.Side (ar E) (· ∈ a) (· ∈ c) (DSep.Fld (ar E) (· ∈ a) (· ∈ b) (· ∈ c)) z := by
        induction h with
        | base q => exact ⟨aF _ q, .base q⟩
        | step _ m o ih =>
          have nr := nbF _ ih.1 _ m
          exact ⟨(memF _).mpr nr.2.1, .step ih.2 nr (by simpa using o)⟩
      exact this.2
    · intro h
      induction h with
      | base q => exact .base q
      | step _ nr nc ih =>
        rename_i x y _
        by_cases e : y = x
        · rw [e]; exact ih
        · obtain ⟨ns, e1, _, hm⟩ := np.get x ((memF x).mpr nr.1)
          refine .step ih ?_ (by simpa using nc)
          rw [e1]
          refine (hm y).mpr (rel_near g ?_ e)
          rw [eP]
          exact nr
  simp only [m_side_of, S_side_of, runS, startE, sSeq, sIf, sSet, sRet, sRetN, sNil, sParV, sFor, sApp, sAppPop, tCmp, tVal, tAnd, tOr, tNot, tYes, tThaw, andB, orB, notB, andV, orV, notV, dC, dBin, dBlt, dVar, dCall, dNew, dThaw, dTup, dIf, dAnd, dOr, dNot, dIsi, dSl, dAttr, oN, oS, nLst, nList, nRng1, nRng2, nSeq, nOwn, nSorted, nThaw, gNm, vD, vN, seqV, setE, Say.pure_bind, Say.bind_assoc, List.getElem?_cons_zero, List.getElem?_cons_succ, seqA, slD, List.set_cons_succ, List.set_cons_zero, thaw, Sl.thaw, List.map_cons, List.map_nil, lift_some, truB_bl, bindT, ownL, slOwn, List.length_cons, List.length_nil, List.cons_append, List.nil_append, List.replicate, Nat.reduceAdd, Nat.reduceSub, List.all_cons, List.all_nil, mkTup0, mkTup1, mkTup2, mkLst0, mkLst1, mkLst4, mkLst5, mkLst8, wipeE, sPar, sOwnS, sStore2, sPut, dNeg, negD, sOwnK, nListK, dDget, tDin, dDin, nSetS, sPop, sDput, sExt, ownK, dDc, sWhile, sBad, sAsg, sDrop, nSortT]
  rw [add_ti a b (by omega)]
  simp only [runS, startE, sSeq, sIf, sSet, sRet, sRetN, sNil, sParV, sFor, sApp, sAppPop, tCmp, tVal, tAnd, tOr, tNot, tYes, tThaw, andB, orB, notB, andV, orV, notV, dC, dBin, dBlt, dVar, dCall, dNew, dThaw, dTup, dIf, dAnd, dOr, dNot, dIsi, dSl, dAttr, oN, oS, nLst, nList, nRng1, nRng2, nSeq, nOwn, nSorted, nThaw, gNm, vD, vN, seqV, setE, Say.pure_bind, Say.bind_assoc, List.getElem?_cons_zero, List.getElem?_cons_succ, seqA, slD, List.set_cons_succ, List.set_cons_zero, thaw, Sl.thaw, List.map_cons, List.map_nil, lift_some, truB_bl, bindT, ownL, slOwn, List.length_cons, List.length_nil, List.cons_append, List.nil_append, List.replicate, Nat.reduceAdd, Nat.reduceSub, List.all_cons, List.all_nil, mkTup0, mkTup1, mkTup2, mkLst0, mkLst1, mkLst4, mkLst5, mkLst8, wipeE, sPar, sOwnS, sStore2, sPut, dNeg, negD, sOwnK, nListK, dDget, tDin, dDin, nSetS, sPop, sDput, sExt, ownK, dDc, sWhile, sBad, sAsg, sDrop, nSortT]
  rw [add_ti (a ++ b) c (by rw [List.length_append]; omega)]
  simp only [runS, startE, sSeq, sIf, sSet, sRet, sRetN, sNil, sParV, sFor, sApp, sAppPop, tCmp, tVal, tAnd, tOr, tNot, tYes, tThaw, andB, orB, notB, andV, orV, notV, dC, dBin, dBlt, dVar, dCall, dNew, dThaw, dTup, dIf, dAnd, dOr, dNot, dIsi, dSl, dAttr, oN, oS, nLst, nList, nRng1, nRng2, nSeq, nOwn, nSorted, nThaw, gNm, vD, vN, seqV, setE, Say.pure_bind, Say.bind_assoc, List.getElem?_cons_zero, List.getElem?_cons_succ, seqA, slD, List.set_cons_succ, List.set_cons_zero, thaw, Sl.thaw, List.map_cons, List.map_nil, lift_some, truB_bl, bindT, ownL, slOwn, List.length_cons, List.length_nil, List.cons_append, List.nil_append, List.replicate, Nat.reduceAdd, Nat.reduceSub, List.all_cons, List.all_nil, mkTup0, mkTup1, mkTup2, mkLst0, mkLst1, mkLst4, mkLst5, mkLst8, wipeE, sPar, sOwnS, sStore2, sPut, dNeg, negD, sOwnK, nListK, dDget, tDin, dDin, nSetS, sPop, sDput, sExt, ownK, dDc, sWhile, sBad, sAsg, sDrop, nSortT]
  rw [show sortedM [ti ((a ++ b) ++ c)] = pure ((sortI ((a ++ b) ++ c)).map D.int) from sorted_ti _]
  simp only [runS, startE, sSeq, sIf, sSet, sRet, sRetN, sNil, sParV, sFor, sApp, sAppPop, tCmp, tVal, tAnd, tOr, tNot, tYes, tThaw, andB, orB, notB, andV, orV, notV, dC, dBin, dBlt, dVar, dCall, dNew, dThaw, dTup, dIf, dAnd, dOr, dNot, dIsi, dSl, dAttr, oN, oS, nLst, nList, nRng1, nRng2, nSeq, nOwn, nSorted, nThaw, gNm, vD, vN, seqV, setE, Say.pure_bind, Say.bind_assoc, List.getElem?_cons_zero, List.getElem?_cons_succ, seqA, slD, List.set_cons_succ, List.set_cons_zero, thaw, Sl.thaw, List.map_cons, List.map_nil, lift_some, truB_bl, bindT, ownL, slOwn, List.length_cons, List.length_nil, List.cons_append, List.nil_append, List.replicate, Nat.reduceAdd, Nat.reduceSub, List.all_cons, List.all_nil, mkTup0, mkTup1, mkTup2, mkLst0, mkLst1, mkLst4, mkLst5, mkLst8, wipeE, sPar, sOwnS, sStore2, sPut, dNeg, negD, sOwnK, nListK, dDget, tDin, dDin, nSetS, sPop, sDput, sExt, ownK, dDc, sWhile, sBad, sAsg, sDrop, nSortT]
  rw [ahead_in_ok g hn (A := sortI ((a ++ b) ++ c)) rfl rfl (pm.nodup_iff.mpr nd) hA, eF]
  simp only [runS, startE, sSeq, sIf, sSet, sRet, sRetN, sNil, sParV, sFor, sApp, sAppPop, tCmp, tVal, tAnd, tOr, tNot, tYes, tThaw, andB, orB, notB, andV, orV, notV, dC, dBin, dBlt, dVar, dCall, dNew, dThaw, dTup, dIf, dAnd, dOr, dNot, dIsi, dSl, dAttr, oN, oS, nLst, nList, nRng1, nRng2, nSeq, nOwn, nSorted, nThaw, gNm, vD, vN, seqV, setE, Say.pure_bind, Say.bind_assoc, List.getElem?_cons_zero, List.getElem?_cons_succ, seqA, slD, List.set_cons_succ, List.set_cons_zero, thaw, Sl.thaw, List.map_cons, List.map_nil, lift_some, truB_bl, bindT, ownL, slOwn, List.length_cons, List.length_nil, List.cons_append, List.nil_append, List.replicate, Nat.reduceAdd, Nat.reduceSub, List.all_cons, List.all_nil, mkTup0, mkTup1, mkTup2, mkLst0, mkLst1, mkLst4, mkLst5, mkLst8, wipeE, sPar, sOwnS, sStore2, sPut, dNeg, negD, sOwnK, nListK, dDget, tDin, dDin, nSetS, sPop, sDput, sExt, ownK, dDc, sWhile, sBad, sAsg, sDrop, nSortT]
  rw [ek]
  simp only [runS, startE, sSeq, sIf, sSet, sRet, sRetN, sNil, sParV, sFor, sApp, sAppPop, tCmp, tVal, tAnd, tOr, tNot, tYes, tThaw, andB, orB, notB, andV, orV, notV, dC, dBin, dBlt, dVar, dCall, dNew, dThaw, dTup, dIf, dAnd, dOr, dNot, dIsi, dSl, dAttr, oN, oS, nLst, nList, nRng1, nRng2, nSeq, nOwn, nSorted, nThaw, gNm, vD, vN, seqV, setE, Say.pure_bind, Say.bind_assoc, List.getElem?_cons_zero, List.getElem?_cons_succ, seqA, slD, List.set_cons_succ, List.set_cons_zero, thaw, Sl.thaw, List.map_cons, List.map_nil, lift_some, truB_bl, bindT, ownL, slOwn, List.length_cons, List.length_nil, List.cons_append, List.nil_append, List.replicate, Nat.reduceAdd, Nat.reduceSub, List.all_cons, List.all_nil, mkTup0, mkTup1, mkTup2, mkLst0, mkLst1, mkLst4, mkLst5, mkLst8, wipeE, sPar, sOwnS, sStore2, sPut, dNeg, negD, sOwnK, nListK, dDget, tDin, dDin, nSetS, sPop, sDput, sExt, ownK, dDc, sWhile, sBad, sAsg, sDrop, nSortT]
  rw [if_pos (by omega), dc_tr (A := a) rfl rfl (by show 9 < 10; omega) S.la.nd (by omega)]
  simp only [runS, startE, sSeq, sIf, sSet, sRet, sRetN, sNil, sParV, sFor, sApp, sAppPop, tCmp, tVal, tAnd, tOr, tNot, tYes, tThaw, andB, orB, notB, andV, orV, notV, dC, dBin, dBlt, dVar, dCall, dNew, dThaw, dTup, dIf, dAnd, dOr, dNot, dIsi, dSl, dAttr, oN, oS, nLst, nList, nRng1, nRng2, nSeq, nOwn, nSorted, nThaw, gNm, vD, vN, seqV, setE, Say.pure_bind, Say.bind_assoc, List.getElem?_cons_zero, List.getElem?_cons_succ, seqA, slD, List.set_cons_succ, List.set_cons_zero, thaw, Sl.thaw, List.map_cons, List.map_nil, lift_some, truB_bl, bindT, ownL, slOwn, List.length_cons, List.length_nil, List.cons_append, List.nil_append, List.replicate, Nat.reduceAdd, Nat.reduceSub, List.all_cons, List.all_nil, mkTup0, mkTup1, mkTup2, mkLst0, mkLst1, mkLst4, mkLst5, mkLst8, wipeE, sPar, sOwnS, sStore2, sPut, dNeg, negD, sOwnK, nListK, dDget, tDin, dDin, nSetS, sPop, sDput, sExt, ownK, dDc, sWhile, sBad, sAsg, sDrop, nSortT, show listD [ti a] = pure (a.map D.int) from rfl]
  rw [if_pos (by omega)]
  refine Exists.elim (flood_loop (U := lotOf n (DSep.Fld (ar E) (· ∈ a) (· ∈ b) (· ∈ c))) (A := a) (nb := fun z => (getN z kvs).getD []) (ok := fun t => !decide (t ∈ c)) (st := stS n E a b c kvs) (r := pure) (h := gNm 8)
    (t := tThaw (tCmp (odD .gt) (dBlt lenD [(dVar 6)]) (dC (.int 0))))
    (bodyF := (sIf (tThaw (tAnd (tDin true (dVar 8) (dVar 5)) (tCmp ninD (dVar 8) (dVar 3)))) (sSeq (sDput 5 (dVar 8) (dC (.bl true))) (sApp 6 (dVar 8))) sNil))
    (bodyW := (sSeq (sPop 7 6) (sFor (nSeq (dDget (dVar 4) (dVar 7))) (gNm 8) (sIf (tThaw (tAnd (tDin true (dVar 8) (dVar 5)) (tCmp ninD (dVar 8) (dVar 3)))) (sSeq (sDput 5 (dVar 8) (dC (.bl true))) (sApp 6 (dVar 8))) sNil))))
    (by have := lotOf_len n (DSep.Fld (ar E) (· ∈ a) (· ∈ b) (· ∈ c)); omega) ?_ ?_ ?_ ?_ 1000 a a .no .no ⟨S.la.nd, S.la.nd, fun _ z => z, fun _ z => z, aF, fun z hz => .base hz⟩ (fun z h1 h2 => (h2 h1).elim) (by have := lotOf_len n (DSep.Fld (ar E) (· ∈ a) (· ∈ b) (· ∈ c)); omega)) ?_
  rotate_left 4
  · rintro s' ⟨x', y', f1, f2, f3, f4⟩
    have f4 := f4 (fun ρ => sRet (dBlt tupleD [(dNew (nSorted [(dNew (nListK [(dVar 5)]))]))]) (fun _ => pure .non) pure (fun _ => bad) (fun _ => bad) ρ)
    have f5 : s'.length ≤ n := Nat.le_trans (sub_len f1 f2) (lotOf_len _ _)
    refine Eq.trans f4 ?_
    simp only [stS, runS, startE, sSeq, sIf, sSet, sRet, sRetN, sNil, sParV, sFor, sApp, sAppPop, tCmp, tVal, tAnd, tOr, tNot, tYes, tThaw, andB, orB, notB, andV, orV, notV, dC, dBin, dBlt, dVar, dCall, dNew, dThaw, dTup, dIf, dAnd, dOr, dNot, dIsi, dSl, dAttr, oN, oS, nLst, nList, nRng1, nRng2, nSeq, nOwn, nSorted, nThaw, gNm, vD, vN, seqV, setE, Say.pure_bind, Say.bind_assoc, List.getElem?_cons_zero, List.getElem?_cons_succ, seqA, slD, List.set_cons_succ, List.set_cons_zero, thaw, Sl.thaw, List.map_cons, List.map_nil, lift_some, truB_bl, bindT, ownL, slOwn, List.length_cons, List.length_nil, List.cons_append, List.nil_append, List.replicate, Nat.reduceAdd, Nat.reduceSub, List.all_cons, List.all_nil, mkTup0, mkTup1, mkTup2, mkLst0, mkLst1, mkLst4, mkLst5, mkLst8, wipeE, sPar, sOwnS, sStore2, sPut, dNeg, negD, sOwnK, nListK, dDget, tDin, dDin, nSetS, sPop, sDput, sExt, ownK, dDc, sWhile, sBad, sAsg, sDrop, nSortT, keys_tr s' (by omega), sorted_ints]
    rw [sort_lotOf (P := DSep.Side (ar E) (· ∈ a) (· ∈ c) (DSep.Fld (ar E) (· ∈ a) (· ∈ b) (· ∈ c))) f1 fun z => ⟨fun h => ⟨(mem_lotOf.mp (f2 z h)).1, (rs z).mp ((f3 z).mp h)⟩, fun h => (f3 z).mpr ((rs z).mpr h.2)⟩]
    rfl
  · intro x hx y hy _
    exact (memF y).mpr (nbF x hx y hy).2.1
  · intro s w x y hw
    simp only [stS, runS, startE, sSeq, sIf, sSet, sRet, sRetN, sNil, sParV, sFor, sApp, sAppPop, tCmp, tVal, tAnd, tOr, tNot, tYes, tThaw, andB, orB, notB, andV, orV, notV, dC, dBin, dBlt, dVar, dCall, dNew, dThaw, dTup, dIf, dAnd, dOr, dNot, dIsi, dSl, dAttr, oN, oS, nLst, nList, nRng1, nRng2, nSeq, nOwn, nSorted, nThaw, gNm, vD, vN, seqV, setE, Say.pure_bind, Say.bind_assoc, List.getElem?_cons_zero, List.getElem?_cons_succ, seqA, slD, List.set_cons_succ, List.set_cons_zero, thaw, Sl.thaw, List.map_cons, List.map_nil, lift_some, truB_bl, bindT, ownL, slOwn, List.length_cons, List.length_nil, List.cons_append, List.nil_append, List.replicate, Nat.reduceAdd, Nat.reduceSub, List.all_cons, List.all_nil, mkTup0, mkTup1, mkTup2, mkLst0, mkLst1, mkLst4, mkLst5, mkLst8, wipeE, sPar, sOwnS, sStore2, sPut, dNeg, negD, sOwnK, nListK, dDget, tDin, dDin, nSetS, sPop, sDput, sExt, ownK, dDc, sWhile, sBad, sAsg, sDrop, nSortT, lenD, List.length_map, od_int, gt0]
  · intro s w z x y k b' c' hs hw hz hzU
    obtain ⟨ns, e1, _, _⟩ := np.get z hzU
    simp only [stS, runS, startE, sSeq, sIf, sSet, sRet, sRetN, sNil, sParV, sFor, sApp, sAppPop, tCmp, tVal, tAnd, tOr, tNot, tYes, tThaw, andB, orB, notB, andV, orV, notV, dC, dBin, dBlt, dVar, dCall, dNew, dThaw, dTup, dIf, dAnd, dOr, dNot, dIsi, dSl, dAttr, oN, oS, nLst, nList, nRng1, nRng2, nSeq, nOwn, nSorted, nThaw, gNm, vD, vN, seqV, setE, Say.pure_bind, Say.bind_assoc, List.getElem?_cons_zero, List.getElem?_cons_succ, seqA, slD, List.set_cons_succ, List.set_cons_zero, thaw, Sl.thaw, List.map_cons, List.map_nil, lift_some, truB_bl, bindT, ownL, slOwn, List.length_cons, List.length_nil, List.cons_append, List.nil_append, List.replicate, Nat.reduceAdd, Nat.reduceSub, List.all_cons, List.all_nil, mkTup0, mkTup1, mkTup2, mkLst0, mkLst1, mkLst4, mkLst5, mkLst8, wipeE, sPar, sOwnS, sStore2, sPut, dNeg, negD, sOwnK, nListK, dDget, tDin, dDin, nSetS, sPop, sDput, sExt, ownK, dDc, sWhile, sBad, sAsg, sDrop, nSortT, last_ints hz, sFor, dget_kv e1, e1, Option.getD_some, List.map_dropLast]
    rfl
  · intro s w x y t k k' hs hw
    simp only [stS, runS, startE, sSeq, sIf, sSet, sRet, sRetN, sNil, sParV, sFor, sApp, sAppPop, tCmp, tVal, tAnd, tOr, tNot, tYes, tThaw, andB, orB, notB, andV, orV, notV, dC, dBin, dBlt, dVar, dCall, dNew, dThaw, dTup, dIf, dAnd, dOr, dNot, dIsi, dSl, dAttr, oN, oS, nLst, nList, nRng1, nRng2, nSeq, nOwn, nSorted, nThaw, gNm, vD, vN, seqV, setE, Say.pure_bind, Say.bind_assoc, List.getElem?_cons_zero, List.getElem?_cons_succ, seqA, slD, List.set_cons_succ, List.set_cons_zero, thaw, Sl.thaw, List.map_cons, List.map_nil, lift_some, truB_bl, bindT, ownL, slOwn, List.length_cons, List.length_nil, List.cons_append, List.nil_append, List.replicate, Nat.reduceAdd, Nat.reduceSub, List.all_cons, List.all_nil, mkTup0, mkTup1, mkTup2, mkLst0, mkLst1, mkLst4, mkLst5, mkLst8, wipeE, sPar, sOwnS, sStore2, sPut, dNeg, negD, sOwnK, nListK, dDget, tDin, dDin, nSetS, sPop, sDput, sExt, ownK, dDc, sWhile, sBad, sAsg, sDrop, nSortT, din_tr, if_true, nin_ints]
    by_cases m : t ∈ s
    · simp only [m, decide_true, Bool.not_true, Bool.false_eq_true, if_false, not_true, false_and, runS, startE, sSeq, sIf, sSet, sRet, sRetN, sNil, sParV, sFor, sApp, sAppPop, tCmp, tVal, tAnd, tOr, tNot, tYes, tThaw, andB, orB, notB, andV, orV, notV, dC, dBin, dBlt, dVar, dCall, dNew, dThaw, dTup, dIf, dAnd, dOr, dNot, dIsi, dSl, dAttr, oN, oS, nLst, nList, nRng1, nRng2, nSeq, nOwn, nSorted, nThaw, gNm, vD, vN, seqV, setE, Say.pure_bind, Say.bind_assoc, List.getElem?_cons_zero, List.getElem?_cons_succ, seqA, slD, List.set_cons_succ, List.set_cons_zero, thaw, Sl.thaw, List.map_cons, List.map_nil, lift_some, truB_bl, bindT, ownL, slOwn, List.length_cons, List.length_nil, List.cons_append, List.nil_append, List.replicate, Nat.reduceAdd, Nat.reduceSub, List.all_cons, List.all_nil, mkTup0, mkTup1, mkTup2, mkLst0, mkLst1, mkLst4, mkLst5, mkLst8, wipeE, sPar, sOwnS, sStore2, sPut, dNeg, negD, sOwnK, nListK, dDget, tDin, dDin, nSetS, sPop, sDput, sExt, ownK, dDc, sWhile, sBad, sAsg, sDrop, nSortT]
    · by_cases mc : t ∈ c
      · simp only [m, mc, decide_true, decide_false, Bool.not_true, Bool.not_false, Bool.false_eq_true, if_false, if_true, not_true, and_false, runS, startE, sSeq, sIf, sSet, sRet, sRetN, sNil, sParV, sFor, sApp, sAppPop, tCmp, tVal, tAnd, tOr, tNot, tYes, tThaw, andB, orB, notB, andV, orV, notV, dC, dBin, dBlt, dVar, dCall, dNew, dThaw, dTup, dIf, dAnd, dOr, dNot, dIsi, dSl, dAttr, oN, oS, nLst, nList, nRng1, nRng2, nSeq, nOwn, nSorted, nThaw, gNm, vD, vN, seqV, setE, Say.pure_bind, Say.bind_assoc, List.getElem?_cons_zero, List.getElem?_cons_succ, seqA, slD, List.set_cons_succ, List.set_cons_zero, thaw, Sl.thaw, List.map_cons, List.map_nil, lift_some, truB_bl, bindT, ownL, slOwn, List.length_cons, List.length_nil, List.cons_append, List.nil_append, List.replicate, Nat.reduceAdd, Nat.reduceSub, List.all_cons, List.all_nil, mkTup0, mkTup1, mkTup2, mkLst0, mkLst1, mkLst4, mkLst5, mkLst8, wipeE, sPar, sOwnS, sStore2, sPut, dNeg, negD, sOwnK, nListK, dDget, tDin, dDin, nSetS, sPop, sDput, sExt, ownK, dDc, sWhile, sBad, sAsg, sDrop, nSortT]
      · simp only [m, mc, decide_false, Bool.not_false, if_true, not_false_iff, true_and, putM_tr m hs, runS, startE, sSeq, sIf, sSet, sRet, sRetN, sNil, sParV, sFor, sApp, sAppPop, tCmp, tVal, tAnd, tOr, tNot, tYes, tThaw, andB, orB, notB, andV, orV, notV, dC, dBin, dBlt, dVar, dCall, dNew, dThaw, dTup, dIf, dAnd, dOr, dNot, dIsi, dSl, dAttr, oN, oS, nLst, nList, nRng1, nRng2, nSeq, nOwn, nSorted, nThaw, gNm, vD, vN, seqV, setE, Say.pure_bind, Say.bind_assoc, List.getElem?_cons_zero, List.getElem?_cons_succ, seqA, slD, List.set_cons_succ, List.set_cons_zero, thaw, Sl.thaw, List.map_cons, List.map_nil, lift_some, truB_bl, bindT, ownL, slOwn, List.length_cons, List.length_nil, List.cons_append, List.nil_append, List.replicate, Nat.reduceAdd, Nat.reduceSub, List.all_cons, List.all_nil, mkTup0, mkTup1, mkTup2, mkLst0, mkLst1, mkLst4, mkLst5, mkLst8, wipeE, sPar, sOwnS, sStore2, sPut, dNeg, negD, sOwnK, nListK, dDget, tDin, dDin, nSetS, sPop, sDput, sExt, ownK, dDc, sWhile, sBad, sAsg, sDrop, nSortT, push_ints t hw]
noncomputable def conB (E : List (Int × Int)) (a b c : List Int) : Bool := @decide (DSep.Con (ar E) (· ∈ a) (· ∈ b) (· ∈ c)) (Classical.propDecidable _)
theorem conB_iff {E : List (Int × Int)} {a b c : List Int} : conB E a b c = true ↔ DSep.Con (ar E) (· ∈ a) (· ∈ b) (· ∈ c) := @decide_eq_true_iff _ (Classical.propDecidable _)
theorem side_con {n : Nat} {E : List (Int × Int)} (g : Good n E) {a b c : List Int} (S : St n a b c) : (b.any fun z => decide (z ∈ lotOf n (DSep.Side (ar E) (· ∈ a) (· ∈ c) (DSep.Fld (ar E) (· ∈ a) (· ∈ b) (· ∈ c))))) = conB E a b c := by
  rw [Bool.eq_iff_iff, conB_iff, DSep.con_side S.ac S.bc g.asy, List.any_eq_true]
  constructor
  · rintro ⟨z, hz, h⟩
    exact ⟨z, hz, (mem_lotOf.mp (of_decide_eq_true h)).2⟩
  · rintro ⟨z, hz, h⟩
    exact ⟨z, hz, decide_eq_true (mem_lotOf.mpr ⟨S.lb.rng z hz, h⟩)⟩
theorem are_apart_ok {n : Nat} {E : List (Int × Int)} (g : Good n E) (hn : n ≤ 100) {a b c : List Int} (S : St n a b c) : m_are_apart [webD n E, ti a, ti b, ti c] = pure (.bl (!conB E a b c)) := by
  simp only [m_are_apart, S_are_apart, runS, startE, sSeq, sIf, sSet, sRet, sRetN, sNil, sParV, sFor, sApp, sAppPop, tCmp, tVal, tAnd, tOr, tNot, tYes, tThaw, andB, orB, notB, andV, orV, notV, dC, dBin, dBlt, dVar, dCall, dNew, dThaw, dTup, dIf, dAnd, dOr, dNot, dIsi, dSl, dAttr, oN, oS, nLst, nList, nRng1, nRng2, nSeq, nOwn, nSorted, nThaw, gNm, vD, vN, seqV, setE, Say.pure_bind, Say.bind_assoc, List.getElem?_cons_zero, List.getElem?_cons_succ, seqA, slD, List.set_cons_succ, List.set_cons_zero, thaw, Sl.thaw, List.map_cons, List.map_nil, lift_some, truB_bl, bindT, ownL, slOwn, List.length_cons, List.length_nil, List.cons_append, List.nil_append, List.replicate, Nat.reduceAdd, Nat.reduceSub, List.all_cons, List.all_nil, mkTup0, mkTup1, mkTup2, mkLst0, mkLst1, mkLst4, mkLst5, mkLst8, wipeE, sPar, sOwnS, sStore2, sPut, dNeg, negD, sOwnK, nListK, dDget, tDin, dDin, nSetS, sPop, sDput, sExt, ownK, dDc, sWhile, sBad, sAsg, sDrop, nSortT, side_of_ok g hn S]
  rw [lc_yes (l := b) (f := D.int) (y := fun z => .bl (decide (z ∈ lotOf n (DSep.Side (ar E) (· ∈ a) (· ∈ c) (DSep.Fld (ar E) (· ∈ a) (· ∈ b) (· ∈ c))))))]
  · simp only [runS, startE, sSeq, sIf, sSet, sRet, sRetN, sNil, sParV, sFor, sApp, sAppPop, tCmp, tVal, tAnd, tOr, tNot, tYes, tThaw, andB, orB, notB, andV, orV, notV, dC, dBin, dBlt, dVar, dCall, dNew, dThaw, dTup, dIf, dAnd, dOr, dNot, dIsi, dSl, dAttr, oN, oS, nLst, nList, nRng1, nRng2, nSeq, nOwn, nSorted, nThaw, gNm, vD, vN, seqV, setE, Say.pure_bind, Say.bind_assoc, List.getElem?_cons_zero, List.getElem?_cons_succ, seqA, slD, List.set_cons_succ, List.set_cons_zero, thaw, Sl.thaw, List.map_cons, List.map_nil, lift_some, truB_bl, bindT, ownL, slOwn, List.length_cons, List.length_nil, List.cons_append, List.nil_append, List.replicate, Nat.reduceAdd, Nat.reduceSub, List.all_cons, List.all_nil, mkTup0, mkTup1, mkTup2, mkLst0, mkLst1, mkLst4, mkLst5, mkLst8, wipeE, sPar, sOwnS, sStore2, sPut, dNeg, negD, sOwnK, nListK, dDget, tDin, dDin, nSetS, sPop, sDput, sExt, ownK, dDc, sWhile, sBad, sAsg, sDrop, nSortT]
    rw [any_map (fun z => decide (z ∈ lotOf n (DSep.Side (ar E) (· ∈ a) (· ∈ c) (DSep.Fld (ar E) (· ∈ a) (· ∈ b) (· ∈ c))))) b, side_con g S]
    rfl
  · rfl
  · rfl
  · intro z _
    simp only [runS, startE, sSeq, sIf, sSet, sRet, sRetN, sNil, sParV, sFor, sApp, sAppPop, tCmp, tVal, tAnd, tOr, tNot, tYes, tThaw, andB, orB, notB, andV, orV, notV, dC, dBin, dBlt, dVar, dCall, dNew, dThaw, dTup, dIf, dAnd, dOr, dNot, dIsi, dSl, dAttr, oN, oS, nLst, nList, nRng1, nRng2, nSeq, nOwn, nSorted, nThaw, gNm, vD, vN, seqV, setE, Say.pure_bind, Say.bind_assoc, List.getElem?_cons_zero, List.getElem?_cons_succ, seqA, slD, List.set_cons_succ, List.set_cons_zero, thaw, Sl.thaw, List.map_cons, List.map_nil, lift_some, truB_bl, bindT, ownL, slOwn, List.length_cons, List.length_nil, List.cons_append, List.nil_append, List.replicate, Nat.reduceAdd, Nat.reduceSub, List.all_cons, List.all_nil, mkTup0, mkTup1, mkTup2, mkLst0, mkLst1, mkLst4, mkLst5, mkLst8, wipeE, sPar, sOwnS, sStore2, sPut, dNeg, negD, sOwnK, nListK, dDget, tDin, dDin, nSetS, sPop, sDput, sExt, ownK, dDc, sWhile, sBad, sAsg, sDrop, nSortT, in_ints]
/-! told lots -/
inductive LD : D → List Int → Prop
  | tup (a : List Int) : LD (ti a) a
  | lst (a : List Int) : LD (.lst (a.map D.int)) a
theorem LD.seq {d : D} {a : List Int} (h : LD d a) : seqM d = pure (a.map D.int) := by cases h <;> rfl
theorem LD.list {d : D} {a : List Int} (h : LD d a) : listD [d] = pure (a.map D.int) := by cases h <;> rfl
theorem LD.tuple {d : D} {a : List Int} (h : LD d a) : tupleD [d] = some (ti a) := by cases h <;> rfl
theorem LD.len {d : D} {a : List Int} (h : LD d a) : lenD [d] = some (.int (a.length : Int)) := by
  cases h <;> (show some (D.int ((a.map D.int).length : Int)) = _) <;> rw [List.length_map]
theorem LD.is {d : D} {a : List Int} (h : LD d a) : m_is_list [d] = pure (.bl true) := by cases h <;> rfl
theorem index_in {n : Nat} {x : Int} (h : x ∈ rg n) : m_is_index [.int (n : Int), .int x] = pure (.bl true) := by
  rw [index_ok n rfl]
  obtain ⟨h1, h2⟩ := mem_rg.mp h
  unfold idx
  simp [h1, h2]
theorem is_lot_of_ok {n : Nat} {d : D} {a : List Int} (h : LD d a) (l : Lt n a) : m_is_lot_of [.int (n : Int), d] = pure (.bl true) := by
  simp only [m_is_lot_of, S_is_lot_of, runS, startE, sSeq, sIf, sSet, sRet, sRetN, sNil, sParV, sFor, sApp, sAppPop, tCmp, tVal, tAnd, tOr, tNot, tYes, tThaw, andB, orB, notB, andV, orV, notV, dC, dBin, dBlt, dVar, dCall, dNew, dThaw, dTup, dIf, dAnd, dOr, dNot, dIsi, dSl, dAttr, oN, oS, nLst, nList, nRng1, nRng2, nSeq, nOwn, nSorted, nThaw, gNm, vD, vN, seqV, setE, Say.pure_bind, Say.bind_assoc, List.getElem?_cons_zero, List.getElem?_cons_succ, seqA, slD, List.set_cons_succ, List.set_cons_zero, thaw, Sl.thaw, List.map_cons, List.map_nil, lift_some, truB_bl, bindT, ownL, slOwn, List.length_cons, List.length_nil, List.cons_append, List.nil_append, List.replicate, Nat.reduceAdd, Nat.reduceSub, List.all_cons, List.all_nil, mkTup0, mkTup1, mkTup2, mkLst0, mkLst1, mkLst4, mkLst5, mkLst8, wipeE, sPar, sOwnS, sStore2, sPut, dNeg, negD, sOwnK, nListK, dDget, tDin, dDin, nSetS, sPop, sDput, sExt, ownK, dDc, sWhile, sBad, sAsg, sDrop, nSortT, h.is, Bool.not_true, Bool.false_eq_true, if_false, h.seq]
  obtain ⟨ρ', _, hk⟩ := forS_fold (h := gNm 3) (r := pure) (body := (sSeq (sIf (tOr (tNot (tVal (dCall m_is_index [(dVar 0), (dVar 3)]))) (tCmp (odD .le) (dVar 3) (dVar 2))) (sRet (dC (.bl false))) sNil) (sSet 2 (dVar 3)))) D.int
    (fun done ρ => ∃ x3, ρ = [.dat (.int (n : Int)), .dat d, .dat (.int (done.getLast?.getD (-1))), x3]) a [] _ ⟨.no, rfl⟩ (by
      rintro done z rest ρ e ⟨x3, rfl⟩
      have e : a = done ++ z :: rest := e
      have hz : z ∈ a := by rw [e]; simp
      have lt : done.getLast?.getD (-1) < z := by
        cases q : done.getLast? with
        | none => have := (mem_rg.mp (l.rng z hz)).1; show (-1 : Int) < z; omega
        | some y =>
          have as := l.asc
          rw [e, List.pairwise_append] at as
          exact as.2.2 y (List.mem_of_getLast? q) z List.mem_cons_self
      refine ⟨_, ⟨.dat (.int z), rfl⟩, fun k k' => ?_⟩
      have c : Od.le.i z (done.getLast?.getD (-1)) = false := decide_eq_false (p := z ≤ _) (by omega)
      simp only [runS, startE, sSeq, sIf, sSet, sRet, sRetN, sNil, sParV, sFor, sApp, sAppPop, tCmp, tVal, tAnd, tOr, tNot, tYes, tThaw, andB, orB, notB, andV, orV, notV, dC, dBin, dBlt, dVar, dCall, dNew, dThaw, dTup, dIf, dAnd, dOr, dNot, dIsi, dSl, dAttr, oN, oS, nLst, nList, nRng1, nRng2, nSeq, nOwn, nSorted, nThaw, gNm, vD, vN, seqV, setE, Say.pure_bind, Say.bind_assoc, List.getElem?_cons_zero, List.getElem?_cons_succ, seqA, slD, List.set_cons_succ, List.set_cons_zero, thaw, Sl.thaw, List.map_cons, List.map_nil, lift_some, truB_bl, bindT, ownL, slOwn, List.length_cons, List.length_nil, List.cons_append, List.nil_append, List.replicate, Nat.reduceAdd, Nat.reduceSub, List.all_cons, List.all_nil, mkTup0, mkTup1, mkTup2, mkLst0, mkLst1, mkLst4, mkLst5, mkLst8, wipeE, sPar, sOwnS, sStore2, sPut, dNeg, negD, sOwnK, nListK, dDget, tDin, dDin, nSetS, sPop, sDput, sExt, ownK, dDc, sWhile, sBad, sAsg, sDrop, nSortT, index_in (l.rng z hz), Bool.not_true, Bool.false_eq_true, if_false, od_int, c, List.getLast?_append, List.getLast?_singleton, Option.some_or, Option.getD_some])
  exact hk _
theorem lot_told_ok {n : Nat} {d : D} {a : List Int} (x : D) (h : LD d a) (l : Lt n a) : m_lot_told [x, .int (n : Int), d] = pure (ti a) := by
  simp only [m_lot_told, S_lot_told, runS, startE, sSeq, sIf, sSet, sRet, sRetN, sNil, sParV, sFor, sApp, sAppPop, tCmp, tVal, tAnd, tOr, tNot, tYes, tThaw, andB, orB, notB, andV, orV, notV, dC, dBin, dBlt, dVar, dCall, dNew, dThaw, dTup, dIf, dAnd, dOr, dNot, dIsi, dSl, dAttr, oN, oS, nLst, nList, nRng1, nRng2, nSeq, nOwn, nSorted, nThaw, gNm, vD, vN, seqV, setE, Say.pure_bind, Say.bind_assoc, List.getElem?_cons_zero, List.getElem?_cons_succ, seqA, slD, List.set_cons_succ, List.set_cons_zero, thaw, Sl.thaw, List.map_cons, List.map_nil, lift_some, truB_bl, bindT, ownL, slOwn, List.length_cons, List.length_nil, List.cons_append, List.nil_append, List.replicate, Nat.reduceAdd, Nat.reduceSub, List.all_cons, List.all_nil, mkTup0, mkTup1, mkTup2, mkLst0, mkLst1, mkLst4, mkLst5, mkLst8, wipeE, sPar, sOwnS, sStore2, sPut, dNeg, negD, sOwnK, nListK, dDget, tDin, dDin, nSetS, sPop, sDput, sExt, ownK, dDc, sWhile, sBad, sAsg, sDrop, nSortT, is_lot_of_ok h l, Bool.not_true, Bool.false_eq_true, if_false, h.tuple]
theorem some_lot_told_ok {n : Nat} {d : D} {a : List Int} (x : D) (h : LD d a) (l : Lt n a) (ne : a ≠ []) : m_some_lot_told [x, .int (n : Int), d] = pure (ti a) := by
  have c : decide ((a.length : Int) = 0) = false := decide_eq_false fun z => ne (List.length_eq_zero_iff.mp (by omega))
  simp only [m_some_lot_told, S_some_lot_told, runS, startE, sSeq, sIf, sSet, sRet, sRetN, sNil, sParV, sFor, sApp, sAppPop, tCmp, tVal, tAnd, tOr, tNot, tYes, tThaw, andB, orB, notB, andV, orV, notV, dC, dBin, dBlt, dVar, dCall, dNew, dThaw, dTup, dIf, dAnd, dOr, dNot, dIsi, dSl, dAttr, oN, oS, nLst, nList, nRng1, nRng2, nSeq, nOwn, nSorted, nThaw, gNm, vD, vN, seqV, setE, Say.pure_bind, Say.bind_assoc, List.getElem?_cons_zero, List.getElem?_cons_succ, seqA, slD, List.set_cons_succ, List.set_cons_zero, thaw, Sl.thaw, List.map_cons, List.map_nil, lift_some, truB_bl, bindT, ownL, slOwn, List.length_cons, List.length_nil, List.cons_append, List.nil_append, List.replicate, Nat.reduceAdd, Nat.reduceSub, List.all_cons, List.all_nil, mkTup0, mkTup1, mkTup2, mkLst0, mkLst1, mkLst4, mkLst5, mkLst8, wipeE, sPar, sOwnS, sStore2, sPut, dNeg, negD, sOwnK, nListK, dDget, tDin, dDin, nSetS, sPop, sDput, sExt, ownK, dDc, sWhile, sBad, sAsg, sDrop, nSortT, is_lot_of_ok h l, Bool.not_true, Bool.false_eq_true, if_false, h.tuple, h.len, eq_int, c]
theorem mkTup3 (a b c : D) : mkTup [a, b, c] = pure (.tup [a, b, c]) := mkTup_ok (by show 3 ≤ 1000000; decide)
theorem any_no {i : Nat} {a b : List Int} (h : ∀ x ∈ a, x ∉ b) : (a.any fun z => decide (z ∈ b)) = false := by
  rw [List.any_eq_false]
  intro z hz q
  exact h z hz (of_decide_eq_true q)
theorem statement_told_ok {n : Nat} {E : List (Int × Int)} {da db dc : D} {a b c : List Int} (S : St n a b c) (ha : LD da a) (hb : LD db b) (hc : LD dc c) (na : a ≠ []) (nb : b ≠ []) :
    m_statement_told [webD n E, da, db, dc] = pure (.tup [ti a, ti b, ti c]) := by
  have pair : ∀ (u v : List Int) (x9 x7 x8 : Sl) (k k' b' : Say.Env → M D) (q : ∀ x ∈ u, x ∉ v), x9.held = false →
      (sIf (tVal (dBlt anyD [(dNew (lcM [9] (nSeq (dVar 7)) (gNm 9) tYes (dBin inD (dVar 9) (dVar 8))))])) sBad sNil) k pure b' k' [.dat (webD n E), .dat da, .dat db, .dat dc, .dat (ti a), .dat (ti b), .dat (ti c), .dat (ti u), .dat (ti v), x9] = k [.dat (webD n E), .dat da, .dat db, .dat dc, .dat (ti a), .dat (ti b), .dat (ti c), .dat (ti u), .dat (ti v), x9] := by
    intro u v x9 x7 x8 k k' b' q h9
    have el : lcM [9] (nSeq (dVar 7)) (gNm 9) tYes (dBin inD (dVar 9) (dVar 8)) [.dat (webD n E), .dat da, .dat db, .dat dc, .dat (ti a), .dat (ti b), .dat (ti c), .dat (ti u), .dat (ti v), x9] = pure (u.map fun z => .bl (decide (z ∈ v))) := by
      refine lc_yes (l := u) D.int (fun z => .bl (decide (z ∈ v))) rfl ?_ fun z _ => ?_
      · cases x9 <;> first | rfl | cases h9
      · simp only [runS, startE, sSeq, sIf, sSet, sRet, sRetN, sNil, sParV, sFor, sApp, sAppPop, tCmp, tVal, tAnd, tOr, tNot, tYes, tThaw, andB, orB, notB, andV, orV, notV, dC, dBin, dBlt, dVar, dCall, dNew, dThaw, dTup, dIf, dAnd, dOr, dNot, dIsi, dSl, dAttr, oN, oS, nLst, nList, nRng1, nRng2, nSeq, nOwn, nSorted, nThaw, gNm, vD, vN, seqV, setE, Say.pure_bind, Say.bind_assoc, List.getElem?_cons_zero, List.getElem?_cons_succ, seqA, slD, List.set_cons_succ, List.set_cons_zero, thaw, Sl.thaw, List.map_cons, List.map_nil, lift_some, truB_bl, bindT, ownL, slOwn, List.length_cons, List.length_nil, List.cons_append, List.nil_append, List.replicate, Nat.reduceAdd, Nat.reduceSub, List.all_cons, List.all_nil, mkTup0, mkTup1, mkTup2, mkLst0, mkLst1, mkLst4, mkLst5, mkLst8, wipeE, sPar, sOwnS, sStore2, sPut, dNeg, negD, sOwnK, nListK, dDget, tDin, dDin, nSetS, sPop, sDput, sExt, ownK, dDc, sWhile, sBad, sAsg, sDrop, nSortT, in_ints]
    simp only [runS, startE, sSeq, sIf, sSet, sRet, sRetN, sNil, sParV, sFor, sApp, sAppPop, tCmp, tVal, tAnd, tOr, tNot, tYes, tThaw, andB, orB, notB, andV, orV, notV, dC, dBin, dBlt, dVar, dCall, dNew, dThaw, dTup, dIf, dAnd, dOr, dNot, dIsi, dSl, dAttr, oN, oS, nLst, nList, nRng1, nRng2, nSeq, nOwn, nSorted, nThaw, gNm, vD, vN, seqV, setE, Say.pure_bind, Say.bind_assoc, List.getElem?_cons_zero, List.getElem?_cons_succ, seqA, slD, List.set_cons_succ, List.set_cons_zero, thaw, Sl.thaw, List.map_cons, List.map_nil, lift_some, truB_bl, bindT, ownL, slOwn, List.length_cons, List.length_nil, List.cons_append, List.nil_append, List.replicate, Nat.reduceAdd, Nat.reduceSub, List.all_cons, List.all_nil, mkTup0, mkTup1, mkTup2, mkLst0, mkLst1, mkLst4, mkLst5, mkLst8, wipeE, sPar, sOwnS, sStore2, sPut, dNeg, negD, sOwnK, nListK, dDget, tDin, dDin, nSetS, sPop, sDput, sExt, ownK, dDc, sWhile, sBad, sAsg, sDrop, nSortT] at el ⊢
    rw [el]
    simp only [runS, startE, sSeq, sIf, sSet, sRet, sRetN, sNil, sParV, sFor, sApp, sAppPop, tCmp, tVal, tAnd, tOr, tNot, tYes, tThaw, andB, orB, notB, andV, orV, notV, dC, dBin, dBlt, dVar, dCall, dNew, dThaw, dTup, dIf, dAnd, dOr, dNot, dIsi, dSl, dAttr, oN, oS, nLst, nList, nRng1, nRng2, nSeq, nOwn, nSorted, nThaw, gNm, vD, vN, seqV, setE, Say.pure_bind, Say.bind_assoc, List.getElem?_cons_zero, List.getElem?_cons_succ, seqA, slD, List.set_cons_succ, List.set_cons_zero, thaw, Sl.thaw, List.map_cons, List.map_nil, lift_some, truB_bl, bindT, ownL, slOwn, List.length_cons, List.length_nil, List.cons_append, List.nil_append, List.replicate, Nat.reduceAdd, Nat.reduceSub, List.all_cons, List.all_nil, mkTup0, mkTup1, mkTup2, mkLst0, mkLst1, mkLst4, mkLst5, mkLst8, wipeE, sPar, sOwnS, sStore2, sPut, dNeg, negD, sOwnK, nListK, dDget, tDin, dDin, nSetS, sPop, sDput, sExt, ownK, dDc, sWhile, sBad, sAsg, sDrop, nSortT]
    rw [any_map (fun z => decide (z ∈ v)) u, any_no (i := 0) q]
    rfl
  simp only [m_statement_told, S_statement_told, runS, startE, sSeq, sSet, dCall, seqA, dC, dAttr, dVar, List.getElem?_cons_zero, List.getElem?_cons_succ, slD, Say.pure_bind, size_at, some_lot_told_ok _ ha S.la na, some_lot_told_ok _ hb S.lb nb, lot_told_ok _ hc S.lc, List.replicate, List.length_cons, List.length_nil, Nat.reduceAdd, Nat.reduceSub, List.cons_append, List.nil_append, List.map_cons, List.map_nil, List.set_cons_succ, List.set_cons_zero]
  simp only [sFor, nSeq, dTup, seqA, dVar, List.getElem?_cons_zero, List.getElem?_cons_succ, slD, Say.pure_bind, mkTup2, mkTup3, seqM, forS, bindT, unpackD, unpack, gNm, List.set_cons_succ, List.set_cons_zero]
  rw [pair a b _ .no .no _ _ _ S.ab rfl]
  simp only [forS, bindT, unpackD, unpack, gNm, List.set_cons_succ, List.set_cons_zero]
  rw [pair a c _ .no .no _ _ _ S.ac rfl]
  simp only [forS, bindT, unpackD, unpack, gNm, List.set_cons_succ, List.set_cons_zero]
  rw [pair b c _ .no .no _ _ _ S.bc rfl]
  simp only [forS, runS, startE, sSeq, sIf, sSet, sRet, sRetN, sNil, sParV, sFor, sApp, sAppPop, tCmp, tVal, tAnd, tOr, tNot, tYes, tThaw, andB, orB, notB, andV, orV, notV, dC, dBin, dBlt, dVar, dCall, dNew, dThaw, dTup, dIf, dAnd, dOr, dNot, dIsi, dSl, dAttr, oN, oS, nLst, nList, nRng1, nRng2, nSeq, nOwn, nSorted, nThaw, gNm, vD, vN, seqV, setE, Say.pure_bind, Say.bind_assoc, List.getElem?_cons_zero, List.getElem?_cons_succ, seqA, slD, List.set_cons_succ, List.set_cons_zero, thaw, Sl.thaw, List.map_cons, List.map_nil, lift_some, truB_bl, bindT, ownL, slOwn, List.length_cons, List.length_nil, List.cons_append, List.nil_append, List.replicate, Nat.reduceAdd, Nat.reduceSub, List.all_cons, List.all_nil, mkTup0, mkTup1, mkTup2, mkLst0, mkLst1, mkLst4, mkLst5, mkLst8, wipeE, sPar, sOwnS, sStore2, sPut, dNeg, negD, sOwnK, nListK, dDget, tDin, dDin, nSetS, sPop, sDput, sExt, ownK, dDc, sWhile, sBad, sAsg, sDrop, nSortT, mkTup3]
end SayLaw

namespace SayLaw
open Say
theorem apart_ok {n : Nat} {E : List (Int × Int)} (g : Good n E) (hn : n ≤ 100) {da db dc : D} {a b c : List Int} (S : St n a b c) (ha : LD da a) (hb : LD db b) (hc : LD dc c) (na : a ≠ []) (nb : b ≠ []) :
    m_apart [webD n E, da, db, dc] = pure (.bl (!conB E a b c)) := by
  simp only [m_apart, S_apart, runS, startE, sSeq, sIf, sSet, sRet, sRetN, sNil, sParV, sFor, sApp, sAppPop, tCmp, tVal, tAnd, tOr, tNot, tYes, tThaw, andB, orB, notB, andV, orV, notV, dC, dBin, dBlt, dVar, dCall, dNew, dThaw, dTup, dIf, dAnd, dOr, dNot, dIsi, dSl, dAttr, oN, oS, nLst, nList, nRng1, nRng2, nSeq, nOwn, nSorted, nThaw, gNm, vD, vN, seqV, setE, Say.pure_bind, Say.bind_assoc, List.getElem?_cons_zero, List.getElem?_cons_succ, seqA, slD, List.set_cons_succ, List.set_cons_zero, thaw, Sl.thaw, List.map_cons, List.map_nil, lift_some, truB_bl, bindT, ownL, slOwn, List.length_cons, List.length_nil, List.cons_append, List.nil_append, List.replicate, Nat.reduceAdd, Nat.reduceSub, List.all_cons, List.all_nil, mkTup0, mkTup1, mkTup2, mkLst0, mkLst1, mkLst4, mkLst5, mkLst8, wipeE, sPar, sOwnS, sStore2, sPut, dNeg, negD, sOwnK, nListK, dDget, tDin, dDin, nSetS, sPop, sDput, sExt, ownK, dDc, sWhile, sBad, sAsg, sDrop, nSortT, statement_told_ok S ha hb hc na nb, unpackD, unpack, are_apart_ok g hn S]
/-! ### lots of some places -/
def powF : List (List Int) → List Int → List (List Int)
  | f, [] => f
  | f, p :: ps => powF (f ++ f.map (· ++ [p])) ps
theorem mem_powF {l : List Int} : ∀ {ps : List Int} {f : List (List Int)}, l ∈ powF f ps ↔ ∃ a ∈ f, ∃ b, b.Sublist ps ∧ l = a ++ b
  | [], f => by
    constructor
    · intro h
      exact ⟨l, h, [], List.Sublist.refl _, by simp⟩
    · rintro ⟨a, ha, b, hb, rfl⟩
      rw [List.sublist_nil.mp hb, List.append_nil]
      exact ha
  | p :: ps, f => by
    show l ∈ powF (f ++ f.map (· ++ [p])) ps ↔ _
    rw [mem_powF (ps := ps)]
    constructor
    · rintro ⟨a, ha, b, hb, rfl⟩
      rcases List.mem_append.mp ha with q | q
      · exact ⟨a, q, b, hb.cons p, rfl⟩
      · obtain ⟨c, hc, rfl⟩
            := List.mem_map.mp q
        exact ⟨c, hc, p :: b, hb.cons₂ p, by simp⟩
    · rintro ⟨a, ha, b, hb, rfl⟩
      cases hb with
      | cons _ h => exact ⟨a, List.mem_append_left _ ha, b, h, rfl⟩
      | cons_cons _ h =>
        rename_i b
        exact ⟨a ++ [p], List.mem_append_right _ (List.mem_map.mpr ⟨a, ha, rfl⟩), b, h, by simp⟩
theorem powF_len : ∀ (ps : List Int) (f : List (List Int)), (powF f ps).length = f.length * 2 ^ ps.length
  | [], f => by simp [powF]
  | p :: ps, f => by
    show (powF (f ++ f.map (· ++ [p])) ps).length = _
    rw [powF_len ps, List.length_append, List.length_map, List.length_cons, Nat.pow_succ]
    rw [Nat.add_mul]
    generalize 2 ^ ps.length = z
    have : f.length * (z * 2) = (f.length * z) * 2 := by rw [Nat.mul_assoc]
    omega
theorem powF_head : ∀ (ps : List Int) {a : List Int} {f : List (List Int)}, (powF (a :: f) ps).head? = some a
  | [], _, _ => rfl
  | p :: ps, a, f => powF_head ps
def lotsOf (ps : List Int) : List (List Int) := sortT (powF [[]] ps)
theorem mem_lotsOf {ps l : List Int} : l ∈ lotsOf ps ↔ l.Sublist ps := by
  unfold lotsOf
  rw [(sortT_perm _).mem_iff, mem_powF]
  constructor
  · rintro ⟨a, ha, b, hb, rfl⟩
    rw [List.mem_singleton.mp ha]
    exact hb
  · intro h
    exact ⟨[], by simp, l, h, rfl⟩
theorem lotsOf_len (ps : List Int) : (lotsOf ps).length = 2 ^ ps.length := by
  unfold lotsOf
  rw [(sortT_perm _).length_eq, powF_len]
  simp
theorem pow8 {m : Nat} (h : m ≤ 8) : 2 ^ m ≤ 256 := Nat.le_trans (Nat.pow_le_pow_right (by decide) h) (by decide)
theorem lots_of_ok {d : D} {ps : List Int} (hd : LD d ps) (hl : ps.length ≤ 8) : m_lots_of [d] = pure (.lst ((lotsOf ps).map ti)) := by
  simp only [m_lots_of, S_lots_of, runS, startE, sSeq, sIf, sSet, sRet, sRetN, sNil, sParV, sFor, sApp, sAppPop, tCmp, tVal, tAnd, tOr, tNot, tYes, tThaw, andB, orB, notB, andV, orV, notV, dC, dBin, dBlt, dVar, dCall, dNew, dThaw, dTup, dIf, dAnd, dOr, dNot, dIsi, dSl, dAttr, oN, oS, nLst, nList, nRng1, nRng2, nSeq, nOwn, nSorted, nThaw, gNm, vD, vN, seqV, setE, Say.pure_bind, Say.bind_assoc, List.getElem?_cons_zero, List.getElem?_cons_succ, seqA, slD, List.set_cons_succ, List.set_cons_zero, thaw, Sl.thaw, List.map_cons, List.map_nil, lift_some, truB_bl, bindT, ownL, slOwn, List.length_cons, List.length_nil, List.cons_append, List.nil_append, List.replicate, Nat.reduceAdd, Nat.reduceSub, List.all_cons, List.all_nil, mkTup0, mkTup1, mkTup2, mkLst0, mkLst1, mkLst4, mkLst5, mkLst8, wipeE, sPar, sOwnS, sStore2, sPut, dNeg, negD, sOwnK, nListK, dDget, tDin, dDin, nSetS, sPop, sDput, sExt, ownK, dDc, sWhile, sBad, sAsg, sDrop, nSortT, hd.seq]
  obtain ⟨ρ', ⟨f, x2, e, hf⟩, hk⟩ := forS_fold (h := gNm 2) (r := pure) (body := (sSet 1 (dBin addD (dVar 1) (dNew (lcM [3] (nSeq (dVar 1)) (gNm 3) tYes (dBin addD (dVar 3) (dTup [(dVar 2)]))))))) D.int
    (fun done ρ => ∃ (f : List (List Int)) (x2 : Sl), ρ = [.dat d, .dat (.lst (f.map ti)), x2, .no] ∧ ((∃ rest, ps = done ++ rest ∧ powF f rest = powF [[]] ps) ∧ f.length = 2 ^ done.length ∧ ∀ l ∈ f, l.length ≤ done.length)) ps [] _ ⟨[[]], .no, rfl, ⟨ps, rfl, rfl⟩, rfl, fun l hl => by rw [List.mem_singleton.mp hl]; exact Nat.le_refl _⟩ (by
      rintro done p rest ρ e ⟨f, x2, rfl, ⟨rest2, e2, h1⟩, h2, h3⟩
      have e : ps = done ++ p :: rest := e
      have er : rest2 = p :: rest := List.append_cancel_left (e2.symm.trans e)
      subst er
      have hdl : done.length + 1 ≤ 8 := by rw [e] at hl; simp at hl; omega
      have h256 := pow8 (m := done.length) (by omega)
      refine ⟨_, ⟨f ++ f.map (· ++ [p]), .dat (.int p), rfl, ⟨rest, by rw [e]; simp, h1⟩, ?_, ?_⟩, fun k k' => ?_⟩
      · rw [List.length_append, List.length_map, List.length_append, List.length_singleton, Nat.pow_succ, h2]
        omega
      · intro l hl
        rw [List.length_append,
            List.length_singleton]
        rcases List.mem_append.mp hl with q | q
        · have := h3 l q; omega
        · obtain ⟨c, hc, rfl⟩
              := List.mem_map.mp q
          have := h3 c hc
          rw [List.length_append,
              List.length_singleton]
          omega
      · simp only [runS, startE, sSeq, sIf, sSet, sRet, sRetN, sNil, sParV, sFor, sApp, sAppPop, tCmp, tVal, tAnd, tOr, tNot, tYes, tThaw, andB, orB, notB, andV, orV, notV, dC, dBin, dBlt, dVar, dCall, dNew, dThaw, dTup, dIf, dAnd, dOr, dNot, dIsi, dSl, dAttr, oN, oS, nLst, nList, nRng1, nRng2, nSeq, nOwn, nSorted, nThaw, gNm, vD, vN, seqV, setE, Say.pure_bind, Say.bind_assoc, List.getElem?_cons_zero, List.getElem?_cons_succ, seqA, slD, List.set_cons_succ, List.set_cons_zero, thaw, Sl.thaw, List.map_cons, List.map_nil, lift_some, truB_bl, bindT, ownL, slOwn, List.length_cons, List.length_nil, List.cons_append, List.nil_append, List.replicate, Nat.reduceAdd, Nat.reduceSub, List.all_cons, List.all_nil, mkTup0, mkTup1, mkTup2, mkLst0, mkLst1, mkLst4, mkLst5, mkLst8, wipeE, sPar, sOwnS, sStore2, sPut, dNeg, negD, sOwnK, nListK, dDget, tDin, dDin, nSetS, sPop, sDput, sExt, ownK, dDc, sWhile, sBad, sAsg, sDrop, nSortT]
        rw [lc_yes (l := f) (f := ti) (y := fun l => ti (l ++ [p])) rfl rfl]
        · simp only [runS, startE, sSeq, sIf, sSet, sRet, sRetN, sNil, sParV, sFor, sApp, sAppPop, tCmp, tVal, tAnd, tOr, tNot, tYes, tThaw, andB, orB, notB, andV, orV, notV, dC, dBin, dBlt, dVar, dCall, dNew, dThaw, dTup, dIf, dAnd, dOr, dNot, dIsi, dSl, dAttr, oN, oS, nLst, nList, nRng1, nRng2, nSeq, nOwn, nSorted, nThaw, gNm, vD, vN, seqV, setE, Say.pure_bind, Say.bind_assoc, List.getElem?_cons_zero, List.getElem?_cons_succ, seqA, slD, List.set_cons_succ, List.set_cons_zero, thaw, Sl.thaw, List.map_cons, List.map_nil, lift_some, truB_bl, bindT, ownL, slOwn, List.length_cons, List.length_nil, List.cons_append, List.nil_append, List.replicate, Nat.reduceAdd, Nat.reduceSub, List.all_cons, List.all_nil, mkTup0, mkTup1, mkTup2, mkLst0, mkLst1, mkLst4, mkLst5, mkLst8, wipeE, sPar, sOwnS, sStore2, sPut, dNeg, negD, sOwnK, nListK, dDget, tDin, dDin, nSetS, sPop, sDput, sExt, ownK, dDc, sWhile, sBad, sAsg, sDrop, nSortT]
          rw [add_lst _ _ (by rw [List.length_map, List.length_map]; omega)]
          simp only [runS, startE, sSeq, sIf, sSet, sRet, sRetN, sNil, sParV, sFor, sApp, sAppPop, tCmp, tVal, tAnd, tOr, tNot, tYes, tThaw, andB, orB, notB, andV, orV, notV, dC, dBin, dBlt, dVar, dCall, dNew, dThaw, dTup, dIf, dAnd, dOr, dNot, dIsi, dSl, dAttr, oN, oS, nLst, nList, nRng1, nRng2, nSeq, nOwn, nSorted, nThaw, gNm, vD, vN, seqV, setE, Say.pure_bind, Say.bind_assoc, List.getElem?_cons_zero, List.getElem?_cons_succ, seqA, slD, List.set_cons_succ, List.set_cons_zero, thaw, Sl.thaw, List.map_cons, List.map_nil, lift_some, truB_bl, bindT, ownL, slOwn, List.length_cons, List.length_nil, List.cons_append, List.nil_append, List.replicate, Nat.reduceAdd, Nat.reduceSub, List.all_cons, List.all_nil, mkTup0, mkTup1, mkTup2, mkLst0, mkLst1, mkLst4, mkLst5, mkLst8, wipeE, sPar, sOwnS, sStore2, sPut, dNeg, negD, sOwnK, nListK, dDget, tDin, dDin, nSetS, sPop, sDput, sExt, ownK, dDc, sWhile, sBad, sAsg, sDrop, nSortT, List.map_append, List.map_map]
          rfl
        · intro l hl
          simp only [runS, startE, sSeq, sIf, sSet, sRet, sRetN, sNil, sParV, sFor, sApp, sAppPop, tCmp, tVal, tAnd, tOr, tNot, tYes, tThaw, andB, orB, notB, andV, orV, notV, dC, dBin, dBlt, dVar, dCall, dNew, dThaw, dTup, dIf, dAnd, dOr, dNot, dIsi, dSl, dAttr, oN, oS, nLst, nList, nRng1, nRng2, nSeq, nOwn, nSorted, nThaw, gNm, vD, vN, seqV, setE, Say.pure_bind, Say.bind_assoc, List.getElem?_cons_zero, List.getElem?_cons_succ, seqA, slD, List.set_cons_succ, List.set_cons_zero, thaw, Sl.thaw, List.map_cons, List.map_nil, lift_some, truB_bl, bindT, ownL, slOwn, List.length_cons, List.length_nil, List.cons_append, List.nil_append, List.replicate, Nat.reduceAdd, Nat.reduceSub, List.all_cons, List.all_nil, mkTup0, mkTup1, mkTup2, mkLst0, mkLst1, mkLst4, mkLst5, mkLst8, wipeE, sPar, sOwnS, sStore2, sPut, dNeg, negD, sOwnK, nListK, dDget, tDin, dDin, nSetS, sPop, sDput, sExt, ownK, dDc, sWhile, sBad, sAsg, sDrop, nSortT]
          have := h3 l hl
          rw [show D.tup [D.int p] = ti [p] from rfl, add_ti l [p] (by simp; omega)]
          rfl)
  subst e
  obtain ⟨⟨rest, e1, h1⟩, h2, h3⟩ := hf
  have er : rest = [] := by
    have := congrArg List.length e1
    rw [List.length_append] at this
    simp at this
    exact this
  subst er
  refine Eq.trans (hk (fun ρ => sRet (dNew (nSortT [(dVar 1)])) (fun _ => pure .non) pure (fun _ => bad) (fun _ => bad) ρ)) ?_
  have ef : f = powF [[]] ps := h1
  simp only [runS, startE, sSeq, sIf, sSet, sRet, sRetN, sNil, sParV, sFor, sApp, sAppPop, tCmp, tVal, tAnd, tOr, tNot, tYes, tThaw, andB, orB, notB, andV, orV, notV, dC, dBin, dBlt, dVar, dCall, dNew, dThaw, dTup, dIf, dAnd, dOr, dNot, dIsi, dSl, dAttr, oN, oS, nLst, nList, nRng1, nRng2, nSeq, nOwn, nSorted, nThaw, gNm, vD, vN, seqV, setE, Say.pure_bind, Say.bind_assoc, List.getElem?_cons_zero, List.getElem?_cons_succ, seqA, slD, List.set_cons_succ, List.set_cons_zero, thaw, Sl.thaw, List.map_cons, List.map_nil, lift_some, truB_bl, bindT, ownL, slOwn, List.length_cons, List.length_nil, List.cons_append, List.nil_append, List.replicate, Nat.reduceAdd, Nat.reduceSub, List.all_cons, List.all_nil, mkTup0, mkTup1, mkTup2, mkLst0, mkLst1, mkLst4, mkLst5, mkLst8, wipeE, sPar, sOwnS, sStore2, sPut, dNeg, negD, sOwnK, nListK, dDget, tDin, dDin, nSetS, sPop, sDput, sExt, ownK, dDc, sWhile, sBad, sAsg, sDrop, nSortT]
  have es : sortTM [.lst (f.map ti)] = pure ((lotsOf ps).map ti) := by
    show (match lotsD (f.map ti) with | some ls => if ls.length < 2 ∨ ls.head? = some [] then pure ((sortT ls).map ti) else bad | none => bad) = _
    rw [lotsD_map, ef]
    show (if (powF [[]] ps).length < 2 ∨ (powF [[]] ps).head? = some [] then pure ((sortT (powF [[]] ps)).map ti) else bad) = _
    rw [if_pos (.inr (powF_head ps))]
    rfl
  rw [es]
  simp only [runS, startE, sSeq, sIf, sSet, sRet, sRetN, sNil, sParV, sFor, sApp, sAppPop, tCmp, tVal, tAnd, tOr, tNot, tYes, tThaw, andB, orB, notB, andV, orV, notV, dC, dBin, dBlt, dVar, dCall, dNew, dThaw, dTup, dIf, dAnd, dOr, dNot, dIsi, dSl, dAttr, oN, oS, nLst, nList, nRng1, nRng2, nSeq, nOwn, nSorted, nThaw, gNm, vD, vN, seqV, setE, Say.pure_bind, Say.bind_assoc, List.getElem?_cons_zero, List.getElem?_cons_succ, seqA, slD, List.set_cons_succ, List.set_cons_zero, thaw, Sl.thaw, List.map_cons, List.map_nil, lift_some, truB_bl, bindT, ownL, slOwn, List.length_cons, List.length_nil, List.cons_append, List.nil_append, List.replicate, Nat.reduceAdd, Nat.reduceSub, List.all_cons, List.all_nil, mkTup0, mkTup1, mkTup2, mkLst0, mkLst1, mkLst4, mkLst5, mkLst8, wipeE, sPar, sOwnS, sStore2, sPut, dNeg, negD, sOwnK, nListK, dDget, tDin, dDin, nSetS, sPop, sDput, sExt, ownK, dDc, sWhile, sBad, sAsg, sDrop, nSortT]
/-! ### all statements of two places -/
def rowD (r : Int × Int × List Int) : D := .tup [.int r.1, .int r.2.1, ti r.2.2]
def restOf (n : Nat) (i j : Int) : List Int := (rg n).filter fun z => !(decide (z ∈ [i, j]))
noncomputable def rowsOf (n : Nat) (E : List (Int × Int)) (i j : Int) : List (Int × Int × List Int) := ((lotsOf (restOf n i j)).filter fun l => !conB E [i] [j] l).map fun l => (i, j, l)
noncomputable def rowsI (n : Nat) (E : List (Int × Int)) (i : Nat) : List (Int × Int × List Int) := (List.range (n - (i + 1))).flatMap fun k => rowsOf n E (i : Int) ((i + 1 + k : Nat) : Int)
noncomputable def allA (n : Nat) (E : List (Int × Int)) : List (Int × Int × List Int) := (List.range n).flatMap fun i => rowsI n E i
theorem rest_len {n : Nat} {i j : Int} : (restOf n i j).length ≤ n := by
  have := List.length_filter_le (fun z => !(decide (z ∈ [i, j]))) (rg n)
  rw [rg_len] at this
  exact this
theorem rest_st {n : Nat} {i j : Int} (hi : i ∈ rg n) (hj : j ∈ rg n) (ne : i ≠ j) {l : List Int} (h : l ∈ lotsOf (restOf n i j)) : St n [i] [j] l := by
  have hs := mem_lotsOf.mp h
  have mem : ∀ x ∈ l, x ∈ rg n ∧ x ≠ i ∧ x ≠ j := fun x hx => by
    obtain ⟨h1, h2⟩ := List.mem_filter.mp (hs.subset hx)
    refine ⟨h1, ?_⟩
    simpa using h2
  refine ⟨⟨List.pairwise_singleton _ _, fun x hx => by rw [List.mem_singleton.mp hx]; exact hi⟩, ⟨List.pairwise_singleton _ _, fun x hx => by rw [List.mem_singleton.mp hx]; exact hj⟩, ⟨((rg_asc n).filter _).sublist hs, fun x hx => (mem x hx).1⟩, ?_, ?_, ?_⟩
  · intro x hx hy
    rw [List.mem_singleton] at hx hy
    exact ne (hx.symm.trans hy)
  · intro x hx hy
    rw [List.mem_singleton] at hx
    exact (mem x hy).2.1 hx
  · intro x hx hy
    rw [List.mem_singleton] at hx
    exact (mem x hy).2.2 hx
theorem rowsOf_len {n : Nat} (hn : n ≤ 8) (E : List (Int × Int)) (i j : Int) : (rowsOf n E i j).length ≤ 256 := by
  unfold rowsOf
  rw [List.length_map]
  have h1 := List.length_filter_le (fun l => !conB E [i] [j] l) (lotsOf (restOf n i j))
  rw [lotsOf_len] at h1
  exact Nat.le_trans h1 (pow8 (Nat.le_trans rest_len hn))
def stA (n : Nat) (E : List (Int × Int)) (rs : List (Int × Int × List Int)) (x2 x3 x4 : Sl) : Say.Env := [.dat (webD n E), .own (.lst (rs.map rowD)), x2, x3, x4, .no, .no]
theorem mkTup_row (i j : Int) (l : List Int) : mkTup [.int i, .int j, ti l] = pure (rowD (i, j, l)) := mkTup3 _ _ _
theorem all_apart_ok {n : Nat} {E : List (Int × Int)} (g : Good n E) (hn : n ≤ 8) : m_all_apart [webD n E] = pure (.tup ((allA n E).map rowD)) := by
  simp only [m_all_apart, S_all_apart, runS, startE, sSeq, sIf, sSet, sRet, sRetN, sNil, sParV, sFor, sApp, sAppPop, tCmp, tVal, tAnd, tOr, tNot, tYes, tThaw, andB, orB, notB, andV, orV, notV, dC, dBin, dBlt, dVar, dCall, dNew, dThaw, dTup, dIf, dAnd, dOr, dNot, dIsi, dSl, dAttr, oN, oS, nLst, nList, nRng1, nRng2, nSeq, nOwn, nSorted, nThaw, gNm, vD, vN, seqV, setE, Say.pure_bind, Say.bind_assoc, List.getElem?_cons_zero, List.getElem?_cons_succ, seqA, slD, List.set_cons_succ, List.set_cons_zero, thaw, Sl.thaw, List.map_cons, List.map_nil, lift_some, truB_bl, bindT, ownL, slOwn, List.length_cons, List.length_nil, List.cons_append, List.nil_append, List.replicate, Nat.reduceAdd, Nat.reduceSub, List.all_cons, List.all_nil, mkTup0, mkTup1, mkTup2, mkLst0, mkLst1, mkLst4, mkLst5, mkLst8, wipeE, sPar, sOwnS, sStore2, sPut, dNeg, negD, sOwnK, nListK, dDget, tDin, dDin, nSetS, sPop, sDput, sExt, ownK, dDc, sWhile, sBad, sAsg, sDrop, nSortT, size_at, rngM_nat n (show n ≤ 16777216 by omega)]
  rw [if_pos (by omega)]
  obtain ⟨ρ', ⟨x2, x3, x4, e, hl⟩, hk⟩ := forS_fold (h := gNm 2) (r := pure) (body := (sFor (nRng2 (dBin addD (dVar 2) (dC (.int 1))) (dAttr CS "size" (dVar 0))) (gNm 3) (sSeq (sSet 4 (dNew (lcM [5] (nRng1 (dAttr CS "size" (dVar 0))) (gNm 5) (tCmp ninD (dVar 5) (dTup [(dVar 2), (dVar 3)])) (dVar 5))))
  (sExt 1 (lcM [6] (nSeq (dCall m_lots_of [(dVar 4)])) (gNm 6) (tVal (dCall m_are_apart [(dVar 0), (dTup [(dVar 2)]), (dTup [(dVar 3)]), (dVar 6)])) (dTup [(dVar 2), (dVar 3), (dVar 6)])))))) (fun k : Nat => D.int (k : Int))
    (fun done ρ => ∃ x2 x3 x4, ρ = stA n E (done.flatMap fun i => rowsI n E i) x2 x3 x4 ∧ (done.flatMap fun i => rowsI n E i).length ≤ done.length * 2048) (List.range n) [] _ ⟨.no, .no, .no, rfl, Nat.zero_le _⟩ (by
      rintro done i rest ρ e ⟨x2, x3, x4, rfl, hb⟩
      have e : List.range n = done ++ i :: rest := e
      have hi : i < n := List.mem_range.mp (by rw [e]; simp)
      have hd : done.length + 1 ≤ n := by
        have := congrArg List.length e
        rw [List.length_range] at this
        simp at this
        omega
      have er : nRng2 (dBin addD (dVar 2) (dC (.int 1))) (dAttr CS "size" (dVar 0)) (stA n E (done.flatMap fun i => rowsI n E i) (.dat (.int (i : Int))) x3 x4) = pure ((List.range (n - (i + 1))).map fun k : Nat => D.int ((i + 1 + k : Nat) : Int)) := by
        simp only [stA, runS, startE, sSeq, sIf, sSet, sRet, sRetN, sNil, sParV, sFor, sApp, sAppPop, tCmp, tVal, tAnd, tOr, tNot, tYes, tThaw, andB, orB, notB, andV, orV, notV, dC, dBin, dBlt, dVar, dCall, dNew, dThaw, dTup, dIf, dAnd, dOr, dNot, dIsi, dSl, dAttr, oN, oS, nLst, nList, nRng1, nRng2, nSeq, nOwn, nSorted, nThaw, gNm, vD, vN, seqV, setE, Say.pure_bind, Say.bind_assoc, List.getElem?_cons_zero, List.getElem?_cons_succ, seqA, slD, List.set_cons_succ, List.set_cons_zero, thaw, Sl.thaw, List.map_cons, List.map_nil, lift_some, truB_bl, bindT, ownL, slOwn, List.length_cons, List.length_nil, List.cons_append, List.nil_append, List.replicate, Nat.reduceAdd, Nat.reduceSub, List.all_cons, List.all_nil, mkTup0, mkTup1, mkTup2, mkLst0, mkLst1, mkLst4, mkLst5, mkLst8, wipeE, sPar, sOwnS, sStore2, sPut, dNeg, negD, sOwnK, nListK, dDget, tDin, dDin, nSetS, sPop, sDput, sExt, ownK, dDc, sWhile, sBad, sAsg, sDrop, nSortT, size_at, add_int]
        exact rngM_two (i + 1) n (by omega) (by omega)
      obtain ⟨ρ1, ⟨y3, y4, e1, hb1⟩, hk1⟩ := forS_fold (h := gNm 3) (r := pure) (body := (sSeq (sSet 4 (dNew (lcM [5] (nRng1 (dAttr CS "size" (dVar 0))) (gNm 5) (tCmp ninD (dVar 5) (dTup [(dVar 2), (dVar 3)])) (dVar 5))))
  (sExt 1 (lcM [6] (nSeq (dCall m_lots_of [(dVar 4)])) (gNm 6) (tVal (dCall m_are_apart [(dVar 0), (dTup [(dVar 2)]), (dTup [(dVar 3)]), (dVar 6)])) (dTup [(dVar 2), (dVar 3), (dVar 6)]))))) (fun k : Nat => D.int ((i + 1 + k : Nat) : Int))
        (fun done2 ρ => ∃ x3 x4, ρ = stA n E ((done.flatMap fun i => rowsI n E i) ++ done2.flatMap fun k => rowsOf n E (i : Int) ((i + 1 + k : Nat) : Int)) (.dat (.int (i : Int))) x3 x4 ∧ (done2.flatMap fun k => rowsOf n E (i : Int) ((i + 1 + k : Nat) : Int)).length ≤ done2.length * 256) (List.range (n - (i + 1))) [] (stA n E (done.flatMap fun i => rowsI n E i) (.dat (.int (i : Int))) x3 x4) ⟨x3, x4, by simp, Nat.zero_le _⟩ (by
          rintro done2 k rest2 ρ2 e2 ⟨x3, x4, rfl, hb2⟩
          have e2 : List.range (n - (i + 1)) = done2 ++ k :: rest2 := e2
          have hk : k < n - (i + 1) := List.mem_range.mp (by rw [e2]; simp)
          have hd2 : done2.length + 1 ≤ n := by
            have := congrArg List.length e2
            rw [List.length_range] at this
            simp at this
            omega
          have hii : (i : Int) ∈ rg n := mem_rg.mpr (by omega)
          have hjj : ((i + 1 + k : Nat) : Int) ∈ rg n := mem_rg.mpr (by omega)
          have hne : (i : Int) ≠ ((i + 1 + k : Nat) : Int) := by omega
          obtain ⟨j, ej⟩ : ∃ j : Int, j = ((i + 1 + k : Nat) : Int) := ⟨_, rfl⟩
          have hbr := rowsOf_len hn E (i : Int) ((i + 1 + k : Nat) : Int)
          have hrl : (restOf n (i : Int) j).length ≤ 8 := Nat.le_trans rest_len hn
          refine ⟨_, ⟨.dat (.int j), .dat (.lst ((restOf n i j).map D.int)), rfl, ?_⟩, fun kk k' => ?_⟩
          · rw [List.flatMap_append, List.length_append, List.length_append, List.length_singleton, List.flatMap_singleton]
            omega
          · generalize hR : ((done.flatMap fun i => rowsI n E i) ++ done2.flatMap fun k => rowsOf n E (i : Int) ((i + 1 + k : Nat) : Int)) = R
            have hRl : R.length ≤ 100000 := by
              rw [← hR, List.length_append]
              omega
            have e4 : lcM [5] (nRng1 (dAttr CS "size" (dVar 0))) (gNm 5) (tCmp ninD (dVar 5) (dTup [(dVar 2), (dVar 3)])) (dVar 5) (stA n E R (.dat (.int (i : Int))) (.dat (.int j)) x4) = pure ((restOf n i j).map D.int) := by
              refine lc_nm (l := rg n) D.int (fun z => !decide (z ∈ [(i : Int), j])) D.int ?_ rfl fun z hz => ?_
              · simp only [stA, runS, startE, sSeq, sIf, sSet, sRet, sRetN, sNil, sParV, sFor, sApp, sAppPop, tCmp, tVal, tAnd, tOr, tNot, tYes, tThaw, andB, orB, notB, andV, orV, notV, dC, dBin, dBlt, dVar, dCall, dNew, dThaw, dTup, dIf, dAnd, dOr, dNot, dIsi, dSl, dAttr, oN, oS, nLst, nList, nRng1, nRng2, nSeq, nOwn, nSorted, nThaw, gNm, vD, vN, seqV, setE, Say.pure_bind, Say.bind_assoc, List.getElem?_cons_zero, List.getElem?_cons_succ, seqA, slD, List.set_cons_succ, List.set_cons_zero, thaw, Sl.thaw, List.map_cons, List.map_nil, lift_some, truB_bl, bindT, ownL, slOwn, List.length_cons, List.length_nil, List.cons_append, List.nil_append, List.replicate, Nat.reduceAdd, Nat.reduceSub, List.all_cons, List.all_nil, mkTup0, mkTup1, mkTup2, mkLst0, mkLst1, mkLst4, mkLst5, mkLst8, wipeE, sPar, sOwnS, sStore2, sPut, dNeg, negD, sOwnK, nListK, dDget, tDin, dDin, nSetS, sPop, sDput, sExt, ownK, dDc, sWhile, sBad, sAsg, sDrop, nSortT, size_at]
                rw [rngM_nat n (by omega), rg_map]
              · simp only [stA, runS, startE, sSeq, sIf, sSet, sRet, sRetN, sNil, sParV, sFor, sApp, sAppPop, tCmp, tVal, tAnd, tOr, tNot, tYes, tThaw, andB, orB, notB, andV, orV, notV, dC, dBin, dBlt, dVar, dCall, dNew, dThaw, dTup, dIf, dAnd, dOr, dNot, dIsi, dSl, dAttr, oN, oS, nLst, nList, nRng1, nRng2, nSeq, nOwn, nSorted, nThaw, gNm, vD, vN, seqV, setE, Say.pure_bind, Say.bind_assoc, List.getElem?_cons_zero, List.getElem?_cons_succ, seqA, slD, List.set_cons_succ, List.set_cons_zero, thaw, Sl.thaw, List.map_cons, List.map_nil, lift_some, truB_bl, bindT, ownL, slOwn, List.length_cons, List.length_nil, List.cons_append, List.nil_append, List.replicate, Nat.reduceAdd, Nat.reduceSub, List.all_cons, List.all_nil, mkTup0, mkTup1, mkTup2, mkLst0, mkLst1, mkLst4, mkLst5, mkLst8, wipeE, sPar, sOwnS, sStore2, sPut, dNeg, negD, sOwnK, nListK, dDget, tDin, dDin, nSetS, sPop, sDput, sExt, ownK, dDc, sWhile, sBad, sAsg, sDrop, nSortT]
                rw [show D.tup [D.int (i : Int), D.int j] = ti [(i : Int), j] from rfl, nin_ints]
                exact ⟨rfl, fun _ => trivial⟩
            have e6 : lcM [6] (nSeq (dCall m_lots_of [(dVar 4)])) (gNm 6) (tVal (dCall m_are_apart [(dVar 0), (dTup [(dVar 2)]), (dTup [(dVar 3)]), (dVar 6)])) (dTup [(dVar 2), (dVar 3), (dVar 6)]) (stA n E R (.dat (.int (i : Int))) (.dat (.int j)) (.dat (.lst ((restOf n i j).map D.int)))) = pure ((rowsOf n E i j).map rowD) := by
              have := lc_nm (vs := [6]) (i := 6) (g := nSeq (dCall m_lots_of [(dVar 4)])) (t := tVal (dCall m_are_apart [(dVar 0), (dTup [(dVar 2)]), (dTup [(dVar 3)]), (dVar 6)])) (e := dTup [(dVar 2), (dVar 3), (dVar 6)]) (ρ := stA n E R (.dat (.int (i : Int))) (.dat (.int j)) (.dat (.lst ((restOf n i j).map D.int)))) (l := lotsOf (restOf n i j)) ti (fun l => !conB E [(i : Int)] [j] l) (fun l => rowD ((i : Int), j, l)) ?_ rfl fun l hl => ?_
              · rw [this]
                unfold rowsOf
                rw [List.map_map]
                rfl
              · simp only [stA, runS, startE, sSeq, sIf, sSet, sRet, sRetN, sNil, sParV, sFor, sApp, sAppPop, tCmp, tVal, tAnd, tOr, tNot, tYes, tThaw, andB, orB, notB, andV, orV, notV, dC, dBin, dBlt, dVar, dCall, dNew, dThaw, dTup, dIf, dAnd, dOr, dNot, dIsi, dSl, dAttr, oN, oS, nLst, nList, nRng1, nRng2, nSeq, nOwn, nSorted, nThaw, gNm, vD, vN, seqV, setE, Say.pure_bind, Say.bind_assoc, List.getElem?_cons_zero, List.getElem?_cons_succ, seqA, slD, List.set_cons_succ, List.set_cons_zero, thaw, Sl.thaw, List.map_cons, List.map_nil, lift_some, truB_bl, bindT, ownL, slOwn, List.length_cons, List.length_nil, List.cons_append, List.nil_append, List.replicate, Nat.reduceAdd, Nat.reduceSub, List.all_cons, List.all_nil, mkTup0, mkTup1, mkTup2, mkLst0, mkLst1, mkLst4, mkLst5, mkLst8, wipeE, sPar, sOwnS, sStore2, sPut, dNeg, negD, sOwnK, nListK, dDget, tDin, dDin, nSetS, sPop, sDput, sExt, ownK, dDc, sWhile, sBad, sAsg, sDrop, nSortT, lots_of_ok (LD.lst (restOf n i j)) hrl]
                rfl
              · have S := rest_st hii (by rw [ej]; exact hjj) (by rw [ej]; exact hne) hl
                constructor
                · simp only [stA, runS, startE, sSeq, sIf, sSet, sRet, sRetN, sNil, sParV, sFor, sApp, sAppPop, tCmp, tVal, tAnd, tOr, tNot, tYes, tThaw, andB, orB, notB, andV, orV, notV, dC, dBin, dBlt, dVar, dCall, dNew, dThaw, dTup, dIf, dAnd, dOr, dNot, dIsi, dSl, dAttr, oN, oS, nLst, nList, nRng1, nRng2, nSeq, nOwn, nSorted, nThaw, gNm, vD, vN, seqV, setE, Say.pure_bind, Say.bind_assoc, List.getElem?_cons_zero, List.getElem?_cons_succ, seqA, slD, List.set_cons_succ, List.set_cons_zero, thaw, Sl.thaw, List.map_cons, List.map_nil, lift_some, truB_bl, bindT, ownL, slOwn, List.length_cons, List.length_nil, List.cons_append, List.nil_append, List.replicate, Nat.reduceAdd, Nat.reduceSub, List.all_cons, List.all_nil, mkTup0, mkTup1, mkTup2, mkLst0, mkLst1, mkLst4, mkLst5, mkLst8, wipeE, sPar, sOwnS, sStore2, sPut, dNeg, negD, sOwnK, nListK, dDget, tDin, dDin, nSetS, sPop, sDput, sExt, ownK, dDc, sWhile, sBad, sAsg, sDrop, nSortT]
                  rw [show D.tup [D.int (i : Int)] = ti [(i : Int)] from rfl, show D.tup [D.int j] = ti [j] from rfl, are_apart_ok g (by omega) S]
                  rfl
                · intro _
                  simp only [stA, runS, startE, sSeq, sIf, sSet, sRet, sRetN, sNil, sParV, sFor, sApp, sAppPop, tCmp, tVal, tAnd, tOr, tNot, tYes, tThaw, andB, orB, notB, andV, orV, notV, dC, dBin, dBlt, dVar, dCall, dNew, dThaw, dTup, dIf, dAnd, dOr, dNot, dIsi, dSl, dAttr, oN, oS, nLst, nList, nRng1, nRng2, nSeq, nOwn, nSorted, nThaw, gNm, vD, vN, seqV, setE, Say.pure_bind, Say.bind_assoc, List.getElem?_cons_zero, List.getElem?_cons_succ, seqA, slD, List.set_cons_succ, List.set_cons_zero, thaw, Sl.thaw, List.map_cons, List.map_nil, lift_some, truB_bl, bindT, ownL, slOwn, List.length_cons, List.length_nil, List.cons_append, List.nil_append, List.replicate, Nat.reduceAdd, Nat.reduceSub, List.all_cons, List.all_nil, mkTup0, mkTup1, mkTup2, mkLst0, mkLst1, mkLst4, mkLst5, mkLst8, wipeE, sPar, sOwnS, sStore2, sPut, dNeg, negD, sOwnK, nListK, dDget, tDin, dDin, nSetS, sPop, sDput, sExt, ownK, dDc, sWhile, sBad, sAsg, sDrop, nSortT]
                  exact mkTup_row _ _ _
            rw [← ej]
            show (sSeq (sSet 4 (dNew (lcM [5] (nRng1 (dAttr CS "size" (dVar 0))) (gNm 5) (tCmp ninD (dVar 5) (dTup [(dVar 2), (dVar 3)])) (dVar 5)))) (sExt 1 (lcM [6] (nSeq (dCall m_lots_of [(dVar 4)])) (gNm 6) (tVal (dCall m_are_apart [(dVar 0), (dTup [(dVar 2)]), (dTup [(dVar 3)]), (dVar 6)])) (dTup [(dVar 2), (dVar 3), (dVar 6)])))) k' pure kk k' (stA n E R (.dat (.int (i : Int))) (.dat (.int j)) x4) = _
            rw [sSeq, sSet, dNew, e4, Say.pure_bind, Say.pure_bind]
            show sExt 1 _ k' pure kk k' (stA n E R (.dat (.int (i : Int))) (.dat (.int j)) (.dat (.lst ((restOf n i j).map D.int)))) = _
            show (ownL (some (.own (.lst (R.map rowD)))) >>= fun xs => _) = _
            rw [show ownL (some (.own (.lst (R.map rowD)))) = pure (R.map rowD) from rfl, Say.pure_bind, e6, Say.pure_bind, if_pos (by rw [List.length_map, List.length_map]; have := rowsOf_len hn E (i : Int) j; omega)]
            show k' (stA n E R _ _ _ |>.set 1 (.own (.lst (R.map rowD ++ (rowsOf n E i j).map rowD)))) = _
            rw [List.flatMap_append, List.flatMap_singleton, ← List.append_assoc, hR, ← ej, ← List.map_append]
            rfl)
      subst e1
      refine ⟨_, ⟨.dat (.int (i : Int)), y3, y4, rfl, ?_⟩, fun k k' => ?_⟩
      · rw [List.flatMap_append, List.length_append, List.length_append, List.length_singleton, List.flatMap_singleton]
        have : (rowsI n E i).length ≤ (List.range (n - (i + 1))).length * 256 := hb1
        rw [List.length_range] at this
        have h8 : n - (i + 1) ≤ 8 := by omega
        omega
      · show sFor _ _ _ k' pure k k' (stA n E (done.flatMap fun i => rowsI n E i) (.dat (.int (i : Int))) x3 x4) = _
        rw [sFor, er, Say.pure_bind, hk1]
        rw [show (done ++ [i]).flatMap (fun i => rowsI n E i) = (done.flatMap fun i => rowsI n E i) ++ rowsI n E i from by simp]
        rfl)
  subst e
  refine Eq.trans (hk (fun ρ => sRet (dBlt tupleD [(dVar 1)]) (fun _ => pure .non) pure (fun _ => bad) (fun _ => bad) ρ)) ?_
  rw [List.nil_append]
  rfl
theorem mem_allA {n : Nat} {E : List (Int × Int)} {r : Int × Int × List Int} : r ∈ allA n E ↔ r.1 ∈ rg n ∧ r.2.1 ∈ rg n ∧ r.1 < r.2.1 ∧ r.2.2.Sublist (restOf n r.1 r.2.1) ∧ conB E [r.1] [r.2.1] r.2.2 = false := by
  obtain ⟨i, j, l⟩ := r
  unfold allA rowsI rowsOf
  simp only [List.mem_flatMap, List.mem_map, List.mem_filter, List.mem_range, mem_lotsOf, Prod.mk.injEq]
  constructor
  · rintro ⟨a, ha, k, hk, l', ⟨h1, h2⟩, rfl, rfl, rfl⟩
    exact ⟨mem_rg.mpr (by omega), mem_rg.mpr (by omega), by omega, h1, by simpa using h2⟩
  · rintro ⟨h1, h2, h3, h4, h5⟩
    have q1 := mem_rg.mp h1
    have q2 := mem_rg.mp h2
    refine ⟨i.toNat, by omega, (j - i - 1).toNat, by omega, l, ⟨?_, ?_⟩, by omega, by omega, rfl⟩
    · rw [show ((i.toNat : Nat) : Int) = i by omega, show ((i.toNat + 1 + (j - i - 1).toNat : Nat) : Int) = j by omega]
      exact h4
    · rw [show ((i.toNat : Nat) : Int) = i by omega, show ((i.toNat + 1 + (j - i - 1).toNat : Nat) : Int) = j by omega, h5]
      rfl
end SayLaw

namespace SayLaw
open Say
/-- a loop that is left by one answer, or runs to its end -/
theorem forS_find {α : Type} {h : D → Say.Env → Option Say.Env} {body : S} {r : D → M D} (f : α → D) (b : α → Bool) (I : Say.Env → Prop) (d : D) : ∀ (l : List α) (ρ : Say.Env), I ρ →
    (∀ a ∈ l, ∀ ρ, I ρ → (b a = true → ∀ k k' : Say.Env → M D, bindT (h (f a) ρ) (fun ρ1 => body k' r k k' ρ1) = r d) ∧ (b a = false → ∃ ρ', I ρ' ∧ ∀ k k' : Say.Env → M D, bindT (h (f a) ρ) (fun ρ1 => body k' r k k' ρ1) = k' ρ')) →
    (l.any b = true → ∀ k : Say.Env → M D, forS h body k r (l.map f) ρ = r d) ∧ (l.any b = false → ∃ ρ', I ρ' ∧ ∀ k : Say.Env → M D, forS h body k r (l.map f) ρ = k ρ')
  | [], ρ, i, _ => ⟨fun h => (by cases h), fun _ => ⟨ρ, i, fun _ => rfl⟩⟩
  | a :: l, ρ, i, H => by
    obtain ⟨h1, h2⟩ := H a List.mem_cons_self ρ i
    have unf : ∀ k : Say.Env → M D, forS h body k r ((a :: l).map f) ρ = bindT (h (f a) ρ) (fun ρ' => body (forS h body k r (l.map f)) r k (forS h body k r (l.map f)) ρ') := fun _ => rfl
    rw [List.any_cons]
    cases e : b a with
    | true => exact ⟨fun _ k => (by rw [unf, h1 e]), fun q => by cases q⟩
    | false =>
      obtain ⟨ρ1, i1, e1⟩ := h2 e
      obtain ⟨g1, g2⟩ := forS_find f b I d l ρ1 i1 fun x hx => H x (List.mem_cons_of_mem _ hx)
      rw [Bool.false_or]
      refine ⟨fun q k => (by rw [unf, e1, g1 q]), fun q => ?_⟩
      obtain ⟨ρ2, i2, e2⟩ := g2 q
      exact ⟨ρ2, i2, fun k => by rw [unf, e1, e2]⟩
theorem place_told_ok {n : Nat} {E : List (Int × Int)} {i : Int} (h : i ∈ rg n) : m_place_told [webD n E, .int i] = pure (.int i) := by
  simp only [m_place_told, S_place_told, runS, startE, sSeq, sIf, sSet, sRet, sRetN, sNil, sParV, sFor, sApp, sAppPop, tCmp, tVal, tAnd, tOr, tNot, tYes, tThaw, andB, orB, notB, andV, orV, notV, dC, dBin, dBlt, dVar, dCall, dNew, dThaw, dTup, dIf, dAnd, dOr, dNot, dIsi, dSl, dAttr, oN, oS, nLst, nList, nRng1, nRng2, nSeq, nOwn, nSorted, nThaw, gNm, vD, vN, seqV, setE, Say.pure_bind, Say.bind_assoc, List.getElem?_cons_zero, List.getElem?_cons_succ, seqA, slD, List.set_cons_succ, List.set_cons_zero, thaw, Sl.thaw, List.map_cons, List.map_nil, lift_some, truB_bl, bindT, ownL, slOwn, List.length_cons, List.length_nil, List.cons_append, List.nil_append, List.replicate, Nat.reduceAdd, Nat.reduceSub, List.all_cons, List.all_nil, mkTup0, mkTup1, mkTup2, mkLst0, mkLst1, mkLst4, mkLst5, mkLst8, wipeE, sPar, sOwnS, sStore2, sPut, dNeg, negD, sOwnK, nListK, dDget, tDin, dDin, nSetS, sPop, sDput, sExt, ownK, dDc, sWhile, sBad, sAsg, sDrop, nSortT, size_at, index_in h, Bool.not_true, Bool.false_eq_true, if_false]
theorem src_lt {n : Nat} (E : List (Int × Int)) (i : Int) : Lt n (srcI n E i) := ⟨(rg_asc n).filter _, fun x hx => (List.mem_filter.mp hx).1⟩
def fromOf (n : Nat) (a c : List Int) : List Int := (rg n).filter fun z => !decide (z ∈ a) && !decide (z ∈ c)
end SayLaw

namespace SayLaw
open Say
theorem ne_tis (xs ys : List Int) : neD (ti xs) (ti ys) = some (.bl (!decide (xs = ys))) := by
  have hp : ∀ zs : List Int, (ti zs).plain = true := fun zs => plain_ti 59 zs
  show (if ((ti xs).plain && (ti ys).plain) = true then some (D.bl (!eqV (ti xs) (ti ys))) else none) = _
  rw [if_pos (by rw [hp, hp]; rfl)]
  refine congrArg some (congrArg D.bl ?_)
  by_cases e : xs = ys
  · rw [(eqV_ti xs ys).mpr e]; simp [e]
  · cases q : eqV (ti xs) (ti ys) with
    | true => exact (e ((eqV_ti xs ys).mp q)).elim
    | false => simp [e]
theorem eq_tis (xs ys : List Int) : eqD (ti xs) (ti ys) = some (.bl (decide (xs = ys))) := by
  have hp : ∀ zs : List Int, (ti zs).plain = true := fun zs => plain_ti 59 zs
  show (if ((ti xs).plain && (ti ys).plain) = true then some (D.bl (eqV (ti xs) (ti ys))) else none) = _
  rw [if_pos (by rw [hp, hp]; rfl)]
  refine congrArg some (congrArg D.bl ?_)
  by_cases e : xs = ys
  · rw [(eqV_ti xs ys).mpr e]; simp [e]
  · cases q : eqV (ti xs) (ti ys) with
    | true => exact (e ((eqV_ti xs ys).mp q)).elim
    | false => simp [e]
theorem ix_last {w : List Int} {z : Int} (h : w.getLast? = some z) : ixD (ti w) (.int (-1)) = some (.int z) := by
  have hl : 0 < w.length := by
    cases w with
    | nil => cases h
    | cons => simp
  rw [List.getLast?_eq_getElem?] at h
  show L2.atI (w.map D.int) (-1) = _
  unfold L2.atI L2.ixN
  rw [if_neg (by decide), List.length_map, if_pos (by omega)]
  show (w.map D.int)[(-1 + (w.length : Int)).toNat]? = _
  rw [List.getElem?_map, show (-1 + (w.length : Int)).toNat = w.length - 1 by omega, h]
  rfl
theorem sort_lt {n : Nat} {l : List Int} (nd : l.Nodup) (h : ∀ x ∈ l, x ∈ rg n) : Lt n (sortI l) := by
  have e := sort_lotOf (n := n) (P := (· ∈ l)) nd fun z => ⟨fun q => ⟨h z q, q⟩, fun q => q.2⟩
  refine ⟨by rw [e]; exact asc_lotOf _ _, fun x hx => h x ((sort_perm l).mem_iff.mp hx)⟩
theorem good_of {n : Nat} {A : List (Int × Int)} (nd : A.Nodup) (hr : ∀ x ∈ A, (0 ≤ x.1 ∧ x.1 < (n : Int)) ∧ (0 ≤ x.2 ∧ x.2 < (n : Int))) (r : Int → Nat) (hk : ∀ x ∈ A, r x.1 < r x.2) (hl : A.length ≤ 1000) : Good n (sortP A) := by
  have m : ∀ x, x ∈ sortP A ↔ x ∈ A := fun x => (sortP_perm A).mem_iff
  refine ⟨fun x hx => hr x ((m x).mp hx), ?_, ⟨r, fun x hx => hk x ((m x).mp hx)⟩, by rw [(sortP_perm A).length_eq]; exact hl⟩
  have a := (sortP_pw A).and ((sortP_perm A).nodup_iff.mpr nd)
  refine List.Pairwise.imp ?_ a
  rintro x y ⟨l, ne⟩
  unfold leP at l
  simp at l
  rcases l with l | ⟨l1, l2⟩
  · exact .inl l
  · refine .inr ⟨l1, ?_⟩
    rcases Int.lt_or_eq_of_le l2 with q | q
    · exact q
    · exact absurd (Prod.ext l1 q) ne
theorem good_ext {n : Nat} {A B : List (Int × Int)} (g : Good n A) (g' : Good n B) (h : ∀ x, x ∈ A ↔ x ∈ B) : A = B := by
  have nd : ∀ {A : List (Int × Int)}, Good n A → A.Nodup := fun g => List.nodup_iff_pairwise_ne.mpr (g.srt.imp fun {x y} q e => by rw [e] at q; omega)
  have pw : ∀ {A : List (Int × Int)}, Good n A → A.Pairwise fun a b => leP a b = true := fun g => g.srt.imp fun {x y} q => by
    unfold leP
    simp
    rcases q with q | ⟨q1, q2⟩
    · exact .inl q
    · exact .inr ⟨q1, by omega⟩
  have pm : A.Perm B := (List.perm_ext_iff_of_nodup (nd g) (nd g')).mpr h
  have e1 := sortP_uniq pm (pw g)
  have e2 := sortP_uniq (List.Perm.refl B) (pw g')
  rw [e1, ← e2]
/-! ### webs of lists of arrows -/
theorem arrows_okL {n : Nat} {E : List (Int × Int)} (g : Good n E) : m_are_arrows [.int (n : Int), .lst (E.map prD)] = pure (.bl true) := by
  simp only [m_are_arrows, S_are_arrows, runS, startE, sSeq, sIf, sSet, sRet, sRetN, sNil, sParV, sFor, sApp, sAppPop, tCmp, tVal, tAnd, tOr, tNot, tYes, tThaw, andB, orB, notB, andV, orV, notV, dC, dBin, dBlt, dVar, dCall, dNew, dThaw, dTup, dIf, dAnd, dOr, dNot, dIsi, dSl, dAttr, oN, oS, nLst, nList, nRng1, nRng2, nSeq, nOwn, nSorted, nThaw, gNm, vD, vN, seqV, setE, Say.pure_bind, Say.bind_assoc, List.getElem?_cons_zero, List.getElem?_cons_succ, seqA, slD, List.set_cons_succ, List.set_cons_zero, thaw, Sl.thaw, List.map_cons, List.map_nil, lift_some, truB_bl, bindT, ownL, slOwn, List.length_cons, List.length_nil, List.cons_append, List.nil_append, List.replicate, Nat.reduceAdd, Nat.reduceSub, List.all_cons, List.all_nil, mkTup0, mkTup1, mkTup2, mkLst0, mkLst1, mkLst4, mkLst5, mkLst8, wipeE, sPar, sOwnS, sStore2, sPut, dNeg, negD, show m_is_list [.lst (E.map prD)] = pure (.bl true) from rfl, Bool.not_true, Bool.false_eq_true, if_false]
  rw [lc_yes (l := E) (f := prD) (y := fun _ => .bl true) rfl rfl fun x hx => arrow_ok n x.1 x.2 (g.rng x hx).1 (g.rng x hx).2 (g.ne hx)]
  simp only [runS, startE, sSeq, sIf, sSet, sRet, sRetN, sNil, sParV, sFor, sApp, sAppPop, tCmp, tVal, tAnd, tOr, tNot, tYes, tThaw, andB, orB, notB, andV, orV, notV, dC, dBin, dBlt, dVar, dCall, dNew, dThaw, dTup, dIf, dAnd, dOr, dNot, dIsi, dSl, dAttr, oN, oS, nLst, nList, nRng1, nRng2, nSeq, nOwn, nSorted, nThaw, gNm, vD, vN, seqV, setE, Say.pure_bind, Say.bind_assoc, List.getElem?_cons_zero, List.getElem?_cons_succ, seqA, slD, List.set_cons_succ, List.set_cons_zero, thaw, Sl.thaw, List.map_cons, List.map_nil, lift_some, truB_bl, bindT, ownL, slOwn, List.length_cons, List.length_nil, List.cons_append, List.nil_append, List.replicate, Nat.reduceAdd, Nat.reduceSub, List.all_cons, List.all_nil, mkTup0, mkTup1, mkTup2, mkLst0, mkLst1, mkLst4, mkLst5, mkLst8, wipeE, sPar, sOwnS, sStore2, sPut, dNeg, negD]
  rw [all_map (fun _ => true) E]
  rw [lc_yes (l := E) (f := prD) (y := prD) rfl rfl fun x hx => rfl]
  simp only [runS, startE, sSeq, sIf, sSet, sRet, sRetN, sNil, sParV, sFor, sApp, sAppPop, tCmp, tVal, tAnd, tOr, tNot, tYes, tThaw, andB, orB, notB, andV, orV, notV, dC, dBin, dBlt, dVar, dCall, dNew, dThaw, dTup, dIf, dAnd, dOr, dNot, dIsi, dSl, dAttr, oN, oS, nLst, nList, nRng1, nRng2, nSeq, nOwn, nSorted, nThaw, gNm, vD, vN, seqV, setE, Say.pure_bind, Say.bind_assoc, List.getElem?_cons_zero, List.getElem?_cons_succ, seqA, slD, List.set_cons_succ, List.set_cons_zero, thaw, Sl.thaw, List.map_cons, List.map_nil, lift_some, truB_bl, bindT, ownL, slOwn, List.length_cons, List.length_nil, List.cons_append, List.nil_append, List.replicate, Nat.reduceAdd, Nat.reduceSub, List.all_cons, List.all_nil, mkTup0, mkTup1, mkTup2, mkLst0, mkLst1, mkLst4, mkLst5, mkLst8, wipeE, sPar, sOwnS, sStore2, sPut, dNeg, negD, List.all_eq_true.mpr (fun (x : Int × Int) (_ : x ∈ E) => rfl), Bool.not_true, Bool.false_eq_true, if_false]
  rw [lc_yes (l := List.range (E.length - 1)) (f := fun (k : Nat) => D.int (k : Int)) (y := fun _ => .bl false)]
  · simp only [runS, startE, sSeq, sIf, sSet, sRet, sRetN, sNil, sParV, sFor, sApp, sAppPop, tCmp, tVal, tAnd, tOr, tNot, tYes, tThaw, andB, orB, notB, andV, orV, notV, dC, dBin, dBlt, dVar, dCall, dNew, dThaw, dTup, dIf, dAnd, dOr, dNot, dIsi, dSl, dAttr, oN, oS, nLst, nList, nRng1, nRng2, nSeq, nOwn, nSorted, nThaw, gNm, vD, vN, seqV, setE, Say.pure_bind, Say.bind_assoc, List.getElem?_cons_zero, List.getElem?_cons_succ, seqA, slD, List.set_cons_succ, List.set_cons_zero, thaw, Sl.thaw, List.map_cons, List.map_nil, lift_some, truB_bl, bindT, ownL, slOwn, List.length_cons, List.length_nil, List.cons_append, List.nil_append, List.replicate, Nat.reduceAdd, Nat.reduceSub, List.all_cons, List.all_nil, mkTup0, mkTup1, mkTup2, mkLst0, mkLst1, mkLst4, mkLst5, mkLst8, wipeE, sPar, sOwnS, sStore2, sPut, dNeg, negD]
    rw [any_map (fun _ => false)]
    simp only [runS, startE, sSeq, sIf, sSet, sRet, sRetN, sNil, sParV, sFor, sApp, sAppPop, tCmp, tVal, tAnd, tOr, tNot, tYes, tThaw, andB, orB, notB, andV, orV, notV, dC, dBin, dBlt, dVar, dCall, dNew, dThaw, dTup, dIf, dAnd, dOr, dNot, dIsi, dSl, dAttr, oN, oS, nLst, nList, nRng1, nRng2, nSeq, nOwn, nSorted, nThaw, gNm, vD, vN, seqV, setE, Say.pure_bind, Say.bind_assoc, List.getElem?_cons_zero, List.getElem?_cons_succ, seqA, slD, List.set_cons_succ, List.set_cons_zero, thaw, Sl.thaw, List.map_cons, List.map_nil, lift_some, truB_bl, bindT, ownL, slOwn, List.length_cons, List.length_nil, List.cons_append, List.nil_append, List.replicate, Nat.reduceAdd, Nat.reduceSub, List.all_cons, List.all_nil, mkTup0, mkTup1, mkTup2, mkLst0, mkLst1, mkLst4, mkLst5, mkLst8, wipeE, sPar, sOwnS, sStore2, sPut, dNeg, negD]
    rw [List.any_eq_false.mpr (fun _ _ => by decide)]
    simp only [Bool.false_eq_true, if_false, runS, startE, sSeq, sIf, sSet, sRet, sRetN, sNil, sParV, sFor, sApp, sAppPop, tCmp, tVal, tAnd, tOr, tNot, tYes, tThaw, andB, orB, notB, andV, orV, notV, dC, dBin, dBlt, dVar, dCall, dNew, dThaw, dTup, dIf, dAnd, dOr, dNot, dIsi, dSl, dAttr, oN, oS, nLst, nList, nRng1, nRng2, nSeq, nOwn, nSorted, nThaw, gNm, vD, vN, seqV, setE, Say.pure_bind, Say.bind_assoc, List.getElem?_cons_zero, List.getElem?_cons_succ, seqA, slD, List.set_cons_succ, List.set_cons_zero, thaw, Sl.thaw, List.map_cons, List.map_nil, lift_some, truB_bl, bindT, ownL, slOwn, List.length_cons, List.length_nil, List.cons_append, List.nil_append, List.replicate, Nat.reduceAdd, Nat.reduceSub, List.all_cons, List.all_nil, mkTup0, mkTup1, mkTup2, mkLst0, mkLst1, mkLst4, mkLst5, mkLst8, wipeE, sPar, sOwnS, sStore2, sPut, dNeg, negD]
    rw [lc_two (l := E) (y := fun x => .bl (decide ((x.2, x.1) ∈ E))) rfl rfl]
    · simp only [runS, startE, sSeq, sIf, sSet, sRet, sRetN, sNil, sParV, sFor, sApp, sAppPop, tCmp, tVal, tAnd, tOr, tNot, tYes, tThaw, andB, orB, notB, andV, orV, notV, dC, dBin, dBlt, dVar, dCall, dNew, dThaw, dTup, dIf, dAnd, dOr, dNot, dIsi, dSl, dAttr, oN, oS, nLst, nList, nRng1, nRng2, nSeq, nOwn, nSorted, nThaw, gNm, vD, vN, seqV, setE, Say.pure_bind, Say.bind_assoc, List.getElem?_cons_zero, List.getElem?_cons_succ, seqA, slD, List.set_cons_succ, List.set_cons_zero, thaw, Sl.thaw, List.map_cons, List.map_nil, lift_some, truB_bl, bindT, ownL, slOwn, List.length_cons, List.length_nil, List.cons_append, List.nil_append, List.replicate, Nat.reduceAdd, Nat.reduceSub, List.all_cons, List.all_nil, mkTup0, mkTup1, mkTup2, mkLst0, mkLst1, mkLst4, mkLst5, mkLst8, wipeE, sPar, sOwnS, sStore2, sPut, dNeg, negD]
      rw [any_map (fun x : Int × Int => decide ((x.2, x.1) ∈ E))]
      simp only [runS, startE, sSeq, sIf, sSet, sRet, sRetN, sNil, sParV, sFor, sApp, sAppPop, tCmp, tVal, tAnd, tOr, tNot, tYes, tThaw, andB, orB, notB, andV, orV, notV, dC, dBin, dBlt, dVar, dCall, dNew, dThaw, dTup, dIf, dAnd, dOr, dNot, dIsi, dSl, dAttr, oN, oS, nLst, nList, nRng1, nRng2, nSeq, nOwn, nSorted, nThaw, gNm, vD, vN, seqV, setE, Say.pure_bind, Say.bind_assoc, List.getElem?_cons_zero, List.getElem?_cons_succ, seqA, slD, List.set_cons_succ, List.set_cons_zero, thaw, Sl.thaw, List.map_cons, List.map_nil, lift_some, truB_bl, bindT, ownL, slOwn, List.length_cons, List.length_nil, List.cons_append, List.nil_append, List.replicate, Nat.reduceAdd, Nat.reduceSub, List.all_cons, List.all_nil, mkTup0, mkTup1, mkTup2, mkLst0, mkLst1, mkLst4, mkLst5, mkLst8, wipeE, sPar, sOwnS, sStore2, sPut, dNeg, negD]
      rw [List.any_eq_false.mpr (fun x hx => by simpa using g.back hx)]
      rfl
    · intro x hx
      simp only [runS, startE, sSeq, sIf, sSet, sRet, sRetN, sNil, sParV, sFor, sApp, sAppPop, tCmp, tVal, tAnd, tOr, tNot, tYes, tThaw, andB, orB, notB, andV, orV, notV, dC, dBin, dBlt, dVar, dCall, dNew, dThaw, dTup, dIf, dAnd, dOr, dNot, dIsi, dSl, dAttr, oN, oS, nLst, nList, nRng1, nRng2, nSeq, nOwn, nSorted, nThaw, gNm, vD, vN, seqV, setE, Say.pure_bind, Say.bind_assoc, List.getElem?_cons_zero, List.getElem?_cons_succ, seqA, slD, List.set_cons_succ, List.set_cons_zero, thaw, Sl.thaw, List.map_cons, List.map_nil, lift_some, truB_bl, bindT, ownL, slOwn, List.length_cons, List.length_nil, List.cons_append, List.nil_append, List.replicate, Nat.reduceAdd, Nat.reduceSub, List.all_cons, List.all_nil, mkTup0, mkTup1, mkTup2, mkLst0, mkLst1, mkLst4, mkLst5, mkLst8, wipeE, sPar, sOwnS, sStore2, sPut, dNeg, negD, in_prsL]
  · simp only [runS, startE, sSeq, sIf, sSet, sRet, sRetN, sNil, sParV, sFor, sApp, sAppPop, tCmp, tVal, tAnd, tOr, tNot, tYes, tThaw, andB, orB, notB, andV, orV, notV, dC, dBin, dBlt, dVar, dCall, dNew, dThaw, dTup, dIf, dAnd, dOr, dNot, dIsi, dSl, dAttr, oN, oS, nLst, nList, nRng1, nRng2, nSeq, nOwn, nSorted, nThaw, gNm, vD, vN, seqV, setE, Say.pure_bind, Say.bind_assoc, List.getElem?_cons_zero, List.getElem?_cons_succ, seqA, slD, List.set_cons_succ, List.set_cons_zero, thaw, Sl.thaw, List.map_cons, List.map_nil, lift_some, truB_bl, bindT, ownL, slOwn, List.length_cons, List.length_nil, List.cons_append, List.nil_append, List.replicate, Nat.reduceAdd, Nat.reduceSub, List.all_cons, List.all_nil, mkTup0, mkTup1, mkTup2, mkLst0, mkLst1, mkLst4, mkLst5, mkLst8, wipeE, sPar, sOwnS, sStore2, sPut, dNeg, negD, lenD, List.length_map, ii_int]
    exact rngM_pred E.length (by have := g.len; omega)
  · rfl
  · intro k hk
    have h := g.srt
    have hk := List.mem_range.mp hk
    have h1 : k < E.length := by omega
    have h2 : k + 1 < E.length := by omega
    simp only [runS, startE, sSeq, sIf, sSet, sRet, sRetN, sNil, sParV, sFor, sApp, sAppPop, tCmp, tVal, tAnd, tOr, tNot, tYes, tThaw, andB, orB, notB, andV, orV, notV, dC, dBin, dBlt, dVar, dCall, dNew, dThaw, dTup, dIf, dAnd, dOr, dNot, dIsi, dSl, dAttr, oN, oS, nLst, nList, nRng1, nRng2, nSeq, nOwn, nSorted, nThaw, gNm, vD, vN, seqV, setE, Say.pure_bind, Say.bind_assoc, List.getElem?_cons_zero, List.getElem?_cons_succ, seqA, slD, List.set_cons_succ, List.set_cons_zero, thaw, Sl.thaw, List.map_cons, List.map_nil, lift_some, truB_bl, bindT, ownL, slOwn, List.length_cons, List.length_nil, List.cons_append, List.nil_append, List.replicate, Nat.reduceAdd, Nat.reduceSub, List.all_cons, List.all_nil, mkTup0, mkTup1, mkTup2, mkLst0, mkLst1, mkLst4, mkLst5, mkLst8, wipeE, sPar, sOwnS, sStore2, sPut, dNeg, negD, add_int]
    rw [ix_lst prD h1, show ((k : Int) + 1) = ((k + 1 : Nat) : Int) by omega, ix_lst prD h2]
    simp only [runS, startE, sSeq, sIf, sSet, sRet, sRetN, sNil, sParV, sFor, sApp, sAppPop, tCmp, tVal, tAnd, tOr, tNot, tYes, tThaw, andB, orB, notB, andV, orV, notV, dC, dBin, dBlt, dVar, dCall, dNew, dThaw, dTup, dIf, dAnd, dOr, dNot, dIsi, dSl, dAttr, oN, oS, nLst, nList, nRng1, nRng2, nSeq, nOwn, nSorted, nThaw, gNm, vD, vN, seqV, setE, Say.pure_bind, Say.bind_assoc, List.getElem?_cons_zero, List.getElem?_cons_succ, seqA, slD, List.set_cons_succ, List.set_cons_zero, thaw, Sl.thaw, List.map_cons, List.map_nil, lift_some, truB_bl, bindT, ownL, slOwn, List.length_cons, List.length_nil, List.cons_append, List.nil_append, List.replicate, Nat.reduceAdd, Nat.reduceSub, List.all_cons, List.all_nil, mkTup0, mkTup1, mkTup2, mkLst0, mkLst1, mkLst4, mkLst5, mkLst8, wipeE, sPar, sOwnS, sStore2, sPut, dNeg, negD]
    rw [ge_prD (List.pairwise_iff_getElem.mp h k (k + 1) h1 h2 (by omega))]
    rfl
theorem web_okL {n : Nat} {E : List (Int × Int)} (g : Good n E) (h1 : 1 ≤ n) (hn : n ≤ 100) : m_Web [.int (n : Int), .lst (E.map prD)] = pure (webD n E) := by
  have lk : m_arrows_looked [.int (n : Int), .tup (E.map prD)] = pure .non := by
    simp only [m_arrows_looked, S_arrows_looked, runS, startE, sSeq, sIf, sSet, sRet, sRetN, sNil, sParV, sFor, sApp, sAppPop, tCmp, tVal, tAnd, tOr, tNot, tYes, tThaw, andB, orB, notB, andV, orV, notV, dC, dBin, dBlt, dVar, dCall, dNew, dThaw, dTup, dIf, dAnd, dOr, dNot, dIsi, dSl, dAttr, oN, oS, nLst, nList, nRng1, nRng2, nSeq, nOwn, nSorted, nThaw, gNm, vD, vN, seqV, setE, Say.pure_bind, Say.bind_assoc, List.getElem?_cons_zero, List.getElem?_cons_succ, seqA, slD, List.set_cons_succ, List.set_cons_zero, thaw, Sl.thaw, List.map_cons, List.map_nil, lift_some, truB_bl, bindT, ownL, slOwn, List.length_cons, List.length_nil, List.cons_append, List.nil_append, List.replicate, Nat.reduceAdd, Nat.reduceSub, List.all_cons, List.all_nil, mkTup0, mkTup1, mkTup2, mkLst0, mkLst1, mkLst4, mkLst5, mkLst8, wipeE, sPar, sOwnS, sStore2, sPut, dNeg, negD, round_ok g hn, Bool.false_eq_true, if_false]
  have c : Od.lt.i (n : Int) 1 = false := decide_eq_false (p := (n : Int) < 1) (by omega)
  simp only [m_Web, S_new_Web, runI, startI, sDrop, runS, startE, sSeq, sIf, sSet, sRet, sRetN, sNil, sParV, sFor, sApp, sAppPop, tCmp, tVal, tAnd, tOr, tNot, tYes, tThaw, andB, orB, notB, andV, orV, notV, dC, dBin, dBlt, dVar, dCall, dNew, dThaw, dTup, dIf, dAnd, dOr, dNot, dIsi, dSl, dAttr, oN, oS, nLst, nList, nRng1, nRng2, nSeq, nOwn, nSorted, nThaw, gNm, vD, vN, seqV, setE, Say.pure_bind, Say.bind_assoc, List.getElem?_cons_zero, List.getElem?_cons_succ, seqA, slD, List.set_cons_succ, List.set_cons_zero, thaw, Sl.thaw, List.map_cons, List.map_nil, lift_some, truB_bl, bindT, ownL, slOwn, List.length_cons, List.length_nil, List.cons_append, List.nil_append, List.replicate, Nat.reduceAdd, Nat.reduceSub, List.all_cons, List.all_nil, mkTup0, mkTup1, mkTup2, mkLst0, mkLst1, mkLst4, mkLst5, mkLst8, wipeE, sPar, sOwnS, sStore2, sPut, dNeg, negD, whole_ok (d := .int (n : Int)) rfl, isInt, Bool.not_true, Bool.false_eq_true, if_false, od_int, c, arrows_okL g]
  rw [lc_yes (l := E) (f := prD) (y := prD) rfl rfl fun x hx => rfl]
  simp only [runS, startE, sSeq, sIf, sSet, sRet, sRetN, sNil, sParV, sFor, sApp, sAppPop, tCmp, tVal, tAnd, tOr, tNot, tYes, tThaw, andB, orB, notB, andV, orV, notV, dC, dBin, dBlt, dVar, dCall, dNew, dThaw, dTup, dIf, dAnd, dOr, dNot, dIsi, dSl, dAttr, oN, oS, nLst, nList, nRng1, nRng2, nSeq, nOwn, nSorted, nThaw, gNm, vD, vN, seqV, setE, Say.pure_bind, Say.bind_assoc, List.getElem?_cons_zero, List.getElem?_cons_succ, seqA, slD, List.set_cons_succ, List.set_cons_zero, thaw, Sl.thaw, List.map_cons, List.map_nil, lift_some, truB_bl, bindT, ownL, slOwn, List.length_cons, List.length_nil, List.cons_append, List.nil_append, List.replicate, Nat.reduceAdd, Nat.reduceSub, List.all_cons, List.all_nil, mkTup0, mkTup1, mkTup2, mkLst0, mkLst1, mkLst4, mkLst5, mkLst8, wipeE, sPar, sOwnS, sStore2, sPut, dNeg, negD, tupleD, lk]
  rfl
theorem web_ne (n : Nat) (E : List (Int × Int)) : eqOwn tblE CS true (webD n E) (webD n E) = pure (.bl false) := by
  have e : m_eq_Web [webD n E, webD n E] = pure (.bl true) := by
    simp only [m_eq_Web, S_eq_Web, runS, startE, sSeq, sIf, sSet, sRet, sRetN, sNil, sParV, sFor, sApp, sAppPop, tCmp, tVal, tAnd, tOr, tNot, tYes, tThaw, andB, orB, notB, andV, orV, notV, dC, dBin, dBlt, dVar, dCall, dNew, dThaw, dTup, dIf, dAnd, dOr, dNot, dIsi, dSl, dAttr, oN, oS, nLst, nList, nRng1, nRng2, nSeq, nOwn, nSorted, nThaw, gNm, vD, vN, seqV, setE, Say.pure_bind, Say.bind_assoc, List.getElem?_cons_zero, List.getElem?_cons_succ, seqA, slD, List.set_cons_succ, List.set_cons_zero, thaw, Sl.thaw, List.map_cons, List.map_nil, lift_some, truB_bl, bindT, ownL, slOwn, List.length_cons, List.length_nil, List.cons_append, List.nil_append, List.replicate, Nat.reduceAdd, Nat.reduceSub, List.all_cons, List.all_nil, mkTup0, mkTup1, mkTup2, mkLst0, mkLst1, mkLst4, mkLst5, mkLst8, wipeE, sPar, sOwnS, sStore2, sPut, dNeg, negD, sOwnK, nListK, dDget, tDin, dDin, nSetS, sPop, sDput, sExt, ownK, dDc, sWhile, sBad, sAsg, sDrop, nSortT, size_at, arrows_at, eq_int, decide_true, if_true]
    rw [show isiD CS TS [.own "Web"] (webD n E) = pure (.bl true) from rfl]
    simp only [runS, startE, sSeq, sIf, sSet, sRet, sRetN, sNil, sParV, sFor, sApp, sAppPop, tCmp, tVal, tAnd, tOr, tNot, tYes, tThaw, andB, orB, notB, andV, orV, notV, dC, dBin, dBlt, dVar, dCall, dNew, dThaw, dTup, dIf, dAnd, dOr, dNot, dIsi, dSl, dAttr, oN, oS, nLst, nList, nRng1, nRng2, nSeq, nOwn, nSorted, nThaw, gNm, vD, vN, seqV, setE, Say.pure_bind, Say.bind_assoc, List.getElem?_cons_zero, List.getElem?_cons_succ, seqA, slD, List.set_cons_succ, List.set_cons_zero, thaw, Sl.thaw, List.map_cons, List.map_nil, lift_some, truB_bl, bindT, ownL, slOwn, List.length_cons, List.length_nil, List.cons_append, List.nil_append, List.replicate, Nat.reduceAdd, Nat.reduceSub, List.all_cons, List.all_nil, mkTup0, mkTup1, mkTup2, mkLst0, mkLst1, mkLst4, mkLst5, mkLst8, wipeE, sPar, sOwnS, sStore2, sPut, dNeg, negD, sOwnK, nListK, dDget, tDin, dDin, nSetS, sPop, sDput, sExt, ownK, dDc, sWhile, sBad, sAsg, sDrop, nSortT, if_true]
    have hp : (D.tup (E.map prD)).plain = true := by
      show (D.tup (E.map prD)).plainN 60 = true
      simp only [D.plainN]
      exact plainL_map prD (plain_prD 58) E
    have : eqD (.tup (E.map prD)) (.tup (E.map prD)) = some (.bl true) := by
      show (if ((D.tup (E.map prD)).plain && (D.tup (E.map prD)).plain) = true then some (D.bl (eqV (.tup (E.map prD)) (.tup (E.map prD)))) else none) = _
      rw [if_pos (by rw [hp]; rfl), eqV_tup, (eqL_map prD eqV_prD E E).mpr rfl]
    rw [this]
    rfl
  have u : eqOwn tblE CS true (webD n E) (webD n E) = (if CS.contains ("Web" : PySem.Str) = true then nx (m_eq_Web [webD n E, webD n E]) >>= truB >>= fun r => pure (.bl (if true = true then !r else r)) else bad) := rfl
  rw [u]
  rw [if_pos (by decide), e]
  rfl
/-! rows, orders in lists -/
theorem rowD_eq (r s : Int × Int × List Int) : eqV (rowD r) (rowD s) = true ↔ r = s := by
  obtain ⟨a, b, l⟩ := r
  obtain ⟨a', b', l'⟩ := s
  show eqV (.tup [.int a, .int b, ti l]) (.tup [.int a', .int b', ti l']) = true ↔ _
  rw [eqV_tup]
  simp only [eqL, eqV_int, Bool.and_eq_true, decide_eq_true_iff, eqV_ti, Prod.mk.injEq, and_true]
theorem plain_row (m : Nat) (r : Int × Int × List Int) : (rowD r).plainN (m + 2) = true := by
  show (D.tup [.int r.1, .int r.2.1, ti r.2.2]).plainN (m + 2) = true
  simp only [D.plainN, plainL, plain_int, plain_ti, Bool.and_self]
theorem in_rows (r : Int × Int × List Int) (l : List (Int × Int × List Int)) : inD (rowD r) (.tup (l.map rowD)) = some (.bl (decide (r ∈ l))) := by
  have hp : (D.tup (l.map rowD)).plain = true := by
    show (D.tup (l.map rowD)).plainN 60 = true
    simp only [D.plainN]
    exact plainL_map rowD (plain_row 57) l
  show (if ((rowD r).plain && (D.tup (l.map rowD)).plain) = true then some (D.bl ((l.map rowD).any fun y => eqV y (rowD r))) else none) = _
  rw [if_pos (by rw [hp, show (rowD r).plain = true from plain_row 58 r]; rfl), any_eq rowD rowD_eq]
  exact congrArg some (congrArg D.bl (decide_eq_decide.mpr Iff.rfl))
theorem in_tis (w : List Int) (l : List (List Int)) : inD (ti w) (.tup (l.map ti)) = some (.bl (decide (w ∈ l))) := by
  have hp : (D.tup (l.map ti)).plain = true := by
    show (D.tup (l.map ti)).plainN 60 = true
    simp only [D.plainN]
    exact plainL_map ti (plain_ti 58) l
  show (if ((ti w).plain && (D.tup (l.map ti)).plain) = true then some (D.bl ((l.map ti).any fun y => eqV y (ti w))) else none) = _
  rw [if_pos (by rw [hp, show (ti w).plain = true from plain_ti 59 w]; rfl), any_eq ti eqV_ti]
  exact congrArg some (congrArg D.bl (decide_eq_decide.mpr Iff.rfl))
theorem cut_take {α : Type} (xs : List α) (k : Nat) : cutG xs none (some (k : Int)) = xs.take k := by
  unfold cutG
  rw [HT.sIx_none, HT.sIx_nat, List.drop_zero, Nat.sub_zero]
  by_cases h : k ≤ xs.length
  · rw [Nat.min_eq_left h]
  · rw [Nat.min_eq_right (by omega), List.take_length, List.take_of_length_le (by omega)]
theorem cut_drop {α : Type} (xs : List α) (k : Nat) : cutG xs (some (k : Int)) none = xs.drop k := by
  unfold cutG
  rw [HT.sIx_none, HT.sIx_nat]
  by_cases h : k ≤ xs.length
  · rw [Nat.min_eq_left h, List.take_of_length_le (by rw [List.length_drop]; omega)]
  · rw [Nat.min_eq_right (by omega), List.drop_length, List.drop_of_length_le (by omega), List.take_nil]
end SayLaw

namespace SayLaw
open Say
theorem lc_twoB {vs : List Nat} {i j : Nat} {g : Say.Env → M (List D)} {t : Say.Env → M Bool} {e : Say.Env → M D} {ρ : Say.Env} {l : List (Int × Int)} (b : Int × Int → Bool) (y : Int × Int → D) (hg : g ρ = pure (l.map prD)) (ok : okW vs ρ = true) (H : ∀ a ∈ l, t (((wipeE ρ vs).set i (.dat (.int a.1))).set j (.dat (.int a.2))) = pure (b a) ∧ (b a = true → e (((wipeE ρ vs).set i (.dat (.int a.1))).set j (.dat (.int a.2))) = pure (y a))) :
    lcM vs g (unpackD [gNm i, gNm j]) t e ρ = pure ((l.filter b).map y) := by
  unfold lcM
  rw [hg, Say.pure_bind, if_pos ok]
  exact compL_map (h := fun x => unpackD [gNm i, gNm j] x (wipeE ρ vs)) prD b y fun a ha => ⟨_, rfl, H a ha⟩
/-! ### places under new numbers -/
def pix (P : List Int) (x : Int) : Nat := (idxI x P).getD 0
def kv (q : Int × Nat) : D × D := (.int q.1, .int (q.2 : Int))
def itq (q : Int × Nat) : D := .itm [.int (q.2 : Int), .int q.1]
theorem enD_ints (P : List Int) : enD (P.map D.int) = P.zipIdx.map itq := by
  unfold enD
  rw [List.zipIdx_map, List.map_map]
  rfl
theorem any_kv (k : Int) : ∀ l : List (Int × Nat), ((l.map kv).any fun x => isI k x.1) = decide (k ∈ l.map Prod.fst)
  | [] => rfl
  | q :: l => by
    rw [List.map_cons, List.any_cons, any_kv k l, List.map_cons]
    show (decide (q.1 = k) || decide (k ∈ l.map Prod.fst)) = _
    by_cases e : q.1 = k
    · simp [e]
    · simp [e, Ne.symm e]
theorem get_kv (k : Int) : ∀ (P : List Int) (m : Nat), getI k ((P.zipIdx m).map kv) = (idxI k P).map fun j => .int ((j + m : Nat) : Int)
  | [], _ => rfl
  | x :: P, m => by
    rw [List.zipIdx_cons,
        List.map_cons]
    show (if decide (x = k) = true then some (D.int (m : Int)) else getI k ((P.zipIdx (m + 1)).map kv)) = _
    unfold idxI
    by_cases e : x = k
    · rw [if_pos (decide_eq_true e), if_pos e]
      simp
    · rw [if_neg (by simp [e]), if_neg e, get_kv k P (m + 1), Option.map_map]
      congr 1
      funext j
      show D.int ((j + (m + 1) : Nat) : Int) = D.int ((j + 1 + m : Nat) : Int)
      rw [show j + (m + 1) = j + 1 + m by omega]
theorem compK_en (w d : Sl) : ∀ (l done : List (Int × Nat)), ((done ++ l).map Prod.fst).Nodup → (done ++ l).length ≤ 1000 → compK (fun x => unpackD [gNm 3, gNm 4] x [w, d, .no, .no, .no, .no, .no]) tYes (dVar 4) (dVar 3) (done.map kv) (l.map itq) = pure ((done ++ l).map kv)
  | [], done, _, _ => by
    rw [List.append_nil]
    rfl
  | a :: l, done, nd, hl => by
    have na : a.1 ∉ done.map Prod.fst := fun m => by
      rw [List.map_append] at nd
      exact (List.nodup_append.mp nd).2.2 _ m a.1 (by simp) rfl
    have ep : putM (done.map kv) (.int a.1) (.int (a.2 : Int)) = pure ((done ++ [a]).map kv) := by
      show (if (done.map kv).length < 16777216 then pure (putI (done.map kv) a.1 (.int (a.2 : Int))) else bad) = _
      rw [if_pos (by rw [List.length_append] at hl; rw [List.length_map]; omega)]
      unfold putI
      rw [any_kv, if_neg (by simpa using na), List.map_append]
      rfl
    show (nx (tYes [w, d, .no, .dat (.int (a.2 : Int)), .dat (.int a.1), .no, .no]) >>= fun b => if b = true then nx (dVar 4 [w, d, .no, .dat (.int (a.2 : Int)), .dat (.int a.1), .no, .no]) >>= fun k => nx (dVar 3 [w, d, .no, .dat (.int (a.2 : Int)), .dat (.int a.1), .no, .no]) >>= fun v => putM (done.map kv) k v >>= fun acc' => compK (fun x => unpackD [gNm 3, gNm 4] x [w, d, .no, .no, .no, .no, .no]) tYes (dVar 4) (dVar 3) acc' (l.map itq) else compK (fun x => unpackD [gNm 3, gNm 4] x [w, d, .no, .no, .no, .no, .no]) tYes (dVar 4) (dVar 3) (done.map kv) (l.map itq)) = _
    simp only [tYes, dVar, List.getElem?_cons_zero, List.getElem?_cons_succ, slD, nx_pure, Say.pure_bind, if_true, ep]
    have := compK_en w d l (done ++ [a]) (by rw [List.append_assoc]; exact nd) (by rw [List.append_assoc]; exact hl)
    rw [List.append_assoc]
        at this
    exact this
def partE (P : List Int) (E : List (Int × Int)) : List (Int × Int) := (E.filter fun x => decide (x.1 ∈ P) && decide (x.2 ∈ P)).map fun x => ((pix P x.1 : Int), (pix P x.2 : Int))
theorem pix_at {P : List Int} {x : Int} (h : x ∈ P) : P[pix P x]? = some x := by
  obtain ⟨j, hj⟩ := idx_some h
  unfold pix
  rw [hj]
  exact (idxI_ok hj).1
theorem pix_lt {P : List Int} {x : Int} (h : x ∈ P) : pix P x < P.length := (List.getElem?_eq_some_iff.mp (pix_at h)).1
theorem pix_get {P : List Int} (nd : P.Nodup) {i : Nat} (h : i < P.length) : pix P (P.getD i 0) = i := by
  have e : P[i]? = some (P.getD i 0) := by simp [List.getD, List.getElem?_eq_getElem h]
  obtain ⟨j, hj⟩ := idx_some (List.mem_of_getElem? e)
  unfold pix
  rw [hj]
  exact idx_at nd hj e
theorem getD_pix {P : List Int} {x : Int} (h : x ∈ P) : P.getD (pix P x) 0 = x := by
  simp [List.getD, pix_at h]
theorem pix_mono {P : List Int} (asc : P.Pairwise (· < ·)) {x y : Int} (hx : x ∈ P) (hy : y ∈ P) : x < y ↔ pix P x < pix P y := by
  have ex := pix_at hx
  have ey := pix_at hy
  have lx := pix_lt hx
  have ly := pix_lt hy
  rw [List.getElem?_eq_getElem lx] at ex
  rw [List.getElem?_eq_getElem ly] at ey
  have ex := Option.some.inj ex
  have ey := Option.some.inj ey
  constructor
  · intro h
    refine Classical.byContradiction fun n => ?_
    rcases Nat.lt_or_eq_of_le (Nat.le_of_not_lt n) with q | q
    · have := List.pairwise_iff_getElem.mp asc _ _ ly lx q
      omega
    · have : P[pix P x] = P[pix P y] := by simp [q]
      omega
  · intro h
    have := List.pairwise_iff_getElem.mp asc _ _ lx ly h
    omega
theorem getD_mem' {P : List Int} {i : Nat} (h : i < P.length) : P.getD i 0 ∈ P := by
  simp [List.getD,
      List.getElem?_eq_getElem h]
section
variable {n : Nat} {E : List (Int × Int)} {P : List Int}
theorem mem_partE {a b : Int} : (a, b) ∈ partE P E ↔ ∃ x y, (x, y) ∈ E ∧ x ∈ P ∧ y ∈ P ∧ a = (pix P x : Int) ∧ b = (pix P y : Int) := by
  unfold partE
  rw [List.mem_map]
  constructor
  · rintro ⟨x, hx, e⟩
    obtain ⟨h1, h2⟩ := List.mem_filter.mp hx
    rw [Bool.and_eq_true, decide_eq_true_iff, decide_eq_true_iff] at h2
    exact ⟨x.1, x.2, h1, h2.1, h2.2, (congrArg Prod.fst e).symm, (congrArg Prod.snd e).symm⟩
  · rintro ⟨x, y, h1, h2, h3, rfl, rfl⟩
    exact ⟨(x, y), List.mem_filter.mpr ⟨h1, by simp [h2, h3]⟩, rfl⟩
theorem part_good (g : Good n E) (hP : Lt n P) : Good P.length (partE P E) := by
  refine ⟨fun x hx => ?_, ?_, ?_, ?_⟩
  · obtain ⟨a, b, _, ha, hb, e1, e2⟩ := mem_partE.mp (show (x.1, x.2) ∈ partE P E from hx)
    have := pix_lt ha
    have := pix_lt hb
    rw [e1, e2]
    omega
  · unfold partE
    refine List.pairwise_map.mpr (List.Pairwise.imp_of_mem ?_ (g.srt.filter _))
    intro x y hx hy h
    have hx := (List.mem_filter.mp hx).2
    have hy := (List.mem_filter.mp hy).2
    rw [Bool.and_eq_true, decide_eq_true_iff, decide_eq_true_iff] at hx hy
    rcases h with h | ⟨h1, h2⟩
    · have := (pix_mono hP.asc hx.1 hy.1).mp h
      left
      show (pix P x.1 : Int) < (pix P y.1 : Int)
      omega
    · have := (pix_mono hP.asc hx.2 hy.2).mp h2
      right
      refine ⟨?_, ?_⟩
      · show (pix P x.1 : Int) = (pix P y.1 : Int)
        rw [h1]
      · show (pix P x.2 : Int) < (pix P y.2 : Int)
        omega
  · obtain ⟨r, hr⟩ := g.rank
    refine ⟨fun i => r (P.getD i.toNat 0), fun x hx => ?_⟩
    obtain ⟨a, b, e, ha, hb, e1, e2⟩ := mem_partE.mp (show (x.1, x.2) ∈ partE P E from hx)
    show r (P.getD x.1.toNat 0) < r (P.getD x.2.toNat 0)
    rw [e1, e2, Int.toNat_natCast, Int.toNat_natCast, getD_pix ha, getD_pix hb]
    exact hr _ e
  · unfold partE
    rw [List.length_map]
    exact Nat.le_trans (List.length_filter_le _ _) g.len
theorem part_in_ok (g : Good n E) (hn : n ≤ 100) {d : D} (hd : LD d P) (hP : Lt n P) (ne : P ≠ []) : m_part_in [webD n E, d] = pure (webD P.length (partE P E)) := by
  have hl := hP.len
  have h1 : 1 ≤ P.length := List.length_pos_iff.mpr ne
  have e1 : dcM [3, 4] (nEnum (dVar 1)) (unpackD [gNm 3, gNm 4]) tYes (dVar 4) (dVar 3) [.dat (webD n E), .dat d, .no, .no, .no, .no, .no] = pure (P.zipIdx.map kv) := by
    unfold dcM
    have e0 : nEnum (dVar 1) [.dat (webD n E), .dat d, .no, .no, .no, .no, .no] = pure (P.zipIdx.map itq) := by
      rw [← enD_ints]
      cases hd <;> rfl
    rw [e0, Say.pure_bind, if_pos (show okW [3, 4] [.dat (webD n E), .dat d, .no, .no, .no, .no, .no] = true from rfl)]
    have := compK_en (.dat (webD n E)) (.dat d) P.zipIdx [] (by rw [List.nil_append, List.zipIdx_map_fst]; exact hP.nd) (by rw [List.nil_append, List.length_zipIdx]; omega)
    rw [List.nil_append] at this
    exact this
  have gm : ∀ x, getI x (P.zipIdx.map kv) = (idxI x P).map fun j => .int (j : Int) := fun x => get_kv x P 0
  have gin : ∀ x, (getI x (P.zipIdx.map kv)).isSome = decide (x ∈ P) := fun x => by
    rw [gm]
    by_cases m : x ∈ P
    · obtain ⟨j, hj⟩ := idx_some m
      rw [hj]
      simp [m]
    · cases q : idxI x P with
      | none => simp [m]
      | some j => exact (m (List.mem_of_getElem? (idxI_ok q).1)).elim
  have gat : ∀ x, x ∈ P → getI x (P.zipIdx.map kv) = some (.int (pix P x : Int)) := fun x m => by
    rw [gm]
    obtain ⟨j, hj⟩ := idx_some m
    unfold pix
    rw [hj]
    rfl
  have e2 : lcM [5, 6] (nSeq (dAttr CS "arrows" (dVar 0))) (unpackD [gNm 5, gNm 6]) (tAnd (tDin false (dVar 5) (dVar 2)) (tDin false (dVar 6) (dVar 2))) (dTup [(dDget (dVar 2) (dVar 5)), (dDget (dVar 2) (dVar 6))]) [.dat (webD n E), .dat d, .dat (.dct (P.zipIdx.map kv)), .no, .no, .no, .no] = pure ((partE P E).map prD) := by
    have := lc_twoB (vs := [5, 6]) (i := 5) (j := 6) (g := nSeq (dAttr CS "arrows" (dVar 0))) (t := tAnd (tDin false (dVar 5) (dVar 2)) (tDin false (dVar 6) (dVar 2))) (e := dTup [(dDget (dVar 2) (dVar 5)), (dDget (dVar 2) (dVar 6))]) (ρ := [.dat (webD n E), .dat d, .dat (.dct (P.zipIdx.map kv)), .no, .no, .no, .no]) (l := E) (fun x => decide (x.1 ∈ P) && decide (x.2 ∈ P)) (fun x => prD ((pix P x.1 : Int), (pix P x.2 : Int))) ?_ rfl fun x hx => ?_
    · rw [this]
      unfold partE
      rw [List.map_map]
      rfl
    · simp only [runS, startE, sSeq, sIf, sSet, sRet, sRetN, sNil, sParV, sFor, sApp, sAppPop, tCmp, tVal, tAnd, tOr, tNot, tYes, tThaw, andB, orB, notB, andV, orV, notV, dC, dBin, dBlt, dVar, dCall, dNew, dThaw, dTup, dIf, dAnd, dOr, dNot, dIsi, dSl, dAttr, oN, oS, nLst, nList, nRng1, nRng2, nSeq, nOwn, nSorted, nThaw, gNm, vD, vN, seqV, setE, Say.pure_bind, Say.bind_assoc, List.getElem?_cons_zero, List.getElem?_cons_succ, seqA, slD, List.set_cons_succ, List.set_cons_zero, thaw, Sl.thaw, List.map_cons, List.map_nil, lift_some, truB_bl, bindT, ownL, slOwn, List.length_cons, List.length_nil, List.cons_append, List.nil_append, List.replicate, Nat.reduceAdd, Nat.reduceSub, List.all_cons, List.all_nil, mkTup0, mkTup1, mkTup2, mkLst0, mkLst1, mkLst4, mkLst5, mkLst8, wipeE, sPar, sOwnS, sStore2, sPut, dNeg, negD, sOwnK, nListK, dDget, tDin, dDin, nSetS, sPop, sDput, sExt, ownK, dDc, sWhile, sBad, sAsg, sDrop, nSortT, arrows_at]
      rfl
    · constructor
      · simp only [runS, startE, sSeq, sIf, sSet, sRet, sRetN, sNil, sParV, sFor, sApp, sAppPop, tCmp, tVal, tAnd, tOr, tNot, tYes, tThaw, andB, orB, notB, andV, orV, notV, dC, dBin, dBlt, dVar, dCall, dNew, dThaw, dTup, dIf, dAnd, dOr, dNot, dIsi, dSl, dAttr, oN, oS, nLst, nList, nRng1, nRng2, nSeq, nOwn, nSorted, nThaw, gNm, vD, vN, seqV, setE, Say.pure_bind, Say.bind_assoc, List.getElem?_cons_zero, List.getElem?_cons_succ, seqA, slD, List.set_cons_succ, List.set_cons_zero, thaw, Sl.thaw, List.map_cons, List.map_nil, lift_some, truB_bl, bindT, ownL, slOwn, List.length_cons, List.length_nil, List.cons_append, List.nil_append, List.replicate, Nat.reduceAdd, Nat.reduceSub, List.all_cons, List.all_nil, mkTup0, mkTup1, mkTup2, mkLst0, mkLst1, mkLst4, mkLst5, mkLst8, wipeE, sPar, sOwnS, sStore2, sPut, dNeg, negD, sOwnK, nListK, dDget, tDin, dDin, nSetS, sPop, sDput, sExt, ownK, dDc, sWhile, sBad, sAsg, sDrop, nSortT, dinM, gin, Bool.false_eq_true, if_false]
        by_cases m : x.1 ∈ P <;> simp [m]
      · intro h
        rw [Bool.and_eq_true, decide_eq_true_iff, decide_eq_true_iff] at h
        simp only [runS, startE, sSeq, sIf, sSet, sRet, sRetN, sNil, sParV, sFor, sApp, sAppPop, tCmp, tVal, tAnd, tOr, tNot, tYes, tThaw, andB, orB, notB, andV, orV, notV, dC, dBin, dBlt, dVar, dCall, dNew, dThaw, dTup, dIf, dAnd, dOr, dNot, dIsi, dSl, dAttr, oN, oS, nLst, nList, nRng1, nRng2, nSeq, nOwn, nSorted, nThaw, gNm, vD, vN, seqV, setE, Say.pure_bind, Say.bind_assoc, List.getElem?_cons_zero, List.getElem?_cons_succ, seqA, slD, List.set_cons_succ, List.set_cons_zero, thaw, Sl.thaw, List.map_cons, List.map_nil, lift_some, truB_bl, bindT, ownL, slOwn, List.length_cons, List.length_nil, List.cons_append, List.nil_append, List.replicate, Nat.reduceAdd, Nat.reduceSub, List.all_cons, List.all_nil, mkTup0, mkTup1, mkTup2, mkLst0, mkLst1, mkLst4, mkLst5, mkLst8, wipeE, sPar, sOwnS, sStore2, sPut, dNeg, negD, sOwnK, nListK, dDget, tDin, dDin, nSetS, sPop, sDput, sExt, ownK, dDc, sWhile, sBad, sAsg, sDrop, nSortT, dgetM, gat _ h.1, gat _ h.2]
        rfl
  simp only [m_part_in, S_part_in, runS, startE, sSeq, sIf, sSet, sRet, sRetN, sNil, sParV, sFor, sApp, sAppPop, tCmp, tVal, tAnd, tOr, tNot, tYes, tThaw, andB, orB, notB, andV, orV, notV, dC, dBin, dBlt, dVar, dCall, dNew, dThaw, dTup, dIf, dAnd, dOr, dNot, dIsi, dSl, dAttr, oN, oS, nLst, nList, nRng1, nRng2, nSeq, nOwn, nSorted, nThaw, gNm, vD, vN, seqV, setE, Say.pure_bind, Say.bind_assoc, List.getElem?_cons_zero, List.getElem?_cons_succ, seqA, slD, List.set_cons_succ, List.set_cons_zero, thaw, Sl.thaw, List.map_cons, List.map_nil, lift_some, truB_bl, bindT, ownL, slOwn, List.length_cons, List.length_nil, List.cons_append, List.nil_append, List.replicate, Nat.reduceAdd, Nat.reduceSub, List.all_cons, List.all_nil, mkTup0, mkTup1, mkTup2, mkLst0, mkLst1, mkLst4, mkLst5, mkLst8, wipeE, sPar, sOwnS, sStore2, sPut, dNeg, negD, sOwnK, nListK, dDget, tDin, dDin, nSetS, sPop, sDput, sExt, ownK, dDc, sWhile, sBad, sAsg, sDrop, nSortT]
  rw [e1]
  simp only [runS, startE, sSeq, sIf, sSet, sRet, sRetN, sNil, sParV, sFor, sApp, sAppPop, tCmp, tVal, tAnd, tOr, tNot, tYes, tThaw, andB, orB, notB, andV, orV, notV, dC, dBin, dBlt, dVar, dCall, dNew, dThaw, dTup, dIf, dAnd, dOr, dNot, dIsi, dSl, dAttr, oN, oS, nLst, nList, nRng1, nRng2, nSeq, nOwn, nSorted, nThaw, gNm, vD, vN, seqV, setE, Say.pure_bind, Say.bind_assoc, List.getElem?_cons_zero, List.getElem?_cons_succ, seqA, slD, List.set_cons_succ, List.set_cons_zero, thaw, Sl.thaw, List.map_cons, List.map_nil, lift_some, truB_bl, bindT, ownL, slOwn, List.length_cons, List.length_nil, List.cons_append, List.nil_append, List.replicate, Nat.reduceAdd, Nat.reduceSub, List.all_cons, List.all_nil, mkTup0, mkTup1, mkTup2, mkLst0, mkLst1, mkLst4, mkLst5, mkLst8, wipeE, sPar, sOwnS, sStore2, sPut, dNeg, negD, sOwnK, nListK, dDget, tDin, dDin, nSetS, sPop, sDput, sExt, ownK, dDc, sWhile, sBad, sAsg, sDrop, nSortT, hd.len]
  rw [e2]
  simp only [Say.pure_bind, web_okL (part_good g hP) h1 (show P.length ≤ 100 by omega)]
theorem part_of_ok (g : Good n E) (hn : n ≤ 100) {d : D} (hd : LD d P) (hP : Lt n P) (ne : P ≠ []) : m_part_of [webD n E, d] = pure (webD P.length (partE P E)) := by
  simp only [m_part_of, S_part_of, runS, startE, sSeq, sIf, sSet, sRet, sRetN, sNil, sParV, sFor, sApp, sAppPop, tCmp, tVal, tAnd, tOr, tNot, tYes, tThaw, andB, orB, notB, andV, orV, notV, dC, dBin, dBlt, dVar, dCall, dNew, dThaw, dTup, dIf, dAnd, dOr, dNot, dIsi, dSl, dAttr, oN, oS, nLst, nList, nRng1, nRng2, nSeq, nOwn, nSorted, nThaw, gNm, vD, vN, seqV, setE, Say.pure_bind, Say.bind_assoc, List.getElem?_cons_zero, List.getElem?_cons_succ, seqA, slD, List.set_cons_succ, List.set_cons_zero, thaw, Sl.thaw, List.map_cons, List.map_nil, lift_some, truB_bl, bindT, ownL, slOwn, List.length_cons, List.length_nil, List.cons_append, List.nil_append, List.replicate, Nat.reduceAdd, Nat.reduceSub, List.all_cons, List.all_nil, mkTup0, mkTup1, mkTup2, mkLst0, mkLst1, mkLst4, mkLst5, mkLst8, wipeE, sPar, sOwnS, sStore2, sPut, dNeg, negD, sOwnK, nListK, dDget, tDin, dDin, nSetS, sPop, sDput, sExt, ownK, dDc, sWhile, sBad, sAsg, sDrop, nSortT, size_at, some_lot_told_ok _ hd hP ne, part_in_ok g hn (.tup P) hP ne]
theorem struck_ok (g : Good n E) (h2 : 2 ≤ n) (hn : n ≤ 100) {i : Int} (hi : i ∈ rg n) : m_struck [webD n E, .tup [.int i]] = pure (webD (n - 1) (partE ((rg n).filter fun z => !decide (z = i)) E)) := by
  have l1 : Lt n [i] := ⟨List.pairwise_singleton _ _, fun y hy => by rw [List.mem_singleton.mp hy]; exact hi⟩
  have hP : Lt n ((rg n).filter fun z => !decide (z = i)) := ⟨(rg_asc n).filter _, fun x hx => (List.mem_filter.mp hx).1⟩
  have el : ((rg n).filter fun z => !decide (z = i)).length = n - 1 := by
    have := List.length_eq_countP_add_countP (fun z => !decide (z = i)) (l := rg n)
    have c1 : (rg n).countP (fun z => decide (¬ (!decide (z = i)) = true)) = 1 := by
      have e : (fun z : Int => decide (¬ (!decide (z = i)) = true)) = fun z => z == i := by
        funext z
        by_cases q : z = i <;> simp [q]
      rw [e]
      have c : (rg n).count i = 1 := (asc_nodup (rg_asc n)).count.trans (if_pos hi)
      exact c
    rw [← List.countP_eq_length_filter]
    rw [rg_len, c1] at this
    omega
  have ne : ((rg n).filter fun z => !decide (z = i)) ≠ [] := fun e => by rw [e] at el; simp at el; omega
  have e2 : lcM [2] (nRng1 (dAttr CS "size" (dVar 0))) (gNm 2) (tCmp ninD (dVar 2) (dVar 1)) (dVar 2) [.dat (webD n E), .dat (.tup [.int i]), .no] = pure (((rg n).filter fun z => !decide (z = i)).map D.int) := by
    refine lc_nm (l := rg n) D.int (fun z => !decide (z = i)) D.int ?_ rfl fun z _ => ?_
    · simp only [runS, startE, sSeq, sIf, sSet, sRet, sRetN, sNil, sParV, sFor, sApp, sAppPop, tCmp, tVal, tAnd, tOr, tNot, tYes, tThaw, andB, orB, notB, andV, orV, notV, dC, dBin, dBlt, dVar, dCall, dNew, dThaw, dTup, dIf, dAnd, dOr, dNot, dIsi, dSl, dAttr, oN, oS, nLst, nList, nRng1, nRng2, nSeq, nOwn, nSorted, nThaw, gNm, vD, vN, seqV, setE, Say.pure_bind, Say.bind_assoc, List.getElem?_cons_zero, List.getElem?_cons_succ, seqA, slD, List.set_cons_succ, List.set_cons_zero, thaw, Sl.thaw, List.map_cons, List.map_nil, lift_some, truB_bl, bindT, ownL, slOwn, List.length_cons, List.length_nil, List.cons_append, List.nil_append, List.replicate, Nat.reduceAdd, Nat.reduceSub, List.all_cons, List.all_nil, mkTup0, mkTup1, mkTup2, mkLst0, mkLst1, mkLst4, mkLst5, mkLst8, wipeE, sPar, sOwnS, sStore2, sPut, dNeg, negD, sOwnK, nListK, dDget, tDin, dDin, nSetS, sPop, sDput, sExt, ownK, dDc, sWhile, sBad, sAsg, sDrop, nSortT, size_at]
      rw [rngM_nat n (by omega), rg_map]
    · simp only [runS, startE, sSeq, sIf, sSet, sRet, sRetN, sNil, sParV, sFor, sApp, sAppPop, tCmp, tVal, tAnd, tOr, tNot, tYes, tThaw, andB, orB, notB, andV, orV, notV, dC, dBin, dBlt, dVar, dCall, dNew, dThaw, dTup, dIf, dAnd, dOr, dNot, dIsi, dSl, dAttr, oN, oS, nLst, nList, nRng1, nRng2, nSeq, nOwn, nSorted, nThaw, gNm, vD, vN, seqV, setE, Say.pure_bind, Say.bind_assoc, List.getElem?_cons_zero, List.getElem?_cons_succ, seqA, slD, List.set_cons_succ, List.set_cons_zero, thaw, Sl.thaw, List.map_cons, List.map_nil, lift_some, truB_bl, bindT, ownL, slOwn, List.length_cons, List.length_nil, List.cons_append, List.nil_append, List.replicate, Nat.reduceAdd, Nat.reduceSub, List.all_cons, List.all_nil, mkTup0, mkTup1, mkTup2, mkLst0, mkLst1, mkLst4, mkLst5, mkLst8, wipeE, sPar, sOwnS, sStore2, sPut, dNeg, negD, sOwnK, nListK, dDget, tDin, dDin, nSetS, sPop, sDput, sExt, ownK, dDc, sWhile, sBad, sAsg, sDrop, nSortT]
      rw [show D.tup [D.int i] = ti [i] from rfl, nin_ints]
      by_cases q : z = i <;> simp [q]
  have c : decide ((1 : Int) = (n : Int)) = false := decide_eq_false (by omega)
  have hL : m_is_lot_of [.int (n : Int), .tup [.int i]] = pure (.bl true) := is_lot_of_ok (LD.tup [i]) l1
  simp only [m_struck, S_struck, runS, startE, sSeq, sIf, sSet, sRet, sRetN, sNil, sParV, sFor, sApp, sAppPop, tCmp, tVal, tAnd, tOr, tNot, tYes, tThaw, andB, orB, notB, andV, orV, notV, dC, dBin, dBlt, dVar, dCall, dNew, dThaw, dTup, dIf, dAnd, dOr, dNot, dIsi, dSl, dAttr, oN, oS, nLst, nList, nRng1, nRng2, nSeq, nOwn, nSorted, nThaw, gNm, vD, vN, seqV, setE, Say.pure_bind, Say.bind_assoc, List.getElem?_cons_zero, List.getElem?_cons_succ, seqA, slD, List.set_cons_succ, List.set_cons_zero, thaw, Sl.thaw, List.map_cons, List.map_nil, lift_some, truB_bl, bindT, ownL, slOwn, List.length_cons, List.length_nil, List.cons_append, List.nil_append, List.replicate, Nat.reduceAdd, Nat.reduceSub, List.all_cons, List.all_nil, mkTup0, mkTup1, mkTup2, mkLst0, mkLst1, mkLst4, mkLst5, mkLst8, wipeE, sPar, sOwnS, sStore2, sPut, dNeg, negD, sOwnK, nListK, dDget, tDin, dDin, nSetS, sPop, sDput, sExt, ownK, dDc, sWhile, sBad, sAsg, sDrop, nSortT, size_at, hL, Bool.not_true, Bool.false_eq_true, if_false]
  rw [show lenD [D.tup [D.int i]] = some (.int 1) from rfl]
  simp only [runS, startE, sSeq, sIf, sSet, sRet, sRetN, sNil, sParV, sFor, sApp, sAppPop, tCmp, tVal, tAnd, tOr, tNot, tYes, tThaw, andB, orB, notB, andV, orV, notV, dC, dBin, dBlt, dVar, dCall, dNew, dThaw, dTup, dIf, dAnd, dOr, dNot, dIsi, dSl, dAttr, oN, oS, nLst, nList, nRng1, nRng2, nSeq, nOwn, nSorted, nThaw, gNm, vD, vN, seqV, setE, Say.pure_bind, Say.bind_assoc, List.getElem?_cons_zero, List.getElem?_cons_succ, seqA, slD, List.set_cons_succ, List.set_cons_zero, thaw, Sl.thaw, List.map_cons, List.map_nil, lift_some, truB_bl, bindT, ownL, slOwn, List.length_cons, List.length_nil, List.cons_append, List.nil_append, List.replicate, Nat.reduceAdd, Nat.reduceSub, List.all_cons, List.all_nil, mkTup0, mkTup1, mkTup2, mkLst0, mkLst1, mkLst4, mkLst5, mkLst8, wipeE, sPar, sOwnS, sStore2, sPut, dNeg, negD, sOwnK, nListK, dDget, tDin, dDin, nSetS, sPop, sDput, sExt, ownK, dDc, sWhile, sBad, sAsg, sDrop, nSortT, eq_int, c, Bool.false_eq_true, if_false]
  rw [e2]
  simp only [runS, startE, sSeq, sIf, sSet, sRet, sRetN, sNil, sParV, sFor, sApp, sAppPop, tCmp, tVal, tAnd, tOr, tNot, tYes, tThaw, andB, orB, notB, andV, orV, notV, dC, dBin, dBlt, dVar, dCall, dNew, dThaw, dTup, dIf, dAnd, dOr, dNot, dIsi, dSl, dAttr, oN, oS, nLst, nList, nRng1, nRng2, nSeq, nOwn, nSorted, nThaw, gNm, vD, vN, seqV, setE, Say.pure_bind, Say.bind_assoc, List.getElem?_cons_zero, List.getElem?_cons_succ, seqA, slD, List.set_cons_succ, List.set_cons_zero, thaw, Sl.thaw, List.map_cons, List.map_nil, lift_some, truB_bl, bindT, ownL, slOwn, List.length_cons, List.length_nil, List.cons_append, List.nil_append, List.replicate, Nat.reduceAdd, Nat.reduceSub, List.all_cons, List.all_nil, mkTup0, mkTup1, mkTup2, mkLst0, mkLst1, mkLst4, mkLst5, mkLst8, wipeE, sPar, sOwnS, sStore2, sPut, dNeg, negD, sOwnK, nListK, dDget, tDin, dDin, nSetS, sPop, sDput, sExt, ownK, dDc, sWhile, sBad, sAsg, sDrop, nSortT, part_in_ok g hn (LD.lst _) hP ne, el]
end
end SayLaw

namespace SayLaw
open Say
def mv (P l : List Int) : List Int := l.map fun x => (pix P x : Int)
section
variable {n : Nat} {E : List (Int × Int)} {P : List Int}
theorem mv_lt (hP : Lt n P) {l : List Int} (hl : l.Pairwise (· < ·)) (hs : ∀ x ∈ l, x ∈ P) : Lt P.length (mv P l) := by
  refine ⟨List.pairwise_map.mpr (List.Pairwise.imp_of_mem ?_ hl), fun x hx => ?_⟩
  · intro a b ha hb h
    have := (pix_mono hP.asc (hs a ha) (hs b hb)).mp h
    show (pix P a : Int) < (pix P b : Int)
    omega
  · obtain ⟨y, hy, rfl⟩ := List.mem_map.mp hx
    have := pix_lt (hs y hy)
    rw [mem_rg]
    omega
theorem pix_inj {x y : Int} (hx : x ∈ P) (hy : y ∈ P) (h : pix P x = pix P y) : x = y := by
  have e1 := getD_pix hx
  have e2 := getD_pix hy
  rw [h, e2] at e1
  exact e1.symm
theorem mv_mem {l : List Int} (hs : ∀ x ∈ l, x ∈ P) {x : Int} (hx : x ∈ P) : (pix P x : Int) ∈ mv P l ↔ x ∈ l := by
  constructor
  · intro h
    obtain ⟨y, hy, e⟩ := List.mem_map.mp h
    have : pix P y = pix P x := by omega
    rw [← pix_inj (hs y hy) hx this]
    exact hy
  · exact fun h => List.mem_map.mpr ⟨x, h, rfl⟩
theorem mv_ne {l : List Int} (h : l ≠ []) : mv P l ≠ [] := fun e => h (List.map_eq_nil_iff.mp e)
theorem mv_st (hP : Lt n P) {a b c : List Int} (S : St n a b c) (ha : ∀ x ∈ a, x ∈ P) (hb : ∀ x ∈ b, x ∈ P) (hc : ∀ x ∈ c, x ∈ P) : St P.length (mv P a) (mv P b) (mv P c) := by
  refine ⟨mv_lt hP S.la.asc ha, mv_lt hP S.lb.asc hb, mv_lt hP S.lc.asc hc, fun x hx hy => ?_, fun x hx hy => ?_, fun x hx hy => ?_⟩
  · obtain ⟨y, h1, rfl⟩ := List.mem_map.mp hx
    exact S.ab y h1 ((mv_mem hb (ha y h1)).mp hy)
  · obtain ⟨y, h1, rfl⟩ := List.mem_map.mp hx
    exact S.ac y h1 ((mv_mem hc (ha y h1)).mp hy)
  · obtain ⟨y, h1, rfl⟩ := List.mem_map.mp hx
    exact S.bc y h1 ((mv_mem hc (hb y h1)).mp hy)
/-- a part of the web that has all that is ahead of it says the same -/
theorem con_part (g : Good n E) (hP : Lt n P) (cl : ∀ y x, x ∈ P → ar E y x → y ∈ P) {a b c : List Int} (ac : ∀ x ∈ a, x ∉ c) (bc : ∀ x ∈ b, x ∉ c) (ha : ∀ x ∈ a, x ∈ P) (hb : ∀ x ∈ b, x ∈ P) (hc : ∀ x ∈ c, x ∈ P) : conB (partE P E) (mv P a) (mv P b) (mv P c) = conB E a b c := by
  have img : ∀ l : List Int, (∀ x ∈ l, x ∈ P) → DSep.Img (fun i : Int => P.getD i.toNat 0) (fun i => i ∈ rg P.length) (· ∈ mv P l) (· ∈ l) := fun l hs => by
    refine ⟨fun x hx => ?_, fun y => ⟨fun hy => ?_, ?_⟩⟩
    · obtain ⟨y, hy, rfl⟩ := List.mem_map.mp hx
      have := pix_lt (hs y hy)
      rw [mem_rg]
      omega
    · refine ⟨(pix P y : Int), List.mem_map.mpr ⟨y, hy, rfl⟩, ?_⟩
      show P.getD ((pix P y : Int)).toNat 0 = y
      rw [Int.toNat_natCast, getD_pix (hs y hy)]
    · rintro ⟨x, hx, e⟩
      obtain ⟨z, hz, rfl⟩ := List.mem_map.mp hx
      have e : P.getD ((pix P z : Int)).toNat 0 = y := e
      rw [Int.toNat_natCast, getD_pix (hs z hz)] at e
      rw [← e]
      exact hz
  have at_ : ∀ i : Int, i ∈ rg P.length → (pix P (P.getD i.toNat 0) : Int) = i ∧ P.getD i.toNat 0 ∈ P := fun i hi => by
    have := mem_rg.mp hi
    have h : i.toNat < P.length := by omega
    rw [pix_get hP.nd h]
    exact ⟨by omega, getD_mem' h⟩
  rw [Bool.eq_iff_iff, conB_iff, conB_iff]
  refine DSep.con_map (φ := fun i : Int => P.getD i.toNat 0) (dom := fun i => i ∈ rg P.length) (fun x y hx hy e => ?_) (fun x y hx hy => ?_) (fun x y e => ?_) (fun y x hx e => ?_) (img a ha) (img b hb) (img c hc) ac bc g.asy
  · have e : P.getD x.toNat 0 = P.getD y.toNat 0 := e
    have h1 := (at_ x hx).1
    rw [e, (at_ y hy).1] at h1
    exact h1.symm
  · constructor
    · intro e
      obtain ⟨u, v, h1, h2, h3, h4, h5⟩ := mem_partE.mp e
      show (P.getD x.toNat 0, P.getD y.toNat 0) ∈ E
      rw [h4, h5, Int.toNat_natCast, Int.toNat_natCast, getD_pix h2, getD_pix h3]
      exact h1
    · intro e
      exact mem_partE.mpr ⟨_, _, e, (at_ x hx).2, (at_ y hy).2, (at_ x hx).1.symm, (at_ y hy).1.symm⟩
  · obtain ⟨u, v, h1, h2, h3, h4, h5⟩ := mem_partE.mp e
    have := pix_lt h2
    have := pix_lt h3
    rw [mem_rg, mem_rg, h4, h5]
    omega
  · have hy : y ∈ P := cl y _ (at_ x hx).2 e
    have := pix_lt hy
    refine ⟨(pix P y : Int), by rw [mem_rg]; omega, ?_⟩
    show P.getD ((pix P y : Int)).toNat 0 = y
    rw [Int.toNat_natCast, getD_pix hy]
/-! ### the rows in their order -/
theorem powF_nd : ∀ {ps : List Int} {f : List (List Int)}, f.Nodup → ps.Nodup → (∀ l ∈ f, ∀ x ∈ ps, x ∉ l) → (powF f ps).Nodup
  | [], _, h, _, _ => h
  | p :: ps, f, h, hp, hd => by
    obtain ⟨np, hp⟩ := List.nodup_cons.mp hp
    refine powF_nd (ps := ps) ?_ hp fun l hl x hx m => ?_
    · refine List.nodup_append.mpr ⟨h, ?_, fun a ha b hb e => ?_⟩
      · refine List.nodup_iff_pairwise_ne.mpr (List.pairwise_map.mpr ((List.nodup_iff_pairwise_ne.mp h).imp fun {a b} q e => q (List.append_cancel_right e)))
      · obtain ⟨c, hc, rfl⟩ := List.mem_map.mp hb
        exact hd a ha p List.mem_cons_self (by rw [e]; simp)
    · rcases List.mem_append.mp hl with q | q
      · exact hd l q x (List.mem_cons_of_mem _ hx) m
      · obtain ⟨c, hc, rfl⟩
            := List.mem_map.mp q
        rcases List.mem_append.mp m with m | m
        · exact hd c hc x (List.mem_cons_of_mem _ hx) m
        · rw [List.mem_singleton.mp m] at hx
          exact np hx
theorem lotsOf_nd {ps : List Int} (h : ps.Nodup) : (lotsOf ps).Nodup := (sortT_perm _).nodup_iff.mpr (powF_nd (List.nodup_cons.mpr ⟨by simp, List.nodup_nil⟩) h fun l hl x _ => by rw [List.mem_singleton.mp hl]; simp)
theorem le3_first {a b : SayS.Row3} (h : a.1 < b.1) : le3 a b = true := by
  show (!HT.lexLt (b.1 :: b.2.1 :: b.2.2) (a.1 :: a.2.1 :: a.2.2)) = true
  rw [HT.lexLt_cons, if_neg (by omega), decide_eq_false (by omega)]
  rfl
theorem le3_second {a b : SayS.Row3} (e : a.1 = b.1) (h : a.2.1 < b.2.1) : le3 a b = true := by
  show (!HT.lexLt (b.1 :: b.2.1 :: b.2.2) (a.1 :: a.2.1 :: a.2.2)) = true
  rw [HT.lexLt_cons, if_pos e.symm, HT.lexLt_cons, if_neg (by omega), decide_eq_false (by omega)]
  rfl
theorem le3_third {i j : Int} {l l' : List Int} (h : leT l l' = true) : le3 (i, j, l) (i, j, l') = true := by
  show (!HT.lexLt (i :: j :: l') (i :: j :: l)) = true
  rw [HT.lexLt_cons, if_pos rfl, HT.lexLt_cons, if_pos rfl]
  exact h
def R3 (a b : SayS.Row3) : Prop := le3 a b = true ∧ a ≠ b
theorem allA_asc (n : Nat) (E : List (Int × Int)) : (allA n E).Pairwise R3 := by
  unfold allA
  refine List.pairwise_flatMap.mpr ⟨fun i hi => ?_, ?_⟩
  · unfold rowsI
    refine List.pairwise_flatMap.mpr ⟨fun k hk => ?_, ?_⟩
    · unfold rowsOf
      refine List.pairwise_map.mpr ?_
      have nd : (restOf n (i : Int) ((i + 1 + k : Nat) : Int)).Nodup := (asc_nodup (rg_asc n)).sublist List.filter_sublist
      refine List.Pairwise.imp ?_ ((((sortT_pw (powF [[]] (restOf n (i : Int) ((i + 1 + k : Nat) : Int)))).and (List.nodup_iff_pairwise_ne.mp (lotsOf_nd nd))).filter _))
      rintro a b ⟨q1, q2⟩
      exact ⟨le3_third q1, fun e => q2 (congrArg (fun r : SayS.Row3 => r.2.2) e)⟩
    · refine List.Pairwise.imp_of_mem ?_ (List.pairwise_lt_range (n := n - (i + 1)))
      intro a b _ _ lt x hx y hy
      unfold rowsOf at hx hy
      obtain ⟨l, _, rfl⟩ := List.mem_map.mp hx
      obtain ⟨l', _, rfl⟩ := List.mem_map.mp hy
      refine ⟨le3_second rfl (by show ((i + 1 + a : Nat) : Int) < ((i + 1 + b : Nat) : Int); omega), fun e => ?_⟩
      have : ((i + 1 + a : Nat) : Int) = ((i + 1 + b : Nat) : Int) := congrArg (fun r : SayS.Row3 => r.2.1) e
      omega
  · refine List.Pairwise.imp_of_mem ?_ (List.pairwise_lt_range (n := n))
    intro a b _ _ lt x hx y hy
    have first : ∀ (i : Nat) x, x ∈ rowsI n E i → x.1 = (i : Int) := fun i x hx => by
      unfold rowsI rowsOf at hx
      obtain ⟨k, _, hx⟩ := List.mem_flatMap.mp hx
      obtain ⟨l, _, rfl⟩ := List.mem_map.mp hx
      rfl
    have e1 := first a x hx
    have e2 := first b y hy
    refine ⟨le3_first (by omega), fun e => ?_⟩
    rw [e] at e1
    omega
theorem allA_nd (n : Nat) (E : List (Int × Int)) : (allA n E).Nodup := List.nodup_iff_pairwise_ne.mpr ((allA_asc n E).imp fun q => q.2)
/-! ### a place without targets, struck -/
def rst (n : Nat) (g : Int) : List Int := (rg n).filter fun z => !decide (z = g)
theorem mem_rst {g z : Int} : z ∈ rst n g ↔ z ∈ rg n ∧ z ≠ g := by
  unfold rst
  rw [List.mem_filter, Bool.not_eq_true', decide_eq_false_iff_not]
theorem rst_lt (n : Nat) (g : Int) : Lt n (rst n g) := ⟨(rg_asc n).filter _, fun x hx => (mem_rst.mp hx).1⟩
def keepB (g : Int) (r : SayS.Row3) : Bool := !decide (g ∈ [r.1, r.2.1]) && !decide (g ∈ r.2.2)
def mvR (P : List Int) (r : SayS.Row3) : SayS.Row3 := ((pix P r.1 : Int), (pix P r.2.1 : Int), mv P r.2.2)
noncomputable def dueR (n : Nat) (E : List (Int × Int)) (g : Int) : List SayS.Row3 := ((allA n E).filter (keepB g)).map (mvR (rst n g))
theorem keep_in {g : Int} {r : SayS.Row3} (hr : r ∈ allA n E) (hk : keepB g r = true) : r.1 ∈ rst n g ∧ r.2.1 ∈ rst n g ∧ ∀ x ∈ r.2.2, x ∈ rst n g := by
  obtain ⟨h1, h2, h3, h4, h5⟩ := mem_allA.mp hr
  unfold keepB at hk
  rw [Bool.and_eq_true, Bool.not_eq_true', Bool.not_eq_true', decide_eq_false_iff_not, decide_eq_false_iff_not] at hk
  have k1 := hk.1
  simp only [List.mem_cons, List.not_mem_nil, or_false, not_or] at k1
  refine ⟨mem_rst.mpr ⟨h1, Ne.symm k1.1⟩, mem_rst.mpr ⟨h2, Ne.symm k1.2⟩, fun x hx => mem_rst.mpr ⟨(List.mem_filter.mp (h4.subset hx)).1, fun e => hk.2 (by rw [← e]; exact hx)⟩⟩
theorem asc_sublist {l m : List Int} (hl : l.Pairwise (· < ·)) (hm : m.Pairwise (· < ·)) (h : ∀ x ∈ l, x ∈ m) : l.Sublist m := by
  have e : l = m.filter fun z => decide (z ∈ l) := asc_ext hl (hm.filter _) fun z => by
    rw [List.mem_filter, decide_eq_true_iff]
    exact ⟨fun q => ⟨h z q, q⟩, fun q => q.2⟩
  rw [e]
  exact List.filter_sublist
theorem due_ok (g : Good n E) {s : Int} (hs : s ∈ rg n) (noT : ∀ x, ¬ ar E s x) (hlen : (rst n s).length = n - 1) : allA (n - 1) (partE (rst n s) E) = sort3 (dueR n E s) := by
  have hP := rst_lt n s
  have cl : ∀ y x, x ∈ rst n s → ar E y x → y ∈ rst n s := fun y x _ e => mem_rst.mpr ⟨mem_rg.mpr (g.rng _ e).1, fun q => noT x (by rw [← q]; exact e)⟩
  refine sort3_uniq ?_ ((allA_asc _ _).imp fun q => q.1)
  refine (List.perm_ext_iff_of_nodup (allA_nd _ _) ?_).mpr fun r => ?_
  · unfold dueR
    refine List.nodup_iff_pairwise_ne.mpr (List.pairwise_map.mpr (List.Pairwise.imp_of_mem ?_ (List.nodup_iff_pairwise_ne.mp ((allA_nd n E).sublist List.filter_sublist))))
    intro a b ha hb ne e
    obtain ⟨a1, a2⟩ := List.mem_filter.mp ha
    obtain ⟨b1, b2⟩ := List.mem_filter.mp hb
    obtain ⟨p1, p2, p3⟩ := keep_in a1 a2
    obtain ⟨q1, q2, q3⟩ := keep_in b1 b2
    have e1 : (pix (rst n s) a.1 : Int) = pix (rst n s) b.1 := congrArg (fun r : SayS.Row3 => r.1) e
    have e2 : (pix (rst n s) a.2.1 : Int) = pix (rst n s) b.2.1 := congrArg (fun r : SayS.Row3 => r.2.1) e
    have e3 : mv (rst n s) a.2.2 = mv (rst n s) b.2.2 := congrArg (fun r : SayS.Row3 => r.2.2) e
    refine ne (Prod.ext (pix_inj p1 q1 (by omega)) (Prod.ext (pix_inj p2 q2 (by omega)) ?_))
    have ex : ∀ x, x ∈ a.2.2 ↔ x ∈ b.2.2 := fun x => by
      constructor
      · intro h
        have := (mv_mem p3 (p3 x h)).mpr h
        rw [e3] at this
        exact (mv_mem q3 (p3 x h)).mp this
      · intro h
        have := (mv_mem q3 (q3 x h)).mpr h
        rw [← e3] at this
        exact (mv_mem p3 (q3 x h)).mp this
    have sa := (mem_allA.mp a1).2.2.2.1
    have sb := (mem_allA.mp b1).2.2.2.1
    exact asc_ext (((rg_asc n).filter _).sublist sa) (((rg_asc n).filter _).sublist sb) ex
  · unfold dueR
    rw [List.mem_map]
    constructor
    · intro hr
      obtain ⟨h1, h2, h3, h4, h5⟩ := mem_allA.mp hr
      obtain ⟨i, j, l⟩ := r
      simp only at h1 h2 h3 h4 h5
      have at_ : ∀ i : Int, i ∈ rg (n - 1) → (pix (rst n s) ((rst n s).getD i.toNat 0) : Int) = i ∧ (rst n s).getD i.toNat 0 ∈ rst n s := fun i hi => by
        have := mem_rg.mp hi
        have h : i.toNat < (rst n s).length := by omega
        rw [pix_get hP.nd h]
        exact ⟨by omega, getD_mem' h⟩
      have hl : ∀ x ∈ l, x ∈ rg (n - 1) := fun x hx => (List.mem_filter.mp (h4.subset hx)).1
      have hli : ∀ x ∈ l, x ≠ i ∧ x ≠ j := fun x hx => by
        have := (List.mem_filter.mp (h4.subset hx)).2
        simp at this
        exact this
      have lasc : l.Pairwise (· < ·) := ((rg_asc _).filter _).sublist h4
      have unm : ∃ l0 : List Int, l0.Pairwise (· < ·) ∧ (∀ x ∈ l0, x ∈ rst n s) ∧ mv (rst n s) l0 = l := by
        refine ⟨l.map fun x => (rst n s).getD x.toNat 0, ?_, fun x hx => ?_, ?_⟩
        · refine List.pairwise_map.mpr (List.Pairwise.imp_of_mem ?_ lasc)
          intro a b ha hb lt
          have qa := at_ a (hl a ha)
          have qb := at_ b (hl b hb)
          refine (pix_mono hP.asc qa.2 qb.2).mpr ?_
          have := qa.1
          have := qb.1
          omega
        · obtain ⟨y, hy, rfl⟩ := List.mem_map.mp hx
          exact (at_ y (hl y hy)).2
        · unfold mv
          rw [List.map_map]
          refine (List.map_congr_left fun x hx => (at_ x (hl x hx)).1).trans (List.map_id' _)
      obtain ⟨l0, l1, l2, l3⟩ := unm
      obtain ⟨ei, mi⟩ := at_ i h1
      obtain ⟨ej, mj⟩ := at_ j h2
      generalize (rst n s).getD i.toNat 0 = i0 at ei mi
      generalize (rst n s).getD j.toNat 0 = j0 at ej mj
      have lt0 : i0 < j0 := (pix_mono hP.asc mi mj).mpr (by omega)
      have ni : i0 ∉ l0 := fun m => (hli _ (by rw [← l3]; exact List.mem_map.mpr ⟨i0, m, rfl⟩)).1 ei
      have nj : j0 ∉ l0 := fun m => (hli _ (by rw [← l3]; exact List.mem_map.mpr ⟨j0, m, rfl⟩)).2 ej
      have cp := con_part g hP cl (a := [i0]) (b := [j0]) (c := l0) (fun x hx => by rw [List.mem_singleton.mp hx]; exact ni) (fun x hx => by rw [List.mem_singleton.mp hx]; exact nj) (fun x hx => by rw [List.mem_singleton.mp hx]; exact mi) (fun x hx => by rw [List.mem_singleton.mp hx]; exact mj) l2
      refine ⟨(i0, j0, l0), List.mem_filter.mpr ⟨mem_allA.mpr ⟨(mem_rst.mp mi).1, (mem_rst.mp mj).1, lt0, ?_, ?_⟩, ?_⟩, ?_⟩
      · refine asc_sublist l1 ((rg_asc n).filter _) fun x hx => List.mem_filter.mpr ⟨(mem_rst.mp (l2 x hx)).1, ?_⟩
        have e1 : x ≠ i0 := fun e => ni (by rw [← e]; exact hx)
        have e2 : x ≠ j0 := fun e => nj (by rw [← e]; exact hx)
        simp [e1, e2]
      · rw [← cp, l3]
        show conB (partE (rst n s) E) [(pix (rst n s) i0 : Int)] [(pix (rst n s) j0 : Int)] l = false
        rw [ei, ej]
        exact h5
      · have e1 := (mem_rst.mp mi).2
        have e2 := (mem_rst.mp mj).2
        have e3 : s ∉ l0 := fun m => (mem_rst.mp (l2 s m)).2 rfl
        unfold keepB
        simp [Ne.symm e1, Ne.symm e2, e3]
      · show ((pix (rst n s) i0 : Int), (pix (rst n s) j0 : Int), mv (rst n s) l0) = (i, j, l)
        rw [ei, ej, l3]
    · rintro ⟨r0, hr0, rfl⟩
      obtain ⟨a1, a2⟩ := List.mem_filter.mp hr0
      obtain ⟨p1, p2, p3⟩ := keep_in a1 a2
      obtain ⟨h1, h2, h3, h4, h5⟩ := mem_allA.mp a1
      obtain ⟨i, j, l⟩ := r0
      simp only at p1 p2 p3 h1 h2 h3 h4 h5
      have lasc : l.Pairwise (· < ·) := ((rg_asc _).filter _).sublist h4
      have hli : ∀ x ∈ l, x ≠ i ∧ x ≠ j := fun x hx => by
        have := (List.mem_filter.mp (h4.subset hx)).2
        simp at this
        exact this
      have ni : i ∉ l := fun m => (hli _ m).1 rfl
      have nj : j ∉ l := fun m => (hli _ m).2 rfl
      have cp := con_part g hP cl (a := [i]) (b := [j]) (c := l) (fun x hx => by rw [List.mem_singleton.mp hx]; exact ni) (fun x hx => by rw [List.mem_singleton.mp hx]; exact nj) (fun x hx => by rw [List.mem_singleton.mp hx]; exact p1) (fun x hx => by rw [List.mem_singleton.mp hx]; exact p2) p3
      have ml := mv_lt hP lasc p3
      have q1 := pix_lt p1
      have q2 := pix_lt p2
      have q3 := (pix_mono hP.asc p1 p2).mp h3
      refine mem_allA.mpr ⟨?_, ?_, ?_, ?_, ?_⟩
      · show (pix (rst n s) i : Int) ∈ rg (n - 1)
        rw [mem_rg]; omega
      · show (pix (rst n s) j : Int) ∈ rg (n - 1)
        rw [mem_rg]; omega
      · show (pix (rst n s) i : Int) < (pix (rst n s) j : Int)
        omega
      · refine asc_sublist ml.asc ((rg_asc _).filter _) fun x hx => List.mem_filter.mpr ⟨by have := ml.rng x hx; rw [hlen] at this; exact this, ?_⟩
        obtain ⟨y, hy, rfl⟩
            := List.mem_map.mp hx
        have e1 : (pix (rst n s) y : Int) ≠ pix (rst n s) i := fun e => (hli y hy).1 (pix_inj (p3 y hy) p1 (by omega))
        have e2 : (pix (rst n s) y : Int) ≠ pix (rst n s) j := fun e => (hli y hy).2 (pix_inj (p3 y hy) p2 (by omega))
        show (!decide ((pix (rst n s) y : Int) ∈ [(pix (rst n s) i : Int), (pix (rst n s) j : Int)])) = true
        simp only [List.mem_cons, List.not_mem_nil, or_false, e1, e2, or_self, decide_false, Bool.not_false]
      · exact cp.trans h5
end
end SayLaw

namespace SayLaw
open Say
theorem tr_nx {α : Type} {C : Nat} {m : M α} {P : α → Prop} (h : Tr C m P) : Tr C (Say.nx m) P := fun s ok hs => by
  have := h s ok hs
  unfold wpM at this ⊢
  unfold Say.nx
  cases e : m s with
  | ok a s' => rw [e] at this; exact this
  | exc c fs s' => rw [e] at this; exact this.elim
  | bad => rw [e] at this; exact this
/-- a comprehension whose test draws -/
theorem compL_tr {α : Type} {h : D → Option Say.Env} {t : Say.Env → M Bool} {e : Say.Env → M D} (f y : α → D) (C : Nat) : ∀ l : List α, (∀ a ∈ l, ∃ ρ, h (f a) = some ρ ∧ Tr C (t ρ) (fun _ => True) ∧ e ρ = pure (y a)) → Tr (C * l.length) (compL h t e (l.map f)) (fun xs => ∃ l' : List α, l'.Sublist l ∧ xs = l'.map y)
  | [], _ => Tr.pure ⟨[], List.Sublist.refl _, rfl⟩
  | a :: l, H => by
    obtain ⟨ρ, h1, h2, h3⟩ := H a List.mem_cons_self
    have ih := compL_tr f y C l fun x hx => H x (List.mem_cons_of_mem _ hx)
    show Tr _ (bindT (h (f a)) fun ρ => Say.nx (t ρ) >>= fun b => if b = true then Say.nx (e ρ) >>= fun y => compL h t e (l.map f) >>= fun ys => pure (y :: ys) else compL h t e (l.map f)) _
    rw [h1]
    refine Tr.bind (C1 := C) (C2 := C * l.length) (tr_nx h2) (fun b _ => ?_) (by rw [List.length_cons, Nat.mul_add]; omega)
    cases b with
    | false =>
      rw [if_neg (by decide)]
      exact ih.mono (fun xs ⟨l', hl, e⟩ => ⟨l', hl.cons a, e⟩)
    | true =>
      rw [if_pos rfl, h3, nx_pure, Say.pure_bind]
      refine Tr.bind (C2 := 0) ih (fun xs ⟨l', hl, e⟩ => Tr.pure ⟨a :: l', hl.cons_cons a, by rw [e]; rfl⟩) (by omega)
theorem ne_bl (x y : Bool) : neD (.bl x) (.bl y) = some (.bl (!decide (x = y))) := by cases x <;> cases y <;> rfl
theorem ne_prD (x y : Int × Int) : neD (prD x) (prD y) = some (.bl (!decide (x = y))) := by
  have hp : ∀ z : Int × Int, (prD z).plain = true := fun z => plain_prD 59 z
  show (if ((prD x).plain && (prD y).plain) = true then some (D.bl (!eqV (prD x) (prD y))) else none) = _
  rw [if_pos (by rw [hp, hp]; rfl)]
  refine congrArg some (congrArg D.bl (congrArg not ?_))
  rw [Bool.eq_iff_iff, eqV_prD, decide_eq_true_iff]
theorem ne_rows (l : List SayS.Row3) : neD (.tup (l.map rowD)) (.tup (l.map rowD)) = some (.bl false) := by
  have hp : (D.tup (l.map rowD)).plain = true := by
    show (D.tup (l.map rowD)).plainN 60 = true
    simp only [D.plainN]
    exact plainL_map rowD (plain_row 57) l
  show (if ((D.tup (l.map rowD)).plain && (D.tup (l.map rowD)).plain) = true then some (D.bl (!eqV (.tup (l.map rowD)) (.tup (l.map rowD)))) else none) = _
  rw [if_pos (by rw [hp]; rfl), eqV_tup, (eqL_map rowD rowD_eq l l).mpr rfl]
  rfl
theorem nin_prs (a b : Int) (xs : List (Int × Int)) : ninD (.tup [.int a, .int b]) (.tup (xs.map prD)) = some (.bl (!decide ((a, b) ∈ xs))) := by
  have hp : (D.tup (xs.map prD)).plain = true := by
    show (D.tup (xs.map prD)).plainN 60 = true
    simp only [D.plainN]
    exact plainL_map prD (plain_prD 58) xs
  show (if ((prD (a, b)).plain && (D.tup (xs.map prD)).plain) = true then some (D.bl (!((xs.map prD).any fun y => eqV y (prD (a, b))))) else none) = _
  rw [if_pos (by rw [hp, show (prD (a, b)).plain = true from plain_prD 59 (a, b)]; rfl), any_eq prD eqV_prD]
  exact congrArg some (congrArg D.bl (congrArg not (decide_eq_decide.mpr Iff.rfl)))
section
variable {n : Nat} {E : List (Int × Int)}
def thinE (E : List (Int × Int)) (a : Int × Int) : List (Int × Int) := E.filter fun x => !decide (x = a)
theorem mem_thin {a x : Int × Int} : x ∈ thinE E a ↔ x ∈ E ∧ x ≠ a := by
  unfold thinE
  rw [List.mem_filter, Bool.not_eq_true', decide_eq_false_iff_not]
theorem thin_good (g : Good n E) (a : Int × Int) : Good n (thinE E a) := by
  obtain ⟨r, hr⟩ := g.rank
  exact ⟨fun x hx => g.rng x (mem_thin.mp hx).1, g.srt.filter _, ⟨r, fun x hx => hr x (mem_thin.mp hx).1⟩, Nat.le_trans (List.length_filter_le _ _) g.len⟩
theorem without_ok (g : Good n E) (h1 : 1 ≤ n) (hn : n ≤ 100) {a : Int × Int} (ha : a ∈ E) : m_without_arrow [webD n E, prD a] = pure (webD n (thinE E a)) := by
  have hA := arrow_ok n a.1 a.2 (g.rng a ha).1 (g.rng a ha).2 (g.ne ha)
  have hA : m_is_arrow [.int (n : Int), prD a] = pure (.bl true) := hA
  have hT : m_arrow_told [webD n E, prD a] = pure (prD a) := by
    simp only [m_arrow_told, S_arrow_told, runS, startE, sSeq, sIf, sSet, sRet, sRetN, sNil, sParV, sFor, sApp, sAppPop, tCmp, tVal, tAnd, tOr, tNot, tYes, tThaw, andB, orB, notB, andV, orV, notV, dC, dBin, dBlt, dVar, dCall, dNew, dThaw, dTup, dIf, dAnd, dOr, dNot, dIsi, dSl, dAttr, oN, oS, nLst, nList, nRng1, nRng2, nSeq, nOwn, nSorted, nThaw, gNm, vD, vN, seqV, setE, Say.pure_bind, Say.bind_assoc, List.getElem?_cons_zero, List.getElem?_cons_succ, seqA, slD, List.set_cons_succ, List.set_cons_zero, thaw, Sl.thaw, List.map_cons, List.map_nil, lift_some, truB_bl, bindT, ownL, slOwn, List.length_cons, List.length_nil, List.cons_append, List.nil_append, List.replicate, Nat.reduceAdd, Nat.reduceSub, List.all_cons, List.all_nil, mkTup0, mkTup1, mkTup2, mkLst0, mkLst1, mkLst4, mkLst5, mkLst8, wipeE, sPar, sOwnS, sStore2, sPut, dNeg, negD, sOwnK, nListK, dDget, tDin, dDin, nSetS, sPop, sDput, sExt, ownK, dDc, sWhile, sBad, sAsg, sDrop, nSortT, size_at, arrows_at, hA, Bool.not_true, Bool.false_eq_true, if_false]
    rw [show tupleD [prD a] = some (prD a) from rfl]
    simp only [runS, startE, sSeq, sIf, sSet, sRet, sRetN, sNil, sParV, sFor, sApp, sAppPop, tCmp, tVal, tAnd, tOr, tNot, tYes, tThaw, andB, orB, notB, andV, orV, notV, dC, dBin, dBlt, dVar, dCall, dNew, dThaw, dTup, dIf, dAnd, dOr, dNot, dIsi, dSl, dAttr, oN, oS, nLst, nList, nRng1, nRng2, nSeq, nOwn, nSorted, nThaw, gNm, vD, vN, seqV, setE, Say.pure_bind, Say.bind_assoc, List.getElem?_cons_zero, List.getElem?_cons_succ, seqA, slD, List.set_cons_succ, List.set_cons_zero, thaw, Sl.thaw, List.map_cons, List.map_nil, lift_some, truB_bl, bindT, ownL, slOwn, List.length_cons, List.length_nil, List.cons_append, List.nil_append, List.replicate, Nat.reduceAdd, Nat.reduceSub, List.all_cons, List.all_nil, mkTup0, mkTup1, mkTup2, mkLst0, mkLst1, mkLst4, mkLst5, mkLst8, wipeE, sPar, sOwnS, sStore2, sPut, dNeg, negD, sOwnK, nListK, dDget, tDin, dDin, nSetS, sPop, sDput, sExt, ownK, dDc, sWhile, sBad, sAsg, sDrop, nSortT]
    rw [show ninD (prD a) (.tup (E.map prD)) = some (.bl (!decide (a ∈ E))) from nin_prs a.1 a.2 E]
    simp only [runS, startE, sSeq, sIf, sSet, sRet, sRetN, sNil, sParV, sFor, sApp, sAppPop, tCmp, tVal, tAnd, tOr, tNot, tYes, tThaw, andB, orB, notB, andV, orV, notV, dC, dBin, dBlt, dVar, dCall, dNew, dThaw, dTup, dIf, dAnd, dOr, dNot, dIsi, dSl, dAttr, oN, oS, nLst, nList, nRng1, nRng2, nSeq, nOwn, nSorted, nThaw, gNm, vD, vN, seqV, setE, Say.pure_bind, Say.bind_assoc, List.getElem?_cons_zero, List.getElem?_cons_succ, seqA, slD, List.set_cons_succ, List.set_cons_zero, thaw, Sl.thaw, List.map_cons, List.map_nil, lift_some, truB_bl, bindT, ownL, slOwn, List.length_cons, List.length_nil, List.cons_append, List.nil_append, List.replicate, Nat.reduceAdd, Nat.reduceSub, List.all_cons, List.all_nil, mkTup0, mkTup1, mkTup2, mkLst0, mkLst1, mkLst4, mkLst5, mkLst8, wipeE, sPar, sOwnS, sStore2, sPut, dNeg, negD, sOwnK, nListK, dDget, tDin, dDin, nSetS, sPop, sDput, sExt, ownK, dDc, sWhile, sBad, sAsg, sDrop, nSortT, ha, decide_true, Bool.not_true, Bool.false_eq_true, if_false]
  have el : lcM [3] (nSeq (dAttr CS "arrows" (dVar 0))) (gNm 3) (tCmp neD (dVar 3) (dVar 2)) (dVar 3) [.dat (webD n E), .dat (prD a), .dat (prD a), .no] = pure ((thinE E a).map prD) := by
    refine lc_nm (l := E) prD (fun x => !decide (x = a)) prD ?_ rfl fun x _ => ?_
    · simp only [runS, startE, sSeq, sIf, sSet, sRet, sRetN, sNil, sParV, sFor, sApp, sAppPop, tCmp, tVal, tAnd, tOr, tNot, tYes, tThaw, andB, orB, notB, andV, orV, notV, dC, dBin, dBlt, dVar, dCall, dNew, dThaw, dTup, dIf, dAnd, dOr, dNot, dIsi, dSl, dAttr, oN, oS, nLst, nList, nRng1, nRng2, nSeq, nOwn, nSorted, nThaw, gNm, vD, vN, seqV, setE, Say.pure_bind, Say.bind_assoc, List.getElem?_cons_zero, List.getElem?_cons_succ, seqA, slD, List.set_cons_succ, List.set_cons_zero, thaw, Sl.thaw, List.map_cons, List.map_nil, lift_some, truB_bl, bindT, ownL, slOwn, List.length_cons, List.length_nil, List.cons_append, List.nil_append, List.replicate, Nat.reduceAdd, Nat.reduceSub, List.all_cons, List.all_nil, mkTup0, mkTup1, mkTup2, mkLst0, mkLst1, mkLst4, mkLst5, mkLst8, wipeE, sPar, sOwnS, sStore2, sPut, dNeg, negD, sOwnK, nListK, dDget, tDin, dDin, nSetS, sPop, sDput, sExt, ownK, dDc, sWhile, sBad, sAsg, sDrop, nSortT, arrows_at]
      rfl
    · simp only [runS, startE, sSeq, sIf, sSet, sRet, sRetN, sNil, sParV, sFor, sApp, sAppPop, tCmp, tVal, tAnd, tOr, tNot, tYes, tThaw, andB, orB, notB, andV, orV, notV, dC, dBin, dBlt, dVar, dCall, dNew, dThaw, dTup, dIf, dAnd, dOr, dNot, dIsi, dSl, dAttr, oN, oS, nLst, nList, nRng1, nRng2, nSeq, nOwn, nSorted, nThaw, gNm, vD, vN, seqV, setE, Say.pure_bind, Say.bind_assoc, List.getElem?_cons_zero, List.getElem?_cons_succ, seqA, slD, List.set_cons_succ, List.set_cons_zero, thaw, Sl.thaw, List.map_cons, List.map_nil, lift_some, truB_bl, bindT, ownL, slOwn, List.length_cons, List.length_nil, List.cons_append, List.nil_append, List.replicate, Nat.reduceAdd, Nat.reduceSub, List.all_cons, List.all_nil, mkTup0, mkTup1, mkTup2, mkLst0, mkLst1, mkLst4, mkLst5, mkLst8, wipeE, sPar, sOwnS, sStore2, sPut, dNeg, negD, sOwnK, nListK, dDget, tDin, dDin, nSetS, sPop, sDput, sExt, ownK, dDc, sWhile, sBad, sAsg, sDrop, nSortT, ne_prD]
      exact ⟨trivial, fun _ => trivial⟩
  simp only [m_without_arrow, S_without_arrow, runS, startE, sSeq, sIf, sSet, sRet, sRetN, sNil, sParV, sFor, sApp, sAppPop, tCmp, tVal, tAnd, tOr, tNot, tYes, tThaw, andB, orB, notB, andV, orV, notV, dC, dBin, dBlt, dVar, dCall, dNew, dThaw, dTup, dIf, dAnd, dOr, dNot, dIsi, dSl, dAttr, oN, oS, nLst, nList, nRng1, nRng2, nSeq, nOwn, nSorted, nThaw, gNm, vD, vN, seqV, setE, Say.pure_bind, Say.bind_assoc, List.getElem?_cons_zero, List.getElem?_cons_succ, seqA, slD, List.set_cons_succ, List.set_cons_zero, thaw, Sl.thaw, List.map_cons, List.map_nil, lift_some, truB_bl, bindT, ownL, slOwn, List.length_cons, List.length_nil, List.cons_append, List.nil_append, List.replicate, Nat.reduceAdd, Nat.reduceSub, List.all_cons, List.all_nil, mkTup0, mkTup1, mkTup2, mkLst0, mkLst1, mkLst4, mkLst5, mkLst8, wipeE, sPar, sOwnS, sStore2, sPut, dNeg, negD, sOwnK, nListK, dDget, tDin, dDin, nSetS, sPop, sDput, sExt, ownK, dDc, sWhile, sBad, sAsg, sDrop, nSortT, hT, size_at]
  rw [el]
  simp only [runS, startE, sSeq, sIf, sSet, sRet, sRetN, sNil, sParV, sFor, sApp, sAppPop, tCmp, tVal, tAnd, tOr, tNot, tYes, tThaw, andB, orB, notB, andV, orV, notV, dC, dBin, dBlt, dVar, dCall, dNew, dThaw, dTup, dIf, dAnd, dOr, dNot, dIsi, dSl, dAttr, oN, oS, nLst, nList, nRng1, nRng2, nSeq, nOwn, nSorted, nThaw, gNm, vD, vN, seqV, setE, Say.pure_bind, Say.bind_assoc, List.getElem?_cons_zero, List.getElem?_cons_succ, seqA, slD, List.set_cons_succ, List.set_cons_zero, thaw, Sl.thaw, List.map_cons, List.map_nil, lift_some, truB_bl, bindT, ownL, slOwn, List.length_cons, List.length_nil, List.cons_append, List.nil_append, List.replicate, Nat.reduceAdd, Nat.reduceSub, List.all_cons, List.all_nil, mkTup0, mkTup1, mkTup2, mkLst0, mkLst1, mkLst4, mkLst5, mkLst8, wipeE, sPar, sOwnS, sStore2, sPut, dNeg, negD, sOwnK, nListK, dDget, tDin, dDin, nSetS, sPop, sDput, sExt, ownK, dDc, sWhile, sBad, sAsg, sDrop, nSortT, web_okL (thin_good g a) h1 hn]
theorem with_ok (g : Good n E) (h1 : 1 ≤ n) (hn : n ≤ 100) {a : Int × Int} (ha : a ∈ E) : m_with_arrow [webD n (thinE E a), prD a] = pure (webD n E) := by
  have hA := arrow_ok n a.1 a.2 (g.rng a ha).1 (g.rng a ha).2 (g.ne ha)
  have hA : m_is_arrow [.int (n : Int), prD a] = pure (.bl true) := hA
  have n1 : (a.1, a.2) ∉ thinE E a := fun q => (mem_thin.mp q).2 rfl
  have n2 : (a.2, a.1) ∉ thinE E a := fun q => g.back ha (mem_thin.mp q).1
  have hT : m_is_tie [webD n (thinE E a), .int a.1, .int a.2] = pure (.bl false) := by
    simp only [m_is_tie, S_is_tie, runS, startE, sSeq, sIf, sSet, sRet, sRetN, sNil, sParV, sFor, sApp, sAppPop, tCmp, tVal, tAnd, tOr, tNot, tYes, tThaw, andB, orB, notB, andV, orV, notV, dC, dBin, dBlt, dVar, dCall, dNew, dThaw, dTup, dIf, dAnd, dOr, dNot, dIsi, dSl, dAttr, oN, oS, nLst, nList, nRng1, nRng2, nSeq, nOwn, nSorted, nThaw, gNm, vD, vN, seqV, setE, Say.pure_bind, Say.bind_assoc, List.getElem?_cons_zero, List.getElem?_cons_succ, seqA, slD, List.set_cons_succ, List.set_cons_zero, thaw, Sl.thaw, List.map_cons, List.map_nil, lift_some, truB_bl, bindT, ownL, slOwn, List.length_cons, List.length_nil, List.cons_append, List.nil_append, List.replicate, Nat.reduceAdd, Nat.reduceSub, List.all_cons, List.all_nil, mkTup0, mkTup1, mkTup2, mkLst0, mkLst1, mkLst4, mkLst5, mkLst8, wipeE, sPar, sOwnS, sStore2, sPut, dNeg, negD, sOwnK, nListK, dDget, tDin, dDin, nSetS, sPop, sDput, sExt, ownK, dDc, sWhile, sBad, sAsg, sDrop, nSortT, arrows_at, in_prs', n1, n2, decide_false]
    rfl
  have es : sortP (thinE E a ++ [a]) = E := by
    have nd : E.Nodup := List.nodup_iff_pairwise_ne.mpr (g.srt.imp fun {x y} q e => by rw [e] at q; omega)
    have pm : E.Perm (thinE E a ++ [a]) := by
      refine (List.perm_ext_iff_of_nodup nd (List.nodup_append.mpr ⟨nd.sublist List.filter_sublist, by simp, fun x hx y hy e => ?_⟩)).mpr fun x => ?_
      · rw [List.mem_singleton.mp hy] at e
        exact (mem_thin.mp hx).2 e
      · show x ∈ E ↔ x ∈ thinE E a ++ [a]
        rw [List.mem_append, List.mem_singleton, mem_thin]
        constructor
        · intro h
          by_cases e : x = a
          · exact .inr e
          · exact .inl ⟨h, e⟩
        · rintro (h | h)
          · exact h.1
          · rw [h]; exact ha
    refine (sortP_uniq pm (g.srt.imp fun {x y} q => ?_)).symm
    unfold leP
    simp
    rcases q with q | ⟨q1, q2⟩
    · exact .inl q
    · exact .inr ⟨q1, by omega⟩
  have hl : (thinE E a).length ≤ 1000 := (thin_good g a).len
  simp only [m_with_arrow, S_with_arrow, runS, startE, sSeq, sIf, sSet, sRet, sRetN, sNil, sParV, sFor, sApp, sAppPop, tCmp, tVal, tAnd, tOr, tNot, tYes, tThaw, andB, orB, notB, andV, orV, notV, dC, dBin, dBlt, dVar, dCall, dNew, dThaw, dTup, dIf, dAnd, dOr, dNot, dIsi, dSl, dAttr, oN, oS, nLst, nList, nRng1, nRng2, nSeq, nOwn, nSorted, nThaw, gNm, vD, vN, seqV, setE, Say.pure_bind, Say.bind_assoc, List.getElem?_cons_zero, List.getElem?_cons_succ, seqA, slD, List.set_cons_succ, List.set_cons_zero, thaw, Sl.thaw, List.map_cons, List.map_nil, lift_some, truB_bl, bindT, ownL, slOwn, List.length_cons, List.length_nil, List.cons_append, List.nil_append, List.replicate, Nat.reduceAdd, Nat.reduceSub, List.all_cons, List.all_nil, mkTup0, mkTup1, mkTup2, mkLst0, mkLst1, mkLst4, mkLst5, mkLst8, wipeE, sPar, sOwnS, sStore2, sPut, dNeg, negD, sOwnK, nListK, dDget, tDin, dDin, nSetS, sPop, sDput, sExt, ownK, dDc, sWhile, sBad, sAsg, sDrop, nSortT, size_at, arrows_at, hA, Bool.not_true, Bool.false_eq_true, if_false]
  rw [show ixD (prD a) (.int 0) = some (.int a.1) from rfl, show ixD (prD a) (.int 1) = some (.int a.2) from rfl]
  simp only [runS, startE, sSeq, sIf, sSet, sRet, sRetN, sNil, sParV, sFor, sApp, sAppPop, tCmp, tVal, tAnd, tOr, tNot, tYes, tThaw, andB, orB, notB, andV, orV, notV, dC, dBin, dBlt, dVar, dCall, dNew, dThaw, dTup, dIf, dAnd, dOr, dNot, dIsi, dSl, dAttr, oN, oS, nLst, nList, nRng1, nRng2, nSeq, nOwn, nSorted, nThaw, gNm, vD, vN, seqV, setE, Say.pure_bind, Say.bind_assoc, List.getElem?_cons_zero, List.getElem?_cons_succ, seqA, slD, List.set_cons_succ, List.set_cons_zero, thaw, Sl.thaw, List.map_cons, List.map_nil, lift_some, truB_bl, bindT, ownL, slOwn, List.length_cons, List.length_nil, List.cons_append, List.nil_append, List.replicate, Nat.reduceAdd, Nat.reduceSub, List.all_cons, List.all_nil, mkTup0, mkTup1, mkTup2, mkLst0, mkLst1, mkLst4, mkLst5, mkLst8, wipeE, sPar, sOwnS, sStore2, sPut, dNeg, negD, sOwnK, nListK, dDget, tDin, dDin, nSetS, sPop, sDput, sExt, ownK, dDc, sWhile, sBad, sAsg, sDrop, nSortT, hT, Bool.false_eq_true, if_false]
  rw [show listD [D.tup ((thinE E a).map prD)] = pure ((thinE E a).map prD) from rfl, show tupleD [prD a] = some (prD a) from rfl]
  simp only [runS, startE, sSeq, sIf, sSet, sRet, sRetN, sNil, sParV, sFor, sApp, sAppPop, tCmp, tVal, tAnd, tOr, tNot, tYes, tThaw, andB, orB, notB, andV, orV, notV, dC, dBin, dBlt, dVar, dCall, dNew, dThaw, dTup, dIf, dAnd, dOr, dNot, dIsi, dSl, dAttr, oN, oS, nLst, nList, nRng1, nRng2, nSeq, nOwn, nSorted, nThaw, gNm, vD, vN, seqV, setE, Say.pure_bind, Say.bind_assoc, List.getElem?_cons_zero, List.getElem?_cons_succ, seqA, slD, List.set_cons_succ, List.set_cons_zero, thaw, Sl.thaw, List.map_cons, List.map_nil, lift_some, truB_bl, bindT, ownL, slOwn, List.length_cons, List.length_nil, List.cons_append, List.nil_append, List.replicate, Nat.reduceAdd, Nat.reduceSub, List.all_cons, List.all_nil, mkTup0, mkTup1, mkTup2, mkLst0, mkLst1, mkLst4, mkLst5, mkLst8, wipeE, sPar, sOwnS, sStore2, sPut, dNeg, negD, sOwnK, nListK, dDget, tDin, dDin, nSetS, sPop, sDput, sExt, ownK, dDc, sWhile, sBad, sAsg, sDrop, nSortT]
  rw [add_lst _ _ (by rw [List.length_map]; show (thinE E a).length + 1 ≤ 1000000; omega)]
  simp only [runS, startE, sSeq, sIf, sSet, sRet, sRetN, sNil, sParV, sFor, sApp, sAppPop, tCmp, tVal, tAnd, tOr, tNot, tYes, tThaw, andB, orB, notB, andV, orV, notV, dC, dBin, dBlt, dVar, dCall, dNew, dThaw, dTup, dIf, dAnd, dOr, dNot, dIsi, dSl, dAttr, oN, oS, nLst, nList, nRng1, nRng2, nSeq, nOwn, nSorted, nThaw, gNm, vD, vN, seqV, setE, Say.pure_bind, Say.bind_assoc, List.getElem?_cons_zero, List.getElem?_cons_succ, seqA, slD, List.set_cons_succ, List.set_cons_zero, thaw, Sl.thaw, List.map_cons, List.map_nil, lift_some, truB_bl, bindT, ownL, slOwn, List.length_cons, List.length_nil, List.cons_append, List.nil_append, List.replicate, Nat.reduceAdd, Nat.reduceSub, List.all_cons, List.all_nil, mkTup0, mkTup1, mkTup2, mkLst0, mkLst1, mkLst4, mkLst5, mkLst8, wipeE, sPar, sOwnS, sStore2, sPut, dNeg, negD, sOwnK, nListK, dDget, tDin, dDin, nSetS, sPop, sDput, sExt, ownK, dDc, sWhile, sBad, sAsg, sDrop, nSortT]
  rw [show (thinE E a).map prD ++ [prD a] = (thinE E a ++ [a]).map prD from by rw [List.map_append]; rfl]
  rw [show sortedM [D.lst ((thinE E a ++ [a]).map prD)] = pure (E.map prD) from by
    show lift (sortD ((thinE E a ++ [a]).map prD)) = _
    rw [sortD_prs, es]
    rfl]
  simp only [runS, startE, sSeq, sIf, sSet, sRet, sRetN, sNil, sParV, sFor, sApp, sAppPop, tCmp, tVal, tAnd, tOr, tNot, tYes, tThaw, andB, orB, notB, andV, orV, notV, dC, dBin, dBlt, dVar, dCall, dNew, dThaw, dTup, dIf, dAnd, dOr, dNot, dIsi, dSl, dAttr, oN, oS, nLst, nList, nRng1, nRng2, nSeq, nOwn, nSorted, nThaw, gNm, vD, vN, seqV, setE, Say.pure_bind, Say.bind_assoc, List.getElem?_cons_zero, List.getElem?_cons_succ, seqA, slD, List.set_cons_succ, List.set_cons_zero, thaw, Sl.thaw, List.map_cons, List.map_nil, lift_some, truB_bl, bindT, ownL, slOwn, List.length_cons, List.length_nil, List.cons_append, List.nil_append, List.replicate, Nat.reduceAdd, Nat.reduceSub, List.all_cons, List.all_nil, mkTup0, mkTup1, mkTup2, mkLst0, mkLst1, mkLst4, mkLst5, mkLst8, wipeE, sPar, sOwnS, sStore2, sPut, dNeg, negD, sOwnK, nListK, dDget, tDin, dDin, nSetS, sPop, sDput, sExt, ownK, dDc, sWhile, sBad, sAsg, sDrop, nSortT, web_okL g h1 hn]
theorem moved_ok {P l : List Int} (h : ∀ x ∈ l, x ∈ P) : m__law_moved [ti l, .lst (P.map D.int)] = pure (ti (mv P l)) := by
  simp only [m__law_moved, S__law_moved, runS, startE, sSeq, sIf, sSet, sRet, sRetN, sNil, sParV, sFor, sApp, sAppPop, tCmp, tVal, tAnd, tOr, tNot, tYes, tThaw, andB, orB, notB, andV, orV, notV, dC, dBin, dBlt, dVar, dCall, dNew, dThaw, dTup, dIf, dAnd, dOr, dNot, dIsi, dSl, dAttr, oN, oS, nLst, nList, nRng1, nRng2, nSeq, nOwn, nSorted, nThaw, gNm, vD, vN, seqV, setE, Say.pure_bind, Say.bind_assoc, List.getElem?_cons_zero, List.getElem?_cons_succ, seqA, slD, List.set_cons_succ, List.set_cons_zero, thaw, Sl.thaw, List.map_cons, List.map_nil, lift_some, truB_bl, bindT, ownL, slOwn, List.length_cons, List.length_nil, List.cons_append, List.nil_append, List.replicate, Nat.reduceAdd, Nat.reduceSub, List.all_cons, List.all_nil, mkTup0, mkTup1, mkTup2, mkLst0, mkLst1, mkLst4, mkLst5, mkLst8, wipeE, sPar, sOwnS, sStore2, sPut, dNeg, negD, sOwnK, nListK, dDget, tDin, dDin, nSetS, sPop, sDput, sExt, ownK, dDc, sWhile, sBad, sAsg, sDrop, nSortT]
  rw [lc_yes (l := l) D.int (fun x => .int (pix P x : Int)) rfl rfl fun x hx => ?_]
  · simp only [runS, startE, sSeq, sIf, sSet, sRet, sRetN, sNil, sParV, sFor, sApp, sAppPop, tCmp, tVal, tAnd, tOr, tNot, tYes, tThaw, andB, orB, notB, andV, orV, notV, dC, dBin, dBlt, dVar, dCall, dNew, dThaw, dTup, dIf, dAnd, dOr, dNot, dIsi, dSl, dAttr, oN, oS, nLst, nList, nRng1, nRng2, nSeq, nOwn, nSorted, nThaw, gNm, vD, vN, seqV, setE, Say.pure_bind, Say.bind_assoc, List.getElem?_cons_zero, List.getElem?_cons_succ, seqA, slD, List.set_cons_succ, List.set_cons_zero, thaw, Sl.thaw, List.map_cons, List.map_nil, lift_some, truB_bl, bindT, ownL, slOwn, List.length_cons, List.length_nil, List.cons_append, List.nil_append, List.replicate, Nat.reduceAdd, Nat.reduceSub, List.all_cons, List.all_nil, mkTup0, mkTup1, mkTup2, mkLst0, mkLst1, mkLst4, mkLst5, mkLst8, wipeE, sPar, sOwnS, sStore2, sPut, dNeg, negD, sOwnK, nListK, dDget, tDin, dDin, nSetS, sPop, sDput, sExt, ownK, dDc, sWhile, sBad, sAsg, sDrop, nSortT]
    rw [show (l.map fun x => D.int (pix P x : Int)) = (mv P l).map D.int from by unfold mv; rw [List.map_map]; rfl]
    rfl
  · obtain ⟨j, hj⟩ := idx_some (h x hx)
    simp only [dIndexL, runS, startE, sSeq, sIf, sSet, sRet, sRetN, sNil, sParV, sFor, sApp, sAppPop, tCmp, tVal, tAnd, tOr, tNot, tYes, tThaw, andB, orB, notB, andV, orV, notV, dC, dBin, dBlt, dVar, dCall, dNew, dThaw, dTup, dIf, dAnd, dOr, dNot, dIsi, dSl, dAttr, oN, oS, nLst, nList, nRng1, nRng2, nSeq, nOwn, nSorted, nThaw, gNm, vD, vN, seqV, setE, Say.pure_bind, Say.bind_assoc, List.getElem?_cons_zero, List.getElem?_cons_succ, seqA, slD, List.set_cons_succ, List.set_cons_zero, thaw, Sl.thaw, List.map_cons, List.map_nil, lift_some, truB_bl, bindT, ownL, slOwn, List.length_cons, List.length_nil, List.cons_append, List.nil_append, List.replicate, Nat.reduceAdd, Nat.reduceSub, List.all_cons, List.all_nil, mkTup0, mkTup1, mkTup2, mkLst0, mkLst1, mkLst4, mkLst5, mkLst8, wipeE, sPar, sOwnS, sStore2, sPut, dNeg, negD, sOwnK, nListK, dDget, tDin, dDin, nSetS, sPop, sDput, sExt, ownK, dDc, sWhile, sBad, sAsg, sDrop, nSortT, lstI, intsOf_map, indexM, hj]
    unfold pix
    rw [hj]
    rfl
theorem targets_ok (hn : n ≤ 100) {i : Int} (h : i ∈ rg n) : m_targets [webD n E, .int i] = pure (ti (tgtI n E i)) := by
  have hp : m_place_told [webD n E, .int i] = pure (.int i) := place_told_ok h
  simp only [m_targets, S_targets, runS, startE, sSeq, sIf, sSet, sRet, sRetN, sNil, sParV, sFor, sApp, sAppPop, tCmp, tVal, tAnd, tOr, tNot, tYes, tThaw, andB, orB, notB, andV, orV, notV, dC, dBin, dBlt, dVar, dCall, dNew, dThaw, dTup, dIf, dAnd, dOr, dNot, dIsi, dSl, dAttr, oN, oS, nLst, nList, nRng1, nRng2, nSeq, nOwn, nSorted, nThaw, gNm, vD, vN, seqV, setE, Say.pure_bind, Say.bind_assoc, List.getElem?_cons_zero, List.getElem?_cons_succ, seqA, slD, List.set_cons_succ, List.set_cons_zero, thaw, Sl.thaw, List.map_cons, List.map_nil, lift_some, truB_bl, bindT, ownL, slOwn, List.length_cons, List.length_nil, List.cons_append, List.nil_append, List.replicate, Nat.reduceAdd, Nat.reduceSub, List.all_cons, List.all_nil, mkTup0, mkTup1, mkTup2, mkLst0, mkLst1, mkLst4, mkLst5, mkLst8, wipeE, sPar, sOwnS, sStore2, sPut, dNeg, negD, sOwnK, nListK, dDget, tDin, dDin, nSetS, sPop, sDput, sExt, ownK, dDc, sWhile, sBad, sAsg, sDrop, nSortT, hp, tgt_okI n E i hn]
theorem ahead_of_ok (g : Good n E) (hn : n ≤ 100) {a : List Int} (l : Lt n a) : m_ahead_of [webD n E, ti a] = pure (ti (lotOf n (DSep.An (ar E) (· ∈ a)))) := by
  simp only [m_ahead_of, S_ahead_of, runS, startE, sSeq, sIf, sSet, sRet, sRetN, sNil, sParV, sFor, sApp, sAppPop, tCmp, tVal, tAnd, tOr, tNot, tYes, tThaw, andB, orB, notB, andV, orV, notV, dC, dBin, dBlt, dVar, dCall, dNew, dThaw, dTup, dIf, dAnd, dOr, dNot, dIsi, dSl, dAttr, oN, oS, nLst, nList, nRng1, nRng2, nSeq, nOwn, nSorted, nThaw, gNm, vD, vN, seqV, setE, Say.pure_bind, Say.bind_assoc, List.getElem?_cons_zero, List.getElem?_cons_succ, seqA, slD, List.set_cons_succ, List.set_cons_zero, thaw, Sl.thaw, List.map_cons, List.map_nil, lift_some, truB_bl, bindT, ownL, slOwn, List.length_cons, List.length_nil, List.cons_append, List.nil_append, List.replicate, Nat.reduceAdd, Nat.reduceSub, List.all_cons, List.all_nil, mkTup0, mkTup1, mkTup2, mkLst0, mkLst1, mkLst4, mkLst5, mkLst8, wipeE, sPar, sOwnS, sStore2, sPut, dNeg, negD, sOwnK, nListK, dDget, tDin, dDin, nSetS, sPop, sDput, sExt, ownK, dDc, sWhile, sBad, sAsg, sDrop, nSortT, size_at, lot_told_ok _ (LD.tup a) l]
  rw [ahead_in_ok g hn (A := a) rfl rfl l.nd l.rng]
  rfl
/-! three lots -/
theorem cut_mid {α : Type} (xs : List α) (j k : Nat) (h : j ≤ k) (hk : k ≤ xs.length) : cutG xs (some (j : Int)) (some (k : Int)) = (xs.drop j).take (k - j) := by
  unfold cutG
  rw [HT.sIx_nat, HT.sIx_nat, Nat.min_eq_left hk, Nat.min_eq_left (by omega)]
theorem three_ok (h3 : 3 ≤ n) (hn : n ≤ 6) : Tr 20 (m__law_three_lots [.pen, .int (n : Int)]) (fun d => ∃ a b c, d = .tup [ti a, ti b, ti c] ∧ St n a b c ∧ a ≠ [] ∧ b ≠ []) := by
  simp only [m__law_three_lots, S__law_three_lots, runS, startE, sSeq, sIf, sSet, sRet, sRetN, sNil, sParV, sFor, sApp, sAppPop, tCmp, tVal, tAnd, tOr, tNot, tYes, tThaw, andB, orB, notB, andV, orV, notV, dC, dBin, dBlt, dVar, dCall, dNew, dThaw, dTup, dIf, dAnd, dOr, dNot, dIsi, dSl, dAttr, oN, oS, nLst, nList, nRng1, nRng2, nSeq, nOwn, nSorted, nThaw, gNm, vD, vN, seqV, setE, Say.pure_bind, Say.bind_assoc, List.getElem?_cons_zero, List.getElem?_cons_succ, seqA, slD, List.set_cons_succ, List.set_cons_zero, thaw, Sl.thaw, List.map_cons, List.map_nil, lift_some, truB_bl, bindT, ownL, slOwn, List.length_cons, List.length_nil, List.cons_append, List.nil_append, List.replicate, Nat.reduceAdd, Nat.reduceSub, List.all_cons, List.all_nil, mkTup0, mkTup1, mkTup2, mkLst0, mkLst1, mkLst4, mkLst5, mkLst8, wipeE, sPar, sOwnS, sStore2, sPut, dNeg, negD, sOwnK, nListK, dDget, tDin, dDin, nSetS, sPop, sDput, sExt, ownK, dDc, sWhile, sBad, sAsg, sDrop, nSortT, rngM_nat n (show n ≤ 16777216 by omega), rg_map]
  refine Tr.bind (C1 := 6) (C2 := 14) ((shuffled_ok (ns := rg n) (by rw [rg_len]; omega)).mono (fun _ z => z) (by rw [rg_len]; omega)) fun d ⟨ms, ed, pm⟩ => ?_
  subst ed
  have hl : ms.length = n := by rw [pm.length_eq, rg_len]
  have nd : ms.Nodup := pm.nodup_iff.mpr (asc_nodup (rg_asc n))
  have hr : ∀ x ∈ ms, x ∈ rg n := fun x hx => pm.mem_iff.mp hx
  have em : min2D [.int 2, .int ((n : Int) - 1)] = some (.int 2) := by
    show some (D.int (if (n : Int) - 1 < 2 then (n : Int) - 1 else 2)) = _
    rw [if_neg (by omega)]
  simp only [runS, startE, sSeq, sIf, sSet, sRet, sRetN, sNil, sParV, sFor, sApp, sAppPop, tCmp, tVal, tAnd, tOr, tNot, tYes, tThaw, andB, orB, notB, andV, orV, notV, dC, dBin, dBlt, dVar, dCall, dNew, dThaw, dTup, dIf, dAnd, dOr, dNot, dIsi, dSl, dAttr, oN, oS, nLst, nList, nRng1, nRng2, nSeq, nOwn, nSorted, nThaw, gNm, vD, vN, seqV, setE, Say.pure_bind, Say.bind_assoc, List.getElem?_cons_zero, List.getElem?_cons_succ, seqA, slD, List.set_cons_succ, List.set_cons_zero, thaw, Sl.thaw, List.map_cons, List.map_nil, lift_some, truB_bl, bindT, ownL, slOwn, List.length_cons, List.length_nil, List.cons_append, List.nil_append, List.replicate, Nat.reduceAdd, Nat.reduceSub, List.all_cons, List.all_nil, mkTup0, mkTup1, mkTup2, mkLst0, mkLst1, mkLst4, mkLst5, mkLst8, wipeE, sPar, sOwnS, sStore2, sPut, dNeg, negD, sOwnK, nListK, dDget, tDin, dDin, nSetS, sPop, sDput, sExt, ownK, dDc, sWhile, sBad, sAsg, sDrop, nSortT, ii_int, em, show max2D [D.int 1, D.int 2] = some (.int 2) from rfl]
  refine Tr.bind (C1 := 1) (C2 := 13) (draw_ok (many := 2) (by decide) (by decide)) fun d ⟨r, er, hr2⟩ => ?_
  subst er
  simp only [runS, startE, sSeq, sIf, sSet, sRet, sRetN, sNil, sParV, sFor, sApp, sAppPop, tCmp, tVal, tAnd, tOr, tNot, tYes, tThaw, andB, orB, notB, andV, orV, notV, dC, dBin, dBlt, dVar, dCall, dNew, dThaw, dTup, dIf, dAnd, dOr, dNot, dIsi, dSl, dAttr, oN, oS, nLst, nList, nRng1, nRng2, nSeq, nOwn, nSorted, nThaw, gNm, vD, vN, seqV, setE, Say.pure_bind, Say.bind_assoc, List.getElem?_cons_zero, List.getElem?_cons_succ, seqA, slD, List.set_cons_succ, List.set_cons_zero, thaw, Sl.thaw, List.map_cons, List.map_nil, lift_some, truB_bl, bindT, ownL, slOwn, List.length_cons, List.length_nil, List.cons_append, List.nil_append, List.replicate, Nat.reduceAdd, Nat.reduceSub, List.all_cons, List.all_nil, mkTup0, mkTup1, mkTup2, mkLst0, mkLst1, mkLst4, mkLst5, mkLst8, wipeE, sPar, sOwnS, sStore2, sPut, dNeg, negD, sOwnK, nListK, dDget, tDin, dDin, nSetS, sPop, sDput, sExt, ownK, dDc, sWhile, sBad, sAsg, sDrop, nSortT, add_int, od_int]
  have fin : ∀ (cut more : Nat), 1 ≤ cut → cut < more → more ≤ n → ∀ (x : Sl), Tr 6 ((sSeq (sSet 5 (dNew (lcM [6] (nSeq (dSl (dVar 2) (oS (dVar 4)) oN)) (gNm 6) (tCmp eqD (dCall m__law_draw [(dVar 0), (dC (.int 2))]) (dC (.int 0))) (dVar 6))))
  (sRet (dTup [(dBlt tupleD [(dNew (nSorted [(dSl (dVar 2) oN (oS (dVar 3)))]))]), (dBlt tupleD [(dNew (nSorted [(dSl (dVar 2) (oS (dVar 3)) (oS (dVar 4)))]))]), (dBlt tupleD [(dNew (nSorted [(dVar 5)]))])]))) (fun _ => pure .non) pure (fun _ => bad) (fun _ => bad) [.dat .pen, .dat (.int (n : Int)), .dat (.lst (ms.map D.int)), .dat (.int (cut : Int)), .dat (.int (more : Int)), .no, .no]) (fun d => ∃ a b c, d = .tup [ti a, ti b, ti c] ∧ St n a b c ∧ a ≠ [] ∧ b ≠ []) := by
    intro cut more hc hcm hm x
    rw [sSeq, sSet, dNew]
    have el : lcM [6] (nSeq (dSl (dVar 2) (oS (dVar 4)) oN)) (gNm 6) (tCmp eqD (dCall m__law_draw [(dVar 0), (dC (.int 2))]) (dC (.int 0))) (dVar 6) [.dat .pen, .dat (.int (n : Int)), .dat (.lst (ms.map D.int)), .dat (.int (cut : Int)), .dat (.int (more : Int)), .no, .no] = compL (fun x => gNm 6 x [.dat .pen, .dat (.int (n : Int)), .dat (.lst (ms.map D.int)), .dat (.int (cut : Int)), .dat (.int (more : Int)), .no, .no]) (tCmp eqD (dCall m__law_draw [(dVar 0), (dC (.int 2))]) (dC (.int 0))) (dVar 6) ((ms.drop more).map D.int) := by
      unfold lcM
      have e3 : nSeq (dSl (dVar 2) (oS (dVar 4)) oN) [.dat .pen, .dat (.int (n : Int)), .dat (.lst (ms.map D.int)), .dat (.int (cut : Int)), .dat (.int (more : Int)), .no, .no] = pure ((ms.drop more).map D.int) := by
        simp only [runS, startE, sSeq, sIf, sSet, sRet, sRetN, sNil, sParV, sFor, sApp, sAppPop, tCmp, tVal, tAnd, tOr, tNot, tYes, tThaw, andB, orB, notB, andV, orV, notV, dC, dBin, dBlt, dVar, dCall, dNew, dThaw, dTup, dIf, dAnd, dOr, dNot, dIsi, dSl, dAttr, oN, oS, nLst, nList, nRng1, nRng2, nSeq, nOwn, nSorted, nThaw, gNm, vD, vN, seqV, setE, Say.pure_bind, Say.bind_assoc, List.getElem?_cons_zero, List.getElem?_cons_succ, seqA, slD, List.set_cons_succ, List.set_cons_zero, thaw, Sl.thaw, List.map_cons, List.map_nil, lift_some, truB_bl, bindT, ownL, slOwn, List.length_cons, List.length_nil, List.cons_append, List.nil_append, List.replicate, Nat.reduceAdd, Nat.reduceSub, List.all_cons, List.all_nil, mkTup0, mkTup1, mkTup2, mkLst0, mkLst1, mkLst4, mkLst5, mkLst8, wipeE, sPar, sOwnS, sStore2, sPut, dNeg, negD, sOwnK, nListK, dDget, tDin, dDin, nSetS, sPop, sDput, sExt, ownK, dDc, sWhile, sBad, sAsg, sDrop, nSortT, intM, sliceD, cut_drop]
        rw [← List.map_drop]
        rfl
      rw [e3, Say.pure_bind]
      exact if_pos rfl
    rw [el]
    refine Tr.bind (C1 := 6) (C2 := 0) (Tr.bind (C1 := 6) (C2 := 0) ((compL_tr (α := Int) D.int D.int 1 (ms.drop more) fun z hz => ⟨_, rfl, ?_, ?_⟩).mono (fun _ z => z) (by rw [List.length_drop]; omega)) fun xs ⟨l', hl', exs⟩ => Tr.pure (P := fun d => ∃ l' : List Int, l'.Sublist (ms.drop more) ∧ d = D.lst (l'.map D.int)) ⟨l', hl', by rw [exs]⟩) fun d ⟨l', hl', exs⟩ => ?_
    · simp only [runS, startE, sSeq, sIf, sSet, sRet, sRetN, sNil, sParV, sFor, sApp, sAppPop, tCmp, tVal, tAnd, tOr, tNot, tYes, tThaw, andB, orB, notB, andV, orV, notV, dC, dBin, dBlt, dVar, dCall, dNew, dThaw, dTup, dIf, dAnd, dOr, dNot, dIsi, dSl, dAttr, oN, oS, nLst, nList, nRng1, nRng2, nSeq, nOwn, nSorted, nThaw, gNm, vD, vN, seqV, setE, Say.pure_bind, Say.bind_assoc, List.getElem?_cons_zero, List.getElem?_cons_succ, seqA, slD, List.set_cons_succ, List.set_cons_zero, thaw, Sl.thaw, List.map_cons, List.map_nil, lift_some, truB_bl, bindT, ownL, slOwn, List.length_cons, List.length_nil, List.cons_append, List.nil_append, List.replicate, Nat.reduceAdd, Nat.reduceSub, List.all_cons, List.all_nil, mkTup0, mkTup1, mkTup2, mkLst0, mkLst1, mkLst4, mkLst5, mkLst8, wipeE, sPar, sOwnS, sStore2, sPut, dNeg, negD, sOwnK, nListK, dDget, tDin, dDin, nSetS, sPop, sDput, sExt, ownK, dDc, sWhile, sBad, sAsg, sDrop, nSortT]
      refine Tr.bind (C1 := 1) (C2 := 0) (draw_ok (many := 2) (by decide) (by decide)) (fun d ⟨r, er, _⟩ => ?_) (by omega)
      subst er
      rw [eq_int]
      simp only [runS, startE, sSeq, sIf, sSet, sRet, sRetN, sNil, sParV, sFor, sApp, sAppPop, tCmp, tVal, tAnd, tOr, tNot, tYes, tThaw, andB, orB, notB, andV, orV, notV, dC, dBin, dBlt, dVar, dCall, dNew, dThaw, dTup, dIf, dAnd, dOr, dNot, dIsi, dSl, dAttr, oN, oS, nLst, nList, nRng1, nRng2, nSeq, nOwn, nSorted, nThaw, gNm, vD, vN, seqV, setE, Say.pure_bind, Say.bind_assoc, List.getElem?_cons_zero, List.getElem?_cons_succ, seqA, slD, List.set_cons_succ, List.set_cons_zero, thaw, Sl.thaw, List.map_cons, List.map_nil, lift_some, truB_bl, bindT, ownL, slOwn, List.length_cons, List.length_nil, List.cons_append, List.nil_append, List.replicate, Nat.reduceAdd, Nat.reduceSub, List.all_cons, List.all_nil, mkTup0, mkTup1, mkTup2, mkLst0, mkLst1, mkLst4, mkLst5, mkLst8, wipeE, sPar, sOwnS, sStore2, sPut, dNeg, negD, sOwnK, nListK, dDget, tDin, dDin, nSetS, sPop, sDput, sExt, ownK, dDc, sWhile, sBad, sAsg, sDrop, nSortT]
      exact Tr.pure trivial
    · simp only [runS, startE, sSeq, sIf, sSet, sRet, sRetN, sNil, sParV, sFor, sApp, sAppPop, tCmp, tVal, tAnd, tOr, tNot, tYes, tThaw, andB, orB, notB, andV, orV, notV, dC, dBin, dBlt, dVar, dCall, dNew, dThaw, dTup, dIf, dAnd, dOr, dNot, dIsi, dSl, dAttr, oN, oS, nLst, nList, nRng1, nRng2, nSeq, nOwn, nSorted, nThaw, gNm, vD, vN, seqV, setE, Say.pure_bind, Say.bind_assoc, List.getElem?_cons_zero, List.getElem?_cons_succ, seqA, slD, List.set_cons_succ, List.set_cons_zero, thaw, Sl.thaw, List.map_cons, List.map_nil, lift_some, truB_bl, bindT, ownL, slOwn, List.length_cons, List.length_nil, List.cons_append, List.nil_append, List.replicate, Nat.reduceAdd, Nat.reduceSub, List.all_cons, List.all_nil, mkTup0, mkTup1, mkTup2, mkLst0, mkLst1, mkLst4, mkLst5, mkLst8, wipeE, sPar, sOwnS, sStore2, sPut, dNeg, negD, sOwnK, nListK, dDget, tDin, dDin, nSetS, sPop, sDput, sExt, ownK, dDc, sWhile, sBad, sAsg, sDrop, nSortT]
    · subst exs
      have ta : sliceD (.lst (ms.map D.int)) none (some (cut : Int)) = pure (.lst ((ms.take cut).map D.int)) := by
        show pure (D.lst (cutG (ms.map D.int) none (some (cut : Int)))) = _
        rw [cut_take, List.map_take]
      have tb : sliceD (.lst (ms.map D.int)) (some (cut : Int)) (some (more : Int)) = pure (.lst (((ms.drop cut).take (more - cut)).map D.int)) := by
        show pure (D.lst (cutG (ms.map D.int) (some (cut : Int)) (some (more : Int)))) = _
        rw [cut_mid _ _ _ (by omega) (by rw [List.length_map]; omega), List.map_take, List.map_drop]
      simp only [runS, startE, sSeq, sIf, sSet, sRet, sRetN, sNil, sParV, sFor, sApp, sAppPop, tCmp, tVal, tAnd, tOr, tNot, tYes, tThaw, andB, orB, notB, andV, orV, notV, dC, dBin, dBlt, dVar, dCall, dNew, dThaw, dTup, dIf, dAnd, dOr, dNot, dIsi, dSl, dAttr, oN, oS, nLst, nList, nRng1, nRng2, nSeq, nOwn, nSorted, nThaw, gNm, vD, vN, seqV, setE, Say.pure_bind, Say.bind_assoc, List.getElem?_cons_zero, List.getElem?_cons_succ, seqA, slD, List.set_cons_succ, List.set_cons_zero, thaw, Sl.thaw, List.map_cons, List.map_nil, lift_some, truB_bl, bindT, ownL, slOwn, List.length_cons, List.length_nil, List.cons_append, List.nil_append, List.replicate, Nat.reduceAdd, Nat.reduceSub, List.all_cons, List.all_nil, mkTup0, mkTup1, mkTup2, mkLst0, mkLst1, mkLst4, mkLst5, mkLst8, wipeE, sPar, sOwnS, sStore2, sPut, dNeg, negD, sOwnK, nListK, dDget, tDin, dDin, nSetS, sPop, sDput, sExt, ownK, dDc, sWhile, sBad, sAsg, sDrop, nSortT, intM, ta, tb, sorted_ints]
      have tt : ∀ l : List Int, tupleD [D.lst (l.map D.int)] = some (ti l) := fun _ => rfl
      simp only [runS, startE, sSeq, sIf, sSet, sRet, sRetN, sNil, sParV, sFor, sApp, sAppPop, tCmp, tVal, tAnd, tOr, tNot, tYes, tThaw, andB, orB, notB, andV, orV, notV, dC, dBin, dBlt, dVar, dCall, dNew, dThaw, dTup, dIf, dAnd, dOr, dNot, dIsi, dSl, dAttr, oN, oS, nLst, nList, nRng1, nRng2, nSeq, nOwn, nSorted, nThaw, gNm, vD, vN, seqV, setE, Say.pure_bind, Say.bind_assoc, List.getElem?_cons_zero, List.getElem?_cons_succ, seqA, slD, List.set_cons_succ, List.set_cons_zero, thaw, Sl.thaw, List.map_cons, List.map_nil, lift_some, truB_bl, bindT, ownL, slOwn, List.length_cons, List.length_nil, List.cons_append, List.nil_append, List.replicate, Nat.reduceAdd, Nat.reduceSub, List.all_cons, List.all_nil, mkTup0, mkTup1, mkTup2, mkLst0, mkLst1, mkLst4, mkLst5, mkLst8, wipeE, sPar, sOwnS, sStore2, sPut, dNeg, negD, sOwnK, nListK, dDget, tDin, dDin, nSetS, sPop, sDput, sExt, ownK, dDc, sWhile, sBad, sAsg, sDrop, nSortT, tt, mkTup3]
      have split : ms = ms.take cut ++ ((ms.drop cut).take (more - cut) ++ ms.drop more) := by
        have e1 : (ms.drop cut).drop (more - cut) = ms.drop more := by rw [List.drop_drop]; congr 1; omega
        rw [← e1, List.take_append_drop, List.take_append_drop]
      have n0 := nd
      rw [split] at n0
      obtain ⟨q1, q2, q3⟩ := List.nodup_append.mp n0
      obtain ⟨q4, q5, q6⟩ := List.nodup_append.mp q2
      have ma : ∀ x, x ∈ sortI (ms.take cut) ↔ x ∈ ms.take cut := fun x => (sort_perm _).mem_iff
      have mb : ∀ x, x ∈ sortI ((ms.drop cut).take (more - cut)) ↔ x ∈ (ms.drop cut).take (more - cut) := fun x => (sort_perm _).mem_iff
      have mc : ∀ x, x ∈ sortI l' → x ∈ ms.drop more := fun x hx => hl'.subset ((sort_perm _).mem_iff.mp hx)
      refine Tr.pure ⟨_, _, _, rfl, ⟨sort_lt q1 fun x hx => hr x (List.mem_of_mem_take hx), sort_lt q4 fun x hx => hr x (List.mem_of_mem_drop (List.mem_of_mem_take hx)), sort_lt (q5.sublist hl') fun x hx => hr x (List.mem_of_mem_drop (hl'.subset hx)), fun x hx hy => ?_, fun x hx hy => ?_, fun x hx hy => ?_⟩, fun e => ?_, fun e => ?_⟩
      · exact q3 x ((ma x).mp hx) x (List.mem_append_left _ ((mb x).mp hy)) rfl
      · exact q3 x ((ma x).mp hx) x (List.mem_append_right _ (mc x hy)) rfl
      · exact q6 x ((mb x).mp hx) x (mc x hy) rfl
      · have := congrArg List.length e
        rw [(sort_perm _).length_eq, List.length_take] at this
        simp only [List.length_nil] at this
        omega
      · have := congrArg List.length e
        rw [(sort_perm _).length_eq, List.length_take, List.length_drop] at this
        simp only [List.length_nil] at this
        omega
  by_cases c : (1 : Int) + (r : Int) + 1 < (n : Int)
  · rw [show Od.lt.i ((1 : Int) + (r : Int) + 1) (n : Int) = true from decide_eq_true c, if_pos rfl]
    simp only [Say.bind_assoc]
    refine Tr.bind (C1 := 1) (C2 := 12) (draw_ok (many := 2) (by decide) (by decide)) fun d ⟨r2, er2, hr3⟩ => ?_
    subst er2
    rw [add_int, lift_some, Say.pure_bind]
    have := fin (1 + r) (1 + r + 1 + r2) (by omega) (by omega) (by omega) .no
    rw [show (((1 + r + 1 + r2 : Nat) : Nat) : Int) = (1 : Int) + (r : Int) + 1 + (r2 : Int) by omega, show (((1 + r : Nat) : Nat) : Int) = (1 : Int) + (r : Int) by omega] at this
    simp only [runS, startE, sSeq, sIf, sSet, sRet, sRetN, sNil, sParV, sFor, sApp, sAppPop, tCmp, tVal, tAnd, tOr, tNot, tYes, tThaw, andB, orB, notB, andV, orV, notV, dC, dBin, dBlt, dVar, dCall, dNew, dThaw, dTup, dIf, dAnd, dOr, dNot, dIsi, dSl, dAttr, oN, oS, nLst, nList, nRng1, nRng2, nSeq, nOwn, nSorted, nThaw, gNm, vD, vN, seqV, setE, Say.pure_bind, Say.bind_assoc, List.getElem?_cons_zero, List.getElem?_cons_succ, seqA, slD, List.set_cons_succ, List.set_cons_zero, thaw, Sl.thaw, List.map_cons, List.map_nil, lift_some, truB_bl, bindT, ownL, slOwn, List.length_cons, List.length_nil, List.cons_append, List.nil_append, List.replicate, Nat.reduceAdd, Nat.reduceSub, List.all_cons, List.all_nil, mkTup0, mkTup1, mkTup2, mkLst0, mkLst1, mkLst4, mkLst5, mkLst8, wipeE, sPar, sOwnS, sStore2, sPut, dNeg, negD, sOwnK, nListK, dDget, tDin, dDin, nSetS, sPop, sDput, sExt, ownK, dDc, sWhile, sBad, sAsg, sDrop, nSortT] at this
    exact Tr.mono this (fun _ z => z) (show 6 ≤ 12 by decide)
  · rw [show Od.lt.i ((1 : Int) + (r : Int) + 1) (n : Int) = false from decide_eq_false c, if_neg (by decide), Say.pure_bind]
    have := fin (1 + r) (1 + r + 1) (by omega) (by omega) (by omega) .no
    rw [show (((1 + r + 1 : Nat) : Nat) : Int) = (1 : Int) + (r : Int) + 1 by omega, show (((1 + r : Nat) : Nat) : Int) = (1 : Int) + (r : Int) by omega] at this
    simp only [runS, startE, sSeq, sIf, sSet, sRet, sRetN, sNil, sParV, sFor, sApp, sAppPop, tCmp, tVal, tAnd, tOr, tNot, tYes, tThaw, andB, orB, notB, andV, orV, notV, dC, dBin, dBlt, dVar, dCall, dNew, dThaw, dTup, dIf, dAnd, dOr, dNot, dIsi, dSl, dAttr, oN, oS, nLst, nList, nRng1, nRng2, nSeq, nOwn, nSorted, nThaw, gNm, vD, vN, seqV, setE, Say.pure_bind, Say.bind_assoc, List.getElem?_cons_zero, List.getElem?_cons_succ, seqA, slD, List.set_cons_succ, List.set_cons_zero, thaw, Sl.thaw, List.map_cons, List.map_nil, lift_some, truB_bl, bindT, ownL, slOwn, List.length_cons, List.length_nil, List.cons_append, List.nil_append, List.replicate, Nat.reduceAdd, Nat.reduceSub, List.all_cons, List.all_nil, mkTup0, mkTup1, mkTup2, mkLst0, mkLst1, mkLst4, mkLst5, mkLst8, wipeE, sPar, sOwnS, sStore2, sPut, dNeg, negD, sOwnK, nListK, dDget, tDin, dDin, nSetS, sPop, sDput, sExt, ownK, dDc, sWhile, sBad, sAsg, sDrop, nSortT] at this
    exact Tr.mono this (fun _ z => z) (show 6 ≤ 13 by decide)
end
end SayLaw

namespace SayLaw
open Say
def stL (n : Nat) (E : List (Int × Int)) (x5 x6 x7 x8 x9 x10 x11 x12 x13 x15 x16 x17 x18 x19 : Sl) : Say.Env := [.no, .dat .pen, .dat (.int (n : Int)), .dat (.tup (E.map prD)), .dat (webD n E), x5, x6, x7, x8, x9, x10, x11, x12, x13, .no, x15, x16, x17, x18, x19, .no]
noncomputable def arrS : S := (sSeq (sSet 19 (dCall m_without_arrow [(dVar 4), (dVar 18)]))
  (sSeq (sIf (tAnd (tVal (dVar 13)) (tNot (tVal (dCall m_apart [(dVar 19), (dVar 15), (dVar 16), (dVar 17)])))) (sRet (dC (.bl false))) sNil)
  (sIf (tEqI tblE CS true (dCall m_with_arrow [(dVar 19), (dVar 18)]) (dVar 4)) (sRet (dC (.bl false))) sNil)))
noncomputable def lotS : S := (sSeq (sSet 11 (dCall m_ahead_of [(dVar 4), (dBlt tupleD [(dNew (nSorted [(dBin addD (dBin addD (dVar 15) (dVar 16)) (dVar 17))]))])]))
  (sSeq (sSet 12 (dCall m_part_of [(dVar 4), (dVar 11)]))
  (sSeq (sSet 13 (dCall m_apart [(dVar 4), (dVar 15), (dVar 16), (dVar 17)]))
  (sSeq (sIf (tCmp neD (dCall m_apart [(dVar 12), (dCall m__law_moved [(dVar 15), (dNew (nList [(dVar 11)]))]), (dCall m__law_moved [(dVar 16), (dNew (nList [(dVar 11)]))]), (dCall m__law_moved [(dVar 17), (dNew (nList [(dVar 11)]))])]) (dVar 13)) (sRet (dC (.bl false))) sNil)
  (sIf (tCmp neD (dVar 3) (dTup [])) (sSeq (sSet 18 (dCall m__law_pick [(dVar 1), (dNew (nList [(dVar 3)]))])) arrS) sNil)))))
noncomputable def lapS : S := (sSeq (sAsg (unpackD [gNm 15, gNm 16, gNm 17]) (dCall m__law_three_lots [(dVar 1), (dVar 2)])) lotS)
theorem ne_prsnil (E : List (Int × Int)) : neD (.tup (E.map prD)) (.tup []) = some (.bl (!decide (E = []))) := by
  have hp : (D.tup (E.map prD)).plain = true := by
    show (D.tup (E.map prD)).plainN 60 = true
    simp only [D.plainN]
    exact plainL_map prD (plain_prD 58) E
  show (if ((D.tup (E.map prD)).plain && (D.tup []).plain) = true then some (D.bl (!eqV (.tup (E.map prD)) (.tup []))) else none) = _
  rw [if_pos (by rw [hp]; rfl), eqV_tup]
  cases E with
  | nil => rfl
  | cons x E => simp [eqL]
theorem sort3_rows (ls : List SayS.Row3) : sort3M [.lst (ls.map rowD)] = pure ((sort3 ls).map rowD) := by
  show (match rowsD (ls.map rowT) with | some ls => pure ((sort3 ls).map rowT) | none => bad) = _
  rw [rowsD_map]
  rfl
section
variable {n : Nat} {E : List (Int × Int)}
theorem max_rank (r : Int → Nat) : ∀ {l : List Int}, l ≠ [] → ∃ i ∈ l, ∀ j ∈ l, r j ≤ r i
  | [], h => (h rfl).elim
  | [x], _ => ⟨x, by simp, fun j hj => by rw [List.mem_singleton.mp hj]; exact Nat.le_refl _⟩
  | x :: y :: l, _ => by
    obtain ⟨i, hi, hm⟩ := max_rank r (l := y :: l) (by simp)
    by_cases c : r x ≤ r i
    · exact ⟨i, List.mem_cons_of_mem _ hi, fun j hj => by
        rcases List.mem_cons.mp hj with rfl | hj
        · exact c
        · exact hm j hj⟩
    · exact ⟨x, List.mem_cons_self, fun j hj => by
        rcases List.mem_cons.mp hj with rfl | hj
        · exact Nat.le_refl _
        · have := hm j hj; omega⟩
theorem sink (g : Good n E) (h1 : 1 ≤ n) : ∃ i ∈ rg n, tgtI n E i = [] := by
  obtain ⟨r, hr⟩ := g.rank
  obtain ⟨i, hi, hm⟩ := max_rank r (l := rg n) (fun e => by have := rg_len n; rw [e] at this; simp at this; omega)
  refine ⟨i, hi, List.eq_nil_iff_forall_not_mem.mpr fun x hx => ?_⟩
  have e := (mem_tgtI g).mp hx
  have h2 : r i < r x := hr _ e
  have := hm x (mem_rg.mpr (g.rng _ e).2)
  omega
theorem rst_len {i : Int} (hi : i ∈ rg n) : (rst n i).length = n - 1 := by
  have := List.length_eq_countP_add_countP (fun z => !decide (z = i)) (l := rg n)
  have c1 : (rg n).countP (fun z => decide (¬ (!decide (z = i)) = true)) = 1 := by
    have e : (fun z : Int => decide (¬ (!decide (z = i)) = true)) = fun z => z == i := by
      funext z
      by_cases q : z = i <;> simp [q]
    rw [e]
    have c : (rg n).count i = 1 := (asc_nodup (rg_asc n)).count.trans (if_pos hi)
    exact c
  unfold rst
  rw [← List.countP_eq_length_filter]
  rw [rg_len, c1] at this
  omega
theorem arr_pure (g : Good n E) (h1 : 1 ≤ n) (hn : n ≤ 6) {a b c : List Int} (S : St n a b c) (na : a ≠ []) (nb : b ≠ []) {w : Int × Int} (hw : w ∈ E) (x5 x6 x7 x8 x9 x10 x11 x12 x19 : Sl) :
    ∃ y19, ∀ k' kk b' : Say.Env → M D, arrS k' pure kk b' (stL n E x5 x6 x7 x8 x9 x10 x11 x12 (.dat (.bl (!conB E a b c))) (.dat (ti a)) (.dat (ti b)) (.dat (ti c)) (.dat (prD w)) x19) = k' (stL n E x5 x6 x7 x8 x9 x10 x11 x12 (.dat (.bl (!conB E a b c))) (.dat (ti a)) (.dat (ti b)) (.dat (ti c)) (.dat (prD w)) y19) := by
  have gT := thin_good g w
  have hA : m_apart [webD n (thinE E w), ti a, ti b, ti c] = pure (.bl (!conB (thinE E w) a b c)) := apart_ok gT (show n ≤ 100 by omega) S (.tup a) (.tup b) (.tup c) na nb
  have less : conB E a b c = false → conB (thinE E w) a b c = false := fun h => by
    cases q : conB (thinE E w) a b c with
    | false => rfl
    | true =>
      have := conB_iff.mpr (DSep.con_less (E := ar E) (E' := ar (thinE E w)) (fun x y e => (mem_thin.mp e).1) g.asy (conB_iff.mp q))
      rw [h] at this
      cases this
  refine ⟨.dat (webD n (thinE E w)), fun k' kk b' => ?_⟩
  simp only [arrS, stL, runS, startE, sSeq, sIf, sSet, sRet, sRetN, sNil, sParV, sFor, sApp, sAppPop, tCmp, tVal, tAnd, tOr, tNot, tYes, tThaw, andB, orB, notB, andV, orV, notV, dC, dBin, dBlt, dVar, dCall, dNew, dThaw, dTup, dIf, dAnd, dOr, dNot, dIsi, dSl, dAttr, oN, oS, nLst, nList, nRng1, nRng2, nSeq, nOwn, nSorted, nThaw, gNm, vD, vN, seqV, setE, Say.pure_bind, Say.bind_assoc, List.getElem?_cons_zero, List.getElem?_cons_succ, seqA, slD, List.set_cons_succ, List.set_cons_zero, thaw, Sl.thaw, List.map_cons, List.map_nil, lift_some, truB_bl, bindT, ownL, slOwn, List.length_cons, List.length_nil, List.cons_append, List.nil_append, List.replicate, Nat.reduceAdd, Nat.reduceSub, List.all_cons, List.all_nil, mkTup0, mkTup1, mkTup2, mkLst0, mkLst1, mkLst4, mkLst5, mkLst8, wipeE, sPar, sOwnS, sStore2, sPut, dNeg, negD, sOwnK, nListK, dDget, tDin, dDin, nSetS, sPop, sDput, sExt, ownK, dDc, sWhile, sBad, sAsg, sDrop, nSortT, tEqI, without_ok g h1 (show n ≤ 100 by omega) hw, with_ok g h1 (show n ≤ 100 by omega) hw, hA, web_ne, Bool.false_eq_true, if_false]
  cases q : conB E a b c with
  | false =>
    rw [less q]
    simp only [Bool.not_false, if_true, Say.pure_bind, Bool.not_true, Bool.false_eq_true, if_false]
  | true =>
    simp only [Bool.not_true, Bool.false_eq_true, if_false, Say.pure_bind]
theorem lot_tr (g : Good n E) (h1 : 1 ≤ n) (hn : n ≤ 6) {a b c : List Int} (S : St n a b c) (na : a ≠ []) (nb : b ≠ []) (x5 x6 x7 x8 x9 x10 x11 x12 x13 x18 x19 : Sl) (N : Nat) (k' kk : Say.Env → M D) (P : D → Prop)
    (hk : ∀ x11 x12 x13 x15 x16 x17 x18 x19 : Sl, Tr N (k' (stL n E x5 x6 x7 x8 x9 x10 x11 x12 x13 x15 x16 x17 x18 x19)) P) :
    Tr (1 + N) (lotS k' pure kk k' (stL n E x5 x6 x7 x8 x9 x10 x11 x12 x13 (.dat (ti a)) (.dat (ti b)) (.dat (ti c)) x18 x19)) P := by
  have hn100 : n ≤ 100 := by omega
  have nd : (a ++ b ++ c).Nodup := by
    refine nodup_cat (nodup_cat S.la.nd S.lb.nd S.ab) S.lc.nd fun x hx hy => ?_
    rcases List.mem_append.mp
        hx with q | q
    · exact S.ac x q hy
    · exact S.bc x q hy
  have hr : ∀ x ∈ a ++ b ++ c, x ∈ rg n := fun x hx => by
    rcases List.mem_append.mp
        hx with q | q
    · rcases List.mem_append.mp
          q with q | q
      · exact S.la.rng x q
      · exact S.lb.rng x q
    · exact S.lc.rng x q
  have hLR : Lt n (sortI (a ++ b ++ c)) := sort_lt nd hr
  have la := S.la.len
  have lb := S.lb.len
  have lc := S.lc.len
  have eS : sortedM [ti (a ++ b ++ c)] = pure ((sortI (a ++ b ++ c)).map D.int) := sorted_ti _
  have hF := ahead_of_ok g hn100 hLR
  have mF : ∀ x, x ∈ lotOf n (DSep.An (ar E) (· ∈ sortI (a ++ b ++ c))) ↔ x ∈ rg n ∧ DSep.An (ar E) (· ∈ sortI (a ++ b ++ c)) x := fun x => mem_lotOf
  have lF : Lt n (lotOf n (DSep.An (ar E) (· ∈ sortI (a ++ b ++ c)))) := ⟨asc_lotOf _ _, fun x hx => ((mF x).mp hx).1⟩
  generalize lotOf n (DSep.An (ar E) (· ∈ sortI (a ++ b ++ c))) = F at hF mF lF
  have inF : ∀ x ∈ a ++ b ++ c, x ∈ F := fun x hx => (mF x).mpr ⟨hr x hx, .base ((sort_perm _).mem_iff.mpr hx)⟩
  have aF : ∀ x ∈ a, x ∈ F := fun x hx => inF x (by simp [hx])
  have bF : ∀ x ∈ b, x ∈ F := fun x hx => inF x (by simp [hx])
  have cF : ∀ x ∈ c, x ∈ F := fun x hx => inF x (by simp [hx])
  have cl : ∀ y x, x ∈ F → ar E y x → y ∈ F := fun y x hx e => (mF y).mpr ⟨mem_rg.mpr (g.rng _ e).1, .step e ((mF x).mp hx).2⟩
  have neF : F ≠ [] := fun e => by
    cases a with
    | nil => exact na rfl
    | cons x a => have := aF x List.mem_cons_self; rw [e] at this; cases this
  have hP := part_of_ok g hn100 (LD.tup F) lF neF
  have gP := part_good g lF
  have hA : m_apart [webD n E, ti a, ti b, ti c] = pure (.bl (!conB E a b c)) := apart_ok g hn100 S (.tup a) (.tup b) (.tup c) na nb
  have lFl := lF.len
  have hB : m_apart [webD F.length (partE F E), ti (mv F a), ti (mv F b), ti (mv F c)] = pure (.bl (!conB E a b c)) := by
    have := apart_ok gP (show F.length ≤ 100 by omega) (mv_st lF S aF bF cF) (.tup _) (.tup _) (.tup _) (mv_ne na) (mv_ne nb)
    rw [con_part g lF cl S.ac S.bc aF bF cF] at this
    exact this
  have eL : listD [ti F] = pure (F.map D.int) := rfl
  have eT : tupleD [D.lst ((sortI (a ++ b ++ c)).map D.int)] = some (ti (sortI (a ++ b ++ c))) := rfl
  simp only [lotS, stL, runS, startE, sSeq, sIf, sSet, sRet, sRetN, sNil, sParV, sFor, sApp, sAppPop, tCmp, tVal, tAnd, tOr, tNot, tYes, tThaw, andB, orB, notB, andV, orV, notV, dC, dBin, dBlt, dVar, dCall, dNew, dThaw, dTup, dIf, dAnd, dOr, dNot, dIsi, dSl, dAttr, oN, oS, nLst, nList, nRng1, nRng2, nSeq, nOwn, nSorted, nThaw, gNm, vD, vN, seqV, setE, Say.pure_bind, Say.bind_assoc, List.getElem?_cons_zero, List.getElem?_cons_succ, seqA, slD, List.set_cons_succ, List.set_cons_zero, thaw, Sl.thaw, List.map_cons, List.map_nil, lift_some, truB_bl, bindT, ownL, slOwn, List.length_cons, List.length_nil, List.cons_append, List.nil_append, List.replicate, Nat.reduceAdd, Nat.reduceSub, List.all_cons, List.all_nil, mkTup0, mkTup1, mkTup2, mkLst0, mkLst1, mkLst4, mkLst5, mkLst8, wipeE, sPar, sOwnS, sStore2, sPut, dNeg, negD, sOwnK, nListK, dDget, tDin, dDin, nSetS, sPop, sDput, sExt, ownK, dDc, sWhile, sBad, sAsg, sDrop, nSortT, add_ti a b (by omega), add_ti (a ++ b) c (by rw [List.length_append]; omega), eS, eT, hF, hP, hA, eL, moved_ok aF, moved_ok bF, moved_ok cF, hB, ne_bl, decide_true, Bool.not_true, Bool.false_eq_true, if_false, ne_prsnil]
  by_cases e : E = []
  · simp only [e, decide_true, Bool.not_true, Bool.false_eq_true, if_false]
    subst e
    exact Tr.mono (hk (.dat (ti F)) (.dat (webD F.length (partE F []))) _ _ _ _ _ _) (fun _ z => z) (by omega)
  · simp only [e, decide_false, Bool.not_false, if_true]
    rw [show listD [D.tup (E.map prD)] = pure (E.map prD) from rfl]
    simp only [runS, startE, sSeq, sIf, sSet, sRet, sRetN, sNil, sParV, sFor, sApp, sAppPop, tCmp, tVal, tAnd, tOr, tNot, tYes, tThaw, andB, orB, notB, andV, orV, notV, dC, dBin, dBlt, dVar, dCall, dNew, dThaw, dTup, dIf, dAnd, dOr, dNot, dIsi, dSl, dAttr, oN, oS, nLst, nList, nRng1, nRng2, nSeq, nOwn, nSorted, nThaw, gNm, vD, vN, seqV, setE, Say.pure_bind, Say.bind_assoc, List.getElem?_cons_zero, List.getElem?_cons_succ, seqA, slD, List.set_cons_succ, List.set_cons_zero, thaw, Sl.thaw, List.map_cons, List.map_nil, lift_some, truB_bl, bindT, ownL, slOwn, List.length_cons, List.length_nil, List.cons_append, List.nil_append, List.replicate, Nat.reduceAdd, Nat.reduceSub, List.all_cons, List.all_nil, mkTup0, mkTup1, mkTup2, mkLst0, mkLst1, mkLst4, mkLst5, mkLst8, wipeE, sPar, sOwnS, sStore2, sPut, dNeg, negD, sOwnK, nListK, dDget, tDin, dDin, nSetS, sPop, sDput, sExt, ownK, dDc, sWhile, sBad, sAsg, sDrop, nSortT]
    refine Tr.bind (C1 := 1) (C2 := N) (pick_ok (by rw [List.length_map]; exact List.length_pos_iff.mpr e) (by rw [List.length_map]; have := g.len; omega)) fun d hd => ?_
    obtain ⟨w, hw, rfl⟩ := List.mem_map.mp hd
    obtain ⟨y19, hz⟩ := arr_pure g h1 hn S na nb hw x5 x6 x7 x8 x9 x10 (.dat (ti F)) (.dat (webD F.length (partE F E))) x19
    exact Tr.eq (hz k' kk k') (hk _ _ _ _ _ _ _ _)
theorem lap_tr (g : Good n E) (h3 : 3 ≤ n) (hn : n ≤ 6) (x5 x6 x7 x8 x9 x10 x11 x12 x13 x15 x16 x17 x18 x19 : Sl) (N : Nat) (k' kk : Say.Env → M D) (P : D → Prop)
    (hk : ∀ x11 x12 x13 x15 x16 x17 x18 x19 : Sl, Tr N (k' (stL n E x5 x6 x7 x8 x9 x10 x11 x12 x13 x15 x16 x17 x18 x19)) P) :
    Tr (21 + N) (lapS k' pure kk k' (stL n E x5 x6 x7 x8 x9 x10 x11 x12 x13 x15 x16 x17 x18 x19)) P := by
  have e0 : lapS k' pure kk k' (stL n E x5 x6 x7 x8 x9 x10 x11 x12 x13 x15 x16 x17 x18 x19) = m__law_three_lots [.pen, .int (n : Int)] >>= fun d => bindT (unpackD [gNm 15, gNm 16, gNm 17] d (stL n E x5 x6 x7 x8 x9 x10 x11 x12 x13 x15 x16 x17 x18 x19)) (lotS k' pure kk k') := by
    rw [lapS, sSeq, sAsg]
    simp only [stL, dCall, seqA, dVar, List.getElem?_cons_zero, List.getElem?_cons_succ, slD, Say.pure_bind]
  refine Tr.eq e0 (Tr.bind (C1 := 20) (C2 := 1 + N) (three_ok h3 hn) fun d ⟨a, b, c, ed, S, na, nb⟩ => ?_)
  subst ed
  exact lot_tr g (by omega) hn S na nb x5 x6 x7 x8 x9 x10 x11 x12 x13 x18 x19 N k' kk P hk
theorem due_list (g : Good n E) (hn : n ≤ 6) {s : Int} (x5 x7 x9 x10 : Sl) : lcM [14, 20, 17] (nSeq (dCall m_all_apart [(dVar 4)])) (unpackD [gNm 14, gNm 20, gNm 17]) (tAnd (tCmp ninD (dVar 6) (dTup [(dVar 14), (dVar 20)])) (tCmp ninD (dVar 6) (dVar 17))) (dTup [(dIndexL (dVar 8) (dVar 14)), (dIndexL (dVar 8) (dVar 20)), (dCall m__law_moved [(dVar 17), (dVar 8)])]) (stL n E x5 (.dat (.int s)) x7 (.dat (.lst ((rst n s).map D.int))) x9 x10 .no .no .no .no .no .no .no .no) = pure ((dueR n E s).map rowD) := by
  unfold lcM
  have e0 : nSeq (dCall m_all_apart [(dVar 4)]) (stL n E x5 (.dat (.int s)) x7 (.dat (.lst ((rst n s).map D.int))) x9 x10 .no .no .no .no .no .no .no .no) = pure ((allA n E).map rowD) := by
    simp only [stL, runS, startE, sSeq, sIf, sSet, sRet, sRetN, sNil, sParV, sFor, sApp, sAppPop, tCmp, tVal, tAnd, tOr, tNot, tYes, tThaw, andB, orB, notB, andV, orV, notV, dC, dBin, dBlt, dVar, dCall, dNew, dThaw, dTup, dIf, dAnd, dOr, dNot, dIsi, dSl, dAttr, oN, oS, nLst, nList, nRng1, nRng2, nSeq, nOwn, nSorted, nThaw, gNm, vD, vN, seqV, setE, Say.pure_bind, Say.bind_assoc, List.getElem?_cons_zero, List.getElem?_cons_succ, seqA, slD, List.set_cons_succ, List.set_cons_zero, thaw, Sl.thaw, List.map_cons, List.map_nil, lift_some, truB_bl, bindT, ownL, slOwn, List.length_cons, List.length_nil, List.cons_append, List.nil_append, List.replicate, Nat.reduceAdd, Nat.reduceSub, List.all_cons, List.all_nil, mkTup0, mkTup1, mkTup2, mkLst0, mkLst1, mkLst4, mkLst5, mkLst8, wipeE, sPar, sOwnS, sStore2, sPut, dNeg, negD, sOwnK, nListK, dDget, tDin, dDin, nSetS, sPop, sDput, sExt, ownK, dDc, sWhile, sBad, sAsg, sDrop, nSortT, all_apart_ok g (show n ≤ 8 by omega)]
    rfl
  rw [e0, Say.pure_bind, if_pos (show okW [14, 20, 17] (stL n E x5 (.dat (.int s)) x7 (.dat (.lst ((rst n s).map D.int))) x9 x10 .no .no .no .no .no .no .no .no) = true from rfl)]
  have := compL_map (h := fun x => unpackD [gNm 14, gNm 20, gNm 17] x (wipeE (stL n E x5 (.dat (.int s)) x7 (.dat (.lst ((rst n s).map D.int))) x9 x10 .no .no .no .no .no .no .no .no) [14, 20, 17])) (t := (tAnd (tCmp ninD (dVar 6) (dTup [(dVar 14), (dVar 20)])) (tCmp ninD (dVar 6) (dVar 17)))) (e := (dTup [(dIndexL (dVar 8) (dVar 14)), (dIndexL (dVar 8) (dVar 20)), (dCall m__law_moved [(dVar 17), (dVar 8)])])) (l := allA n E) rowD (keepB s) (fun r => rowD (mvR (rst n s) r)) fun r hr => ⟨_, rfl, ?_, fun hk => ?_⟩
  · rw [this]
    unfold dueR
    rw [List.map_map]
    rfl
  · simp only [stL, runS, startE, sSeq, sIf, sSet, sRet, sRetN, sNil, sParV, sFor, sApp, sAppPop, tCmp, tVal, tAnd, tOr, tNot, tYes, tThaw, andB, orB, notB, andV, orV, notV, dC, dBin, dBlt, dVar, dCall, dNew, dThaw, dTup, dIf, dAnd, dOr, dNot, dIsi, dSl, dAttr, oN, oS, nLst, nList, nRng1, nRng2, nSeq, nOwn, nSorted, nThaw, gNm, vD, vN, seqV, setE, Say.pure_bind, Say.bind_assoc, List.getElem?_cons_zero, List.getElem?_cons_succ, seqA, slD, List.set_cons_succ, List.set_cons_zero, thaw, Sl.thaw, List.map_cons, List.map_nil, lift_some, truB_bl, bindT, ownL, slOwn, List.length_cons, List.length_nil, List.cons_append, List.nil_append, List.replicate, Nat.reduceAdd, Nat.reduceSub, List.all_cons, List.all_nil, mkTup0, mkTup1, mkTup2, mkLst0, mkLst1, mkLst4, mkLst5, mkLst8, wipeE, sPar, sOwnS, sStore2, sPut, dNeg, negD, sOwnK, nListK, dDget, tDin, dDin, nSetS, sPop, sDput, sExt, ownK, dDc, sWhile, sBad, sAsg, sDrop, nSortT]
    rw [show D.tup [D.int r.1, D.int r.2.1] = ti [r.1, r.2.1] from rfl]
    simp only [nin_ints, runS, startE, sSeq, sIf, sSet, sRet, sRetN, sNil, sParV, sFor, sApp, sAppPop, tCmp, tVal, tAnd, tOr, tNot, tYes, tThaw, andB, orB, notB, andV, orV, notV, dC, dBin, dBlt, dVar, dCall, dNew, dThaw, dTup, dIf, dAnd, dOr, dNot, dIsi, dSl, dAttr, oN, oS, nLst, nList, nRng1, nRng2, nSeq, nOwn, nSorted, nThaw, gNm, vD, vN, seqV, setE, Say.pure_bind, Say.bind_assoc, List.getElem?_cons_zero, List.getElem?_cons_succ, seqA, slD, List.set_cons_succ, List.set_cons_zero, thaw, Sl.thaw, List.map_cons, List.map_nil, lift_some, truB_bl, bindT, ownL, slOwn, List.length_cons, List.length_nil, List.cons_append, List.nil_append, List.replicate, Nat.reduceAdd, Nat.reduceSub, List.all_cons, List.all_nil, mkTup0, mkTup1, mkTup2, mkLst0, mkLst1, mkLst4, mkLst5, mkLst8, wipeE, sPar, sOwnS, sStore2, sPut, dNeg, negD, sOwnK, nListK, dDget, tDin, dDin, nSetS, sPop, sDput, sExt, ownK, dDc, sWhile, sBad, sAsg, sDrop, nSortT]
    unfold keepB
    by_cases q : s ∈ [r.1, r.2.1] <;> simp [q]
  · obtain ⟨p1, p2, p3⟩ := keep_in hr hk
    obtain ⟨j1, hj1⟩ := idx_some p1
    obtain ⟨j2, hj2⟩ := idx_some p2
    simp only [stL, dIndexL, runS, startE, sSeq, sIf, sSet, sRet, sRetN, sNil, sParV, sFor, sApp, sAppPop, tCmp, tVal, tAnd, tOr, tNot, tYes, tThaw, andB, orB, notB, andV, orV, notV, dC, dBin, dBlt, dVar, dCall, dNew, dThaw, dTup, dIf, dAnd, dOr, dNot, dIsi, dSl, dAttr, oN, oS, nLst, nList, nRng1, nRng2, nSeq, nOwn, nSorted, nThaw, gNm, vD, vN, seqV, setE, Say.pure_bind, Say.bind_assoc, List.getElem?_cons_zero, List.getElem?_cons_succ, seqA, slD, List.set_cons_succ, List.set_cons_zero, thaw, Sl.thaw, List.map_cons, List.map_nil, lift_some, truB_bl, bindT, ownL, slOwn, List.length_cons, List.length_nil, List.cons_append, List.nil_append, List.replicate, Nat.reduceAdd, Nat.reduceSub, List.all_cons, List.all_nil, mkTup0, mkTup1, mkTup2, mkLst0, mkLst1, mkLst4, mkLst5, mkLst8, wipeE, sPar, sOwnS, sStore2, sPut, dNeg, negD, sOwnK, nListK, dDget, tDin, dDin, nSetS, sPop, sDput, sExt, ownK, dDc, sWhile, sBad, sAsg, sDrop, nSortT, lstI, intsOf_map, indexM, hj1, hj2, Option.map_some, moved_ok p3, mkTup3]
    unfold mvR pix
    rw [hj1, hj2]
    rfl
end
noncomputable def midS : S := (sSeq (sAsg (unpackD [gNm 8, gNm 9]) (dTup [(dNew (lcM [14] (nRng1 (dVar 2)) (gNm 14) (tCmp neD (dVar 14) (dVar 6)) (dVar 14))), (dCall m_struck [(dVar 4), (dTup [(dVar 6)])])]))
  (sIf (tCmp (odD .lt) (dVar 2) (dC (.int 6))) (sSeq (sSet 10 (dNew (lcM [14, 20, 17] (nSeq (dCall m_all_apart [(dVar 4)])) (unpackD [gNm 14, gNm 20, gNm 17]) (tAnd (tCmp ninD (dVar 6) (dTup [(dVar 14), (dVar 20)])) (tCmp ninD (dVar 6) (dVar 17))) (dTup [(dIndexL (dVar 8) (dVar 14)), (dIndexL (dVar 8) (dVar 20)), (dCall m__law_moved [(dVar 17), (dVar 8)])]))))
  (sIf (tCmp neD (dCall m_all_apart [(dVar 9)]) (dBlt tupleD [(dNew (nSort3 [(dVar 10)]))])) (sRet (dC (.bl false))) sNil)) sNil))
section
variable {n : Nat} {E : List (Int × Int)}
theorem mid_pure (g : Good n E) (h3 : 3 ≤ n) (hn : n ≤ 6) {s : Int} (hs : s ∈ rg n) (hT : tgtI n E s = []) (x5 : Sl) :
    ∃ y8 y9 y10, ∀ k' kk b' : Say.Env → M D, midS k' pure kk b' (stL n E x5 (.dat (.int s)) .no .no .no .no .no .no .no .no .no .no .no .no) = k' (stL n E x5 (.dat (.int s)) .no y8 y9 y10 .no .no .no .no .no .no .no .no) := by
  have noT : ∀ x, ¬ ar E s x := fun x e => by
    have := (mem_tgtI g).mpr e
    rw [hT] at this
    cases this
  have hlen := rst_len hs
  have gL : Good (n - 1) (partE (rst n s) E) := by rw [← hlen]; exact part_good g (rst_lt n s)
  have e1 : lcM [14] (nRng1 (dVar 2)) (gNm 14) (tCmp neD (dVar 14) (dVar 6)) (dVar 14) (stL n E x5 (.dat (.int s)) .no .no .no .no .no .no .no .no .no .no .no .no) = pure ((rst n s).map D.int) := by
    refine lc_nm (l := rg n) D.int (fun z => !decide (z = s)) D.int ?_ rfl fun z _ => ?_
    · simp only [stL, runS, startE, sSeq, sIf, sSet, sRet, sRetN, sNil, sParV, sFor, sApp, sAppPop, tCmp, tVal, tAnd, tOr, tNot, tYes, tThaw, andB, orB, notB, andV, orV, notV, dC, dBin, dBlt, dVar, dCall, dNew, dThaw, dTup, dIf, dAnd, dOr, dNot, dIsi, dSl, dAttr, oN, oS, nLst, nList, nRng1, nRng2, nSeq, nOwn, nSorted, nThaw, gNm, vD, vN, seqV, setE, Say.pure_bind, Say.bind_assoc, List.getElem?_cons_zero, List.getElem?_cons_succ, seqA, slD, List.set_cons_succ, List.set_cons_zero, thaw, Sl.thaw, List.map_cons, List.map_nil, lift_some, truB_bl, bindT, ownL, slOwn, List.length_cons, List.length_nil, List.cons_append, List.nil_append, List.replicate, Nat.reduceAdd, Nat.reduceSub, List.all_cons, List.all_nil, mkTup0, mkTup1, mkTup2, mkLst0, mkLst1, mkLst4, mkLst5, mkLst8, wipeE, sPar, sOwnS, sStore2, sPut, dNeg, negD, sOwnK, nListK, dDget, tDin, dDin, nSetS, sPop, sDput, sExt, ownK, dDc, sWhile, sBad, sAsg, sDrop, nSortT]
      rw [rngM_nat n (by omega), rg_map]
    · simp only [stL, runS, startE, sSeq, sIf, sSet, sRet, sRetN, sNil, sParV, sFor, sApp, sAppPop, tCmp, tVal, tAnd, tOr, tNot, tYes, tThaw, andB, orB, notB, andV, orV, notV, dC, dBin, dBlt, dVar, dCall, dNew, dThaw, dTup, dIf, dAnd, dOr, dNot, dIsi, dSl, dAttr, oN, oS, nLst, nList, nRng1, nRng2, nSeq, nOwn, nSorted, nThaw, gNm, vD, vN, seqV, setE, Say.pure_bind, Say.bind_assoc, List.getElem?_cons_zero, List.getElem?_cons_succ, seqA, slD, List.set_cons_succ, List.set_cons_zero, thaw, Sl.thaw, List.map_cons, List.map_nil, lift_some, truB_bl, bindT, ownL, slOwn, List.length_cons, List.length_nil, List.cons_append, List.nil_append, List.replicate, Nat.reduceAdd, Nat.reduceSub, List.all_cons, List.all_nil, mkTup0, mkTup1, mkTup2, mkLst0, mkLst1, mkLst4, mkLst5, mkLst8, wipeE, sPar, sOwnS, sStore2, sPut, dNeg, negD, sOwnK, nListK, dDget, tDin, dDin, nSetS, sPop, sDput, sExt, ownK, dDc, sWhile, sBad, sAsg, sDrop, nSortT, ne_int]
      exact ⟨trivial, fun _ => trivial⟩
  have hS : m_struck [webD n E, .tup [.int s]] = pure (webD (n - 1) (partE (rst n s) E)) := struck_ok g (by omega) (by omega) hs
  have e2 : ∀ k' kk b' : Say.Env → M D, midS k' pure kk b' (stL n E x5 (.dat (.int s)) .no .no .no .no .no .no .no .no .no .no .no .no) = (sIf (tCmp (odD .lt) (dVar 2) (dC (.int 6))) (sSeq (sSet 10 (dNew (lcM [14, 20, 17] (nSeq (dCall m_all_apart [(dVar 4)])) (unpackD [gNm 14, gNm 20, gNm 17]) (tAnd (tCmp ninD (dVar 6) (dTup [(dVar 14), (dVar 20)])) (tCmp ninD (dVar 6) (dVar 17))) (dTup [(dIndexL (dVar 8) (dVar 14)), (dIndexL (dVar 8) (dVar 20)), (dCall m__law_moved [(dVar 17), (dVar 8)])]))))
  (sIf (tCmp neD (dCall m_all_apart [(dVar 9)]) (dBlt tupleD [(dNew (nSort3 [(dVar 10)]))])) (sRet (dC (.bl false))) sNil)) sNil) k' pure kk b' (stL n E x5 (.dat (.int s)) .no (.dat (.lst ((rst n s).map D.int))) (.dat (webD (n - 1) (partE (rst n s) E))) .no .no .no .no .no .no .no .no .no) := fun k' kk b' => by
    rw [midS, sSeq, sAsg]
    simp only [dTup, seqA, dNew, e1, Say.pure_bind]
    simp only [stL, runS, startE, sSeq, sIf, sSet, sRet, sRetN, sNil, sParV, sFor, sApp, sAppPop, tCmp, tVal, tAnd, tOr, tNot, tYes, tThaw, andB, orB, notB, andV, orV, notV, dC, dBin, dBlt, dVar, dCall, dNew, dThaw, dTup, dIf, dAnd, dOr, dNot, dIsi, dSl, dAttr, oN, oS, nLst, nList, nRng1, nRng2, nSeq, nOwn, nSorted, nThaw, gNm, vD, vN, seqV, setE, Say.pure_bind, Say.bind_assoc, List.getElem?_cons_zero, List.getElem?_cons_succ, seqA, slD, List.set_cons_succ, List.set_cons_zero, thaw, Sl.thaw, List.map_cons, List.map_nil, lift_some, truB_bl, bindT, ownL, slOwn, List.length_cons, List.length_nil, List.cons_append, List.nil_append, List.replicate, Nat.reduceAdd, Nat.reduceSub, List.all_cons, List.all_nil, mkTup0, mkTup1, mkTup2, mkLst0, mkLst1, mkLst4, mkLst5, mkLst8, wipeE, sPar, sOwnS, sStore2, sPut, dNeg, negD, sOwnK, nListK, dDget, tDin, dDin, nSetS, sPop, sDput, sExt, ownK, dDc, sWhile, sBad, sAsg, sDrop, nSortT, hS, unpackD, unpack]
  by_cases c : (n : Int) < 6
  · refine ⟨.dat (.lst ((rst n s).map D.int)), .dat (webD (n - 1) (partE (rst n s) E)), .dat (.lst ((dueR n E s).map rowD)), fun k' kk b' => ?_⟩
    rw [e2, sIf]
    have c1 : tCmp (odD .lt) (dVar 2) (dC (.int 6)) (stL n E x5 (.dat (.int s)) .no (.dat (.lst ((rst n s).map D.int))) (.dat (webD (n - 1) (partE (rst n s) E))) .no .no .no .no .no .no .no .no .no) = pure true := by
      simp only [stL, runS, startE, sSeq, sIf, sSet, sRet, sRetN, sNil, sParV, sFor, sApp, sAppPop, tCmp, tVal, tAnd, tOr, tNot, tYes, tThaw, andB, orB, notB, andV, orV, notV, dC, dBin, dBlt, dVar, dCall, dNew, dThaw, dTup, dIf, dAnd, dOr, dNot, dIsi, dSl, dAttr, oN, oS, nLst, nList, nRng1, nRng2, nSeq, nOwn, nSorted, nThaw, gNm, vD, vN, seqV, setE, Say.pure_bind, Say.bind_assoc, List.getElem?_cons_zero, List.getElem?_cons_succ, seqA, slD, List.set_cons_succ, List.set_cons_zero, thaw, Sl.thaw, List.map_cons, List.map_nil, lift_some, truB_bl, bindT, ownL, slOwn, List.length_cons, List.length_nil, List.cons_append, List.nil_append, List.replicate, Nat.reduceAdd, Nat.reduceSub, List.all_cons, List.all_nil, mkTup0, mkTup1, mkTup2, mkLst0, mkLst1, mkLst4, mkLst5, mkLst8, wipeE, sPar, sOwnS, sStore2, sPut, dNeg, negD, sOwnK, nListK, dDget, tDin, dDin, nSetS, sPop, sDput, sExt, ownK, dDc, sWhile, sBad, sAsg, sDrop, nSortT, od_int, show Od.lt.i (n : Int) 6 = true from decide_eq_true c]
    rw [c1, Say.pure_bind, if_pos rfl, sSeq, sSet, dNew]
    simp only [due_list g hn, Say.pure_bind]
    simp only [stL, runS, startE, sSeq, sIf, sSet, sRet, sRetN, sNil, sParV, sFor, sApp, sAppPop, tCmp, tVal, tAnd, tOr, tNot, tYes, tThaw, andB, orB, notB, andV, orV, notV, dC, dBin, dBlt, dVar, dCall, dNew, dThaw, dTup, dIf, dAnd, dOr, dNot, dIsi, dSl, dAttr, oN, oS, nLst, nList, nRng1, nRng2, nSeq, nOwn, nSorted, nThaw, gNm, vD, vN, seqV, setE, Say.pure_bind, Say.bind_assoc, List.getElem?_cons_zero, List.getElem?_cons_succ, seqA, slD, List.set_cons_succ, List.set_cons_zero, thaw, Sl.thaw, List.map_cons, List.map_nil, lift_some, truB_bl, bindT, ownL, slOwn, List.length_cons, List.length_nil, List.cons_append, List.nil_append, List.replicate, Nat.reduceAdd, Nat.reduceSub, List.all_cons, List.all_nil, mkTup0, mkTup1, mkTup2, mkLst0, mkLst1, mkLst4, mkLst5, mkLst8, wipeE, sPar, sOwnS, sStore2, sPut, dNeg, negD, sOwnK, nListK, dDget, tDin, dDin, nSetS, sPop, sDput, sExt, ownK, dDc, sWhile, sBad, sAsg, sDrop, nSortT, nSort3, all_apart_ok gL (show n - 1 ≤ 8 by omega), sort3_rows, due_ok g hs noT hlen]
    rw [show tupleD [D.lst ((sort3 (dueR n E s)).map rowD)] = some (.tup ((sort3 (dueR n E s)).map rowD)) from rfl]
    simp only [runS, startE, sSeq, sIf, sSet, sRet, sRetN, sNil, sParV, sFor, sApp, sAppPop, tCmp, tVal, tAnd, tOr, tNot, tYes, tThaw, andB, orB, notB, andV, orV, notV, dC, dBin, dBlt, dVar, dCall, dNew, dThaw, dTup, dIf, dAnd, dOr, dNot, dIsi, dSl, dAttr, oN, oS, nLst, nList, nRng1, nRng2, nSeq, nOwn, nSorted, nThaw, gNm, vD, vN, seqV, setE, Say.pure_bind, Say.bind_assoc, List.getElem?_cons_zero, List.getElem?_cons_succ, seqA, slD, List.set_cons_succ, List.set_cons_zero, thaw, Sl.thaw, List.map_cons, List.map_nil, lift_some, truB_bl, bindT, ownL, slOwn, List.length_cons, List.length_nil, List.cons_append, List.nil_append, List.replicate, Nat.reduceAdd, Nat.reduceSub, List.all_cons, List.all_nil, mkTup0, mkTup1, mkTup2, mkLst0, mkLst1, mkLst4, mkLst5, mkLst8, wipeE, sPar, sOwnS, sStore2, sPut, dNeg, negD, sOwnK, nListK, dDget, tDin, dDin, nSetS, sPop, sDput, sExt, ownK, dDc, sWhile, sBad, sAsg, sDrop, nSortT, ne_rows, Bool.false_eq_true, if_false]
  · refine ⟨.dat (.lst ((rst n s).map D.int)), .dat (webD (n - 1) (partE (rst n s) E)), .no, fun k' kk b' => ?_⟩
    rw [e2, sIf]
    have c1 : tCmp (odD .lt) (dVar 2) (dC (.int 6)) (stL n E x5 (.dat (.int s)) .no (.dat (.lst ((rst n s).map D.int))) (.dat (webD (n - 1) (partE (rst n s) E))) .no .no .no .no .no .no .no .no .no) = pure false := by
      simp only [stL, runS, startE, sSeq, sIf, sSet, sRet, sRetN, sNil, sParV, sFor, sApp, sAppPop, tCmp, tVal, tAnd, tOr, tNot, tYes, tThaw, andB, orB, notB, andV, orV, notV, dC, dBin, dBlt, dVar, dCall, dNew, dThaw, dTup, dIf, dAnd, dOr, dNot, dIsi, dSl, dAttr, oN, oS, nLst, nList, nRng1, nRng2, nSeq, nOwn, nSorted, nThaw, gNm, vD, vN, seqV, setE, Say.pure_bind, Say.bind_assoc, List.getElem?_cons_zero, List.getElem?_cons_succ, seqA, slD, List.set_cons_succ, List.set_cons_zero, thaw, Sl.thaw, List.map_cons, List.map_nil, lift_some, truB_bl, bindT, ownL, slOwn, List.length_cons, List.length_nil, List.cons_append, List.nil_append, List.replicate, Nat.reduceAdd, Nat.reduceSub, List.all_cons, List.all_nil, mkTup0, mkTup1, mkTup2, mkLst0, mkLst1, mkLst4, mkLst5, mkLst8, wipeE, sPar, sOwnS, sStore2, sPut, dNeg, negD, sOwnK, nListK, dDget, tDin, dDin, nSetS, sPop, sDput, sExt, ownK, dDc, sWhile, sBad, sAsg, sDrop, nSortT, od_int, show Od.lt.i (n : Int) 6 = false from decide_eq_false c]
    rw [c1, Say.pure_bind, if_neg (by decide)]
    rfl
end
theorem law_tr : Tr 300 (runL N_law S_law) (fun d => d = .bl true) := by
  have e : runL N_law S_law = m__law_pick [.pen, .lst [.int 4, .int 3, .int 5, .int 6]] >>= fun d2 => m__law_web_arrows [.pen, d2] >>= fun d3 => m_Web [d2, d3] >>= fun d4 => lcM [14] (nRng1 (dVar 2)) (gNm 14) (tCmp eqD (dCall m_targets [(dVar 4), (dVar 14)]) (dTup [])) (dVar 14) [.no, .dat .pen, .dat d2, .dat d3, .dat d4, .no, .no, .no, .no, .no, .no, .no, .no, .no, .no, .no, .no, .no, .no, .no, .no] >>= fun xs => m__law_pick [.pen, .lst xs] >>= fun d6 => sSeq midS (sSeq (sFor (nRng1 (dC (.int 6))) (gNm 7) lapS) (sRet (dC (.bl true)))) (fun _ => pure .non) pure (fun _ => bad) (fun _ => bad) [.no, .dat .pen, .dat d2, .dat d3, .dat d4, .dat (.lst xs), .dat d6, .no, .no, .no, .no, .no, .no, .no, .no, .no, .no, .no, .no, .no, .no] := by
    simp only [runL, envL, N_law, S_law, midS, lapS, lotS, arrS, runS, startE, sSeq, sIf, sSet, sRet, sRetN, sNil, sParV, sFor, sApp, sAppPop, tCmp, tVal, tAnd, tOr, tNot, tYes, tThaw, andB, orB, notB, andV, orV, notV, dC, dBin, dBlt, dVar, dCall, dNew, dThaw, dTup, dIf, dAnd, dOr, dNot, dIsi, dSl, dAttr, oN, oS, nLst, nList, nRng1, nRng2, nSeq, nOwn, nSorted, nThaw, gNm, vD, vN, seqV, setE, Say.pure_bind, Say.bind_assoc, List.getElem?_cons_zero, List.getElem?_cons_succ, seqA, slD, List.set_cons_succ, List.set_cons_zero, thaw, Sl.thaw, List.map_cons, List.map_nil, lift_some, truB_bl, bindT, ownL, slOwn, List.length_cons, List.length_nil, List.cons_append, List.nil_append, List.replicate, Nat.reduceAdd, Nat.reduceSub, List.all_cons, List.all_nil, mkTup0, mkTup1, mkTup2, mkLst0, mkLst1, mkLst4, mkLst5, mkLst8, wipeE, sPar, sOwnS, sStore2, sPut, dNeg, negD]
    rfl
  rw [e]
  refine Tr.bind (C1 := 1) (C2 := 299) (pick_ok (by show 1 ≤ 4; decide) (by show 4 < 1073741824; decide)) fun d hd => ?_
  obtain ⟨n, rfl, h3, hn⟩ : ∃ n : Nat, d = .int (n : Int) ∧ 3 ≤ n ∧ n ≤ 6 := by
    simp only [List.mem_cons, List.not_mem_nil, or_false] at hd
    rcases hd with rfl | rfl | rfl | rfl
    · exact ⟨4, rfl, by decide, by decide⟩
    · exact ⟨3, rfl, by decide, by decide⟩
    · exact ⟨5, rfl, by decide, by decide⟩
    · exact ⟨6, rfl, by decide, by decide⟩
  refine Tr.bind (C1 := 120) (C2 := 179) (arrows_made (by omega) hn) fun d ⟨E, ed, g⟩ => ?_
  subst ed
  rw [web_ok g (by omega) (by omega), Say.pure_bind]
  have el : lcM [14] (nRng1 (dVar 2)) (gNm 14) (tCmp eqD (dCall m_targets [(dVar 4), (dVar 14)]) (dTup [])) (dVar 14) [.no, .dat .pen, .dat (.int (n : Int)), .dat (.tup (E.map prD)), .dat (webD n E), .no, .no, .no, .no, .no, .no, .no, .no, .no, .no, .no, .no, .no, .no, .no, .no] = pure (((rg n).filter fun z => decide (tgtI n E z = [])).map D.int) := by
    refine lc_nm (l := rg n) D.int (fun z => decide (tgtI n E z = [])) D.int ?_ rfl fun z hz => ?_
    · simp only [runS, startE, sSeq, sIf, sSet, sRet, sRetN, sNil, sParV, sFor, sApp, sAppPop, tCmp, tVal, tAnd, tOr, tNot, tYes, tThaw, andB, orB, notB, andV, orV, notV, dC, dBin, dBlt, dVar, dCall, dNew, dThaw, dTup, dIf, dAnd, dOr, dNot, dIsi, dSl, dAttr, oN, oS, nLst, nList, nRng1, nRng2, nSeq, nOwn, nSorted, nThaw, gNm, vD, vN, seqV, setE, Say.pure_bind, Say.bind_assoc, List.getElem?_cons_zero, List.getElem?_cons_succ, seqA, slD, List.set_cons_succ, List.set_cons_zero, thaw, Sl.thaw, List.map_cons, List.map_nil, lift_some, truB_bl, bindT, ownL, slOwn, List.length_cons, List.length_nil, List.cons_append, List.nil_append, List.replicate, Nat.reduceAdd, Nat.reduceSub, List.all_cons, List.all_nil, mkTup0, mkTup1, mkTup2, mkLst0, mkLst1, mkLst4, mkLst5, mkLst8, wipeE, sPar, sOwnS, sStore2, sPut, dNeg, negD, sOwnK, nListK, dDget, tDin, dDin, nSetS, sPop, sDput, sExt, ownK, dDc, sWhile, sBad, sAsg, sDrop, nSortT]
      rw [rngM_nat n (by omega), rg_map]
    · simp only [runS, startE, sSeq, sIf, sSet, sRet, sRetN, sNil, sParV, sFor, sApp, sAppPop, tCmp, tVal, tAnd, tOr, tNot, tYes, tThaw, andB, orB, notB, andV, orV, notV, dC, dBin, dBlt, dVar, dCall, dNew, dThaw, dTup, dIf, dAnd, dOr, dNot, dIsi, dSl, dAttr, oN, oS, nLst, nList, nRng1, nRng2, nSeq, nOwn, nSorted, nThaw, gNm, vD, vN, seqV, setE, Say.pure_bind, Say.bind_assoc, List.getElem?_cons_zero, List.getElem?_cons_succ, seqA, slD, List.set_cons_succ, List.set_cons_zero, thaw, Sl.thaw, List.map_cons, List.map_nil, lift_some, truB_bl, bindT, ownL, slOwn, List.length_cons, List.length_nil, List.cons_append, List.nil_append, List.replicate, Nat.reduceAdd, Nat.reduceSub, List.all_cons, List.all_nil, mkTup0, mkTup1, mkTup2, mkLst0, mkLst1, mkLst4, mkLst5, mkLst8, wipeE, sPar, sOwnS, sStore2, sPut, dNeg, negD, sOwnK, nListK, dDget, tDin, dDin, nSetS, sPop, sDput, sExt, ownK, dDc, sWhile, sBad, sAsg, sDrop, nSortT, targets_ok (E := E) (show n ≤ 100 by omega) hz]
      rw [show eqD (ti (tgtI n E z)) (.tup []) = some (.bl (decide (tgtI n E z = []))) from eq_tis _ []]
      exact ⟨rfl, fun _ => trivial⟩
  rw [el, Say.pure_bind]
  have ne : 1 ≤ (((rg n).filter fun z => decide (tgtI n E z = [])).map D.int).length := by
    obtain ⟨i, hi, hT⟩ := sink g (by omega)
    rw [List.length_map]
    exact List.length_pos_of_mem (List.mem_filter.mpr ⟨hi, decide_eq_true hT⟩)
  have le : (((rg n).filter fun z => decide (tgtI n E z = [])).map D.int).length < 1073741824 := by
    rw [List.length_map]
    have := List.length_filter_le (fun z => decide (tgtI n E z = [])) (rg n)
    rw [rg_len] at this
    omega
  refine Tr.bind (C1 := 1) (C2 := 178) (pick_ok ne le) fun d hd => ?_
  obtain ⟨s, hs, rfl⟩ := List.mem_map.mp hd
  obtain ⟨hs, hT⟩ := List.mem_filter.mp hs
  obtain ⟨y8, y9, y10, hz⟩ := mid_pure g h3 hn hs (of_decide_eq_true hT) (.dat (.lst (((rg n).filter fun z => decide (tgtI n E z = [])).map D.int)))
  rw [sSeq]
  refine Tr.eq (hz _ _ _) ?_
  rw [sSeq, sFor]
  have e0 : nRng1 (dC (.int 6)) (stL n E (.dat (.lst (((rg n).filter fun z => decide (tgtI n E z = [])).map D.int))) (.dat (.int s)) .no y8 y9 y10 .no .no .no .no .no .no .no .no) = pure ((List.range 6).map fun k : Nat => D.int (k : Int)) := rngM_nat 6 (by decide)
  rw [e0, Say.pure_bind]
  refine Tr.mono (forN (C := 21) (C0 := 0) 6 (fun k : Nat => D.int (k : Int)) (fun j ρ => ∃ x7 x11 x12 x13 x15 x16 x17 x18 x19 : Sl, ρ = stL n E (.dat (.lst (((rg n).filter fun z => decide (tgtI n E z = [])).map D.int))) (.dat (.int s)) x7 y8 y9 y10 x11 x12 x13 x15 x16 x17 x18 x19) ?_ ?_ _ ⟨.no, .no, .no, .no, .no, .no, .no, .no, .no, rfl⟩) (fun _ z => z) (by decide)
  · rintro ρ ⟨x7, x11, x12, x13, x15, x16, x17, x18, x19, rfl⟩
    exact Tr.pure rfl
  · rintro j hj ρ ⟨x7, x11, x12, x13, x15, x16, x17, x18, x19, rfl⟩ N k' hk
    exact lap_tr g h3 hn _ _ (.dat (.int (j : Int))) y8 y9 y10 x11 x12 x13 x15 x16 x17 x18 x19 N k' _ _ fun x11 x12 x13 x15 x16 x17 x18 x19 => hk _ ⟨_, x11, x12, x13, x15, x16, x17, x18, x19, rfl⟩
theorem law_main : ∀ ns : List Int, ns.length ≤ 63 → wpM (runL N_law S_law) (pen0 ns) (fun d _ => d = .bl true) fun _ _ _ => False := by
  intro ns hns
  refine wp_mono (law_tr (pen0 ns) (pen0_ok hns) (by show (0 : Int) + ((300 : Nat) : Int) ≤ 1000000000; omega)) (fun d s h => h.1) fun _ _ _ z => z
end SayLaw

set_option maxHeartbeats 0

namespace SayLaw
open PySem PySem.Spec PyProof.Rows L2 Say
abbrev R : PySem.W.OpenRow := PySem.W.OpenLaw.row PySem.Challenge.rw_sayalike_k17_whole_places_struck
abbrev qv : Program := PySem.W.view R.prog [58]
def names : List PySem.Str := (["SayError", "BadWeb", "BadLot", "BadNumber", "BadValue", "BadLine", "Unlike", "Rounded", "is_whole", "MOST_READ", "is_list", "is_index", "is_lot_of", "is_arrow", "are_arrows", "lot_told", "some_lot_told", "place_told", "least_round", "has_round", "arrows_looked", "Web", "number_read", "size_read", "arrow_read"] : List PySem.Str) ++ (["web_read", "sources_in", "targets_in", "targets", "is_tie", "reached", "ahead_in", "ahead_of", "part_in", "part_of", "struck", "with_arrow", "arrow_told", "without_arrow", "statement_told", "near_in", "side_of", "are_apart", "apart", "lots_of", "all_apart", "_law_web_arrows", "_law_three_lots", "_law_pen", "_law_draw"] : List PySem.Str) ++ (["_law_pick", "_law_shuffled", "_law_moved"] : List PySem.Str)
abbrev hk : PySem.W.Hook := hookE 4 (kitChk2 CS TS ES) fa fn
def ob (s : PySem.W.SharedT) : ObE := obsE 4 (kitChk2 CS TS ES) fa fn (HandSHeadRun.getT s)
theorem ob_eq (s : PySem.W.SharedT) : ob s = hk.obs s.abs := obsE_eq (HandSHeadRun.getT_eq s)
theorem run (w : World) : HandSHeadRun.RunEq R qv hk ob 4000 names w := by
  intro os
  kernel_rfl
end SayLaw
open PyProof.Rows PySem.Calls PySem.W PySem
theorem PySem.Challenge.cw_sayalike_k17_whole_places_struck_holds : PySem.Challenge.rw_sayalike_k17_whole_places_struck.Holds := by
  w_on; o_law
  refine HandSHeadRun.head_any (r := SayLaw.R) (q := SayLaw.qv) (H := SayLaw.hk) (ob := SayLaw.ob) (M := 4000) (loose := SayLaw.names) (d := HandSHeadRun.topDef SayLaw.R.prog 58) (kwd := []) SayLaw.ob_eq
    (by kernel_rfl) (fun s => by kernel_rfl) SayLaw.run (by kernel_rfl) (by kernel_rfl) (by kernel_rfl) (by rfl) (by first | assumption | decide +kernel) (by decide +kernel) ⟨rfl, rfl, rfl, rfl, rfl, by decide +kernel⟩ ?hw ?hc
  case hw => w_witness2
  case hc =>
    refine Say.walkE (l := PySem.Challenge.rw_sayalike_k17_whole_places_struck) (n := 63) (k := 10) (x := "script") rfl (by decide) (by kernel_rfl) ⟨rfl, by decide, by decide⟩ ?F
    intro w mg fa h Y G hmg0
    obtain ⟨K, KX, c⟩ := Y
    have hmg : mg ("law" : PySem.Str)
        = some (.ref fa) := by
      have e : (HandSHeadRun.topDef SayLaw.R.prog 58).name = ("law" : PySem.Str) := by kernel_rfl
      rw [← e]
      exact hmg0
    have H : SayLaw.Hd K mg := ⟨c, h, KX, G⟩
    have e := H.g_law.symm.trans hmg
    cases e
    obtain ⟨fd, hb, hF⟩ := SayLaw.h_law (P := PySem.Challenge.rw_sayalike_k17_whole_places_struck.prog) (w := w) H SayLaw.law_main
    exact ⟨K, fd, Say.spLaw K, KX, hb, fun H a ns hl _ hS => ⟨a, ns, rfl, hS, hl, fun v _ z => z⟩, fun base _ _ => hF base⟩

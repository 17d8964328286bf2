import PyProof.Rows.All
import Wide.All
import OpenK.AllK
import Wide.FinOn
import HandS.ForMost
import HandS.Style
import HandS.Star
import HandS.IsInst
import HandS.Sort
import HandS.Strs
import HandS.DictComp
import HandS.Zip
import HandS.Walk
import HandS.Conv
import HandS.Codes
import KE.GoesNew
import KE.KDictZip
import PySem.Challenge.RW_eitherbarter_k16_whole_good_or_not
set_option Elab.async false
set_option linter.all false
set_option maxRecDepth 100000
set_option maxHeartbeats 4000000
/-! K16: a book without closed trails has a barter that parts its two sides. Plain Lean. -/
namespace K16
section
variable {α β : Type}
/-- barter e has on its side b the good x -/
abbrev Sides (α β : Type) := α → Bool → β → Prop
def Lk (s : Sides α β) (e : α) (x y : β) : Prop := ∃ b, s e b x ∧ s e (!b) y
theorem Lk.symm {s : Sides α β} {e : α} {x y : β} (h : Lk s e x y) : Lk s e y x := by
  obtain ⟨b, h1, h2⟩ := h
  exact ⟨!b, h2, by rw [Bool.not_not]; exact h1⟩
/-- a way by links -/
inductive Wk (s : Sides α β) : β → List α → β → Prop
  | nil (x : β) : Wk s x [] x
  | cons {x y z : β} {e : α} {p : List α} : Lk s e x y → Wk s y p z → Wk s x (e :: p) z
def Acyc (s : Sides α β) : Prop := ∀ (x : β) (p : List α), Wk s x p x → p.Nodup → p = []
/-- hanging together by barters of a sort -/
inductive Cn (s : Sides α β) (P : α → Prop) : β → β → Prop
  | refl (x : β) : Cn s P x x
  | step {x y z : β} {e : α} {b c : Bool} : P e → s e b x → s e c y → Cn s P y z → Cn s P x z
variable {s : Sides α β}
theorem Wk.inv_nil {x y : β} (h : Wk s x [] y) : x = y := by cases h; rfl
theorem Wk.inv_cons {x z : β} {e : α} {p : List α} (h : Wk s x (e :: p) z) : ∃ y, Lk s e x y ∧ Wk s y p z := by
  cases h with
  | cons h1 h2 => exact ⟨_, h1, h2⟩
theorem Wk.app {x y z : β} {p q : List α} (h : Wk s x p y) (k : Wk s y q z) : Wk s x (p ++ q) z := by
  induction h with
  | nil x => exact k
  | cons l _ ih => exact .cons l (ih k)
theorem Wk.one {x y : β} {e : α} (h : Lk s e x y) : Wk s x [e] y := .cons h (.nil _)
theorem Wk.rev {x y : β} {p : List α} (h : Wk s x p y) : Wk s y p.reverse x := by
  induction h with
  | nil x => exact .nil _
  | cons l _ ih =>
    rw [List.reverse_cons]
    exact ih.app (.one l.symm)
theorem Wk.split : ∀ {p q : List α} {x z : β}, Wk s x (p ++ q) z → ∃ y, Wk s x p y ∧ Wk s y q z
  | [], _, x, _, h => ⟨x, .nil _, h⟩
  | _ :: _, _, _, _, h => by
    obtain ⟨y, l, k⟩ := Wk.inv_cons h
    obtain ⟨w, k1, k2⟩ := Wk.split k
    exact ⟨w, .cons l k1, k2⟩
theorem Wk.labels {Q : α → Prop} {x y : β} {p : List α} (hs : ∀ e b x, s e b x → Q e) (h : Wk s x p y) : ∀ e ∈ p, Q e := by
  induction h with
  | nil x => intro e he; cases he
  | cons l _ ih =>
    intro e he
    rcases List.mem_cons.mp he with rfl | he
    · obtain ⟨b, h1, _⟩ := l
      exact hs _ _ _ h1
    · exact ih e he
theorem Wk.mono {s' : Sides α β} (hs : ∀ e b x, s e b x → s' e b x) {x y : β} {p : List α} (h : Wk s x p y) : Wk s' x p y := by
  induction h with
  | nil x => exact .nil _
  | cons l _ ih =>
    obtain ⟨b, h1, h2⟩ := l
    exact .cons ⟨b, hs _ _ _ h1, hs _ _ _ h2⟩ ih
theorem Cn.trans {P : α → Prop} {x y z : β} (h : Cn s P x y) (k : Cn s P y z) : Cn s P x z := by
  induction h with
  | refl => exact k
  | step a b c _ ih => exact .step a b c (ih k)
theorem Cn.symm {P : α → Prop} {x y : β} (h : Cn s P x y) : Cn s P y x := by
  induction h with
  | refl => exact .refl _
  | step a b c _ ih => exact ih.trans (.step a c b (.refl _))
theorem nd_app {l m : List α} (h1 : l.Nodup) (h2 : m.Nodup) (h3 : ∀ a ∈ l, a ∉ m) : (l ++ m).Nodup :=
  List.nodup_append.mpr ⟨h1, h2, fun a ha b hb e => h3 a ha (e ▸ hb)⟩
theorem nd_app1 {l m : List α} (h : (l ++ m).Nodup) : l.Nodup := (List.nodup_append.mp h).1
theorem nd_app2 {l m : List α} (h : (l ++ m).Nodup) : m.Nodup := (List.nodup_append.mp h).2.1
theorem nd_app3 {l m : List α} (h : (l ++ m).Nodup) : ∀ a ∈ l, a ∉ m := fun a ha hb => (List.nodup_append.mp h).2.2 a ha a hb rfl
theorem nd_rot {l m : List α} (h : (l ++ m).Nodup) : (m ++ l).Nodup := nd_app (nd_app2 h) (nd_app1 h) fun a ha hb => nd_app3 h a hb ha
theorem nd_rev {l : List α} (h : l.Nodup) : l.reverse.Nodup := by
  induction l with
  | nil => simp
  | cons a l ih =>
    rw [List.reverse_cons]
    have ⟨h1, h2⟩ := List.nodup_cons.mp h
    exact nd_app (ih h2) (by simp) fun b hb hb2 => by
      have e : b = a := by simpa using hb2
      subst e
      exact h1 (List.mem_reverse.mp hb)
/-- the first thing of a list that has a property -/
theorem first_of {Q : α → Prop} : ∀ {l : List α}, (∃ a ∈ l, Q a) → ∃ l1 a l2, l = l1 ++ a :: l2 ∧ Q a ∧ (∀ b ∈ l1, ¬ Q b)
  | [], h => by obtain ⟨a, ha, _⟩ := h; cases ha
  | x :: l, h => by
    by_cases hx : Q x
    · exact ⟨[], x, l, rfl, hx, fun _ hb => nomatch hb⟩
    · obtain ⟨a, ha, qa⟩ := h
      have ha' : a ∈ l := by
        rcases List.mem_cons.mp ha with rfl | z
        · exact absurd qa hx
        · exact z
      obtain ⟨l1, c, l2, e, qc, hn⟩ := first_of ⟨a, ha', qa⟩
      refine ⟨x :: l1, c, l2, by rw [e]; rfl, qc, fun b hb => ?_⟩
      rcases List.mem_cons.mp hb with rfl | z
      · exact hx
      · exact hn b z
/-- a way without repeats from g to a good of t's side with g does not use t -/
theorem first_way (ac : Acyc s) {t : α} {b : Bool} {g h : β} {p : List α} (hg : s t b g) (hh : s t b h) (w : Wk s g p h) (nd : p.Nodup) : t ∉ p := fun ht => by
  obtain ⟨p1, p2, rfl⟩ := List.append_of_mem ht
  obtain ⟨u, w1, w2⟩ := w.split
  obtain ⟨v, l, w3⟩ := w2.inv_cons
  obtain ⟨c, hu, hv⟩ := l
  have nd2 := nd_app2 nd
  have ⟨n1, n2⟩ := List.nodup_cons.mp nd2
  by_cases e : c = b
  · subst e
    have z := ac v (p2 ++ [t]) (w3.app (.one ⟨c, hh, hv⟩)) (nd_app n2 (by simp) fun a ha hb => by
      have e : a = t := by simpa using hb
      subst e
      exact n1 ha)
    simp at z
  · have eb : c = !b := by cases c <;> cases b <;> simp at e ⊢
    subst eb
    have z := ac g (p1 ++ [t]) (w1.app (.one ⟨!b, hu, by rw [Bool.not_not]; exact hg⟩)) (nd_app (nd_app1 nd) (by simp) fun a ha hb => by
      have e : a = t := by simpa using hb
      subst e
      exact nd_app3 nd a ha List.mem_cons_self)
    simp at z
/-- .. and shares no barter with a way that begins at g with t -/
theorem second_way (ac : Acyc s) {t : α} {b : Bool} {g h y : β} {P p : List α} (hg : s t b g) (hh : s t b h) (w : Wk s g (t :: P) y) (nd : (t :: P).Nodup) (w' : Wk s g p h) (nd' : p.Nodup) : ∀ a ∈ t :: P, a ∉ p := fun a ha hb => by
  obtain ⟨l1, c, l2, e, hc, hn⟩ := first_of (Q := fun a => a ∈ p) ⟨a, ha, hb⟩
  have tp : t ∉ p := first_way ac hg hh w' nd'
  obtain ⟨m, rfl⟩ : ∃ m, l1 = t :: m := by
    cases l1 with
    | nil =>
      have e1 : t = c := (List.cons.inj e).1
      subst e1
      exact absurd hc tp
    | cons u m =>
      have e1 : t = u := (List.cons.inj e).1
      subst e1
      exact ⟨m, rfl⟩
  rw [e] at w nd
  obtain ⟨q1, q2, rfl⟩ := List.append_of_mem hc
  obtain ⟨n, w1, w2⟩ := w.split
  obtain ⟨f, l, _⟩ := w2.inv_cons
  obtain ⟨n', w1', w2'⟩ := w'.split
  obtain ⟨f', l', w3'⟩ := w2'.inv_cons
  obtain ⟨d, hd1, hd2⟩ := l
  obtain ⟨d', hd1', hd2'⟩ := l'
  by_cases ed : d' = d
  · subst ed
    have nw : Wk s g ((t :: m) ++ c :: q2) h := w1.app (.cons ⟨d', hd1, hd2'⟩ w3')
    refine first_way ac hg hh nw (nd_app (nd_app1 nd) (nd_app2 nd') fun a ha hb => ?_) (by simp)
    exact hn a ha (List.mem_append_right _ hb)
  · have eb : d' = !d := by cases d <;> cases d' <;> simp at ed ⊢
    subst eb
    have nw : Wk s g ((t :: m) ++ c :: q1.reverse) g := w1.app (.cons ⟨d, hd1, hd1'⟩ w1'.rev)
    have z := ac g _ nw (nd_app (nd_app1 nd) (List.nodup_cons.mpr ⟨fun z => nd_app3 nd' c (List.mem_reverse.mp z) List.mem_cons_self, nd_rev (nd_app1 nd')⟩) fun a ha hb => ?_)
    · simp at z
    · rcases List.mem_cons.mp hb with rfl | z
      · exact nd_app3 nd a ha List.mem_cons_self
      · exact hn a ha (List.mem_append_left _ (List.mem_reverse.mp z))
/-- from t on to u: a way from g that begins with u leads to t's side with g -/
def Onw (s : Sides α β) (g : β) (t u : α) : Prop := ∃ p h b, Wk s g (u :: p) h ∧ (u :: p).Nodup ∧ s t b g ∧ s t b h
theorem Onw.irr (ac : Acyc s) {g : β} {t : α} : ¬ Onw s g t t := fun ⟨_, _, _, w, nd, h1, h2⟩ => first_way ac h1 h2 w nd List.mem_cons_self
theorem Onw.trans (ac : Acyc s) {g : β} {a t u : α} (h : Onw s g a t) (k : Onw s g t u) : Onw s g a u := by
  obtain ⟨q, h1, b1, w1, nd1, x1, y1⟩ := h
  obtain ⟨p, h2, b, w2, nd2, x2, y2⟩ := k
  obtain ⟨z, l, w3⟩ := w1.inv_cons
  obtain ⟨c, c1, c2⟩ := l
  have e : c = b := by
    by_cases e : c = b
    · exact e
    · have eb : c = !b := by cases c <;> cases b <;> simp at e ⊢
      subst eb
      have z := ac g [t] (.one ⟨b, x2, c1⟩) (by simp)
      simp at z
  subst e
  have nw : Wk s g ((u :: p) ++ t :: q) h1 := w2.app (.cons ⟨c, y2, c2⟩ w3)
  have dis := second_way ac x2 y2 w1 nd1 w2 nd2
  exact ⟨p ++ t :: q, h1, b1, nw, nd_app nd2 nd1 fun a ha hb => dis a hb ha, x1, y1⟩
theorem max_of {R : α → α → Prop} (irr : ∀ a, ¬ R a a) (tr : ∀ a b c, R a b → R b c → R a c) : ∀ (l : List α), l ≠ [] → ∃ m ∈ l, ∀ x ∈ l, ¬ R m x
  | [], h => absurd rfl h
  | [a], _ => ⟨a, by simp, fun x hx => by
    have e : x = a := by simpa using hx
    subst e
    exact irr x⟩
  | a :: b :: l, _ => by
    obtain ⟨m, hm, hx⟩ := max_of irr tr (b :: l) (by simp)
    by_cases r : R m a
    · refine ⟨a, List.mem_cons_self, fun x hx' => ?_⟩
      rcases List.mem_cons.mp hx' with rfl | z
      · exact irr _
      · exact fun q => hx x z (tr _ _ _ r q)
    · refine ⟨m, List.mem_cons_of_mem _ hm, fun x hx' => ?_⟩
      rcases List.mem_cons.mp hx' with rfl | z
      · exact r
      · exact hx x z
/-- for a good that some barter has: a barter with it such that no way leads from it to another good of its side -/
theorem far_side (ac : Acyc s) {E : List α} (hE : ∀ e b x, s e b x → e ∈ E) {g : β} (hg : ∃ t b, s t b g) :
    ∃ t b, s t b g ∧ ∀ h, s t b h → h ≠ g → ∀ p, p.Nodup → ¬ Wk s g p h := by
  classical
  have ne : E.filter (fun t => decide (∃ b, s t b g)) ≠ [] := fun z => by
    obtain ⟨t, b, h⟩ := hg
    have m : t ∈ E.filter (fun t => decide (∃ b, s t b g)) := List.mem_filter.mpr ⟨hE _ _ _ h, decide_eq_true ⟨b, h⟩⟩
    rw [z] at m
    cases m
  obtain ⟨t, ht, hm⟩ := max_of (R := Onw s g) (fun _ => Onw.irr ac) (fun _ _ _ => Onw.trans ac) _ ne
  obtain ⟨b, hb⟩ := of_decide_eq_true (List.mem_filter.mp ht).2
  refine ⟨t, b, hb, fun h hh hne p nd w => ?_⟩
  cases p with
  | nil => exact hne w.inv_nil.symm
  | cons u p =>
    obtain ⟨y, l, _⟩ := w.inv_cons
    obtain ⟨c, hc, _⟩ := l
    exact hm u (List.mem_filter.mpr ⟨hE _ _ _ hc, decide_eq_true ⟨c, hc⟩⟩) ⟨p, h, b, w, nd, hb, hh⟩
/-! ### a map of a list into itself comes back -/
theorem len_le_of_sub [DecidableEq β] : ∀ {l V : List β}, l.Nodup → (∀ x ∈ l, x ∈ V) → l.length ≤ V.length
  | [], _, _, _ => Nat.zero_le _
  | a :: l, V, h, k => by
    have ⟨h1, h2⟩ := List.nodup_cons.mp h
    have ha : a ∈ V := k a List.mem_cons_self
    have e := List.length_erase_of_mem ha
    have p := List.length_pos_of_mem ha
    have z := len_le_of_sub (l := l) (V := V.erase a) h2 fun x hx => by
      have ne : x ≠ a := fun q => by
        subst q
        exact h1 hx
      exact (List.mem_erase_of_ne ne).mpr (k x (List.mem_cons_of_mem _ hx))
    rw [List.length_cons]
    omega
def its (f : β → β) : Nat → β → List β
  | 0, _ => []
  | n + 1, x => x :: its f n (f x)
def itr (f : β → β) : Nat → β → β
  | 0, x => x
  | n + 1, x => itr f n (f x)
theorem itr_add (f : β → β) : ∀ (m n : Nat) (x : β), itr f (m + n) x = itr f n (itr f m x)
  | 0, n, x => by rw [Nat.zero_add]; rfl
  | m + 1, n, x => by
    rw [Nat.succ_add]
    exact itr_add f m n (f x)
theorem its_len (f : β → β) : ∀ (n : Nat) (x : β), (its f n x).length = n
  | 0, _ => rfl
  | n + 1, x => by
    show (its f n (f x)).length + 1 = n + 1
    rw [its_len]
theorem mem_its (f : β → β) : ∀ {n : Nat} {x y : β}, y ∈ its f n x → ∃ i, i < n ∧ y = itr f i x
  | 0, _, _, h => nomatch h
  | n + 1, x, y, h => by
    rcases List.mem_cons.mp h with rfl | h
    · exact ⟨0, Nat.zero_lt_succ _, rfl⟩
    · obtain ⟨i, hi, e⟩ := mem_its f h
      exact ⟨i + 1, Nat.succ_lt_succ hi, e⟩
theorem its_nd (f : β → β) : ∀ {n : Nat} {x : β}, ¬ (its f n x).Nodup → ∃ i j, i < j ∧ j < n ∧ itr f i x = itr f j x
  | 0, _, h => absurd List.nodup_nil h
  | n + 1, x, h => by
    by_cases hx : x ∈ its f n (f x)
    · obtain ⟨i, hi, e⟩ := mem_its f hx
      exact ⟨0, i + 1, Nat.zero_lt_succ _, Nat.succ_lt_succ hi, e⟩
    · by_cases hn : (its f n (f x)).Nodup
      · exact absurd (List.nodup_cons.mpr ⟨hx, hn⟩) h
      · obtain ⟨i, j, h1, h2, e⟩ := its_nd f hn
        exact ⟨i + 1, j + 1, Nat.succ_lt_succ h1, Nat.succ_lt_succ h2, e⟩
theorem comes_back [DecidableEq β] {f : β → β} {V : List β} (hf : ∀ x ∈ V, f x ∈ V) {x0 : β} (h0 : x0 ∈ V) : ∃ x ∈ V, ∃ k, itr f (k + 1) x = x ∧ (its f (k + 1) x).Nodup := by
  have inV : ∀ n x, x ∈ V → itr f n x ∈ V := by
    intro n
    induction n with
    | zero => intro x h; exact h
    | succ n ih => intro x h; exact ih (f x) (hf x h)
  have nn : ¬ (its f (V.length + 1) x0).Nodup := fun z => by
    have q := len_le_of_sub z fun y hy => by
      obtain ⟨i, _, e⟩ := mem_its f hy
      rw [e]
      exact inV i x0 h0
    rw [its_len] at q
    omega
  obtain ⟨i, j, hij, _, e⟩ := its_nd f nn
  have back : ∃ k, itr f (k + 1) (itr f i x0) = itr f i x0 := ⟨j - i - 1, by
    rw [← itr_add, show i + (j - i - 1 + 1) = j by omega, ← e]⟩
  -- the least such number
  have least : ∀ n (x : β), itr f (n + 1) x = x → ∃ k, itr f (k + 1) x = x ∧ (its f (k + 1) x).Nodup := by
    intro n
    induction n using Nat.strongRecOn with
    | ind n ih =>
      intro x hx
      by_cases nd : (its f (n + 1) x).Nodup
      · exact ⟨n, hx, nd⟩
      · obtain ⟨a, b, hab, hb, e⟩ := its_nd f nd
        have q : itr f (a + (n + 1 - b)) x = x := by
          rw [itr_add, e, ← itr_add, show b + (n + 1 - b) = n + 1 by omega, hx]
        exact ih (a + (n + 1 - b) - 1) (by omega) x (by rw [show a + (n + 1 - b) - 1 + 1 = a + (n + 1 - b) by omega]; exact q)
  obtain ⟨k, hk⟩ := back
  obtain ⟨k', h1, h2⟩ := least k _ hk
  exact ⟨_, inV i x0 h0, k', h1, h2⟩
/-- where no barter has one good on either side, some good that a barter has is never alone on a side -/
theorem never_alone [DecidableEq β] (ac : Acyc s) {V : List β} (hV : ∀ e b x, s e b x → x ∈ V) (full : ∀ e b x, s e b x → ∃ y, s e (!b) y) {x0 : β} (h0 : ∃ e b, s e b x0)
    (no1 : ∀ e x y, (∀ z, s e true z ↔ z = x) → (∀ z, s e false z ↔ z = y) → False) : ∃ g, (∃ e b, s e b g) ∧ ∀ e b, s e b g → ∃ h, s e b h ∧ h ≠ g := by
  classical
  refine Classical.byContradiction fun hno => ?_
  have al : ∀ g, (∃ e b, s e b g) → ∃ e b y, s e b g ∧ (∀ h, s e b h → h = g) ∧ s e (!b) y := fun g hg => by
    refine Classical.byContradiction fun hn => hno ⟨g, hg, fun e b he => ?_⟩
    refine Classical.byContradiction fun hn2 => hn ?_
    obtain ⟨y, hy⟩ := full e b g he
    exact ⟨e, b, y, he, fun h hh => Classical.byContradiction fun ne => hn2 ⟨h, hh, ne⟩, hy⟩
  let T : β → Prop := fun g => ∃ e b, s e b g
  have h0' : T x0 := h0
  obtain ⟨e0, b0, y0, hs0, _, _⟩ := al x0 h0
  let A : β → α := fun g => if h : T g then Classical.choose (al g h) else e0
  have hA : ∀ g, T g → ∃ b y, s (A g) b g ∧ (∀ h, s (A g) b h → h = g) ∧ s (A g) (!b) y := fun g hg => by
    have q := Classical.choose_spec (al g hg)
    have e : A g = Classical.choose (al g hg) := dif_pos hg
    rw [e]
    exact q
  let f : β → β := fun g => if h : T g then Classical.choose (Classical.choose_spec (hA g h)) else g
  have hf : ∀ g, T g → ∃ b, s (A g) b g ∧ (∀ h, s (A g) b h → h = g) ∧ s (A g) (!b) (f g) := fun g hg => by
    have q := Classical.choose_spec (Classical.choose_spec (hA g hg))
    have e : f g = Classical.choose (Classical.choose_spec (hA g hg)) := dif_pos hg
    rw [e]
    exact ⟨_, q⟩
  have fT : ∀ g, T g → T (f g) := fun g hg => by
    obtain ⟨b, _, _, h⟩ := hf g hg
    exact ⟨_, _, h⟩
  have inj : ∀ g g', T g → T g' → A g = A g' → g = g' := fun g g' hg hg' e => by
    obtain ⟨b, h1, h2, h3⟩ := hf g hg
    obtain ⟨b', h1', h2', h3'⟩ := hf g' hg'
    rw [← e] at h1' h2' h3'
    by_cases eb : b' = b
    · subst eb
      exact (h2 g' h1').symm
    · have eb' : b' = !b := by cases b <;> cases b' <;> simp at eb ⊢
      subst eb'
      cases b with
      | true => exact (no1 (A g) g g' (fun z => ⟨h2 z, fun z => z ▸ h1⟩) (fun z => ⟨h2' z, fun z => z ▸ h1'⟩)).elim
      | false => exact (no1 (A g) g' g (fun z => ⟨h2' z, fun z => z ▸ h1'⟩) (fun z => ⟨h2 z, fun z => z ▸ h1⟩)).elim
  obtain ⟨x, hx, k, ek, nk⟩ := comes_back (f := f) (V := V.filter fun g => decide (T g)) (fun x hx => by
    have tx : T x := of_decide_eq_true (List.mem_filter.mp hx).2
    obtain ⟨e, b, h⟩ := fT x tx
    exact List.mem_filter.mpr ⟨hV _ _ _ h, decide_eq_true ⟨e, b, h⟩⟩) (x0 := x0) (List.mem_filter.mpr ⟨hV _ _ _ hs0, decide_eq_true h0⟩)
  have tx : T x := of_decide_eq_true (List.mem_filter.mp hx).2
  have way : ∀ n x, T x → Wk s x ((its f n x).map A) (itr f n x) := by
    intro n
    induction n with
    | zero => intro x _; exact .nil x
    | succ n ih =>
      intro x tx
      obtain ⟨b, h1, _, h3⟩ := hf x tx
      exact .cons ⟨b, h1, h3⟩ (ih (f x) (fT x tx))
  have allT : ∀ n x, T x → ∀ y ∈ its f n x, T y := by
    intro n
    induction n with
    | zero => intro x _ y hy; cases hy
    | succ n ih =>
      intro x tx y hy
      rcases List.mem_cons.mp hy with rfl | hy
      · exact tx
      · exact ih (f x) (fT x tx) y hy
  have ndm : ∀ {l : List β}, l.Nodup → (∀ y ∈ l, T y) → (l.map A).Nodup := by
    intro l
    induction l with
    | nil => intro _ _; simp
    | cons a l ih =>
      intro h ht
      have ⟨h1, h2⟩ := List.nodup_cons.mp h
      rw [List.map_cons]
      refine List.nodup_cons.mpr ⟨fun hm => ?_, ih h2 fun y hy => ht y (List.mem_cons_of_mem _ hy)⟩
      obtain ⟨c, hc, e⟩ := List.mem_map.mp hm
      have q := inj c a (ht c (List.mem_cons_of_mem _ hc)) (ht a List.mem_cons_self) e
      exact h1 (q ▸ hc)
  have w := way (k + 1) x tx
  rw [ek] at w
  have z := ac x _ w (ndm nk (allT _ x tx))
  simp [its] at z
/-! ### two goods are merged -/
def mrg [DecidableEq β] (g h : β) (x : β) : β := if x = h then g else x
def Mrg [DecidableEq β] (s : Sides α β) (g h : β) : Sides α β := fun e b x => ∃ y, s e b y ∧ mrg g h y = x
theorem mrg_eq [DecidableEq β] {g h x y : β} (e : mrg g h x = mrg g h y) (ne : x ≠ y) : (x = g ∧ y = h) ∨ (x = h ∧ y = g) := by
  unfold mrg at e
  by_cases hx : x = h
  · rw [if_pos hx] at e
    by_cases hy : y = h
    · exact absurd (hx.trans hy.symm) ne
    · rw [if_neg hy] at e
      exact .inr ⟨hx, e.symm⟩
  · rw [if_neg hx] at e
    by_cases hy : y = h
    · rw [if_pos hy] at e
      exact .inl ⟨e, hy⟩
    · rw [if_neg hy] at e
      exact absurd e ne
theorem mrg_g [DecidableEq β] {g h : β} : mrg g h g = g := by
  unfold mrg
  by_cases e : g = h
  · rw [if_pos e]
  · rw [if_neg e]
theorem mrg_h [DecidableEq β] {g h : β} : mrg g h h = g := if_pos rfl
/-- a way among the merged goods is one among the goods, or comes by the merged good -/
theorem lift_way [DecidableEq β] {g h : β} : ∀ {p : List α} {x' y' : β}, p ≠ [] → Wk (Mrg s g h) x' p y' →
    (∃ x y, mrg g h x = x' ∧ mrg g h y = y' ∧ Wk s x p y) ∨ ∃ p1 p2, p = p1 ++ p2 ∧ p1 ≠ [] ∧ p2 ≠ [] ∧ Wk (Mrg s g h) x' p1 g ∧ Wk (Mrg s g h) g p2 y'
  | [], _, _, hp, _ => absurd rfl hp
  | e :: p, x', y', _, w => by
    obtain ⟨z', l, w2⟩ := w.inv_cons
    obtain ⟨b, ⟨x, hx, ex⟩, ⟨z, hz, ez⟩⟩ := id l
    by_cases hp : p = []
    · subst hp
      have e1 := w2.inv_nil
      subst e1
      exact .inl ⟨x, z, ex, ez, .one ⟨b, hx, hz⟩⟩
    · rcases lift_way hp w2 with ⟨z2, y, e2, ey, w3⟩ | ⟨p1, p2, ep, n1, n2, w3, w4⟩
      · by_cases ezz : z = z2
        · subst ezz
          exact .inl ⟨x, y, ex, ey, .cons ⟨b, hx, hz⟩ w3⟩
        · have q : z' = g := by
            rcases mrg_eq (ez.trans e2.symm) ezz with ⟨a, _⟩ | ⟨a, _⟩
            · rw [← ez, a, mrg_g]
            · rw [← ez, a, mrg_h]
          subst q
          exact .inr ⟨[e], p, rfl, by simp, hp, .one l, w2⟩
      · exact .inr ⟨e :: p1, p2, by rw [ep]; rfl, by simp, n2, .cons l w3, w4⟩
theorem acyc_mrg [DecidableEq β] (ac : Acyc s) {g h : β} (no : ∀ p, p.Nodup → ¬ Wk s g p h) : Acyc (Mrg s g h) := by
  have flat : ∀ {x y : β} {p : List α}, p ≠ [] → p.Nodup → mrg g h x = mrg g h y → Wk s x p y → False := fun {x y p} hp nd e w => by
    by_cases exy : x = y
    · subst exy
      exact hp (ac x p w nd)
    · rcases mrg_eq e exy with ⟨a, b⟩ | ⟨a, b⟩
      · subst a b
        exact no p nd w
      · subst a b
        exact no _ (nd_rev nd) w.rev
  have atg : ∀ n (p : List α), p.length ≤ n → p ≠ [] → p.Nodup → Wk (Mrg s g h) g p g → False := by
    intro n
    induction n with
    | zero =>
      intro p hl hp
      exact (hp (List.length_eq_zero_iff.mp (Nat.le_zero.mp hl))).elim
    | succ n ih =>
      intro p hl hp nd w
      rcases lift_way hp w with ⟨x, y, ex, ey, w1⟩ | ⟨p1, p2, rfl, n1, n2, w1, _⟩
      · exact flat hp nd (ex.trans ey.symm) w1
      · have l2 : 0 < p2.length := List.length_pos_iff.mpr n2
        rw [List.length_append] at hl
        exact ih p1 (by omega) n1 (nd_app1 nd) w1
  intro x p w nd
  refine Classical.byContradiction fun hp => ?_
  rcases lift_way hp w with ⟨u, v, eu, ev, w1⟩ | ⟨p1, p2, rfl, n1, n2, w1, w2⟩
  · exact flat hp nd (eu.trans ev.symm) w1
  · exact atg _ (p2 ++ p1) (Nat.le_refl _) (by simp [n1]) (nd_rot nd) (w2.app w1)
/-- hanging together, carried to the merged goods: barters within the two goods may be left out -/
theorem cn_mrg [DecidableEq β] {s' : Sides α β} {P : α → Prop} {g h : β} (hs : ∀ e b x, P e → s e b x → s' e b (mrg g h x) ∨ (∀ c y, s e c y → mrg g h y = g)) {x y : β} (c : Cn s P x y) : Cn s' P (mrg g h x) (mrg g h y) := by
  induction c with
  | refl => exact .refl _
  | step pe h1 h2 _ ih =>
    rcases hs _ _ _ pe h1 with q1 | q1
    · rcases hs _ _ _ pe h2 with q2 | q2
      · exact .step pe q1 q2 ih
      · have z := (q2 _ _ h1).trans (q2 _ _ h2).symm
        rw [z]
        exact ih
    · have z := (q1 _ _ h1).trans (q1 _ _ h2).symm
      rw [z]
      exact ih
/-- THE THEOREM: barters without a closed way: one of them parts what it has on its two sides -/
theorem parts [DecidableEq α] [DecidableEq β] : ∀ (n : Nat) (V : List β) (E : List α) (s : Sides α β), V.length ≤ n → (∀ e b x, s e b x → e ∈ E ∧ x ∈ V) → (∀ e ∈ E, ∀ b, ∃ x, s e b x) → Acyc s → E ≠ [] →
    ∃ e ∈ E, ∀ x y, s e true x → s e false y → ¬ Cn s (· ≠ e) x y := by
  intro n
  induction n with
  | zero =>
    intro V E s hn hs full ac hE
    exfalso
    obtain ⟨e, he⟩ := List.exists_mem_of_ne_nil E hE
    obtain ⟨x, hx⟩ := full e he true
    have q := List.length_pos_of_mem (hs _ _ _ hx).2
    omega
  | succ n ih =>
    intro V E s hn hs full ac hE
    have irr : ∀ e b x, s e b x → s e (!b) x → False := fun e b x h1 h2 => by
      have z := ac x [e] (.one ⟨b, h1, h2⟩) (by simp)
      simp at z
    have shorter : ∀ h, h ∈ V → (V.filter fun x => decide (x ≠ h)).length ≤ n := fun h hh => by
      have q : (V.filter fun x => decide (x ≠ h)).length < V.length := by
        have : ∀ l : List β, h ∈ l → (l.filter fun x => decide (x ≠ h)).length < l.length := by
          intro l
          induction l with
          | nil => intro z; cases z
          | cons a l ih2 =>
            intro z
            by_cases e : a = h
            · subst e
              rw [List.filter_cons_of_neg (by simp), List.length_cons]
              exact Nat.lt_succ_of_le (List.length_filter_le _ _)
            · rw [List.filter_cons_of_pos (by simp [e]), List.length_cons, List.length_cons]
              exact Nat.succ_lt_succ (ih2 ((List.mem_cons.mp z).resolve_left (Ne.symm e)))
        exact this V hh
      omega
    by_cases h1 : ∃ e ∈ E, ∃ a b, (∀ z, s e true z ↔ z = a) ∧ (∀ z, s e false z ↔ z = b)
    · obtain ⟨e, he, a, b, ha, hb⟩ := h1
      have sa : s e true a := (ha a).mpr rfl
      have sb : s e false b := (hb b).mpr rfl
      have nab : a ≠ b := fun z => by
        subst z
        exact irr e true a sa sb
      by_cases h2 : ∃ e' ∈ E, e' ≠ e
      · obtain ⟨e', he', ne'⟩ := h2
        let s0 : Sides α β := fun u c x => u ≠ e ∧ s u c x
        have s0s : ∀ u c x, s0 u c x → s u c x := fun _ _ _ h => h.2
        have ac0 : Acyc s0 := fun x p w nd => ac x p (w.mono s0s) nd
        have no : ∀ p, p.Nodup → ¬ Wk s0 a p b := fun p nd w => by
          have q := Wk.labels (Q := fun u => u ≠ e) (fun _ _ _ h => h.1) w
          have z := ac a (p ++ [e]) ((w.mono s0s).app (.one ⟨false, sb, sa⟩)) (nd_app nd (by simp) fun u hu hu' => by
            have z : u = e := by simpa using hu'
            exact q u hu z)
          simp at z
        have ac1 := acyc_mrg ac0 no
        have hbV := (hs _ _ _ sb).2
        have haV := (hs _ _ _ sa).2
        obtain ⟨f, hf, sep⟩ := ih (V.filter fun x => decide (x ≠ b)) (E.filter fun u => decide (u ≠ e)) (Mrg s0 a b) (shorter b hbV) (fun u c x h => by
          obtain ⟨y, ⟨hu, hy⟩, ey⟩ := h
          have q := hs _ _ _ hy
          refine ⟨List.mem_filter.mpr ⟨q.1, decide_eq_true hu⟩, ?_⟩
          unfold mrg at ey
          by_cases eb : y = b
          · rw [if_pos eb] at ey
            subst ey
            exact List.mem_filter.mpr ⟨haV, decide_eq_true nab⟩
          · rw [if_neg eb] at ey
            subst ey
            exact List.mem_filter.mpr ⟨q.2, decide_eq_true eb⟩) (fun u hu c => by
          have ⟨q1, q2⟩ := List.mem_filter.mp hu
          obtain ⟨x, hx⟩ := full u q1 c
          exact ⟨_, x, ⟨of_decide_eq_true q2, hx⟩, rfl⟩) ac1 (fun z => by
          have m : e' ∈ E.filter fun u => decide (u ≠ e) := List.mem_filter.mpr ⟨he', decide_eq_true ne'⟩
          rw [z] at m
          cases m)
        have ⟨hf1, hf2⟩ := List.mem_filter.mp hf
        have hfe : f ≠ e := of_decide_eq_true hf2
        refine ⟨f, hf1, fun x y hx hy c => ?_⟩
        refine sep _ _ ⟨x, ⟨hfe, hx⟩, rfl⟩ ⟨y, ⟨hfe, hy⟩, rfl⟩ (cn_mrg (fun u d z hu hz => ?_) c)
        by_cases eu : u = e
        · subst eu
          refine .inr fun c' y' hy' => ?_
          cases c' with
          | true => rw [(ha y').mp hy', mrg_g]
          | false => rw [(hb y').mp hy', mrg_h]
        · exact .inl ⟨z, ⟨eu, hz⟩, rfl⟩
      · refine ⟨e, he, fun x y hx hy c => ?_⟩
        have all : ∀ u ∈ E, u = e := fun u hu => Classical.byContradiction fun z => h2 ⟨u, hu, z⟩
        have stay : ∀ {x y : β}, Cn s (· ≠ e) x y → x = y := fun c => by
          cases c with
          | refl => rfl
          | step pe q _ _ => exact absurd (all _ (hs _ _ _ q).1) pe
        have q := stay c
        subst q
        exact irr e true x hx hy
    · obtain ⟨e0, he0⟩ := List.exists_mem_of_ne_nil E hE
      obtain ⟨x0, hx0⟩ := full e0 he0 true
      obtain ⟨g, hg, alone⟩ := never_alone ac (V := V) (fun e b x h => (hs _ _ _ h).2) (fun e b x h => full e (hs _ _ _ h).1 (!b)) ⟨e0, true, hx0⟩ (fun e x y hx hy => h1 ⟨e, (hs _ _ _ ((hx x).mpr rfl)).1, x, y, hx, hy⟩)
      obtain ⟨t, b, hb, far⟩ := far_side ac (E := E) (fun e b x h => (hs _ _ _ h).1) hg
      obtain ⟨h, hh, hne⟩ := alone t b hb
      have no := far h hh hne
      have gV := (hs _ _ _ hb).2
      have hV := (hs _ _ _ hh).2
      obtain ⟨f, hf, sep⟩ := ih (V.filter fun x => decide (x ≠ h)) E (Mrg s g h) (shorter h hV) (fun u c x q => by
        obtain ⟨y, hy, ey⟩ := q
        have q := hs _ _ _ hy
        refine ⟨q.1, ?_⟩
        unfold mrg at ey
        by_cases eb : y = h
        · rw [if_pos eb] at ey
          subst ey
          exact List.mem_filter.mpr ⟨gV, decide_eq_true (Ne.symm hne)⟩
        · rw [if_neg eb] at ey
          subst ey
          exact List.mem_filter.mpr ⟨q.2, decide_eq_true eb⟩) (fun u hu c => by
        obtain ⟨x, hx⟩ := full u hu c
        exact ⟨_, x, hx, rfl⟩) (acyc_mrg ac no) hE
      exact ⟨f, hf, fun x y hx hy c => sep _ _ ⟨x, hx, rfl⟩ ⟨y, hy, rfl⟩ (cn_mrg (fun u d z _ hz => .inl ⟨z, hz, rfl⟩) c)⟩
/-- a closed way shows as many barters as goods, each with goods on both sides -/
theorem square_of_way {x y : β} {p : List α} (w : Wk s x p y) : ∃ l : List β, l.length = p.length ∧ (p ≠ [] → x ∈ l) ∧ ∀ e ∈ p, ∃ u v, (u ∈ l ∨ u = y) ∧ (v ∈ l ∨ v = y) ∧ s e true u ∧ s e false v := by
  induction w with
  | nil x => exact ⟨[], rfl, fun h => absurd rfl h, fun e he => nomatch he⟩
  | cons l w ih =>
    rename_i x y z e p
    obtain ⟨m, h1, h2, h3⟩ := ih
    have hy : y ∈ x :: m ∨ y = z := by
      by_cases hp : p = []
      · subst hp
        exact .inr w.inv_nil
      · exact .inl (List.mem_cons_of_mem _ (h2 hp))
    refine ⟨x :: m, by rw [List.length_cons, h1]; rfl, fun _ => List.mem_cons_self, fun e' he' => ?_⟩
    rcases List.mem_cons.mp he' with rfl | he'
    · obtain ⟨b, hb1, hb2⟩ := l
      cases b with
      | true => exact ⟨x, y, .inl List.mem_cons_self, hy, hb1, hb2⟩
      | false => exact ⟨y, x, hy, .inl List.mem_cons_self, hb2, hb1⟩
    · obtain ⟨u, v, hu, hv, su, sv⟩ := h3 e' he'
      exact ⟨u, v, hu.imp (List.mem_cons_of_mem _) id, hv.imp (List.mem_cons_of_mem _) id, su, sv⟩
theorem square_of_cycle (h : ¬ Acyc s) : ∃ (l : List β) (p : List α), l ≠ [] ∧ p.Nodup ∧ l.length ≤ p.length ∧ ∀ e ∈ p, ∃ u v, u ∈ l ∧ v ∈ l ∧ s e true u ∧ s e false v := by
  refine Classical.byContradiction fun hn => h fun x p w nd => ?_
  refine Classical.byContradiction fun hp => hn ?_
  obtain ⟨l, h1, h2, h3⟩ := square_of_way w
  have hx := h2 hp
  refine ⟨l, p, List.ne_nil_of_mem hx, nd, Nat.le_of_eq h1, fun e he => ?_⟩
  obtain ⟨u, v, hu, hv, su, sv⟩ := h3 e he
  exact ⟨u, v, hu.elim id (fun z => z ▸ hx), hv.elim id (fun z => z ▸ hx), su, sv⟩
end
end K16
namespace K16
section
variable {β : Type}
/-- a barter as the program splits it: its name, what it gives, what it takes -/
structure Sd (β : Type) where
  nm : β
  gv : List β
  tk : List β
/-- a barter has some of the goods of P on both sides -/
def mixd (P : β → Bool) (e : Sd β) : Bool := e.gv.any P && e.tk.any P
/-- no mixed square: of any goods fewer barters are mixed among them than they are -/
def Good (G : List β) (S : List (Sd β)) : Prop := ∀ P : β → Bool, 0 < G.countP P → S.countP (mixd P) < G.countP P
def sdo (S : List (Sd β)) : Sides (Sd β) β := fun e b x => e ∈ S ∧ x ∈ (if b = true then e.gv else e.tk)
/-- goods hang together -/
def Cnn (S : List (Sd β)) : β → β → Prop := Cn (sdo S) (fun _ => True)
structure Wf (G : List β) (S : List (Sd β)) : Prop where
  nd : G.Nodup
  g0 : ∀ e ∈ S, e.gv ≠ []
  t0 : ∀ e ∈ S, e.tk ≠ []
  gs : ∀ e ∈ S, ∀ x ∈ e.gv, x ∈ G
  ts : ∀ e ∈ S, ∀ x ∈ e.tk, x ∈ G
  dj : ∀ e ∈ S, ∀ x ∈ e.gv, x ∉ e.tk
  nm : (S.map Sd.nm).Nodup
theorem Cnn.mono {S T : List (Sd β)} (h : ∀ e ∈ S, e ∈ T) {x y : β} (c : Cnn S x y) : Cnn T x y := by
  induction c with
  | refl => exact .refl _
  | step _ h1 h2 _ ih => exact .step trivial ⟨h _ h1.1, h1.2⟩ ⟨h _ h2.1, h2.2⟩ ih
theorem Cnn.symm {S : List (Sd β)} {x y : β} (c : Cnn S x y) : Cnn S y x := Cn.symm c
theorem Cnn.trans {S : List (Sd β)} {x y z : β} (c : Cnn S x y) (d : Cnn S y z) : Cnn S x z := Cn.trans c d
theorem Cnn.of {S : List (Sd β)} {e : Sd β} (he : e ∈ S) {x y : β} (hx : x ∈ e.gv ++ e.tk) (hy : y ∈ e.gv ++ e.tk) : Cnn S x y := by
  have q : ∀ z, z ∈ e.gv ++ e.tk → ∃ b, sdo S e b z := fun z hz => by
    rcases List.mem_append.mp hz with h | h
    · exact ⟨true, he, by simpa using h⟩
    · exact ⟨false, he, by simpa using h⟩
  obtain ⟨b, hb⟩ := q x hx
  obtain ⟨c, hc⟩ := q y hy
  exact .step trivial hb hc (.refl _)
theorem sdo_mem {S : List (Sd β)} {e : Sd β} {b : Bool} {x : β} (h : sdo S e b x) : e ∈ S ∧ x ∈ e.gv ++ e.tk := by
  refine ⟨h.1, ?_⟩
  cases b with
  | true => exact List.mem_append_left _ (by simpa using h.2)
  | false => exact List.mem_append_right _ (by simpa using h.2)
/-- barters within a lot of goods: what hangs together with one of them stays within -/
theorem Cnn.stay {S : List (Sd β)} {Q : β → Prop} (h : ∀ e ∈ S, ∀ x ∈ e.gv ++ e.tk, Q x → ∀ y ∈ e.gv ++ e.tk, Q y) {x y : β} (c : Cnn S x y) : Q x → Q y := by
  induction c with
  | refl => exact id
  | step _ h1 h2 _ ih =>
    intro q
    have m1 := sdo_mem h1
    have m2 := sdo_mem h2
    exact ih (h _ m1.1 _ m1.2 q _ m2.2)
/-- .. by the barters within the lot alone -/
theorem Cnn.within {S : List (Sd β)} {Q : β → Prop} {T : List (Sd β)} (h : ∀ e ∈ S, ∀ x ∈ e.gv ++ e.tk, Q x → ∀ y ∈ e.gv ++ e.tk, Q y) (hT : ∀ e ∈ S, (∃ x ∈ e.gv ++ e.tk, Q x) → e ∈ T) {x y : β} (c : Cnn S x y) : Q x → Cnn T x y := by
  induction c with
  | refl => exact fun _ => .refl _
  | step _ h1 h2 _ ih =>
    intro q
    have m1 := sdo_mem h1
    have m2 := sdo_mem h2
    have t1 := hT _ m1.1 ⟨_, m1.2, q⟩
    exact .step trivial ⟨t1, h1.2⟩ ⟨t1, h2.2⟩ (ih (h _ m1.1 _ m1.2 q _ m2.2))
/-! ### lists -/
theorem nd_of_map {α γ : Type} {f : α → γ} : ∀ {l : List α}, (l.map f).Nodup → l.Nodup
  | [], _ => List.nodup_nil
  | a :: l, h => by
    rw [List.map_cons] at h
    have ⟨h1, h2⟩ := List.nodup_cons.mp h
    exact List.nodup_cons.mpr ⟨fun z => h1 (List.mem_map_of_mem z), nd_of_map h2⟩
theorem nd_filter {α : Type} {l : List α} {p : α → Bool} (h : l.Nodup) : (l.filter p).Nodup := h.sublist List.filter_sublist
theorem inj_of_nd {α γ : Type} {f : α → γ} : ∀ {l : List α}, (l.map f).Nodup → ∀ {a b : α}, a ∈ l → b ∈ l → f a = f b → a = b
  | [], _, _, _, ha, _, _ => nomatch ha
  | c :: l, h, a, b, ha, hb, e => by
    rw [List.map_cons] at h
    have ⟨h1, h2⟩ := List.nodup_cons.mp h
    rcases List.mem_cons.mp ha with ea | ha
    · rcases List.mem_cons.mp hb with eb | hb
      · rw [ea, eb]
      · exact absurd (List.mem_map.mpr ⟨b, hb, by rw [← e, ea]⟩) h1
    · rcases List.mem_cons.mp hb with eb | hb
      · exact absurd (List.mem_map.mpr ⟨a, ha, by rw [e, eb]⟩) h1
      · exact inj_of_nd h2 ha hb e
theorem len_le {α : Type} {l V : List α} (h : l.Nodup) (k : ∀ x ∈ l, x ∈ V) : l.length ≤ V.length := by
  classical
  exact len_le_of_sub h k
/-- counting: within another list, without repeats -/
theorem count_le {α : Type} {l V : List α} {p q : α → Bool} (h : l.Nodup) (k : ∀ x ∈ l, p x = true → x ∈ V ∧ q x = true) : l.countP p ≤ V.countP q := by
  rw [List.countP_eq_length_filter, List.countP_eq_length_filter]
  refine len_le (nd_filter h) fun x hx => ?_
  have ⟨h1, h2⟩ := List.mem_filter.mp hx
  have ⟨h3, h4⟩ := k x h1 h2
  exact List.mem_filter.mpr ⟨h3, h4⟩
theorem count_zero {α : Type} {l : List α} {p : α → Bool} (h : ∀ x ∈ l, p x = true → False) : l.countP p = 0 := by
  rw [List.countP_eq_zero]
  exact fun x hx hp => h x hx hp
theorem sum_le {α : Type} {f g : α → Nat} : ∀ {L : List α}, (∀ l ∈ L, f l ≤ g l) → (L.map f).sum ≤ (L.map g).sum
  | [], _ => Nat.le_refl _
  | a :: L, h => by
    have h1 := h a List.mem_cons_self
    have h2 := sum_le (f := f) (g := g) (L := L) fun l hl => h l (List.mem_cons_of_mem _ hl)
    rw [List.map_cons, List.map_cons, List.sum_cons, List.sum_cons]
    omega
theorem sum_lt {α : Type} {f g : α → Nat} : ∀ {L : List α}, (∀ l ∈ L, f l ≤ g l) → (∃ l ∈ L, f l < g l) → (L.map f).sum < (L.map g).sum
  | [], _, h => by obtain ⟨_, h, _⟩ := h; cases h
  | a :: L, h, k => by
    have h1 := h a List.mem_cons_self
    rw [List.map_cons, List.map_cons, List.sum_cons, List.sum_cons]
    have hr : ∀ l ∈ L, f l ≤ g l := fun l hl => h l (List.mem_cons_of_mem _ hl)
    obtain ⟨l, hl, e⟩ := k
    rcases List.mem_cons.mp hl with rfl | hl
    · have h2 := sum_le hr
      omega
    · have h2 := sum_lt hr ⟨l, hl, e⟩
      omega
/-! ### the lots -/
open Classical in
noncomputable def comp (G : List β) (S : List (Sd β)) (x : β) : List β := G.filter fun y => decide (Cnn S x y)
theorem mem_comp {G : List β} {S : List (Sd β)} {x y : β} : y ∈ comp G S x ↔ y ∈ G ∧ Cnn S x y := by
  classical
  unfold comp
  rw [List.mem_filter]
  exact ⟨fun ⟨a, b⟩ => ⟨a, of_decide_eq_true b⟩, fun ⟨a, b⟩ => ⟨a, decide_eq_true b⟩⟩
theorem nd_comp {G : List β} {S : List (Sd β)} {x : β} (h : G.Nodup) : (comp G S x).Nodup := nd_filter h
open Classical in
noncomputable def hangStep (G : List β) (S : List (Sd β)) (acc : List (List β)) (x : β) : List (List β) := if ∃ l ∈ acc, x ∈ l then acc else acc ++ [comp G S x]
noncomputable def hang (G : List β) (S : List (Sd β)) : List (List β) := G.foldl (hangStep G S) []
/-- some lots: each a whole one, no two with a common good -/
structure Lots (G : List β) (S : List (Sd β)) (L : List (List β)) : Prop where
  is : ∀ l ∈ L, ∃ x ∈ G, l = comp G S x
  nd : L.flatten.Nodup
theorem Lots.step {G : List β} {S : List (Sd β)} (hG : G.Nodup) {L : List (List β)} (h : Lots G S L) {x : β} (hx : x ∈ G) : Lots G S (hangStep G S L x) ∧ (∃ l ∈ hangStep G S L x, x ∈ l) ∧ ∀ l ∈ L, l ∈ hangStep G S L x := by
  unfold hangStep
  by_cases hc : ∃ l ∈ L, x ∈ l
  · rw [if_pos hc]
    exact ⟨h, hc, fun _ z => z⟩
  · rw [if_neg hc]
    refine ⟨⟨fun l hl => ?_, ?_⟩, ⟨comp G S x, by simp, mem_comp.mpr ⟨hx, .refl _⟩⟩, fun l hl => List.mem_append_left _ hl⟩
    · rcases List.mem_append.mp hl with hl | hl
      · exact h.is l hl
      · have e : l = comp G S x := by simpa using hl
        exact ⟨x, hx, e⟩
    · rw [List.flatten_append]
      refine nd_app h.nd (by rw [List.flatten_singleton]; exact nd_comp hG) fun y hy hy2 => hc ?_
      obtain ⟨l, hl, hyl⟩ := List.mem_flatten.mp hy
      obtain ⟨z, hz, e⟩ := h.is l hl
      have hy3 : y ∈ comp G S x := by simpa using hy2
      have c1 := (mem_comp.mp hy3).2
      rw [e] at hyl
      have c2 := (mem_comp.mp hyl).2
      exact ⟨l, hl, e ▸ mem_comp.mpr ⟨hx, c2.trans c1.symm⟩⟩
theorem hang_go {G : List β} {S : List (Sd β)} (hG : G.Nodup) : ∀ (H : List β) (L : List (List β)), (∀ x ∈ H, x ∈ G) → Lots G S L → Lots G S (H.foldl (hangStep G S) L) ∧ (∀ x ∈ H, ∃ l ∈ H.foldl (hangStep G S) L, x ∈ l) ∧ ∀ l ∈ L, l ∈ H.foldl (hangStep G S) L
  | [], _, _, h => ⟨h, fun _ z => (List.not_mem_nil z).elim, fun _ z => z⟩
  | x :: H, L, hH, h => by
    obtain ⟨h1, ⟨l, hl, hxl⟩, h3⟩ := h.step hG (hH x List.mem_cons_self)
    obtain ⟨k1, k2, k3⟩ := hang_go hG H (hangStep G S L x) (fun y hy => hH y (List.mem_cons_of_mem _ hy)) h1
    refine ⟨k1, fun y hy => ?_, fun m hm => k3 m (h3 m hm)⟩
    rcases List.mem_cons.mp hy with rfl | hy
    · exact ⟨l, k3 l hl, hxl⟩
    · exact k2 y hy
theorem hang_lots {G : List β} (S : List (Sd β)) (hG : G.Nodup) : Lots G S (hang G S) := (hang_go hG G [] (fun _ h => h) ⟨fun _ h => (List.not_mem_nil h).elim, by simp⟩).1
theorem hang_all {G : List β} (S : List (Sd β)) (hG : G.Nodup) : ∀ x ∈ G, ∃ l ∈ hang G S, x ∈ l := (hang_go hG G [] (fun _ h => h) ⟨fun _ h => (List.not_mem_nil h).elim, by simp⟩).2.1
theorem hang_sub {G : List β} {S : List (Sd β)} (hG : G.Nodup) {l : List β} (hl : l ∈ hang G S) : ∀ x ∈ l, x ∈ G := fun x hx => by
  obtain ⟨y, _, e⟩ := (hang_lots S hG).is l hl
  rw [e] at hx
  exact (mem_comp.mp hx).1
theorem hang_cn {G : List β} {S : List (Sd β)} (hG : G.Nodup) {l : List β} (hl : l ∈ hang G S) {x y : β} (hx : x ∈ l) : y ∈ l ↔ y ∈ G ∧ Cnn S x y := by
  obtain ⟨z, _, e⟩ := (hang_lots S hG).is l hl
  rw [e] at hx ⊢
  have c := (mem_comp.mp hx).2
  rw [mem_comp]
  exact ⟨fun ⟨a, b⟩ => ⟨a, c.symm.trans b⟩, fun ⟨a, b⟩ => ⟨a, c.trans b⟩⟩
/-! ### restricted to some goods -/
/-- the barters that begin within some goods -/
def heads [DecidableEq β] (S : List (Sd β)) (l : List β) : List (Sd β) := S.filter fun e => match e.gv with
  | [] => false
  | x :: _ => decide (x ∈ l)
/-- closed under barters -/
def Clo (S : List (Sd β)) (l : List β) : Prop := ∀ e ∈ S, ∀ x ∈ e.gv ++ e.tk, x ∈ l → ∀ y ∈ e.gv ++ e.tk, y ∈ l
set_option linter.unusedSectionVars false
variable [DecidableEq β]
theorem mem_heads {G : List β} {S : List (Sd β)} (w : Wf G S) {l : List β} (c : Clo S l) {e : Sd β} : e ∈ heads S l ↔ e ∈ S ∧ ∃ x ∈ e.gv ++ e.tk, x ∈ l := by
  unfold heads
  rw [List.mem_filter]
  constructor
  · rintro ⟨h1, h2⟩
    refine ⟨h1, ?_⟩
    cases eg : e.gv with
    | nil => rw [eg] at h2; cases h2
    | cons x r =>
      rw [eg] at h2
      exact ⟨x, by simp, of_decide_eq_true h2⟩
  · rintro ⟨h1, x, hx, hl⟩
    refine ⟨h1, ?_⟩
    cases eg : e.gv with
    | nil => exact absurd eg (w.g0 e h1)
    | cons y r =>
      exact decide_eq_true (c e h1 x hx hl y (by rw [eg]; simp))
theorem wf_heads {G : List β} {S : List (Sd β)} (w : Wf G S) {l : List β} (c : Clo S l) (nd : l.Nodup) : Wf l (heads S l) := by
  have m := fun {e : Sd β} => mem_heads w c (e := e)
  refine ⟨nd, fun e he => w.g0 e (m.mp he).1, fun e he => w.t0 e (m.mp he).1, fun e he x hx => ?_, fun e he x hx => ?_, fun e he => w.dj e (m.mp he).1, ?_⟩
  · obtain ⟨h1, y, hy, hyl⟩ := m.mp he
    exact c e h1 y hy hyl x (List.mem_append_left _ hx)
  · obtain ⟨h1, y, hy, hyl⟩ := m.mp he
    exact c e h1 y hy hyl x (List.mem_append_right _ hx)
  · exact w.nm.sublist (List.filter_sublist.map _)
theorem good_sub {G : List β} {S T : List (Sd β)} {l : List β} (wl : Wf l T) (sub : ∀ x ∈ l, x ∈ G) (sT : ∀ e ∈ T, e ∈ S) (h : Good G S) (hG : G.Nodup) : Good l T := fun P hP => by
  have e1 : G.countP (fun x => P x && decide (x ∈ l)) ≤ l.countP P := count_le hG fun x _ hp => by
    rw [Bool.and_eq_true] at hp
    exact ⟨of_decide_eq_true hp.2, hp.1⟩
  have e2 : l.countP P ≤ G.countP (fun x => P x && decide (x ∈ l)) := count_le wl.nd fun x hx hp => ⟨sub x hx, by rw [hp, decide_eq_true hx]; rfl⟩
  have e3 : T.countP (mixd P) ≤ S.countP (mixd fun x => P x && decide (x ∈ l)) := count_le (nd_of_map wl.nm) fun e he hp => by
    refine ⟨sT e he, ?_⟩
    unfold mixd at hp ⊢
    rw [Bool.and_eq_true, List.any_eq_true, List.any_eq_true] at hp ⊢
    obtain ⟨⟨x, hx, px⟩, y, hy, py⟩ := hp
    exact ⟨⟨x, hx, by rw [px, decide_eq_true (wl.gs e he x hx)]; rfl⟩, y, hy, by rw [py, decide_eq_true (wl.ts e he y hy)]; rfl⟩
  have q := h _ (Nat.lt_of_lt_of_le hP e2)
  omega
theorem mix_pos {l : List β} {T : List (Sd β)} (w : Wf l T) {P : β → Bool} {e : Sd β} (he : e ∈ T) (hm : mixd P e = true) : 0 < l.countP P := by
  unfold mixd at hm
  rw [Bool.and_eq_true, List.any_eq_true] at hm
  obtain ⟨⟨x, hx, px⟩, _⟩ := hm
  exact List.countP_pos_iff.mpr ⟨x, w.gs e he x hx, px⟩
theorem good_le {l : List β} {T : List (Sd β)} (w : Wf l T) (g : Good l T) (P : β → Bool) : T.countP (mixd P) ≤ l.countP P ∧ (0 < l.countP P → T.countP (mixd P) < l.countP P) := by
  refine ⟨?_, g P⟩
  by_cases h : 0 < l.countP P
  · exact Nat.le_of_lt (g P h)
  · have z : T.countP (mixd P) = 0 := count_zero fun e he hm => h (mix_pos w he hm)
    omega
theorem hang_clo {G : List β} {S : List (Sd β)} (w : Wf G S) {l : List β} (hl : l ∈ hang G S) : Clo S l := fun e he x hx hxl y hy => by
  refine (hang_cn w.nd hl hxl).mpr ⟨?_, Cnn.of he hx hy⟩
  rcases List.mem_append.mp hy with h | h
  · exact w.gs e he y h
  · exact w.ts e he y h
theorem hang_nd {G : List β} {S : List (Sd β)} (hG : G.Nodup) {l : List β} (hl : l ∈ hang G S) : l.Nodup := by
  obtain ⟨z, _, e⟩ := (hang_lots S hG).is l hl
  rw [e]
  exact nd_filter hG
/-- a lot's goods hang together by its own barters -/
theorem hang_conn {G : List β} {S : List (Sd β)} (w : Wf G S) {l : List β} (hl : l ∈ hang G S) : ∀ x ∈ l, ∀ y ∈ l, Cnn (heads S l) x y := fun x hx y hy => by
  have c := hang_clo w hl
  exact Cnn.within (Q := fun z => z ∈ l) c (fun e he h => (mem_heads w c).mpr ⟨he, h⟩) ((hang_cn w.nd hl hx).mp hy).2 hx
/-- THE LAW OF split_tree -/
theorem good_lots {G : List β} {S : List (Sd β)} (w : Wf G S) : Good G S ↔ ∀ l ∈ hang G S, Good l (heads S l) := by
  constructor
  · intro g l hl
    exact good_sub (wf_heads w (hang_clo w hl) (hang_nd w.nd hl)) (hang_sub w.nd hl) (fun e he => (List.mem_filter.mp he).1) g w.nd
  · intro h P hP
    have wl := fun l (hl : l ∈ hang G S) => wf_heads w (hang_clo w hl) (hang_nd w.nd hl)
    have k := fun l (hl : l ∈ hang G S) => good_le (wl l hl) (h l hl) P
    have s1 : ((hang G S).map fun l => (heads S l).countP (mixd P)).sum < ((hang G S).map fun l => l.countP P).sum := by
      refine sum_lt (fun l hl => (k l hl).1) ?_
      obtain ⟨x, hx, px⟩ := List.countP_pos_iff.mp hP
      obtain ⟨l, hl, hxl⟩ := hang_all S w.nd x hx
      exact ⟨l, hl, (k l hl).2 (List.countP_pos_iff.mpr ⟨x, hxl, px⟩)⟩
    have s2 : ((hang G S).map fun l => l.countP P).sum ≤ G.countP P := by
      rw [← List.countP_flatten]
      refine count_le (hang_lots S w.nd).nd fun x hx px => ⟨?_, px⟩
      obtain ⟨l, hl, hxl⟩ := List.mem_flatten.mp hx
      exact hang_sub w.nd hl x hxl
    have s3 : S.countP (mixd P) ≤ ((hang G S).map fun l => (heads S l).countP (mixd P)).sum := by
      have e : ((hang G S).map fun l => (heads S l).countP (mixd P)).sum = (((hang G S).map (heads S)).flatten).countP (mixd P) := by
        rw [List.countP_flatten, List.map_map]
        rfl
      rw [e]
      refine count_le (nd_of_map w.nm) fun e he hm => ⟨?_, hm⟩
      obtain ⟨x, hx⟩ := List.exists_mem_of_ne_nil _ (w.g0 e he)
      obtain ⟨l, hl, hxl⟩ := hang_all S w.nd x (w.gs e he x hx)
      exact List.mem_flatten.mpr ⟨_, List.mem_map_of_mem hl, (mem_heads w (hang_clo w hl)).mpr ⟨he, x, List.mem_append_left _ hx, hxl⟩⟩
    omega
/-! ### a barter is left out -/
def others (S : List (Sd β)) (e : Sd β) : List (Sd β) := S.filter fun f => decide (f.nm ≠ e.nm)
theorem mem_others {G : List β} {S : List (Sd β)} (w : Wf G S) {e f : Sd β} (he : e ∈ S) : f ∈ others S e ↔ f ∈ S ∧ f ≠ e := by
  unfold others
  rw [List.mem_filter, decide_eq_true_iff]
  exact ⟨fun ⟨a, b⟩ => ⟨a, fun z => b (z ▸ rfl)⟩, fun ⟨a, b⟩ => ⟨a, fun z => b (inj_of_nd w.nm a he z)⟩⟩
theorem wf_sub {G : List β} {S T : List (Sd β)} (w : Wf G S) (h : T.Sublist S) : Wf G T :=
  ⟨w.nd, fun e he => w.g0 e (h.subset he), fun e he => w.t0 e (h.subset he), fun e he => w.gs e (h.subset he), fun e he => w.ts e (h.subset he), fun e he => w.dj e (h.subset he), w.nm.sublist (h.map _)⟩
theorem wf_others {G : List β} {S : List (Sd β)} (w : Wf G S) (e : Sd β) : Wf G (others S e) := wf_sub w List.filter_sublist
/-- the goods of all lots that have some of a list -/
def joined (L : List (List β)) (some : List β) : List β := (L.filter fun l => some.any fun o => decide (o ∈ l)).flatten
theorem mem_joined {L : List (List β)} {sm : List β} {x : β} : x ∈ joined L sm ↔ ∃ l ∈ L, x ∈ l ∧ ∃ o ∈ sm, o ∈ l := by
  unfold joined
  rw [List.mem_flatten]
  constructor
  · rintro ⟨l, hl, hx⟩
    have ⟨h1, h2⟩ := List.mem_filter.mp hl
    obtain ⟨o, ho, hol⟩ := List.any_eq_true.mp h2
    exact ⟨l, h1, hx, o, ho, of_decide_eq_true hol⟩
  · rintro ⟨l, hl, hx, o, ho, hol⟩
    exact ⟨l, List.mem_filter.mpr ⟨hl, List.any_eq_true.mpr ⟨o, ho, decide_eq_true hol⟩⟩, hx⟩
theorem nd_flatten_sub {α : Type} : ∀ {L M : List (List α)}, L.Sublist M → M.flatten.Nodup → L.flatten.Nodup
  | _, _, .slnil, h => h
  | _, _, .cons l s, h => by
    rw [List.flatten_cons] at h
    exact nd_flatten_sub s (nd_app2 h)
  | _, _, .cons_cons l s, h => by
    rw [List.flatten_cons] at h ⊢
    refine nd_app (nd_app1 h) (nd_flatten_sub s (nd_app2 h)) fun x hx hy => nd_app3 h x hx ?_
    obtain ⟨m, hm, hxm⟩ := List.mem_flatten.mp hy
    exact List.mem_flatten.mpr ⟨m, s.subset hm, hxm⟩
section
variable {G : List β} {S : List (Sd β)}
/-- what hangs together with some goods -/
def near (G : List β) (sm : List β) : Prop := ∀ o ∈ sm, o ∈ G
theorem joined_iff (w : Wf G S) {sm : List β} (hs : near G sm) {x : β} : x ∈ joined (hang G S) sm ↔ x ∈ G ∧ ∃ o ∈ sm, Cnn S o x := by
  rw [mem_joined]
  constructor
  · rintro ⟨l, hl, hx, o, ho, hol⟩
    have q := (hang_cn w.nd hl hol).mp hx
    exact ⟨q.1, o, ho, q.2⟩
  · rintro ⟨hx, o, ho, c⟩
    obtain ⟨l, hl, hol⟩ := hang_all S w.nd o (hs o ho)
    exact ⟨l, hl, (hang_cn w.nd hl hol).mpr ⟨hx, c⟩, o, ho, hol⟩
theorem joined_nd (w : Wf G S) (sm : List β) : (joined (hang G S) sm).Nodup := nd_flatten_sub List.filter_sublist (hang_lots S w.nd).nd
theorem joined_sub (w : Wf G S) {sm : List β} : ∀ x ∈ joined (hang G S) sm, x ∈ G := fun x hx => by
  obtain ⟨l, hl, hxl, _⟩ := mem_joined.mp hx
  exact hang_sub w.nd hl x hxl
theorem joined_clo (w : Wf G S) {sm : List β} : Clo S (joined (hang G S) sm) := fun e he x hx hxl y hy => by
  obtain ⟨l, hl, hxl, o, ho, hol⟩ := mem_joined.mp hxl
  exact mem_joined.mpr ⟨l, hl, hang_clo w hl e he x hx hxl y hy, o, ho, hol⟩
end
/-- a barter parts the goods: nothing hangs together with both of its sides -/
def Parts (G : List β) (S : List (Sd β)) (e : Sd β) : Prop := ∀ x ∈ joined (hang G (others S e)) e.gv, x ∉ joined (hang G (others S e)) e.tk
section
variable {G : List β} {S : List (Sd β)} {e : Sd β}
noncomputable abbrev lft (G : List β) (S : List (Sd β)) (e : Sd β) : List β := joined (hang G (others S e)) e.gv
noncomputable abbrev rgt (G : List β) (S : List (Sd β)) (e : Sd β) : List β := joined (hang G (others S e)) e.tk
theorem lft_gv (w : Wf G S) (he : e ∈ S) : ∀ x ∈ e.gv, x ∈ lft G S e := fun x hx =>
  (joined_iff (wf_others w e) (fun o ho => w.gs e he o ho)).mpr ⟨w.gs e he x hx, x, hx, .refl _⟩
theorem rgt_tk (w : Wf G S) (he : e ∈ S) : ∀ x ∈ e.tk, x ∈ rgt G S e := fun x hx =>
  (joined_iff (wf_others w e) (fun o ho => w.ts e he o ho)).mpr ⟨w.ts e he x hx, x, hx, .refl _⟩
theorem wf_lft (w : Wf G S) (e : Sd β) : Wf (lft G S e) (heads (others S e) (lft G S e)) := wf_heads (wf_others w e) (joined_clo (wf_others w e)) (joined_nd (wf_others w e) _)
theorem wf_rgt (w : Wf G S) (e : Sd β) : Wf (rgt G S e) (heads (others S e) (rgt G S e)) := wf_heads (wf_others w e) (joined_clo (wf_others w e)) (joined_nd (wf_others w e) _)
theorem lft_lt (w : Wf G S) (he : e ∈ S) (p : Parts G S e) : (lft G S e).length < G.length := by
  obtain ⟨y, hy⟩ := List.exists_mem_of_ne_nil _ (w.t0 e he)
  have q := len_le (l := y :: lft G S e) (V := G) (List.nodup_cons.mpr ⟨fun z => p y z (rgt_tk w he y hy), joined_nd (wf_others w e) _⟩) fun x hx => by
    rcases List.mem_cons.mp hx with rfl | hx
    · exact w.ts e he x hy
    · exact joined_sub (wf_others w e) x hx
  rw [List.length_cons] at q
  omega
theorem rgt_lt (w : Wf G S) (he : e ∈ S) (p : Parts G S e) : (rgt G S e).length < G.length := by
  obtain ⟨y, hy⟩ := List.exists_mem_of_ne_nil _ (w.g0 e he)
  have q := len_le (l := y :: rgt G S e) (V := G) (List.nodup_cons.mpr ⟨fun z => p y (lft_gv w he y hy) z, joined_nd (wf_others w e) _⟩) fun x hx => by
    rcases List.mem_cons.mp hx with rfl | hx
    · exact w.gs e he x hy
    · exact joined_sub (wf_others w e) x hx
  rw [List.length_cons] at q
  omega
/-- where all goods hang together, each hangs with the barter's goods without it -/
theorem lr_all (w : Wf G S) (he : e ∈ S) (cn : ∀ x ∈ G, ∀ y ∈ G, Cnn S x y) : ∀ x ∈ G, x ∈ lft G S e ∨ x ∈ rgt G S e := fun x hx => by
  obtain ⟨a, ha⟩ := List.exists_mem_of_ne_nil _ (w.g0 e he)
  have key : ∀ {x y : β}, Cnn S x y → y ∈ e.gv ++ e.tk → ∃ z ∈ e.gv ++ e.tk, Cnn (others S e) x z := fun c => by
    induction c with
    | refl x => exact fun h => ⟨x, h, .refl _⟩
    | step _ h1 h2 _ ih =>
      intro hy
      rename_i u v z f b d _ _
      have m1 := sdo_mem h1
      have m2 := sdo_mem h2
      by_cases ef : f = e
      · have m3 := m1.2
        rw [ef] at m3
        exact ⟨_, m3, .refl _⟩
      · obtain ⟨t, ht, c⟩ := ih hy
        exact ⟨t, ht, (Cnn.of ((mem_others w he).mpr ⟨m1.1, ef⟩) m1.2 m2.2).trans c⟩
  obtain ⟨z, hz, c⟩ := key (cn x hx a (w.gs e he a ha)) (List.mem_append_left _ ha)
  rcases List.mem_append.mp hz with h | h
  · exact .inl ((joined_iff (wf_others w e) (fun o ho => w.gs e he o ho)).mpr ⟨hx, z, h, c.symm⟩)
  · exact .inr ((joined_iff (wf_others w e) (fun o ho => w.ts e he o ho)).mpr ⟨hx, z, h, c.symm⟩)
/-- THE LAW OF lot_tree at a barter that parts -/
theorem good_parts (w : Wf G S) (he : e ∈ S) (cn : ∀ x ∈ G, ∀ y ∈ G, Cnn S x y) (p : Parts G S e) :
    Good G S ↔ Good (lft G S e) (heads (others S e) (lft G S e)) ∧ Good (rgt G S e) (heads (others S e) (rgt G S e)) := by
  have sub : ∀ {l : List β}, ∀ f ∈ heads (others S e) l, f ∈ S := fun f hf => (List.mem_filter.mp (List.mem_filter.mp hf).1).1
  constructor
  · intro g
    exact ⟨good_sub (wf_lft w e) (joined_sub (wf_others w e)) sub g w.nd, good_sub (wf_rgt w e) (joined_sub (wf_others w e)) sub g w.nd⟩
  · rintro ⟨gl, gr⟩ P hP
    have kl := good_le (wf_lft w e) gl P
    have kr := good_le (wf_rgt w e) gr P
    have s1 : (lft G S e ++ rgt G S e).countP P ≤ G.countP P := count_le (nd_app (joined_nd (wf_others w e) _) (joined_nd (wf_others w e) _) p) fun x hx px => ⟨by
      rcases List.mem_append.mp hx with h | h
      · exact joined_sub (wf_others w e) x h
      · exact joined_sub (wf_others w e) x h, px⟩
    rw [List.countP_append] at s1
    have s2 : S.countP (mixd P) ≤ (e :: (heads (others S e) (lft G S e) ++ heads (others S e) (rgt G S e))).countP (mixd P) := count_le (nd_of_map w.nm) fun f hf hm => ⟨by
      by_cases ef : f = e
      · subst ef
        exact List.mem_cons_self
      · refine List.mem_cons_of_mem _ (List.mem_append.mpr ?_)
        have ho := (mem_others w he).mpr ⟨hf, ef⟩
        obtain ⟨x, hx⟩ := List.exists_mem_of_ne_nil _ (w.g0 f hf)
        rcases lr_all w he cn x (w.gs f hf x hx) with h | h
        · exact .inl ((mem_heads (wf_others w e) (joined_clo (wf_others w e))).mpr ⟨ho, x, List.mem_append_left _ hx, h⟩)
        · exact .inr ((mem_heads (wf_others w e) (joined_clo (wf_others w e))).mpr ⟨ho, x, List.mem_append_left _ hx, h⟩), hm⟩
    rw [List.countP_cons, List.countP_append] at s2
    by_cases hm : mixd P e = true
    · rw [if_pos hm] at s2
      unfold mixd at hm
      rw [Bool.and_eq_true, List.any_eq_true, List.any_eq_true] at hm
      obtain ⟨⟨x, hx, px⟩, y, hy, py⟩ := hm
      have pl := kl.2 (List.countP_pos_iff.mpr ⟨x, lft_gv w he x hx, px⟩)
      have pr := kr.2 (List.countP_pos_iff.mpr ⟨y, rgt_tk w he y hy, py⟩)
      omega
    · rw [if_neg hm] at s2
      obtain ⟨x, hx, px⟩ := List.countP_pos_iff.mp hP
      rcases lr_all w he cn x hx with h | h
      · have pl := kl.2 (List.countP_pos_iff.mpr ⟨x, h, px⟩)
        omega
      · have pr := kr.2 (List.countP_pos_iff.mpr ⟨x, h, px⟩)
        omega
/-- a good book has no closed way -/
theorem acyc_good (w : Wf G S) (g : Good G S) : Acyc (sdo S) := by
  refine Classical.byContradiction fun h => ?_
  obtain ⟨l, p, hl, np, hlen, hp⟩ := square_of_cycle h
  have q : ∀ e ∈ p, e ∈ S ∧ mixd (fun x => decide (x ∈ l)) e = true := fun e he => by
    obtain ⟨u, v, hu, hv, su, sv⟩ := hp e he
    refine ⟨su.1, ?_⟩
    unfold mixd
    rw [Bool.and_eq_true, List.any_eq_true, List.any_eq_true]
    exact ⟨⟨u, by simpa using su.2, decide_eq_true hu⟩, v, by simpa using sv.2, decide_eq_true hv⟩
  have s1 : p.countP (fun _ => true) ≤ S.countP (mixd fun x => decide (x ∈ l)) := count_le np fun e he _ => q e he
  have e1 : p.countP (fun _ => true) = p.length := by rw [List.countP_true]
  have s2 : G.countP (fun x => decide (x ∈ l)) ≤ l.countP (fun _ => true) := count_le w.nd fun x _ hp => ⟨of_decide_eq_true hp, rfl⟩
  have e2 : l.countP (fun _ => true) = l.length := by rw [List.countP_true]
  have l0 : 0 < l.length := List.length_pos_iff.mpr hl
  obtain ⟨e, he⟩ := List.exists_mem_of_ne_nil p (List.length_pos_iff.mp (Nat.lt_of_lt_of_le l0 hlen))
  obtain ⟨u, v, hu, hv, su, sv⟩ := hp e he
  have s3 := g (fun x => decide (x ∈ l)) (List.countP_pos_iff.mpr ⟨u, w.gs e su.1 u (by simpa using su.2), decide_eq_true hu⟩)
  omega
/-- THE LAW OF lot_tree where no barter parts -/
theorem not_good (w : Wf G S) (cn : ∀ x ∈ G, ∀ y ∈ G, Cnn S x y) (h2 : 2 ≤ G.length) (no : ∀ e ∈ S, ¬ Parts G S e) : ¬ Good G S := fun g => by
  classical
  have S0 : S ≠ [] := by
    intro z
    subst z
    have stay : ∀ {x y : β}, Cnn ([] : List (Sd β)) x y → x = y := fun c => by
      cases c with
      | refl => rfl
      | step _ q _ _ => exact nomatch q.1
    match G, w.nd, h2, cn with
    | [], _, h, _ => simp at h
    | [_], _, h, _ => simp at h
    | a :: b :: r, nd, _, cn =>
      have e := stay (cn a (by simp) b (by simp))
      subst e
      exact (List.nodup_cons.mp nd).1 (by simp)
  obtain ⟨e, he, sep⟩ := parts G.length G S (sdo S) (Nat.le_refl _) (fun e b x h => ⟨h.1, by
    have m := sdo_mem h
    rcases List.mem_append.mp m.2 with q | q
    · exact w.gs e m.1 x q
    · exact w.ts e m.1 x q⟩) (fun e he b => by
    cases b with
    | true =>
      obtain ⟨x, hx⟩ := List.exists_mem_of_ne_nil _ (w.g0 e he)
      exact ⟨x, he, by simpa using hx⟩
    | false =>
      obtain ⟨x, hx⟩ := List.exists_mem_of_ne_nil _ (w.t0 e he)
      exact ⟨x, he, by simpa using hx⟩) (acyc_good w g) S0
  refine no e he fun x hl hr => ?_
  obtain ⟨_, o, ho, c1⟩ := (joined_iff (wf_others w e) (fun o ho => w.gs e he o ho)).mp hl
  obtain ⟨_, o', ho', c2⟩ := (joined_iff (wf_others w e) (fun o ho => w.ts e he o ho)).mp hr
  have c := c1.trans c2.symm
  have lift : ∀ {x y : β}, Cnn (others S e) x y → Cn (sdo S) (· ≠ e) x y := fun c => by
    induction c with
    | refl => exact .refl _
    | step _ h1 h2 _ ih =>
      have m := (mem_others w he).mp h1.1
      exact .step m.2 ⟨m.1, h1.2⟩ ⟨m.1, h2.2⟩ ih
  exact sep o o' ⟨he, by simpa using ho⟩ ⟨he, by simpa using ho'⟩ (lift c)
theorem good_one {x : β} (w : Wf [x] S) : Good [x] S := by
  have e : S = [] := by
    cases S with
    | nil => rfl
    | cons e r =>
      exfalso
      obtain ⟨a, ha⟩ := List.exists_mem_of_ne_nil _ (w.g0 e (by simp))
      obtain ⟨b, hb⟩ := List.exists_mem_of_ne_nil _ (w.t0 e (by simp))
      have e1 : a = x := by simpa using w.gs e (by simp) a ha
      have e2 : b = x := by simpa using w.ts e (by simp) b hb
      subst e1 e2
      exact w.dj e (by simp) _ ha hb
  subst e
  exact fun P hP => by simpa using hP
end
end
end K16
namespace K16
open PySem L2 RZ
def top (i : Nat) : Stmt := PySem.Challenge.pw_eitherbarter_k16_whole_good_or_not.main.body.getD i (.Pass ⟨0, 0, 0, 0⟩)
abbrev s_is_integer : Stmt := top 8
theorem sc_is_integer : FnScope ["value"] ["value"] (defScope s_is_integer) :=
  ⟨rfl, rfl, rfl, by decide +kernel, rfl, by decide +kernel, by decide +kernel⟩
abbrev s_is_word : Stmt := top 9
theorem sc_is_word : FnScope ["value", "sign"] ["value"] (defScope s_is_word) :=
  ⟨rfl, rfl, rfl, by decide +kernel, rfl, by decide +kernel, by decide +kernel⟩
abbrev s_is_list : Stmt := top 10
theorem sc_is_list : FnScope ["value"] ["value"] (defScope s_is_list) :=
  ⟨rfl, rfl, rfl, by decide +kernel, rfl, by decide +kernel, by decide +kernel⟩
abbrev s_is_row : Stmt := top 11
theorem sc_is_row : FnScope ["value", "many"] ["value", "many"] (defScope s_is_row) :=
  ⟨rfl, rfl, rfl, by decide +kernel, rfl, by decide +kernel, by decide +kernel⟩
abbrev s_is_among : Stmt := top 12
theorem sc_is_among : FnScope ["value", "words"] ["value", "words"] (defScope s_is_among) :=
  ⟨rfl, rfl, rfl, by decide +kernel, rfl, by decide +kernel, by decide +kernel⟩
abbrev s_wrong_good : Stmt := top 14
theorem sc_wrong_good : FnScope ["goods", "k", "good"] ["goods"] (defScope s_wrong_good) :=
  ⟨rfl, rfl, rfl, by decide +kernel, rfl, by decide +kernel, by decide +kernel⟩
abbrev s_wrong_entry : Stmt := top 15
theorem sc_wrong_entry : FnScope ["many", "value", "j", "entry"] ["many", "value"] (defScope s_wrong_entry) :=
  ⟨rfl, rfl, rfl, by decide +kernel, rfl, by decide +kernel, by decide +kernel⟩
abbrev s_wrong_barter : Stmt := top 16
theorem sc_wrong_barter : FnScope ["goods", "barters", "names", "k", "barter", "path"] ["goods", "barters"] (defScope s_wrong_barter) :=
  ⟨rfl, rfl, rfl, by decide +kernel, rfl, by decide +kernel, by decide +kernel⟩
abbrev s_Book___init__ : Stmt := inClass (top 17) 0
theorem sc_Book___init__ : FnScope ["self", "goods", "barters", "path"] ["self", "goods", "barters"] (defScope s_Book___init__) :=
  ⟨rfl, rfl, rfl, by decide +kernel, rfl, by decide +kernel, by decide +kernel⟩
abbrev s_Book___eq__ : Stmt := inClass (top 17) 1
theorem sc_Book___eq__ : FnScope ["self", "other"] ["self", "other"] (defScope s_Book___eq__) :=
  ⟨rfl, rfl, rfl, by decide +kernel, rfl, by decide +kernel, by decide +kernel⟩
abbrev s_Book_goods : Stmt := inClass (top 17) 2
theorem sc_Book_goods : FnScope ["self"] ["self"] (defScope s_Book_goods) :=
  ⟨rfl, rfl, rfl, by decide +kernel, rfl, by decide +kernel, by decide +kernel⟩
abbrev s_Book_barters : Stmt := inClass (top 17) 3
theorem sc_Book_barters : FnScope ["self"] ["self"] (defScope s_Book_barters) :=
  ⟨rfl, rfl, rfl, by decide +kernel, rfl, by decide +kernel, by decide +kernel⟩
abbrev s_Book_names : Stmt := inClass (top 17) 4
theorem sc_Book_names : FnScope ["self", "name", "row"] ["self"] (defScope s_Book_names) :=
  ⟨rfl, rfl, rfl, by decide +kernel, rfl, by decide +kernel, by decide +kernel⟩
abbrev s_Book_good_number : Stmt := inClass (top 17) 5
theorem sc_Book_good_number : FnScope ["self", "good"] ["self", "good"] (defScope s_Book_good_number) :=
  ⟨rfl, rfl, rfl, by decide +kernel, rfl, by decide +kernel, by decide +kernel⟩
abbrev s_Book_barter_number : Stmt := inClass (top 17) 6
theorem sc_Book_barter_number : FnScope ["self", "name"] ["self", "name"] (defScope s_Book_barter_number) :=
  ⟨rfl, rfl, rfl, by decide +kernel, rfl, by decide +kernel, by decide +kernel⟩
abbrev s_Book_row : Stmt := inClass (top 17) 7
theorem sc_Book_row : FnScope ["self", "name"] ["self", "name"] (defScope s_Book_row) :=
  ⟨rfl, rfl, rfl, by decide +kernel, rfl, by decide +kernel, by decide +kernel⟩
abbrev s_Book_takes : Stmt := inClass (top 17) 8
theorem sc_Book_takes : FnScope ["self", "name", "good", "entry"] ["self", "name"] (defScope s_Book_takes) :=
  ⟨rfl, rfl, rfl, by decide +kernel, rfl, by decide +kernel, by decide +kernel⟩
abbrev s_Book_gives : Stmt := inClass (top 17) 9
theorem sc_Book_gives : FnScope ["self", "name", "good", "entry"] ["self", "name"] (defScope s_Book_gives) :=
  ⟨rfl, rfl, rfl, by decide +kernel, rfl, by decide +kernel, by decide +kernel⟩
abbrev s_turned_book : Stmt := top 18
theorem sc_turned_book : FnScope ["book", "names", "name", "barters", "row", "entry"] ["book", "names"] (defScope s_turned_book) :=
  ⟨rfl, rfl, rfl, by decide +kernel, rfl, by decide +kernel, by decide +kernel⟩
abbrev s_part_book : Stmt := top 19
theorem sc_part_book : FnScope ["book", "goods", "good", "kept", "barters", "name", "row", "less", "entry"] ["book", "goods"] (defScope s_part_book) :=
  ⟨rfl, rfl, rfl, by decide +kernel, rfl, by decide +kernel, by decide +kernel⟩
abbrev s_hanging : Stmt := top 21
theorem sc_hanging : FnScope ["goods", "sides", "good", "lots", "name", "given", "taken", "both", "found", "lot", "own"] ["goods", "sides"] (defScope s_hanging) :=
  ⟨rfl, rfl, rfl, by decide +kernel, rfl, by decide +kernel, by decide +kernel⟩
abbrev s_joined_lots : Stmt := top 22
theorem sc_joined_lots : FnScope ["lots", "some", "lot", "good", "own"] ["lots", "some"] (defScope s_joined_lots) :=
  ⟨rfl, rfl, rfl, by decide +kernel, rfl, by decide +kernel, by decide +kernel⟩
abbrev s_lot_tree : Stmt := top 23
theorem sc_lot_tree : FnScope ["goods", "sides", "side", "others", "lots", "left", "right", "one", "other_one", "other", "good"] ["goods", "sides"] (defScope s_lot_tree) :=
  ⟨rfl, rfl, rfl, by decide +kernel, rfl, by decide +kernel, by decide +kernel⟩
abbrev s_split_tree : Stmt := top 24
theorem sc_split_tree : FnScope ["goods", "sides", "found", "lot", "tree", "side"] ["goods", "sides"] (defScope s_split_tree) :=
  ⟨rfl, rfl, rfl, by decide +kernel, rfl, by decide +kernel, by decide +kernel⟩
abbrev s_whole_tree : Stmt := top 25
theorem sc_whole_tree : FnScope ["book", "name"] ["book"] (defScope s_whole_tree) :=
  ⟨rfl, rfl, rfl, by decide +kernel, rfl, by decide +kernel, by decide +kernel⟩
abbrev s_is_good_book : Stmt := top 27
theorem sc_is_good_book : FnScope ["book"] ["book"] (defScope s_is_good_book) :=
  ⟨rfl, rfl, rfl, by decide +kernel, rfl, by decide +kernel, by decide +kernel⟩
abbrev s__law_source : Stmt := top 29
theorem sc__law_source : FnScope ["_law_script", "_law_mixed_here", "_law_cell"] ["_law_script"] (defScope s__law_source) :=
  ⟨rfl, rfl, rfl, by decide +kernel, rfl, by decide +kernel, by decide +kernel⟩
abbrev s__law_pick : Stmt := top 30
theorem sc__law_pick : FnScope ["_law_source_here", "_law_many", "_law_left", "_law_mixed_here"] ["_law_source_here", "_law_many"] (defScope s__law_pick) :=
  ⟨rfl, rfl, rfl, by decide +kernel, rfl, by decide +kernel, by decide +kernel⟩
abbrev s__law_of : Stmt := top 31
theorem sc__law_of : FnScope ["_law_source_here", "_law_some"] ["_law_source_here", "_law_some"] (defScope s__law_of) :=
  ⟨rfl, rfl, rfl, by decide +kernel, rfl, by decide +kernel, by decide +kernel⟩
abbrev s__law_mixed : Stmt := top 32
theorem sc__law_mixed : FnScope ["_law_source_here", "_law_things", "_law_rest", "_law_lap"] ["_law_source_here", "_law_things"] (defScope s__law_mixed) :=
  ⟨rfl, rfl, rfl, by decide +kernel, rfl, by decide +kernel, by decide +kernel⟩
abbrev s__law_names : Stmt := top 33
theorem sc__law_names : FnScope ["_law_source_here", "_law_many", "_law_shift", "_law_names_here", "_law_tails", "_law_k", "_law_letter"] ["_law_source_here", "_law_many"] (defScope s__law_names) :=
  ⟨rfl, rfl, rfl, by decide +kernel, rfl, by decide +kernel, by decide +kernel⟩
abbrev s__law_tree : Stmt := top 34
theorem sc__law_tree : FnScope ["_law_source_here", "_law_goods", "_law_at", "_law_some"] ["_law_source_here", "_law_goods"] (defScope s__law_tree) :=
  ⟨rfl, rfl, rfl, by decide +kernel, rfl, by decide +kernel, by decide +kernel⟩
abbrev s__law_leaves : Stmt := top 35
theorem sc__law_leaves : FnScope ["_law_tree_here"] ["_law_tree_here"] (defScope s__law_leaves) :=
  ⟨rfl, rfl, rfl, by decide +kernel, rfl, by decide +kernel, by decide +kernel⟩
abbrev s__law_forked : Stmt := top 36
theorem sc__law_forked : FnScope ["_law_source_here", "_law_tree_here", "_law_goods", "_law_share", "_law_rows", "_law_good", "_law_row", "_law_sign", "_law_side", "_law_part"] ["_law_source_here", "_law_tree_here", "_law_goods", "_law_share", "_law_rows"] (defScope s__law_forked) :=
  ⟨rfl, rfl, rfl, by decide +kernel, rfl, by decide +kernel, by decide +kernel⟩
abbrev s__law_made : Stmt := top 37
theorem sc__law_made : FnScope ["_law_goods", "_law_barters"] ["_law_goods", "_law_barters"] (defScope s__law_made) :=
  ⟨rfl, rfl, rfl, by decide +kernel, rfl, by decide +kernel, by decide +kernel⟩
abbrev s__law_book : Stmt := top 38
theorem sc__law_book : FnScope ["_law_source_here", "_law_most", "_law_goods", "_law_tree_here", "_law_rows", "_law_found"] ["_law_source_here", "_law_most"] (defScope s__law_book) :=
  ⟨rfl, rfl, rfl, by decide +kernel, rfl, by decide +kernel, by decide +kernel⟩
abbrev s__law_any_row : Stmt := top 39
theorem sc__law_any_row : FnScope ["_law_source_here", "_law_size", "_law_row", "_law_here", "_law_k"] ["_law_source_here", "_law_size"] (defScope s__law_any_row) :=
  ⟨rfl, rfl, rfl, by decide +kernel, rfl, by decide +kernel, by decide +kernel⟩
abbrev s__law_any_book : Stmt := top 40
theorem sc__law_any_book : FnScope ["_law_source_here", "_law_most", "_law_goods", "_law_names_here", "_law_name"] ["_law_source_here", "_law_most"] (defScope s__law_any_book) :=
  ⟨rfl, rfl, rfl, by decide +kernel, rfl, by decide +kernel, by decide +kernel⟩
abbrev s__law_is_mixed : Stmt := top 41
theorem sc__law_is_mixed : FnScope ["_law_row", "_law_places", "_law_k"] ["_law_row", "_law_places"] (defScope s__law_is_mixed) :=
  ⟨rfl, rfl, rfl, by decide +kernel, rfl, by decide +kernel, by decide +kernel⟩
abbrev s__law_lots_of : Stmt := top 42
theorem sc__law_lots_of : FnScope ["_law_many", "_law_found", "_law_k", "_law_some"] ["_law_many"] (defScope s__law_lots_of) :=
  ⟨rfl, rfl, rfl, by decide +kernel, rfl, by decide +kernel, by decide +kernel⟩
abbrev s__law_is_good : Stmt := top 43
theorem sc__law_is_good : FnScope ["_law_world", "_law_places", "_law_name", "_law_row"] ["_law_world"] (defScope s__law_is_good) :=
  ⟨rfl, rfl, rfl, by decide +kernel, rfl, by decide +kernel, by decide +kernel⟩
abbrev s__law_crossed_book : Stmt := top 44
theorem sc__law_crossed_book : FnScope ["_law_source_here", "_law_most", "_law_many", "_law_goods", "_law_rows", "_law_k", "_law_row", "_law_sign", "_law_more", "_law_order", "_law_lap", "_law_j", "_law_entry"] ["_law_source_here", "_law_most"] (defScope s__law_crossed_book) :=
  ⟨rfl, rfl, rfl, by decide +kernel, rfl, by decide +kernel, by decide +kernel⟩
abbrev s__law_some_book : Stmt := top 45
theorem sc__law_some_book : FnScope ["_law_source_here", "_law_most", "_law_way"] ["_law_source_here", "_law_most"] (defScope s__law_some_book) :=
  ⟨rfl, rfl, rfl, by decide +kernel, rfl, by decide +kernel, by decide +kernel⟩
abbrev s__law_near_worlds : Stmt := top 46
theorem sc__law_near_worlds : FnScope ["_law_source_here", "_law_world", "_law_goods", "_law_barters", "_law_k", "_law_found", "_law_times", "_law_pair", "_law_j", "_law_entry"] ["_law_source_here", "_law_world"] (defScope s__law_near_worlds) :=
  ⟨rfl, rfl, rfl, by decide +kernel, rfl, by decide +kernel, by decide +kernel⟩
abbrev s_law : Stmt := top 47
theorem sc_law : FnScope ["_law_script", "_law_source_here", "_law_lap", "_law_world", "_law_book_here", "_law_is_good_here", "_law_one", "_law_some", "_law_good"] ["_law_script"] (defScope s_law) :=
  ⟨rfl, rfl, rfl, by decide +kernel, rfl, by decide +kernel, by decide +kernel⟩
/-! ### what the top has left, as far as all defs need it -/
structure Txt (K : PySem.W.Frag) (mg : Str → Option Value) : Prop where
  b_len : mg "len" = none
  b_range : mg "range" = none
  b_isinstance : mg "isinstance" = none
  b_int : mg "int" = none
  b_bool : mg "bool" = none
  b_abs : mg "abs" = none
  b_max : mg "max" = none
  b_min : mg "min" = none
  b_str : mg "str" = none
  b_list : mg "list" = none
  b_tuple : mg "tuple" = none
  b_dict : mg "dict" = none
  b_any : mg "any" = none
  b_all : mg "all" = none
  b_repr : mg "repr" = none
  b_zip : mg "zip" = none
  b_enumerate : mg "enumerate" = none
  g_LETTERS : ∃ t, mg "LETTERS" = some (.str "abcdefghijklmnopqrstuvwxyz" t)
  g_FIGURES : ∃ t, mg "FIGURES" = some (.str "0123456789" t)
end K16
namespace K16
open PySem PySem.Spec PyProof.Rows L2 RZ
/-! ### calls of the text's own defs, by their promises -/
structure Has (P : Program) (w : World) (K : PySem.W.Frag) (mg : Str → Option Value) (base : Heap) (k : Nat) (x : Str) (sp : Sp) : Prop where
  ex : ∃ f fd ps, FnOk P w K mg base CX0 k f fd ps sp ∧ mg x = some (.ref f) ∧ PySem.W.keepIn K (.ref f) = true ∧ Binds K fd ps []
/-- a method of the class at C -/
structure HasM (P : Program) (w : World) (K : PySem.W.Frag) (mg : Str → Option Value) (base : Heap) (C : Addr) (k : Nat) (x : Str) (sp : Sp) : Prop where
  ex : ∃ f fd ps, FnOk P w K mg base CX0 k f fd ps sp ∧ Cls K C ∧ Meth K C x f ∧ Binds K fd ps []
/-- making an instance -/
structure HasC (P : Program) (w : World) (K : PySem.W.Frag) (mg : Str → Option Value) (base : Heap) (C : Addr) (k : Nat) (x : Str) (sp : Sp) : Prop where
  ex : ∃ f fd ps, Mk K C f ∧ FnOk P w K mg base CX0 k f fd ps sp ∧ mg x = some (.ref C) ∧ Binds K fd ps []
section
variable {X : Cx} {k : Nat} {x : Str} {sp : Sp} {e o : Expr} {es : List Expr} {t : TA} {ta : TE} {p pos apos : Pos} {C : Addr} {pl : Sem Bool}
theorem pe_fn (F : Has X.prog X.w X.K X.mg X.base k x sp) (hr : Room k X.A) (hg : Gl X x) (ha : PA X (e :: es) t) (hd : (x == ("__debug__" : Str)) = false := by decide)
    (h1 : starEach (e :: es) X.env = (false, eval e X.env) :: starEach es X.env := by rfl) (h2 : (backTo pos (starEach es X.env)).any (fun y => y.1) = false := by rfl) : PE X (.Call (.Name x p) (e :: es) [] pos) (tCall sp [] E0 t) := by
  obtain ⟨f, fd, ps, G, m, kp, b⟩ := F.ex
  exact pe_call G hr hg m kp b .nil pass0 ha hd h1 h2
theorem pe_mk (F : HasC X.prog X.w X.K X.mg X.base C k x sp) (hr : Room (k + 1) X.A) (hg : Gl X x) (ha : PA X (e :: es) t) (hd : (x == ("__debug__" : Str)) = false := by decide)
    (h1 : starEach (e :: es) X.env = (false, eval e X.env) :: starEach es X.env := by rfl) (h2 : (backTo pos (starEach es X.env)).any (fun y => y.1) = false := by rfl) : PE X (.Call (.Name x p) (e :: es) [] pos) (tMake C sp [] E0 t) := by
  obtain ⟨f, fd, ps, M, G, m, b⟩ := F.ex
  exact pe_make M G hr hg m b .nil pass0 ha hd h1 h2
theorem pe_me (F : HasM X.prog X.w X.K X.mg X.base C k x sp) (hr : Room k X.A) (ho : PE X o ta) (ha : PA X (e :: es) t)
    (h1 : starEach (e :: es) X.env = (false, eval e X.env) :: starEach es X.env := by rfl) (h2 : (backTo pos (starEach es X.env)).any (fun y => y.1) = false := by rfl)
    (h3 : eval (.Call (.Attribute o x apos) (e :: es) [] pos) X.env = (do
      let ov ← eval o X.env
      standAt apos.atName
      let (f, q) ← holding [ov] (getMethod ov x pl)
      callWith pos f q (backTo pos (starEach (e :: es) X.env)) (backToKw pos (keywordEach [] X.env))) := by rfl) :
    PE X (.Call (.Attribute o x apos) (e :: es) [] pos) (tMeth C x sp [] E0 ta t) := by
  obtain ⟨f, fd, ps, G, c, m, b⟩ := F.ex
  exact pe_meth ho c m G hr b .nil pass0 ha h1 h2 h3
theorem pe_me0 (F : HasM X.prog X.w X.K X.mg X.base C k x sp) (hr : Room k X.A) (ho : PE X o ta)
    (h3 : eval (.Call (.Attribute o x apos) [] [] pos) X.env = (do
      let ov ← eval o X.env
      standAt apos.atName
      let (f, q) ← holding [ov] (getMethod ov x pl)
      callWith pos f q (backTo pos (starEach [] X.env)) (backToKw pos (keywordEach [] X.env))) := by rfl) :
    PE X (.Call (.Attribute o x apos) [] [] pos) (tMeth C x sp [] E0 ta tNil) := by
  obtain ⟨f, fd, ps, G, c, m, b⟩ := F.ex
  exact pe_meth0 ho c m G hr b .nil pass0 h3
end
/-! ### rules that the layer lacks -/
section
variable {X : Cx}
theorem pe_globS {x z : Str} {t : Tok} {pos : Pos} (hg : Gl X x) (hm : X.mg x = some (.str z t)) (hd : (x == ("__debug__" : Str)) = false := by decide) : PE X (.Name x pos) (tC (.str z)) := pe_glob hg hm ⟨t, rfl⟩ hd
/-- not in a range -/
theorem op_notIn_rng : OpR X (compareOp .NotIn) (fun x y H Q => ∃ i a lo hi, x = V.int i ∧ y = V.ref a ∧ H a = some (.rng lo hi) ∧ Q (.bl (!decide (lo ≤ i ∧ i < hi))) H) := by
  intro pn sh st hp va vb ua ub Qz inv ra rb hh
  obtain ⟨i, a, lo, hi, rfl, rfl, ha, hq⟩ := hh
  obtain ⟨tk, rfl⟩ := ra
  obtain rfl : ub = Value.ref a := rb
  obtain ⟨k1, k2, k3, ho⟩ := inv.hok a _ ha
  show wpAny _ _ (do return Value.bool (!(← contains (Value.ref a) (Value.int i tk)))) _ _ sh
  refine wpAny_bind (wpAny_contains_slot (T := "range") ⟨_, ho, rfl⟩ F.slot_range_contains ?_)
  refine call_meets F.slot_range_contains ⟨_, ho, rfl⟩ F.entry_range_contains (F.args_range_contains_2 _ _) (q_contains a lo hi i k1 k2 k3 tk) ⟨ho, ?_⟩
  refine wpAny_truthy_bool (wpAny_pure ⟨.bl _, hp, inv, rfl, ?_⟩)
  rw [place1]
  exact hq
/-- repr of a truth value -/
theorem call_repr_bool : CallR X (.builtin "repr") (fun xs H Q => ∃ b : Bool, xs = [.bl b] ∧ Q (.str (if b then "True" else "False")) H) := by
  intro pn sh st hp vs us Qz inv rel hh
  obtain ⟨b, rfl, hq⟩ := hh
  obtain ⟨u, rfl, ru⟩ := vals1 rel
  obtain rfl : u = Value.bool b := ru
  refine PySem.P.repr_of_bool ⟨.str _, hp, inv.tok _, ⟨_, rfl⟩, hq⟩
end
/-! ### comprehensions that leave all as it was -/
section
variable {K : PySem.W.Frag} {J : It} {n : Nat} {G : Hp → Prop} {Y : Nat → Hp → V → Hp → Prop} {a D : Addr} {xs : List V} {g : TG} {tt : TT} {te : TE} {vs : List Nat} {σ : L2.St} {H1 : Hp} {Qd : Hp → Prop}
theorem Same.laid {H H' : Hp} {q : Addr} {o : HO} (h : H q = none) (s : Same H H') : Same H (upd H' q o) := fun b u e => by
  rw [upd_ne (ne_of_none e h)]
  exact s b u e
theorem Same.new {H : Hp} {q : Addr} (h : H q = none) (o : HO) : Same H (upd H q o) := Same.laid h (Same.refl H)
/-- what a comprehension's reading asks behind its iterator -/
abbrev LcDone (J : It) (g : TG) (tt : TT) (te : TE) (vs : List Nat) (σ : L2.St) (H1 : Hp) (D : Addr) (Qd : Hp → Prop) : Prop :=
  ∃ W : Nat → Nat → Hp → Prop,
    (∃ m, W 0 m (upd H1 D (.lst []))) ∧
    ∀ i m H, W i m H →
      (J.stop i H ∧ Qd H) ∨
      (J.go i H ∧
        ∃ Nx : Hp → Prop,
          (∀ H', Nx H' → ∃ m', m' < m ∧ W (i + 1) m' H') ∧
          ∀ x H', J.yld i H x H' →
            g x (wipe σ vs) H' fun σ2 H2 =>
              wipe σ2 vs = wipe σ vs ∧
              tt σ2 H2 fun b H3 =>
                if b = true then
                  te σ2 H3 fun y H4 =>
                    ∃ acc, H4 D = some (.lst acc) ∧ acc.length < sizeLine ∧
                      Nx (upd H4 D (.lst (acc ++ [y])))
                else Nx H3)
/-- over any walk; f, p by the turn: what is put there, whether it is -/
theorem lcW (w : Walk J n G Y) (f : Nat → V) (p : Nat → Bool) (hD : H1 D = none) (hn : n ≤ sizeLine) (hG : ∀ H, Same H1 H → G H)
    (turn : ∀ i x H H' (Qy : VK) (Qn : Hp → Prop), i < n → Same H1 H → (∃ l, H D = some (.lst l)) → Y i H x H' → (p i = true → ∀ H2, Same H H2 → Qy (f i) H2) → (p i = false → ∀ H2, Same H H2 → Qn H2) →
      g x (wipe σ vs) H' fun σ2 H2 => wipe σ2 vs = wipe σ vs ∧ tt σ2 H2 fun b H3 => if b = true then te σ2 H3 Qy else Qn H3)
    (fin : ∀ H, Same H1 H → H D = some (.lst (((List.range n).filter p).map f)) → Qd H) :
    LcDone J g tt te vs σ H1 D Qd := by
  have step : ∀ i, ((List.range (i + 1)).filter p).map f = ((List.range i).filter p).map f ++ (if p i = true then [f i] else []) := fun i => by
    rw [List.range_succ, List.filter_append, List.map_append]
    congr 1
    by_cases h : p i = true
    · rw [if_pos h, List.filter_cons_of_pos h]
      rfl
    · rw [if_neg h, List.filter_cons_of_neg h]
      rfl
  refine lc_it w (fun i H => Same H1 H ∧ H D = some (.lst (((List.range i).filter p).map f))) ⟨Same.new hD _, upd_same⟩ (fun i H _ h => hG H h.1) (fun i x H H' hi hp y => ?_) fun H h => fin H h.1 h.2
  refine turn i x H H' _ _ hi hp.1 ⟨_, hp.2⟩ y (fun hpi H2 s2 => ⟨_, s2 _ _ hp.2, ?_, Same.laid hD (hp.1.trans s2), ?_⟩) fun hpi H2 s2 => ⟨hp.1.trans s2, ?_⟩
  · rw [List.length_map]
    refine Nat.lt_of_le_of_lt (List.length_filter_le _ _) ?_
    rw [List.length_range]
    omega
  · rw [upd_same, step, if_pos hpi]
  · rw [step, if_neg (by rw [hpi]; decide), List.append_nil]
    exact s2 _ _ hp.2
theorem range_get {α : Type} (xs : List α) (d : α) : (List.range xs.length).map (fun i => xs.getD i d) = xs := by
  refine List.ext_getElem (by rw [List.length_map, List.length_range]) fun i h1 h2 => ?_
  rw [List.getElem_map, List.getElem_range, List.getD_eq_getElem?_getD, List.getElem?_eq_getElem h2]
  rfl
theorem range_filter {α β : Type} (xs : List α) (d : α) (p : α → Bool) (f : α → β) : ((List.range xs.length).filter fun i => p (xs.getD i d)).map (fun i => f (xs.getD i d)) = (xs.filter p).map f := by
  have e := congrArg (fun l => (l.filter p).map f) (range_get xs d)
  rw [← e]
  show _ = List.map f (List.filter p (List.map (fun i => xs.getD i d) (List.range xs.length)))
  rw [List.filter_map, List.map_map]
  rfl
/-- over the values of a list -/
theorem lcL (f : V → V) (p : V → Bool) (hD : H1 D = none) (hx : SqL K H1 a xs) (hz : xs.length ≤ sizeLine)
    (turn : ∀ x H (Qy : VK) (Qn : Hp → Prop), x ∈ xs → Same H1 H → (∃ l, H D = some (.lst l)) → (p x = true → ∀ H2, Same H H2 → Qy (f x) H2) → (p x = false → ∀ H2, Same H H2 → Qn H2) →
      g x (wipe σ vs) H fun σ2 H2 => wipe σ2 vs = wipe σ vs ∧ tt σ2 H2 fun b H3 => if b = true then te σ2 H3 Qy else Qn H3)
    (fin : ∀ H, Same H1 H → H D = some (.lst ((xs.filter p).map f)) → Qd H) :
    LcDone (Itl K a) g tt te vs σ H1 D Qd := by
  refine lcW walk_list (fun i => f (xs.getD i .non)) (fun i => p (xs.getD i .non)) hD hz (fun H s => s.seq hx) (fun i x H H' Qy Qn hi s l y hy hn => ?_) fun H s e => fin H s (by rw [e, range_filter])
  obtain ⟨rfl, ex⟩ := y
  have e : xs.getD i .non = x := by rw [List.getD_eq_getElem?_getD, ex]; rfl
  rw [e] at hy hn
  exact turn x _ Qy Qn (List.mem_of_getElem? ex) s l hy hn
theorem Same.tup {K : PySem.W.Frag} {H H' : Hp} {a : Addr} {xs : List V} (e : Same H H') (h : SqT K H a xs) : SqT K H' a xs := by
  rcases h with (h | ⟨o, h⟩) | h
  · exact .inl (.inl (e _ _ h))
  · exact .inl (.inr ⟨o, e _ _ h⟩)
  · exact .inr h
/-- over the values of a tuple -/
theorem lcT (f : V → V) (p : V → Bool) (hD : H1 D = none) (hx : SqT K H1 a xs) (hz : xs.length ≤ sizeLine)
    (turn : ∀ x H (Qy : VK) (Qn : Hp → Prop), x ∈ xs → Same H1 H → (∃ l, H D = some (.lst l)) → (p x = true → ∀ H2, Same H H2 → Qy (f x) H2) → (p x = false → ∀ H2, Same H H2 → Qn H2) →
      g x (wipe σ vs) H fun σ2 H2 => wipe σ2 vs = wipe σ vs ∧ tt σ2 H2 fun b H3 => if b = true then te σ2 H3 Qy else Qn H3)
    (fin : ∀ H, Same H1 H → H D = some (.lst ((xs.filter p).map f)) → Qd H) :
    LcDone (Itt K a) g tt te vs σ H1 D Qd := by
  refine lcW walk_tup (fun i => f (xs.getD i .non)) (fun i => p (xs.getD i .non)) hD hz (fun H s => Same.tup s hx) (fun i x H H' Qy Qn hi s l y hy hn => ?_) fun H s e => fin H s (by rw [e, range_filter])
  obtain ⟨rfl, ex⟩ := y
  have e : xs.getD i .non = x := by rw [List.getD_eq_getElem?_getD, ex]; rfl
  rw [e] at hy hn
  exact turn x _ Qy Qn (List.mem_of_getElem? ex) s l hy hn
end
theorem range_opt {α : Type} (xs : List α) : (List.range xs.length).map (fun i => xs[i]?) = xs.map some := by
  refine List.ext_getElem (by rw [List.length_map, List.length_map, List.length_range]) fun i h1 h2 => ?_
  rw [List.length_map] at h2
  rw [List.getElem_map, List.getElem_map, List.getElem_range, List.getElem?_eq_getElem h2]
def optV {α : Type} (f : α → V) : Option α → V
  | some a => f a
  | none => .non
def optB {α : Type} (p : α → Bool) : Option α → Bool
  | some a => p a
  | none => false
theorem range_filt {α : Type} (xs : List α) (p : α → Bool) (f : α → V) : ((List.range xs.length).filter fun i => optB p xs[i]?).map (fun i => optV f xs[i]?) = (xs.filter p).map f := by
  have e := congrArg (fun l => (l.filter (optB p)).map (optV f)) (range_opt xs)
  rw [List.filter_map, List.map_map, List.filter_map, List.map_map] at e
  exact e
/-- over any walk, by what stands at its turns -/
theorem lcA {α : Type} (w : Walk J n G Y) (ys : List α) (f : α → V) (p : α → Bool) (hl : ys.length = n) (hD : H1 D = none) (hn : n ≤ sizeLine) (hG : ∀ H, Same H1 H → G H)
    (turn : ∀ i b x H H' (Qy : VK) (Qn : Hp → Prop), ys[i]? = some b → Same H1 H → (∃ l, H D = some (.lst l)) → Y i H x H' → (p b = true → ∀ H2, Same H H2 → Qy (f b) H2) → (p b = false → ∀ H2, Same H H2 → Qn H2) →
      g x (wipe σ vs) H' fun σ2 H2 => wipe σ2 vs = wipe σ vs ∧ tt σ2 H2 fun b H3 => if b = true then te σ2 H3 Qy else Qn H3)
    (fin : ∀ H, Same H1 H → H D = some (.lst ((ys.filter p).map f)) → Qd H) :
    LcDone J g tt te vs σ H1 D Qd := by
  subst hl
  refine lcW w (fun i => optV f ys[i]?) (fun i => optB p ys[i]?) hD hn hG (fun i x H H' Qy Qn hi s l y hy hn => ?_) fun H s e => fin H s (by rw [e, range_filt])
  have ei : ys[i]? = some ys[i] := List.getElem?_eq_getElem hi
  rw [ei] at hy hn
  exact turn i ys[i] x H H' Qy Qn ei s l y hy hn
/-! ### answers that are known -/
theorem ifT {c A B : Prop} [Decidable c] (hc : c) (h : A) : if decide c = true then A else B := by
  rw [decide_eq_true hc, if_pos rfl]
  exact h
theorem ifF {c A B : Prop} [Decidable c] (hc : ¬ c) (h : B) : if decide c = true then A else B := by
  rw [decide_eq_false hc, if_neg Bool.false_ne_true]
  exact h
theorem ifNF {c A B : Prop} [Decidable c] (hc : ¬ c) (h : A) : if (!decide c) = true then A else B := by
  rw [decide_eq_false hc]
  exact iteT h
theorem blT {Q : VK} {H : Hp} {c : Prop} [Decidable c] (hc : c) (h : Q (.bl true) H) : Q (.bl (decide c)) H := by
  rw [decide_eq_true hc]
  exact h
theorem blF {Q : VK} {H : Hp} {c : Prop} [Decidable c] (hc : ¬ c) (h : Q (.bl false) H) : Q (.bl (decide c)) H := by
  rw [decide_eq_false hc]
  exact h
theorem blE {Q : VK} {H : Hp} {a b : Bool} (e : a = b) (h : Q (.bl b) H) : Q (.bl a) H := by
  rw [e]
  exact h
/-- no test -/
theorem yes {σ : L2.St} {H : Hp} {A B : Hp → Prop} (h : A H) : tYes σ H (fun b H3 => if b = true then A H3 else B H3) := by
  show if true = true then A H else B H
  rw [if_pos rfl]
  exact h
theorem all_yes {α : Type} (l : List α) : l.filter (fun _ => true) = l := List.filter_eq_self.mpr fun _ _ => rfl
theorem any_all {l : List V} {p : V → Bool} (h : ∀ x ∈ l, p x = true) : l.all p = true := List.all_eq_true.mpr h
theorem cut_to (xs : List V) (k : Nat) : cutV xs none (some (k : Int)) = xs.take k := by
  unfold cutV
  rw [HT.sIx_none, HT.sIx_nat, List.drop_zero, Nat.sub_zero]
  by_cases h : k ≤ xs.length
  · rw [Nat.min_eq_left h]
  · rw [Nat.min_eq_right (by omega), List.take_of_length_le (Nat.le_refl _), List.take_of_length_le (by omega)]
theorem cut_from (xs : List V) (k : Nat) : cutV xs (some (k : Int)) none = xs.drop k := by
  unfold cutV
  rw [HT.sIx_none, HT.sIx_nat]
  by_cases h : k ≤ xs.length
  · rw [Nat.min_eq_left h]
    exact List.take_of_length_le (by rw [List.length_drop]; exact Nat.le_refl _)
  · rw [Nat.min_eq_right (by omega), Nat.sub_self, List.take_zero, List.drop_eq_nil_of_le (by omega)]
theorem inV_str (z : Str) : ∀ ws : List Str, inV (.str z) (ws.map V.str) = decide (z ∈ ws)
  | [] => rfl
  | w :: ws => by
    have ih := inV_str z ws
    unfold inV at ih ⊢
    rw [List.map_cons, List.any_cons, ih]
    show ((w == z) || decide (z ∈ ws)) = decide (z ∈ w :: ws)
    by_cases h : w = z
    · subst h
      rw [beq_self_eq_true, Bool.true_or]
      exact (decide_eq_true List.mem_cons_self).symm
    · rw [beq_eq_false_iff_ne.mpr h, Bool.false_or]
      refine decide_eq_decide.mpr ⟨fun m => List.mem_cons_of_mem _ m, fun m => ?_⟩
      exact (List.mem_cons.mp m).resolve_left (Ne.symm h)
theorem flat_str (ws : List Str) : (ws.map V.str).all flatV = true := by
  rw [List.all_eq_true]
  intro x hx
  obtain ⟨w, _, rfl⟩ := List.mem_map.mp hx
  rfl
/-! ### heaps and what stands there -/
section
variable {H H' : Hp}
theorem ne_new {p q : Addr} {o : HO} (h1 : H p = some o) (h2 : H q = none) : p ≠ q := ne_of_none h1 h2
theorem at_new {p q : Addr} {o u : HO} (h1 : H p = some o) (h2 : H q = none) : upd H q u p = some o := by
  rw [upd_ne (ne_of_none h1 h2)]
  exact h1
end
/-- a list of things, each as R says -/
def LstOf {α : Type} (R : Hp → Addr → α → Prop) (H : Hp) (l : Addr) (xs : List α) : Prop := ∃ as : List Addr, H l = some (.lst (as.map V.ref)) ∧ Paired (R H) as xs
def StrL (H : Hp) (l : Addr) (xs : List Str) : Prop := H l = some (.lst (xs.map V.str))
def IntT (H : Hp) (l : Addr) (xs : List Int) : Prop := H l = some (.tup (xs.map V.int))
theorem Paired.imp {α β : Type} {R S : α → β → Prop} : ∀ {xs : List α} {ys : List β}, Paired R xs ys → (∀ a b, R a b → S a b) → Paired S xs ys
  | _, _, .nil, _ => .nil
  | _, _, .cons r t, h => .cons (h _ _ r) (Paired.imp t h)
theorem Paired.get {α β : Type} {R : α → β → Prop} : ∀ {xs : List α} {ys : List β} {i : Nat} {a : α}, Paired R xs ys → xs[i]? = some a → ∃ b, ys[i]? = some b ∧ R a b
  | _, _, _, _, .nil, e => by simp at e
  | _, _, 0, _, .cons r _, e => by
    have q := Option.some.inj e
    subst q
    exact ⟨_, rfl, r⟩
  | _, _, i + 1, a, .cons _ t, e => by
    obtain ⟨b, h1, h2⟩ := Paired.get (i := i) (a := a) t (by simpa using e)
    exact ⟨b, by simpa using h1, h2⟩
theorem Paired.mem {α β : Type} {R : α → β → Prop} : ∀ {xs : List α} {ys : List β} {a : α}, Paired R xs ys → a ∈ xs → ∃ b ∈ ys, R a b
  | _, _, _, .nil, h => nomatch h
  | _, _, a, .cons r t, h => by
    rcases List.mem_cons.mp h with rfl | h
    · exact ⟨_, List.mem_cons_self, r⟩
    · obtain ⟨b, h1, h2⟩ := Paired.mem t h
      exact ⟨b, List.mem_cons_of_mem _ h1, h2⟩
theorem Paired.app {α β : Type} {R : α → β → Prop} : ∀ {xs us : List α} {ys vs : List β}, Paired R xs ys → Paired R us vs → Paired R (xs ++ us) (ys ++ vs)
  | _, _, _, _, .nil, s => s
  | _, _, _, _, .cons r t, s => .cons r (Paired.app t s)
theorem Paired.len {α β : Type} {R : α → β → Prop} : ∀ {xs : List α} {ys : List β}, Paired R xs ys → xs.length = ys.length
  | _, _, .nil => rfl
  | _, _, .cons _ t => by rw [List.length_cons, List.length_cons, Paired.len t]
end K16
namespace K16
open PySem PySem.Spec PyProof.Rows L2 RZ
/-! ### words.py -/
def LETS : Str := "abcdefghijklmnopqrstuvwxyz"
def FIGS : Str := "0123456789"
/-- a word of the program -/
structure Wd (z : Str) : Prop where
  lo : 1 ≤ z.length
  hi : z.length < 13
  head : ∃ c, z.cps[0]? = some c ∧ c ∈ LETS.cps.toList
  all : ∀ c ∈ z.cps.toList, c ∈ LETS.cps.toList ∨ c ∈ FIGS.cps.toList
def spIsInt : Sp := fun vs H Q _ => ∃ i : Int, vs = [.int i] ∧ Q (.bl true) H
def spIsWord : Sp := fun vs H Q _ => ∃ z : Str, vs = [.str z] ∧ Wd z ∧ ∀ H', Same H H' → Q (.bl true) H'
def spIsList : Sp := fun vs H Q _ => ∃ a xs, vs = [.ref a] ∧ H a = some (.lst xs) ∧ ∀ H', Same H H' → Q (.bl true) H'
def spIsRow (K : PySem.W.Frag) : Sp := fun vs H Q _ => ∃ (a : Addr) (xs : List V), vs = [.ref a, .int (xs.length : Int)] ∧ H a = some (.tup xs) ∧ Q (.bl true) H
section
variable {P : Program} {w : World} {K : PySem.W.Frag} {mg : Str → Option Value} {base : Heap} {f : Addr} {fd : FuncData}
theorem ok_is_integer (F : Fun K "is_integer" "is_integer" s_is_integer f fd) (T : Txt K mg) : FnOk P w K mg base CX0 1 f fd ["value"] spIsInt := by
  refine F.ok sc_is_integer (fun vs H Q E h => ?_) (fun cdv A outer s H vs Q E hr h => ?_)
  · obtain ⟨i, rfl, _⟩ := h
    rfl
  obtain ⟨i, rfl, q⟩ := h
  refine ⟨_, (pss_one (ps_ret (pe_and (pe_callB call_isi (by rfl) T.b_isinstance (by decide +kernel) (pa_cons (pv 0) (pa_cons (pe_bltn (v := .ty "int") (by rfl) T.b_int (by decide +kernel) rfl) pa_nil))) (pe_one (pe_not (pe_callB call_isi (by rfl) T.b_isinstance (by decide +kernel) (pa_cons (pv 0) (pa_cons (pe_bltn (v := .ty "bool") (by rfl) T.b_bool (by decide +kernel) rfl) pa_nil)))))))), ?_⟩
  refine ⟨_, rfl, _, _, _, _, true, rfl, .ty _, .base (.int _), rfl, true, rfl, ?_⟩
  refine iteT ?_
  refine ⟨_, rfl, _, _, _, _, false, rfl, .ty _, .base (.int _), rfl, false, rfl, q⟩
theorem ok_is_list (F : Fun K "is_list" "is_list" s_is_list f fd) (T : Txt K mg) : FnOk P w K mg base CX0 1 f fd ["value"] spIsList := by
  refine F.ok sc_is_list (fun vs H Q E h => ?_) (fun cdv A outer s H vs Q E hr h => ?_)
  · obtain ⟨a, xs, rfl, _⟩ := h
    rfl
  obtain ⟨a, xs, rfl, ha, q⟩ := h
  refine ⟨_, (pss_one (ps_ret (pe_callB call_isiT (by rfl) T.b_isinstance (by decide +kernel) (pa_cons (pv 0) (pa_cons (pe_tup (pa_cons (pe_bltn (v := .ty "list") (by rfl) T.b_list (by decide +kernel) rfl) (pa_cons (pe_bltn (v := .ty "tuple") (by rfl) T.b_tuple (by decide +kernel) rfl) pa_nil))) pa_nil))))), ?_⟩
  refine ⟨_, rfl, (by show 2 ≤ sizeLine; decide), fun p hp => ?_⟩
  exact ⟨_, _, _, _, _, true, rfl, upd_same, .cons (.ty _) (.cons (.ty _) .nil), .base (.lst (at_new ha hp)), rfl, q _ (Same.new hp _)⟩
theorem ok_is_row (F : Fun K "is_row" "is_row" s_is_row f fd) (T : Txt K mg) : FnOk P w K mg base CX0 1 f fd ["value", "many"] (spIsRow K) := by
  refine F.ok sc_is_row (fun vs H Q E h => ?_) (fun cdv A outer s H vs Q E hr h => ?_)
  · obtain ⟨a, xs, rfl, _⟩ := h
    rfl
  obtain ⟨a, xs, rfl, ha, q⟩ := h
  refine ⟨_, (pss_one (ps_ret (pe_and (pe_callB call_isi (by rfl) T.b_isinstance (by decide +kernel) (pa_cons (pv 0) (pa_cons (pe_bltn (v := .ty "tuple") (by rfl) T.b_tuple (by decide +kernel) rfl) pa_nil))) (pe_one (pe_cmpR op_eq (pe_callB call_len_seq (by rfl) T.b_len (by decide +kernel) (pa_cons (pv 0) pa_nil)) (pv 1) (nomark _)))))), ?_⟩
  refine ⟨_, rfl, _, _, _, _, true, rfl, .ty _, .base (.tup ha), rfl, true, rfl, iteT ?_⟩
  refine ⟨_, rfl, _, _, rfl, .inr (SqT.of ha), _, rfl, rfl, ?_⟩
  have e : decide (V.int (xs.length : Int) = V.int (xs.length : Int)) = true := decide_eq_true rfl
  show Q (.bl (decide (V.int (xs.length : Int) = V.int (xs.length : Int)))) H
  rw [e]
  exact q
theorem ok_is_word (F : Fun K "is_word" "is_word" s_is_word f fd) (T : Txt K mg) : FnOk P w K mg base CX0 1 f fd ["value"] spIsWord := by
  refine F.ok sc_is_word (fun vs H Q E h => ?_) (fun cdv A outer s H vs Q E hr h => ?_)
  · obtain ⟨z, rfl, _⟩ := h
    rfl
  obtain ⟨z, rfl, wd, q⟩ := h
  obtain ⟨t1, gLETTERS⟩ := T.g_LETTERS
  obtain ⟨t2, gFIGURES⟩ := T.g_FIGURES
  refine ⟨_, (pss_cons (ps_if (PW.pt (pw_or (pt_not (pt_val (pe_callB call_isi (by rfl) T.b_isinstance (by decide +kernel) (pa_cons (pv 0) (pa_cons (pe_bltn (v := .ty "str") (by rfl) T.b_str (by decide +kernel) rfl) pa_nil))))) (pw_or (pt_cmpR op_notIn_rng (pe_callB call_len_str (by rfl) T.b_len (by decide +kernel) (pa_cons (pv 0) pa_nil)) (pe_callTy cr_range2 (by rfl) T.b_range (by decide +kernel) (pa_cons pe_int (pa_cons pe_int pa_nil))) rfl) (pw_or1 (pt_cmpR op_notIn_sign (pe_ix (r := rIxS) ix_str (pv 0) pe_int (fun _ _ => rfl)) (pe_globS rfl gLETTERS) rfl))))) (pss_one (ps_ret pe_bl)) pss_nil)
  (pss_one (ps_ret (pe_callB (r := rAll K) (cr_all rfl) (by rfl) T.b_all (by decide +kernel) (pa_cons (pe_lc (own := [("sign", 1)]) (g := gName 1) (tt := tYes) rfl sc_is_word.nd (pi_str (pv 0)) (blkOk_by (own := [("sign", 1)]) (N := ["value", "sign"]) (by kernel_rfl)) (fun _ _ _ _ _ => (pg_name (i := 1) sc_is_word.nd rfl (by first | exact .inl rfl | exact .inr rfl))) (fun _ _ _ _ _ => pts_nil) (fun _ _ _ _ _ => (pe_or (pe_cmpR op_in_sign (pv 1) (pe_globS rfl gLETTERS) rfl) (pe_one (pe_cmpR op_in_sign (pv 1) (pe_globS rfl gFIGURES) rfl))))) pa_nil))))), ?_⟩
  have hz : z.length ≤ sizeLine := Nat.le_trans (Nat.le_of_lt wd.hi) (by decide)
  refine ⟨_, rfl, _, _, _, _, true, rfl, .ty _, .base (.str _), rfl, true, rfl, ?_⟩
  refine iteF ?_
  refine ⟨_, rfl, _, rfl, hz, _, _, rfl, fun p hp => ?_⟩
  refine ⟨_, _, _, _, rfl, rfl, upd_same, _, rfl, ?_⟩
  have e1 : (!decide ((1 : Int) ≤ (z.length : Int) ∧ (z.length : Int) < 13)) = false := by
    have h1 := wd.lo
    have h2 := wd.hi
    rw [decide_eq_true (by omega)]
    rfl
  rw [e1]
  refine iteF ?_
  obtain ⟨c, hc, hcl⟩ := wd.head
  have hc' : atI z.cps.toList 0 = some c := by
    have := atI_nat (xs := z.cps.toList) (j := 0) (v := c) (by simpa using hc)
    exact this
  refine ⟨_, rfl, _, _, c, rfl, rfl, hz, hc', _, _, rfl, rfl, _, rfl, ?_⟩
  have e2 : (!decide (c ∈ LETS.cps.toList)) = false := by rw [decide_eq_true hcl]; rfl
  refine iteNS hcl ?_
  refine ⟨_, rfl, z, rfl, fun D hD => ?_⟩
  have hz2 : z.cps.size ≤ sizeLine := hz
  refine lcW (walk_str (z := z)) (fun _ => .bl true) (fun _ => true) hD hz2 (fun _ _ => trivial) (fun i x H2 H3 Qy Qn hi s2 _ y hy _ => ?_) fun H2 s2 e => ?_
  · obtain ⟨rfl, c, hc, rfl⟩ := y
    refine ⟨rfl, yes ?_⟩
    have hm : c ∈ z.cps.toList := by
      have := Array.mem_of_getElem? hc
      simpa using this
    refine ⟨_, rfl, _, _, rfl, rfl, _, rfl, ?_⟩
    by_cases h2 : c ∈ LETS.cps.toList
    · exact ifT h2 (hy rfl _ (Same.refl _))
    · refine ifF h2 ⟨_, rfl, _, _, rfl, rfl, ?_⟩
      exact blT (Q := Qy) ((wd.all c hm).resolve_left h2) (hy rfl _ (Same.refl _))
  · refine ⟨D, List.replicate z.cps.size true, rfl, .inl (.inl ?_), ?_⟩
    · rw [e, all_yes, List.map_const', List.length_range, List.map_replicate]
    · have h3 : (List.replicate z.cps.size true).all id = true := by
        rw [List.all_eq_true]
        intro x hx
        exact (List.mem_replicate.mp hx).2
      rw [h3]
      exact q _ ((Same.new hp _).trans s2)
end
end K16
namespace K16
open PySem PySem.Spec PyProof.Rows L2 RZ
/-! ### xs[::2] -/
theorem vals_pick {xs : List V} {us : List Value} (r : Vals xs us) : ∀ ks : List Nat, Vals (ks.filterMap (xs[·]?)) (ks.filterMap (us.toArray[·]?))
  | [] => .nil
  | k :: ks => by
    have ih := vals_pick r ks
    cases e : xs[k]? with
    | none =>
      have e2 : us.toArray[k]? = none := by
        have q := r.none_of e
        simpa using q
      rw [List.filterMap_cons_none e, List.filterMap_cons_none e2]
      exact ih
    | some x =>
      obtain ⟨u, hu, ru⟩ := r.get e
      have e2 : us.toArray[k]? = some u := by simpa using hu
      rw [List.filterMap_cons_some e, List.filterMap_cons_some e2]
      exact .cons ru ih
theorem stp2_len (n : Nat) : (sliceRange 0 n 2).length ≤ n := by
  unfold sliceRange
  rw [List.length_map, List.length_range]
  rw [if_pos (by decide)]
  by_cases h : (0 : Int) < n
  · rw [if_pos h]
    omega
  · rw [if_neg h]
    exact Nat.zero_le _
def tStp2 (K : PySem.W.Frag) (te : TE) : TE := fun σ H Q => te σ H fun x H1 =>
  ∃ a xs, x = .ref a ∧ SqL K H1 a xs ∧ ∀ zs : List V, (∀ z ∈ zs, z ∈ xs) → zs.length ≤ xs.length → ∀ p, H1 p = none → Q (.ref p) (upd H1 p (.lst zs))
theorem pe_stp2 {X : Cx} {e : Expr} {te : TE} {k : Nat} {p1 p3 pos : Pos} (he : PE X e te) : PE X (.Subscript e (.Slice none none (some (.Constant (.int 2) k p1)) p3) pos) (tStp2 X.K te) := by
  refine ⟨fun pn sh st hp Qz inv hh => ?_⟩
  refine Subscript_ (thn (he.run pn sh st hp _ inv hh) fun v s1 hv => ?_)
  obtain ⟨x, hp1, inv1, rx, a, xs, ex, hx, hq⟩ := hv
  subst ex
  obtain rfl : v = Value.ref a := rx
  have part : PO X (some (.Constant (.int 2) k p1)) (tPart (tC (.int 2))) := po_some pe_int
  refine wpAny_Slice (thn (po_none.run pn s1 st hp1 (fun o h => o = none ∧ h = hp1) inv1 ⟨rfl, rfl⟩) fun v1 s2 h2 => ?_)
  obtain ⟨o1, hp2, inv2, part1, e1, e2⟩ := h2
  subst e1 e2
  refine thn (po_none.run pn s2 st hp2 (fun o h => o = none ∧ h = hp2) inv2 ⟨rfl, rfl⟩) fun v2 s3 h3 => ?_
  obtain ⟨o2, hp3, inv3, part2, e1, e2⟩ := h3
  subst e1 e2
  refine thn (part.run pn s3 st hp3 (fun o h => o = some 2 ∧ h = hp3) inv3 ⟨2, rfl, rfl, rfl⟩) fun v3 s4 h4 => ?_
  obtain ⟨o3, hp4, inv4, part3, e1, e2⟩ := h4
  subst e1 e2
  have inv5 : Inv X pn st hp4 { s4 with heap := s4.heap.push { cls := .type "slice", data := .fields #[v1, v2, v3] } } :=
    inv4.kept (t' := s4.toks) fun b ob q => Heap.get?_push_of_some _ q
  obtain ⟨its, rv, plain, hz⟩ := inv5.list hx
  have hlen := rv.length
  have bound : sliceBounds none none (some 2) its.toArray.size = (0, (its.toArray.size : Int), 2) := by
    first | rfl | simp [sliceBounds]
  show wpAny (model X.prog X.w) X.A (subscriptTail e (.Slice none none (some (.Constant (.int 2) k p1)) p3) (.ref a) (.ref s4.heap.objs.size)) (EP X pn st Qz) X.xe
    { s4 with heap := s4.heap.push { cls := .type "slice", data := .fields #[v1, v2, v3] } }
  refine tail_any (ops := [.ref a, .ref s4.heap.objs.size]) plain.isList.typeIs PySem.slot_list_getitem.lookup ?_ (by with_unfolding_all rfl)
  refine wpAny_getItem_list_slice plain.isList (Heap.IsSliceOf.new _ v1 v2 v3) part1 part2 part3 (by decide) ?_ (by rw [List.size_toArray]; omega)
  unfold slicePick
  rw [bound]
  have ll : (((sliceRange 0 (its.toArray.size : Int) 2)).filterMap (xs[·]?)).length ≤ xs.length := by
    refine Nat.le_trans (List.length_filterMap_le _ _) ?_
    have q := stp2_len its.toArray.size
    rw [List.size_toArray] at q ⊢
    omega
  refine ⟨.ref _, _, inv5.laid (t' := s4.toks) (o := .lst ((sliceRange 0 (its.toArray.size : Int) 2).filterMap (xs[·]?))) (fun b ob q => Heap.get?_push_of_some _ q) (Nat.le_refl _) ?_, rfl,
    hq _ (fun z hz => ?_) ll _ (inv5.hok.fresh (Nat.le_refl _))⟩
  · exact ⟨Nat.le_trans ll hz, _, 0, vals_pick rv _, Heap.get?_push_size _ rfl⟩
  · obtain ⟨j, _, hj⟩ := List.mem_filterMap.mp hz
    exact List.mem_of_getElem? hj
end K16
namespace K16
open PySem PySem.Spec PyProof.Rows L2 RZ
/-! ### a walk whose tuples are new, over things that stand in the heap -/
theorem turn_of {ι : Type} {P : Program} {w : World} {K : PySem.W.Frag} {tg : Expr} {J : It} {own wr fp : List Addr} {it : Addr} {n : Nat} {tn : Nat → Heap → Prop}
    {Y : ι → Nat → Heap → Value → Heap → Prop} {St : ι → Nat → Heap → Prop}
    (W : ∀ (q : ι) (A : Around), A.handled = none → GoesN P w A tg it fp wr n (Y q) (St q)) (mem : it ∈ own) (sub : ∀ b ∈ wr, b ∈ own)
    (obj : ∀ i h, tn i h → ∀ b ∈ own, ∃ o, h.get? b = some o ∧ ∀ v, o.data ≠ .cell v)
    (keep : ∀ i h h', tn i h → (∀ b ∈ own, ∀ o, h.get? b = some o → h'.get? b = some o) → tn i h') (out : ∀ q i h, St q i h → tn i h)
    (go : ∀ (X : Cx), X.prog = P → X.w = w → X.K = K → ∀ (i : Nat) (pn : List (Addr × Obj)) (sh : Shared) (st : L2.St) (hp : Hp), Inv X pn st hp sh → tn i sh.heap → J.go i hp →
      i < n ∧ ∃ q, St q i sh.heap ∧ ∀ v h', Y q i sh.heap v h' → ∃ (T : Addr) (x y : V) (u1 u2 : Value), v = .ref T ∧ sh.heap.objs.size ≤ T ∧ h'.IsTuple T #[u1, u2] ∧ RelV x u1 ∧ RelV y u2 ∧ (hp T = none → J.yld i hp (.ref T) (upd hp T (.tup [x, y]))))
    (stop : ∀ (X : Cx), X.prog = P → X.w = w → X.K = K → ∀ (i : Nat) (pn : List (Addr × Obj)) (sh : Shared) (st : L2.St) (hp : Hp), Inv X pn st hp sh → tn i sh.heap → J.stop i hp → ∃ q, St q n sh.heap)
    (self : ∀ (A : Around) (i : Nat) (sh : Shared) (Q : Value → Shared → Prop) (E : Value → Shared → Prop), tn i sh.heap → Q (.ref it) sh → wpAny (model P w) A (pyIter (.ref it)) Q E sh) :
    Turn P w K tg J own it tn where
  mem := mem
  obj := obj
  keep := keep
  self := self
  item := by
    intro X eP ew eK hc i pn sh st hp E inv hf ht hg
    obtain ⟨hi, q, hst, hy⟩ := go X eP ew eK i pn sh st hp inv ht hg
    subst eP ew eK
    refine (W q X.A (inv.ok.hd hc)).goes i sh (fun v s2 => ∃ x hp', Inv X pn st hp' s2 ∧ RelV x v ∧ J.yld i hp x hp' ∧ tn (i + 1) s2.heap ∧ ∀ b ∈ own, hp' b = none) E hi hst fun v h' tk hY st' hk htk => ?_
    obtain ⟨T, x, y, u1, u2, rfl, hT, ⟨o, ho, hcl, m, hd⟩, r1, r2, yl⟩ := hy v h' hY
    have hn : hp T = none := inv.hok.fresh hT
    refine ⟨.ref T, _, inv.turnedNew (ob := .tup [x, y]) (ch := own) (t' := tk) (fun b ob hb e => hk b ob (fun z => hb (sub b z)) e) hf hT ?_, rfl, yl hn, out q _ _ st', fun b hb => ?_⟩
    · exact ⟨by show 2 ≤ sizeLine; decide, [u1, u2], .cons r1 (.cons r2 .nil), ⟨o, ho, hcl, m, hd⟩⟩
    · have ne : b ≠ T := fun e => by
        obtain ⟨ob, hob, _⟩ := obj i _ ht b hb
        rw [e] at hob
        exact absurd (Heap.lt_size hob) (Nat.not_lt.mpr hT)
      rw [upd_ne ne]
      exact (hf b hb).1
  done := by
    intro X eP ew eK hc i pn sh st hp E inv hf ht hg
    obtain ⟨q, hst⟩ := stop X eP ew eK i pn sh st hp inv ht hg
    subst eP ew eK
    refine wpAny_mono ((W q X.A (inv.ok.hd hc)).stops sh (fun s1 => Inv X pn st hp s1) E hst fun h' tk hk htk => ?_) (fun r s1 h => h) fun _ _ h => h
    exact inv.turnedL (t' := tk) (ch := own) (fun b o hb e => hk b o (fun z => hb (sub b z)) e) hf
/-! ### enumerate(tuple) -/
def Itet (K : PySem.W.Frag) (a : Addr) (n : Nat) : It where
  go := fun i H => i < n ∧ ∃ xs : List V, SqT K H a xs ∧ xs.length = n
  yld := fun i H v H' => ∃ (T : Addr) (x : V), v = .ref T ∧ H T = none ∧ H' = upd H T (.tup [.int (i : Nat), x]) ∧ ∀ xs, SqT K H a xs → xs[i]? = some x
  stop := fun i H => i = n ∧ ∃ xs : List V, SqT K H a xs ∧ xs.length = n
theorem turn_enumT {P : Program} {w : World} {K : PySem.W.Frag} {elts : List Expr} {kk : Nat} {tpos : Pos} {a e it : Addr} {n : Nat} (h1 : e ≠ it) (h2 : e ≠ a) (h3 : a ≠ it) :
    Turn P w K (.Tuple elts kk tpos) (Itet K a n) [e, it] e (fun i h => (∃ old, IsEnum h e it (0 + (i : Int)) old) ∧ h.IsTupleIter it a i) := by
  refine turn_of (ι := { q : Array Value // q.size = n }) (n := n) (fp := e :: [it, a]) (wr := [e, it]) (Y := fun q i h0 v h => ∃ T t x, v = .ref T ∧ h0.objs.size ≤ T ∧ q.1[i]? = some x ∧ h.IsTuple T #[.int (0 + (i : Int)) t, x])
    (St := fun q i h => (∃ old, IsEnum h e it (0 + (i : Int)) old) ∧ h.IsTupleIter it a i ∧ h.IsTuple a q.1) (fun q A hA => ?_) (by simp) (fun b hb => hb) (fun i h ht b hb => ?_) (fun i h h' ht hk => ?_) (fun q i h st => ⟨st.1, st.2.1⟩) ?_ ?_ ?_
  · have D := Draws.tuple (prog := P) (w := w) (A := A.in1) hA it a h3 q.1
    have W := GoesN.enumFrom (elts := elts) (x1 := kk) (pos := tpos) 0 D e h1 (by simp [h1, h2]) (by simp)
    rw [q.2] at W
    exact W
  · obtain ⟨⟨old, he⟩, o, ho, hc, hd⟩ := ht
    have e' : b = e ∨ b = it := by simpa using hb
    rcases e' with rfl | rfl
    · exact ⟨_, he, fun v z => nomatch z⟩
    · exact ⟨o, ho, fun v z => by rw [hd] at z; cases z⟩
  · obtain ⟨⟨old, he⟩, o, ho, hc, hd⟩ := ht
    exact ⟨⟨old, hk e (by simp) _ he⟩, o, hk it (by simp) _ ho, hc, hd⟩
  · intro X eP ew eK i pn sh st hp inv ht hg
    subst eP ew eK
    obtain ⟨hi, xs, hx, hl⟩ := hg
    obtain ⟨its, rv, p, _⟩ := inv.tuple hx
    have hs : its.toArray.size = n := by rw [List.size_toArray, ← rv.length, hl]
    refine ⟨hi, ⟨its.toArray, hs⟩, ⟨ht.1, ht.2, p⟩, fun v h' hy => ?_⟩
    obtain ⟨T, t, u, ev, hT, hu, hI⟩ := hy
    have hxi : xs[i]? = some xs[i] := List.getElem?_eq_getElem (by omega)
    obtain ⟨u', hu', ru⟩ := rv.get hxi
    have eu : u = u' := by
      have q : its.toArray[i]? = some u := hu
      rw [List.getElem?_toArray, hu'] at q
      exact (Option.some.inj q).symm
    subst eu
    refine ⟨T, .int (i : Nat), xs[i], _, _, ev, hT, hI, ⟨t, by rw [Int.zero_add]⟩, ru, fun hn => ⟨T, xs[i], rfl, hn, rfl, fun ys hy => ?_⟩⟩
    rw [inv.tuple_inj hy hx]
    exact hxi
  · intro X eP ew eK i pn sh st hp inv ht hg
    subst eP ew eK
    obtain ⟨hi, xs, hx, hl⟩ := hg
    obtain ⟨its, rv, p, _⟩ := inv.tuple hx
    subst hi
    exact ⟨⟨its.toArray, by rw [List.size_toArray, ← rv.length, hl]⟩, ht.1, ht.2, p⟩
  · intro A i sh Q E ht h
    obtain ⟨⟨_, he⟩, _⟩ := ht
    exact wpAny_pyIter_enum he h
theorem meets_enum1 {v : Value} {o : Obj} {H : Heap → Prop} (B : Begins v o H) :
    Meets (Builtin.«enumerate.__new__» ⟨[.type "enumerate", v], []⟩) (fun _ R s =>
      H s.heap ∧ R (.ok (.ret (.ref (s.heap.push o).objs.size)))
        { s with heap := (s.heap.push o).push { cls := .type "enumerate", data := .fields #[.none, .bool false, .ref s.heap.objs.size, rawInt 0, .none, .none] } }) :=
  .of_wp fun prog w A R s hh => by
    obtain ⟨hp, g, d, tk, os⟩ := s
    obtain ⟨h1, hh⟩ := hh
    have hsub := sub_enumerate
    have q1 : ∀ {A' : Around} {E : Value → Shared → Prop} {Q : Value → Shared → Prop}, Q (.ref hp.objs.size) ⟨hp.push o, g, d, tk, os⟩ →
        wpAny (model prog w) A' (pyIter v) Q E ⟨hp, g, d, tk, os⟩ := fun q => B.iter prog w _ _ ⟨hp, g, d, tk, os⟩ _ h1 q
    wp_walk using q1
    refine wpAny_stack_any fun st => wpAny_pure ?_
    split
    · rename_i c _ _ _ _ _
      cases (c == Value.type "enumerate")
      · wp_walk using q1
        exact ⟨_, rfl, hh⟩
      · wp_walk using q1
        exact ⟨_, rfl, hh⟩
    · wp_walk using q1
      exact ⟨_, rfl, hh⟩
def iEnumT (K : PySem.W.Frag) (ta : TA) : TI := fun σ H R => ta σ H fun vs H1 => ∃ a xs, vs = [.ref a] ∧ SqT K H1 a xs ∧ R (Itet K a xs.length) H1
theorem pi_enumT {X : Cx} {e : Expr} {ta : TA} {p pos tpos : Pos} {elts : List Expr} {kk : Nat} (hg : Gl X "enumerate") (hm : X.mg "enumerate" = none) (ha : PA X [e] ta) (hs : starEach [e] X.env = [(false, eval e X.env)] := by rfl) :
    PI X (.Tuple elts kk tpos) (.Call (.Name "enumerate" p) [e] [] pos) (iEnumT X.K ta) := by
  refine ⟨fun pn sh st hp R inv hh => ?_⟩
  refine Call_ (ld_blt inv hg hm boot_enumerate (PyProof.Rows.callWith_type1 (thn (ha.run pos pn sh st hp _ inv hh) fun us s1 h1 => ?_) hs rfl))
  obtain ⟨vs, hp1, inv1, r1, a, xs, ex, hx, hq⟩ := h1
  subst ex
  obtain ⟨u, rfl, ru⟩ := vals1 r1
  obtain rfl : u = Value.ref a := ru
  obtain ⟨its, rv, p', _⟩ := inv1.tuple hx
  have hlt : a < s1.heap.objs.size := p'.lt
  refine callType_new F.called_enumerate (by decide) (F.typeCall_enumerate_1 _) (F.newCall_enumerate_1 _) (fun obj => F.args_object_init_2 obj _) F.entry_enumerate_new
    (meets_enum1 (begins_tuple a its.toArray)) ⟨p', ?_⟩
  generalize ho : ({ cls := .type "tuple_iterator", data := .fields #[.ref a, .int 0 0] } : Obj) = o
  have hz : (s1.heap.push o).objs.size = s1.heap.objs.size + 1 := Heap.size_push ..
  generalize hh2 : (s1.heap.push o).push { cls := .type "enumerate", data := .fields #[.none, .bool false, .ref s1.heap.objs.size, rawInt 0, .none, .none] } = h2
  have ge : h2.get? (s1.heap.objs.size + 1) = some { cls := .type "enumerate", data := .fields #[.none, .bool false, .ref s1.heap.objs.size, rawInt 0, .none, .none] } := by
    rw [← hh2, ← hz]
    exact Heap.get?_push_size _ rfl
  have gi : h2.get? s1.heap.objs.size = some o := by
    rw [← hh2]
    exact Heap.get?_push_of_some _ (Heap.get?_push_size _ (by rw [← ho]; rfl))
  have gk : ∀ b ob, s1.heap.get? b = some ob → h2.get? b = some ob := fun b ob eb => by
    rw [← hh2]
    exact Heap.get?_push_of_some _ (Heap.get?_push_of_some _ eb)
  show _ ∧ _
  rw [hz]
  refine ⟨⟨_, ge, rfl⟩, ?_⟩
  refine wpAny_pyIter_enum (show IsEnum h2 (s1.heap.objs.size + 1) s1.heap.objs.size 0 .none from ge) ?_
  have inv2 : Inv X pn st hp1 { s1 with heap := h2 } := inv1.kept (t' := s1.toks) gk
  refine ⟨s1.heap.objs.size + 1, [s1.heap.objs.size + 1, s1.heap.objs.size], _, _, hp1, rfl, inv2, turn_enumT (n := xs.length) (a := a) (Nat.succ_ne_self _) (Nat.ne_of_gt (Nat.lt_succ_of_lt hlt)) (Nat.ne_of_lt hlt), ⟨⟨.none, ge⟩, o, gi, by rw [← ho], by rw [← ho]; rfl⟩, fun b hb => ?_, hq⟩
  have e' : b = s1.heap.objs.size + 1 ∨ b = s1.heap.objs.size := by simpa using hb
  have hle : s1.heap.objs.size ≤ b := by
    rcases e' with z | z
    · rw [z]
      exact Nat.le_add_right _ _
    · rw [z]
      exact Nat.le_refl _
  exact inv1.fpOk hle (inv1.hok.fresh hle)
theorem walk_enumT {K : PySem.W.Frag} {a : Addr} {xs : List V} : Walk (Itet K a xs.length) xs.length (fun H => SqT K H a xs) (YPair (fun i => some (.int (i : Nat))) (fun i => xs[i]?)) := by
  refine ⟨fun i _ hi q => ⟨hi, xs, q, rfl⟩, fun _ q => ⟨rfl, xs, q, rfl⟩, fun i H v H' _ q y => ?_⟩
  obtain ⟨T, x, h1, h2, h3, h4⟩ := y
  exact ⟨T, _, x, h1, h2, h3, rfl, h4 xs q⟩
/-! ### zip(list, tuple), of one length -/
def ItzM (K : PySem.W.Frag) (a b : Addr) (n : Nat) : It where
  go := fun i H => i < n ∧ ∃ xs ys : List V, SqL K H a xs ∧ SqT K H b ys ∧ xs.length = n ∧ ys.length = n
  yld := fun i H v H' => ∃ (T : Addr) (x y : V), v = .ref T ∧ H T = none ∧ H' = upd H T (.tup [x, y]) ∧
    (∀ xs, SqL K H a xs → xs[i]? = some x) ∧ ∀ ys, SqT K H b ys → ys[i]? = some y
  stop := fun i H => i = n ∧ ∃ xs ys : List V, SqL K H a xs ∧ SqT K H b ys ∧ xs.length = n ∧ ys.length = n
theorem turn_zipM {P : Program} {w : World} {K : PySem.W.Frag} {elts : List Expr} {kk : Nat} {tpos : Pos} {a b z TI TO i1 i2 : Addr} {n : Nat} (S : ZipSep2 z TI TO i1 i2 [i1, a] [i2, b]) (h1 : a ≠ i1) (h2 : b ≠ i2) :
    Turn P w K (.Tuple elts kk tpos) (ItzM K a b n) [z, TI, TO, i1, i2] z
      (fun i h => IsZip h z TI TO .none ∧ IsTupOf2 h TI (.ref i1) (.ref i2) ∧ (∃ x y, IsTupOf2 h TO x y) ∧ h.IsListIter i1 a i ∧ h.IsTupleIter i2 b i) := by
  refine turn_of (ι := { q : Array Value × Array Value // q.1.size = n ∧ q.2.size = n }) (n := n) (fp := z :: TI :: TO :: ([i1, a] ++ [i2, b])) (wr := [z, TO, i1, i2])
    (Y := fun q i h0 v h => ∃ T x y, v = .ref T ∧ h0.objs.size ≤ T ∧ q.1.1[i]? = some x ∧ q.1.2[i]? = some y ∧ h.IsTuple T #[x, y])
    (St := fun q i h => IsZip h z TI TO .none ∧ IsTupOf2 h TI (.ref i1) (.ref i2) ∧ (∃ x y, IsTupOf2 h TO x y) ∧ (h.IsListIter i1 a i ∧ h.IsList a q.1.1) ∧ h.IsTupleIter i2 b i ∧ h.IsTuple b q.1.2)
    (fun q A hA => ?_) (by simp) (fun c hc => ?_) (fun i h ht c hc => ?_) (fun i h h' ht hk => ?_) (fun q i h st => ⟨st.1, st.2.1, st.2.2.1, st.2.2.2.1.1, st.2.2.2.2.1⟩) ?_ ?_ ?_
  · have D1 := Draws.list (prog := P) (w := w) (A := A.in1) hA i1 a h1 q.1.1
    have D2 := Draws.tuple (prog := P) (w := w) (A := A.in1) hA i2 b h2 q.1.2
    have W := GoesN.zip2 (elts := elts) (x1 := kk) (pos := tpos) S D1 D2
    rw [q.2.1, q.2.2, Nat.min_self] at W
    exact W
  · have e' : c = z ∨ c = TO ∨ c = i1 ∨ c = i2 := by simpa using hc
    rcases e' with rfl | rfl | rfl | rfl <;> simp
  · obtain ⟨hz, hTI, ⟨x, y, hTO⟩, ⟨o1, g1, _, d1⟩, o2, g2, _, d2⟩ := ht
    have e' : c = z ∨ c = TI ∨ c = TO ∨ c = i1 ∨ c = i2 := by simpa using hc
    rcases e' with q | q | q | q | q
    · rw [q]
      exact ⟨_, hz, fun v r => nomatch r⟩
    · rw [q]
      exact ⟨_, hTI, fun v r => nomatch r⟩
    · rw [q]
      exact ⟨_, hTO, fun v r => nomatch r⟩
    · rw [q]
      exact ⟨o1, g1, fun v r => by rw [d1] at r; cases r⟩
    · rw [q]
      exact ⟨o2, g2, fun v r => by rw [d2] at r; cases r⟩
  · obtain ⟨hz, hTI, ⟨x, y, hTO⟩, ⟨o1, g1, c1, d1⟩, o2, g2, c2, d2⟩ := ht
    exact ⟨hk z (by simp) _ hz, hk TI (by simp) _ hTI, ⟨x, y, hk TO (by simp) _ hTO⟩, ⟨o1, hk i1 (by simp) _ g1, c1, d1⟩, o2, hk i2 (by simp) _ g2, c2, d2⟩
  · intro X eP ew eK i pn sh st hp inv ht hg
    subst eP ew eK
    obtain ⟨hi, xs, ys, hx, hy, lx, ly⟩ := hg
    obtain ⟨its, rv, p, _⟩ := inv.list hx
    obtain ⟨its2, rv2, p2, _⟩ := inv.tuple hy
    have s1 : its.toArray.size = n := by rw [List.size_toArray, ← rv.length, lx]
    have s2 : its2.toArray.size = n := by rw [List.size_toArray, ← rv2.length, ly]
    refine ⟨hi, ⟨(its.toArray, its2.toArray), s1, s2⟩, ⟨ht.1, ht.2.1, ht.2.2.1, ⟨ht.2.2.2.1, p.isList⟩, ht.2.2.2.2, p2⟩, fun v h' hv => ?_⟩
    obtain ⟨T, u, u2, ev, hT, hu, hu2, hI⟩ := hv
    have hxi : xs[i]? = some xs[i] := List.getElem?_eq_getElem (by omega)
    have hyi : ys[i]? = some ys[i] := List.getElem?_eq_getElem (by omega)
    obtain ⟨w1, hw1, ru⟩ := rv.get hxi
    obtain ⟨w2, hw2, ru2⟩ := rv2.get hyi
    have eu : u = w1 := by
      have q : its.toArray[i]? = some u := hu
      rw [List.getElem?_toArray, hw1] at q
      exact (Option.some.inj q).symm
    have eu2 : u2 = w2 := by
      have q : its2.toArray[i]? = some u2 := hu2
      rw [List.getElem?_toArray, hw2] at q
      exact (Option.some.inj q).symm
    subst eu eu2
    refine ⟨T, xs[i], ys[i], _, _, ev, hT, hI, ru, ru2, fun hn => ⟨T, xs[i], ys[i], rfl, hn, rfl, fun zs hz => ?_, fun zs hz => ?_⟩⟩
    · rw [inv.list_inj hz hx]
      exact hxi
    · rw [inv.tuple_inj hz hy]
      exact hyi
  · intro X eP ew eK i pn sh st hp inv ht hg
    subst eP ew eK
    obtain ⟨hi, xs, ys, hx, hy, lx, ly⟩ := hg
    obtain ⟨its, rv, p, _⟩ := inv.list hx
    obtain ⟨its2, rv2, p2, _⟩ := inv.tuple hy
    subst hi
    exact ⟨⟨(its.toArray, its2.toArray), by rw [List.size_toArray, ← rv.length, lx], by rw [List.size_toArray, ← rv2.length, ly]⟩, ht.1, ht.2.1, ht.2.2.1, ⟨ht.2.2.2.1, p.isList⟩, ht.2.2.2.2, p2⟩
  · intro A i sh Q E ht h
    exact wpAny_pyIter_zip ht.1 h
def iZipM (K : PySem.W.Frag) (ta : TA) : TI := fun σ H R => ta σ H fun vs H1 => ∃ a b xs ys, vs = [.ref a, .ref b] ∧ SqL K H1 a xs ∧ SqT K H1 b ys ∧ xs.length = ys.length ∧ R (ItzM K a b xs.length) H1
theorem pi_zipLT {X : Cx} {e e2 : Expr} {ta : TA} {p pos tpos : Pos} {elts : List Expr} {kk : Nat} (hg : Gl X "zip") (hm : X.mg "zip" = none) (ha : PA X [e, e2] ta)
    (hs : starEach [e, e2] X.env = (false, eval e X.env) :: starEach [e2] X.env := by rfl) (hl : (backTo pos (starEach [e2] X.env)).any (·.1) = false := by rfl) :
    PI X (.Tuple elts kk tpos) (.Call (.Name "zip" p) [e, e2] [] pos) (iZipM X.K ta) := by
  refine ⟨fun pn sh st hp R inv hh => ?_⟩
  refine Call_ (ld_blt inv hg hm PyProof.Rows.boot_zip (PyProof.Rows.callWith_type1 (thn (ha.run pos pn sh st hp _ inv hh) fun us s1 h1 => ?_) hs hl))
  obtain ⟨vs, hp1, inv1, r1, a, b, xs, ys, ex, hx, hy, hlen, hq⟩ := h1
  subst ex
  obtain ⟨u1, u2, rfl, ru1, ru2⟩ := vals2 r1
  obtain rfl : u1 = Value.ref a := ru1
  obtain rfl : u2 = Value.ref b := ru2
  obtain ⟨its, rv, p1, _⟩ := inv1.list hx
  obtain ⟨its2, rv2, p2, _⟩ := inv1.tuple hy
  have la : a < s1.heap.objs.size := p1.lt
  have lb : b < s1.heap.objs.size := p2.lt
  refine zip_begins2 (begins_list a its.toArray) (begins_tuple b its2.toArray) p1.isList p2 fun h' hz hTI hTO g1 g2 hsz hk => wpAny_pyIter_zip hz ?_
  have inv2 : Inv X pn st hp1 { s1 with heap := h' } := inv1.kept (t' := s1.toks) hk
  have S : ZipSep2 (s1.heap.objs.size + 4) (s1.heap.objs.size + 2) (s1.heap.objs.size + 3) s1.heap.objs.size (s1.heap.objs.size + 1) [s1.heap.objs.size, a] [s1.heap.objs.size + 1, b] :=
    zip_sep2 (fun c hc => by rw [List.mem_singleton.mp hc]; exact la) fun c hc => by rw [List.mem_singleton.mp hc]; exact lb
  refine ⟨s1.heap.objs.size + 4, [s1.heap.objs.size + 4, s1.heap.objs.size + 2, s1.heap.objs.size + 3, s1.heap.objs.size, s1.heap.objs.size + 1], _, _, hp1, rfl, inv2,
    turn_zipM (n := xs.length) S (Nat.ne_of_lt la) (Nat.ne_of_lt (Nat.lt_succ_of_lt lb)), ⟨hz, hTI, ⟨_, _, hTO⟩, ⟨_, g1, rfl, rfl⟩, _, g2, rfl, rfl⟩, fun c hc => ?_, hq⟩
  have hle : s1.heap.objs.size ≤ c := by
    have e' : c = s1.heap.objs.size + 4 ∨ c = s1.heap.objs.size + 2 ∨ c = s1.heap.objs.size + 3 ∨ c = s1.heap.objs.size ∨ c = s1.heap.objs.size + 1 := by simpa using hc
    rcases e' with z | z | z | z | z <;> rw [z]
    · exact Nat.le_add_right _ 4
    · exact Nat.le_add_right _ 2
    · exact Nat.le_add_right _ 3
    · exact Nat.le_refl _
    · exact Nat.le_add_right _ 1
  exact inv1.fpOk hle (inv1.hok.fresh hle)
theorem walk_zipM {K : PySem.W.Frag} {a b : Addr} {xs ys : List V} (hl : xs.length = ys.length) : Walk (ItzM K a b xs.length) xs.length (fun H => SqL K H a xs ∧ SqT K H b ys) (YPair (fun i => xs[i]?) (fun i => ys[i]?)) := by
  refine ⟨fun i _ hi q => ⟨hi, xs, ys, q.1, q.2, rfl, hl.symm⟩, fun _ q => ⟨rfl, xs, ys, q.1, q.2, rfl, hl.symm⟩, fun i H v H' _ q y => ?_⟩
  obtain ⟨T, x, y, h1, h2, h3, h4, h5⟩ := y
  exact ⟨T, x, y, h1, h2, h3, h4 xs q.1, h5 ys q.2⟩
/-- zip of two tuples of one length -/
theorem walk_zipTT {K : PySem.W.Frag} {a b : Addr} {xs ys : List V} (hl : xs.length = ys.length) : Walk (ItzT K a b) xs.length (fun H => SqT K H a xs ∧ SqT K H b ys) (YPair (fun i => xs[i]?) (fun i => ys[i]?)) := by
  refine ⟨fun i _ hi q => ⟨xs, ys, xs[i], ys[i]'(by omega), q.1, q.2, by simp [hi], by simp [← hl, hi]⟩, fun _ q => ⟨xs, ys, q.1, q.2, .inl (Nat.le_refl _)⟩, fun i H v H' _ q y => ?_⟩
  obtain ⟨T, x, y, h1, h2, h3, h4, h5⟩ := y
  exact ⟨T, x, y, h1, h2, h3, h4 xs q.1, h5 ys q.2⟩
end K16
namespace K16
open PySem PySem.Spec PyProof.Rows L2 RZ
/-! ### list(zip(list, list)) -/
/-- the zip at z as it stands ahead of its i-th turn: nothing is out, or the tuple of the turn before, above lo -/
structure ZSt (h : Heap) (z TI TO i1 i2 l1 l2 lo : Addr) (xs ys : Array Value) (i : Nat) : Prop where
  a1 : h.IsListIter i1 l1 i
  a2 : h.IsListIter i2 l2 i
  b1 : h.IsList l1 xs
  b2 : h.IsList l2 ys
  ti : IsPair h TI (.ref i1) (.ref i2)
  zz : (IsZip h z TI TO .none ∧ ∃ x y, IsPair h TO x y) ∨ ∃ T f o, IsZipHeld h z TI TO T f ∧ h.get? T = some o ∧ lo < T
/-- lo lies above the zip's own cells -/
structure Lo (z TI TO i1 i2 l1 l2 lo : Addr) : Prop where
  nz : z < lo
  nTI : TI < lo
  nTO : TO < lo
  n1 : i1 < lo
  n2 : i2 < lo
  m1 : l1 < lo
  m2 : l2 < lo
/-- the object at lo may be written -/
theorem ZSt.keep {h h' : Heap} {z TI TO i1 i2 l1 l2 lo : Addr} {xs ys : Array Value} {i : Nat} (st : ZSt h z TI TO i1 i2 l1 l2 lo xs ys i) (L : Lo z TI TO i1 i2 l1 l2 lo)
    (hk : ∀ b o, b ≠ lo → h.get? b = some o → h'.get? b = some o) : ZSt h' z TI TO i1 i2 l1 l2 lo xs ys i := by
  refine ⟨st.a1.at fun o e => hk _ o (Nat.ne_of_lt L.n1) e, st.a2.at fun o e => hk _ o (Nat.ne_of_lt L.n2) e, st.b1.at fun o e => hk _ o (Nat.ne_of_lt L.m1) e, st.b2.at fun o e => hk _ o (Nat.ne_of_lt L.m2) e, hk _ _ (Nat.ne_of_lt L.nTI) st.ti, ?_⟩
  rcases st.zz with ⟨q, x, y, p⟩ | ⟨T, f, o, q, p, r⟩
  · exact .inl ⟨hk _ _ (Nat.ne_of_lt L.nz) q, x, y, hk _ _ (Nat.ne_of_lt L.nTO) p⟩
  · exact .inr ⟨T, f, o, hk _ _ (Nat.ne_of_lt L.nz) q, hk _ _ (Nat.ne_of_gt r) p, r⟩
section
variable {prog : Program} {w : World} {A : Around} {E : Value → Shared → Prop} {s : Shared} {z TI TO i1 i2 l1 l2 lo : Addr} {xs ys : Array Value} {i : Nat}
theorem zst_item {x y : Value} {Q : Option Value → Shared → Prop} (D : ZipApart z TI TO i1 i2 l1 l2) (L : Lo z TI TO i1 i2 l1 l2 lo) (hlo : lo < s.heap.objs.size) (st : ZSt s.heap z TI TO i1 i2 l1 l2 lo xs ys i) (hx : xs[i]? = some x) (hy : ys[i]? = some y)
    (hQ : ∀ h', ZSt h' z TI TO i1 i2 l1 l2 lo xs ys (i + 1) → IsPair h' s.heap.objs.size x y → h'.objs.size = s.heap.objs.size + 1 →
      (∀ c o, c ≠ z → c ≠ TO → c ≠ i1 → c ≠ i2 → s.heap.get? c = some o → h'.get? c = some o) → Q (some (.ref s.heap.objs.size)) { s with heap := h' }) :
    wpAny (model prog w) A (pyNext (.ref z)) Q E s := by
  have bb : ∀ {h' : Heap}, (∀ c o, c ≠ z → c ≠ TO → c ≠ i1 → c ≠ i2 → s.heap.get? c = some o → h'.get? c = some o) → h'.IsList l1 xs ∧ h'.IsList l2 ys ∧ IsPair h' TI (.ref i1) (.ref i2) := fun hk =>
    ⟨st.b1.at fun o e => hk _ o D.l1z D.l1TO D.l1i1 D.l1i2 e, st.b2.at fun o e => hk _ o D.l2z D.l2TO D.l2i1 D.l2i2 e, hk _ _ D.TIz D.TITO D.TIi1 D.TIi2 st.ti⟩
  rcases st.zz with ⟨q, x0, y0, p⟩ | ⟨T, f, o, q, p, r⟩
  · refine wpAny_pyNext_zip_item D q st.ti p st.a1 st.a2 st.b1 st.b2 hx hy fun h' c1 c2 c3 c4 c5 c6 c7 => ?_
    obtain ⟨d1, d2, d3⟩ := bb c7
    exact hQ h' ⟨c3, c4, d1, d2, d3, .inr ⟨_, false, _, c1, c5, hlo⟩⟩ c5 c6 c7
  · refine wpAny_pyNext_zip_item_held D q p st.ti st.a1 st.a2 st.b1 st.b2 hx hy fun h' c1 c3 c4 c5 c6 c7 => ?_
    have hk : ∀ c o, c ≠ z → c ≠ TO → c ≠ i1 → c ≠ i2 → s.heap.get? c = some o → h'.get? c = some o := fun c o e1 _ e2 e3 e => c7 c o e1 e2 e3 e
    obtain ⟨d1, d2, d3⟩ := bb hk
    have g := c7 T o (Nat.ne_of_gt (Nat.lt_trans L.nz r)) (Nat.ne_of_gt (Nat.lt_trans L.n1 r)) (Nat.ne_of_gt (Nat.lt_trans L.n2 r)) p
    exact hQ h' ⟨c3, c4, d1, d2, d3, .inr ⟨T, true, o, c1, g, r⟩⟩ c5 c6 hk
theorem zst_end {Q : Option Value → Shared → Prop} (hh : A.handled = none) (D : ZipApart z TI TO i1 i2 l1 l2) (st : ZSt s.heap z TI TO i1 i2 l1 l2 lo xs ys i) (hend : xs[i]? = none ∨ ys[i]? = none)
    (hQ : ∀ h', (∀ c o, c ≠ z → c ≠ TO → c ≠ i1 → c ≠ i2 → s.heap.get? c = some o → h'.get? c = some o) → Q none { s with heap := h' }) : wpAny (model prog w) A (pyNext (.ref z)) Q E s := by
  rcases st.zz with ⟨q, x0, y0, p⟩ | ⟨T, f, o, q, p, r⟩
  · exact wpAny_pyNext_zip_end hh D q st.ti p st.a1 st.a2 st.b1 st.b2 hend fun h' hk => hQ h' hk
  · exact wpAny_pyNext_zip_end_held hh D q p st.ti st.a1 st.a2 st.b1 st.b2 hend fun h' hk => hQ h' fun c o e1 _ e2 e3 e => hk c o e1 e2 e3 e
end
/-- the new tuples, as they lie -/
structure ZG (h : Heap) (lo : Addr) (xs ys : Array Value) (as : List Addr) : Prop where
  rise : as.Pairwise (· < ·)
  above : ∀ a ∈ as, lo < a
  pairs : ∀ (j : Nat) (a : Addr), as[j]? = some a → ∃ x y, xs[j]? = some x ∧ ys[j]? = some y ∧ IsPair h a x y
theorem ZG.at {h h' : Heap} {lo : Addr} {xs ys : Array Value} {as : List Addr} (g : ZG h lo xs ys as) (hk : ∀ a ∈ as, ∀ o, h.get? a = some o → h'.get? a = some o) : ZG h' lo xs ys as :=
  ⟨g.rise, g.above, fun j a e => let ⟨x, y, h1, h2, h3⟩ := g.pairs j a e; ⟨x, y, h1, h2, hk a (List.mem_of_getElem? e) _ h3⟩⟩
section
variable {prog : Program} {w : World} {A : Around} {s : Shared} {R : Result → Shared → Prop} {z TI TO i1 i2 l1 l2 S : Addr} {xs ys : Array Value}
theorem zip_loop (hh : A.handled = none) (D : ZipApart z TI TO i1 i2 l1 l2) (L : Lo z TI TO i1 i2 l1 l2 S) (hxy : xs.size = ys.size) (hn : xs.size ≤ sizeLine) (res : Value) {h0 : Heap}
    (hR : ∀ h' tk acc c as, (∀ b o, b ≠ S → b ≠ z → b ≠ TO → b ≠ i1 → b ≠ i2 → h0.get? b = some o → h'.get? b = some o) → h'.get? S = some { cls := .type "list", dict := none, data := .seq acc c, slots := #[] } →
      as.length = xs.size → ZG h' S xs ys as → acc.toList = as.map Value.ref → R (.ok (.ret res)) { s with heap := h', toks := tk }) :
    ∀ (k i : Nat) (h : Heap) (tk c : Nat) (acc : Array Value) (as : List Addr), xs.size - i = k → i ≤ xs.size → (∀ b o, b ≠ S → b ≠ z → b ≠ TO → b ≠ i1 → b ≠ i2 → h0.get? b = some o → h.get? b = some o) →
      h.get? S = some { cls := .type "list", dict := none, data := .seq acc c, slots := #[] } → acc.toList = as.map Value.ref → as.length = i → ZG h S xs ys as →
      ZSt h z TI TO i1 i2 l1 l2 S xs ys i →
      codeAny (model prog w) A (.builtin "list.extend.loop" ⟨[.ref S, .ref z, res], []⟩) R { s with heap := h, toks := tk } := by
  have n1 : S ≠ z := Nat.ne_of_gt L.nz
  have n2 : S ≠ TO := Nat.ne_of_gt L.nTO
  have n3 : S ≠ i1 := Nat.ne_of_gt L.n1
  have n4 : S ≠ i2 := Nat.ne_of_gt L.n2
  have hiS : ∀ a : Addr, S < a → a ≠ S ∧ a ≠ z ∧ a ≠ TO ∧ a ≠ i1 ∧ a ≠ i2 := fun a ha =>
    ⟨Nat.ne_of_gt ha, Nat.ne_of_gt (Nat.lt_trans L.nz ha), Nat.ne_of_gt (Nat.lt_trans L.nTO ha), Nat.ne_of_gt (Nat.lt_trans L.n1 ha), Nat.ne_of_gt (Nat.lt_trans L.n2 ha)⟩
  intro k
  induction k with
  | zero =>
    intro i h tk c acc as hk hi hkeep hSg hacc hal hG st
    have hin : i = xs.size := by omega
    refine codeAny_builtin PySem.F.entry_extend_loop ?_
    rw [Around.under_plainId PySem.F.plain_extend_loop _]
    show wpAny _ A.in1 (pyNext (.ref z) >>= _) _ _ _
    refine wpAny_bind (zst_end (s := { s with heap := h, toks := tk }) (A := A.in1) hh D st (.inl (by simp [hin])) fun h' he => ?_)
    refine wpAny_pure (hR h' tk acc c as (fun b o e1 e2 e3 e4 e5 e => he b o e2 e3 e4 e5 (hkeep b o e1 e2 e3 e4 e5 e)) (he S _ n1 n2 n3 n4 hSg) (by omega) (hG.at fun a ha o e => ?_) hacc)
    obtain ⟨_, m2, m3, m4, m5⟩ := hiS a (hG.above a ha)
    exact he a o m2 m3 m4 m5 e
  | succ k ih =>
    intro i h tk c acc as hk hi hkeep hSg hacc hal hG st
    have hlt : i < xs.size := by omega
    have hsz : acc.size = i := by rw [← Array.length_toList, hacc, List.length_map, hal]
    have hx : xs[i]? = some xs[i] := by simp [hlt]
    have hy : ys[i]? = some (ys[i]'(by omega)) := by simp [← hxy, hlt]
    have hSl : S < h.objs.size := Heap.lt_size hSg
    refine codeAny_builtin PySem.F.entry_extend_loop ?_
    rw [Around.under_plainId PySem.F.plain_extend_loop _]
    show wpAny _ A.in1 (pyNext (.ref z) >>= _) _ _ _
    refine wpAny_bind (zst_item (s := { s with heap := h, toks := tk }) D L hSl st hx hy fun h' st' hp' hz' hk' => ?_)
    dsimp only at hp' hz' hk' ⊢
    have hS' := hk' S _ n1 n2 n3 n4 hSg
    have up : ∀ b o, b ≠ S → h'.get? b = some o → (h'.update S (Obj.mapSeq (·.push (Value.ref h.objs.size)))).get? b = some o := fun b o hb e => (Heap.get?_update_other _ _ (Ne.symm hb)).trans e
    show wpAny _ A.in1 (updateSeq S (·.push (Value.ref h.objs.size)) >>= _) _ _ _
    refine wpAny_bind ?_
    refine wpAny_updateSeq hS' rfl (wpAny_pure ⟨plainId_quiet PySem.F.plain_extend_loop _, ih (i + 1) _ tk _ (acc.push (Value.ref h.objs.size)) (as ++ [h.objs.size]) (by omega) hlt
      (fun b o e1 e2 e3 e4 e5 e => up b o e1 (hk' b o e2 e3 e4 e5 (hkeep b o e1 e2 e3 e4 e5 e))) (Heap.get?_update_self _ hS' rfl) (by rw [Array.toList_push, hacc, List.map_append]; rfl)
      (by rw [List.length_append, hal]; rfl) ⟨?_, ?_, ?_⟩ (st'.keep L up)⟩)
      (by rw [hsz]; omega) (by show (acc.push (Value.ref h.objs.size)).size ≤ sizeLine + 1; rw [Array.size_push, hsz]; omega)
    · refine List.pairwise_append.mpr ⟨hG.rise, List.pairwise_singleton _ _, fun a ha b hb => ?_⟩
      rw [List.mem_singleton.mp hb]
      obtain ⟨j, hj⟩ := List.mem_iff_getElem?.mp ha
      obtain ⟨_, _, _, _, e⟩ := hG.pairs j a hj
      exact Heap.lt_size e
    · intro a ha
      rcases List.mem_append.mp ha with ha | ha
      · exact hG.above a ha
      · rw [List.mem_singleton.mp ha]
        exact hSl
    · intro j b hj
      rcases Nat.lt_trichotomy j as.length with h1 | h1 | h1
      · rw [List.getElem?_append_left h1] at hj
        obtain ⟨x, y, e1, e2, e3⟩ := hG.pairs j b hj
        obtain ⟨m1, m2, m3, m4, m5⟩ := hiS b (hG.above b (List.mem_of_getElem? hj))
        exact ⟨x, y, e1, e2, up b _ m1 (hk' b _ m2 m3 m4 m5 e3)⟩
      · subst h1
        have hb : h.objs.size = b := by simpa using hj
        subst hb
        rw [hal]
        exact ⟨_, _, hx, hy, up _ _ (Nat.ne_of_gt hSl) hp'⟩
      · rw [List.getElem?_eq_none (by rw [List.length_append, List.length_singleton]; omega)] at hj
        cases hj
end
theorem zip_no_len : typeLookup (.type "zip") "__len__" = pure none := am_miss_of_fast (by decide +kernel)
theorem zip_no_hint : typeLookup (.type "zip") "__length_hint__" = pure none := am_miss_of_fast (by decide +kernel)
section
variable {prog : Program} {w : World} {A : Around} {E : Value → Shared → Prop} {s : Shared} {z TI TO i1 i2 l1 l2 : Addr} {xs ys : Array Value}
theorem call_list_zip {Q : Value → Shared → Prop} (hh : A.handled = none) (D : ZipApart z TI TO i1 i2 l1 l2) (L : Lo z TI TO i1 i2 l1 l2 s.heap.objs.size) (hxy : xs.size = ys.size) (hn : xs.size ≤ sizeLine)
    (hz : IsZip s.heap z TI TO .none) (hTI : IsPair s.heap TI (.ref i1) (.ref i2)) (hTO : ∃ x y, IsPair s.heap TO x y) (h1 : s.heap.IsListIter i1 l1 0) (h2 : s.heap.IsListIter i2 l2 0) (hl1 : s.heap.IsList l1 xs) (hl2 : s.heap.IsList l2 ys)
    (hQ : ∀ h' tk acc c as, (∀ b o, b ≠ z → b ≠ TO → b ≠ i1 → b ≠ i2 → s.heap.get? b = some o → h'.get? b = some o) → h'.get? s.heap.objs.size = some { cls := .type "list", dict := none, data := .seq acc c, slots := #[] } →
      as.length = xs.size → ZG h' s.heap.objs.size xs ys as → acc.toList = as.map Value.ref → Q (.ref s.heap.objs.size) { s with heap := h', toks := tk }) :
    wpAny (model prog w) A (call (.type "list") [.ref z]) Q E s := by
  refine callType_codes (Q₁ := fun obj s₁ => obj = .ref s.heap.objs.size ∧ s₁ = { s with heap := s.heap.push { cls := .type "list", data := .seq #[] } }) PySem.F.called_list (PySem.F.typeCall_list_1 _) PySem.F.entry_list_init
    (code_list_new _ ⟨rfl, rfl⟩) fun obj s₁ he => ?_
  obtain ⟨rfl, rfl⟩ := he
  have gS : (s.heap.push { cls := .type "list", data := .seq #[] }).get? s.heap.objs.size = some { cls := .type "list", data := .seq #[] } := Heap.get?_push_size _ rfl
  refine ⟨⟨_, gS, rfl⟩, PySem.F.args_list_init_2 _ _, ?_⟩
  generalize hS : s.heap.objs.size = S at *
  have kp : ∀ b o, s.heap.get? b = some o → (s.heap.push { cls := .type "list", data := .seq #[] }).get? b = some o := fun b o e => Heap.get?_push_of_some _ e
  generalize hh1 : s.heap.push { cls := .type "list", data := .seq #[] } = h₁ at *
  have ltS : ∀ b o, s.heap.get? b = some o → b ≠ S := fun b o e => by
    rw [← hS]
    exact Nat.ne_of_lt (Heap.lt_size e)
  show wpAny _ _ (do let old ← Builtin.List.listItems (.ref S); Builtin.List.listUpdate (.ref S) (fun _ => #[]); letGo old.toList.reverse; Builtin.List.listExtendWith (.ref S) (.ref z) .none) _ _ { s with heap := h₁ }
  refine wpAny_bind ?_
  unfold Builtin.List.listItems
  refine wpAny_bind (wpAny_seqItems gS rfl (wpAny_pure ?_))
  show wpAny _ _ (updateSeq S (fun _ => #[]) >>= fun _ => letGo (#[] : Array Value).toList.reverse >>= fun _ => Builtin.List.listExtendWith (.ref S) (.ref z) .none) _ _ { s with heap := h₁ }
  refine wpAny_bind (wpAny_updateSeq gS rfl ?_)
  have gS2 := Heap.get?_update_self (Obj.mapSeq (fun _ => (#[] : Array Value))) gS rfl
  have kp2 : ∀ b o, s.heap.get? b = some o → (h₁.update S (Obj.mapSeq (fun _ => (#[] : Array Value)))).get? b = some o := fun b o e => (Heap.get?_update_other _ _ (Ne.symm (ltS b o e))).trans (kp b o e)
  generalize h₁.update S (Obj.mapSeq (fun _ => (#[] : Array Value))) = h₂ at gS2 kp2 ⊢
  refine wpAny_bind (wpAny_letGo ?_)
  have tz : ∀ (h : Heap) (tk : Nat), (∀ b o, s.heap.get? b = some o → h.get? b = some o) → ({ s with heap := h, toks := tk } : Shared).TypeIs (.ref z) "zip" := fun h tk hk => ⟨_, hk _ _ hz, rfl⟩
  unfold Builtin.List.listExtendWith
  refine wpAny_bind (wpAny_typeOf (T := "zip") (tz h₂ s.toks kp2) ?_)
  have f1 : Builtin.List.listSameRef (.ref S) (.ref z) = false := by simp [Builtin.List.listSameRef, Nat.ne_of_gt L.nz]
  have f2 : (Value.type "zip" == Value.type "list") = false := by decide
  have f3 : (Value.type "zip" == Value.type "tuple") = false := by decide
  simp only [f1, f2, f3, Bool.or_false, Bool.false_eq_true, if_false]
  refine wpAny_bind (wpAny_pyIter_zip (kp2 _ _ hz) ?_)
  refine wpAny_bind (wpAny_holding ?_)
  unfold Builtin.List.listLengthHint
  refine wpAny_bind (wpAny_specialOf (tz h₂ s.toks kp2) zip_no_len ?_)
  show wpAny _ _ (specialOf (Value.ref z) (Str.ofString "__length_hint__") >>= _) _ _ _
  refine wpAny_bind (wpAny_specialOf (tz h₂ s.toks kp2) zip_no_hint ?_)
  refine wpAny_pure ?_
  have key : ∀ (h : Heap) (c : Nat), (∀ b o, s.heap.get? b = some o → h.get? b = some o) → h.get? S = some { cls := .type "list", dict := none, data := .seq #[] c, slots := #[] } →
      codeAny (model prog w) A.in1 (.builtin "list.extend.loop" ⟨[.ref S, .ref z, .none], []⟩) (wants (fun r s₂ => r = Value.none ∧ Q (.ref S) s₂) E) { s with heap := h } := fun h c hk g =>
    zip_loop (s := s) (h0 := s.heap) (A := A.in1) hh D L hxy hn .none (fun h' tk acc c as hk' g' hl hG hacc => ⟨rfl, hQ h' tk acc c as (fun b o e1 e2 e3 e4 e => hk' b o (ltS b o e) e1 e2 e3 e4 e) g' hl hG hacc⟩) xs.size 0 h s.toks c #[] [] (by omega) (Nat.zero_le _)
      (fun b o _ _ _ _ _ e => hk b o e) g rfl rfl ⟨List.Pairwise.nil, (fun a ha => nomatch ha), (fun j a hj => by simp at hj)⟩
      ⟨h1.at fun o e => hk _ o e, h2.at fun o e => hk _ o e, hl1.at fun o e => hk _ o e, hl2.at fun o e => hk _ o e, hk _ _ hTI, .inl ⟨hk _ _ hz, let ⟨x, y, q⟩ := hTO; ⟨x, y, hk _ _ q⟩⟩⟩
  refine wpAny_ite_split (fun _ => ?_) (fun _ => wpAny_pure ⟨plainId_quiet PySem.F.plain_extend_loop _, key h₂ _ kp2 gS2⟩)
  refine wpAny_bind (wpAny_rule ?_)
  refine wpAny_bind ?_
  show wpAny _ _ (updateSeq S (·.push .none) >>= fun _ => updateSeq S (·.pop)) _ _ _
  refine wpAny_bind (wpAny_updateSeq gS2 rfl ?_)
  have gS3 := Heap.get?_update_self (Obj.mapSeq (·.push Value.none)) gS2 rfl
  refine wpAny_updateSeq (hz := by seq_fits) gS3 rfl ?_
  have gS4 := Heap.get?_update_self (Obj.mapSeq (·.pop)) gS3 rfl
  refine wpAny_pure ⟨plainId_quiet PySem.F.plain_extend_loop _, key _ _ (fun b o e => ?_) gS4⟩
  have hb := ltS b o e
  exact (Heap.get?_update_other _ _ (Ne.symm hb)).trans ((Heap.get?_update_other _ _ (Ne.symm hb)).trans (kp2 b o e))
end
/-! ### as a rule -/
/-- pairs laid at the addresses -/
def putP : Hp → List Addr → List (V × V) → Hp
  | H, a :: as, p :: ps => putP (upd H a (.tup [p.1, p.2])) as ps
  | H, _, _ => H
theorem putP_off {b : Addr} : ∀ (as : List Addr) (ps : List (V × V)) (H : Hp), b ∉ as → putP H as ps b = H b
  | [], _, _, _ => rfl
  | _ :: _, [], _, _ => rfl
  | a :: as, p :: ps, H, h => by
    rw [putP, putP_off as ps _ (fun m => h (List.mem_cons_of_mem _ m)), upd_ne]
    intro e
    rw [e] at h
    exact h List.mem_cons_self
theorem putP_at : ∀ (as : List Addr) (ps : List (V × V)) (H : Hp), as.length = ps.length → as.Nodup → Paired (fun (t : Addr) (p : V × V) => putP H as ps t = some (.tup [p.1, p.2])) as ps
  | [], [], _, _, _ => .nil
  | [], _ :: _, _, h, _ => by cases h
  | _ :: _, [], _, h, _ => by cases h
  | a :: as, p :: ps, H, h, hn => by
    have ⟨n1, n2⟩ := List.nodup_cons.mp hn
    refine .cons ?_ (putP_at as ps (upd H a (.tup [p.1, p.2])) (Nat.succ.inj h) n2)
    rw [putP, putP_off as ps _ n1, upd_same]
theorem vals_refs : ∀ as : List Addr, Vals (as.map V.ref) (as.map Value.ref)
  | [] => .nil
  | _ :: as => .cons rfl (vals_refs as)
theorem paired_at {α β : Type} {F : α → β → Prop} : ∀ {xs : List α} {ys : List β}, Paired F xs ys → ∀ {x : α}, x ∈ xs → ∃ (j : Nat) (y : β), xs[j]? = some x ∧ ys[j]? = some y ∧ F x y
  | _, _, .nil, _, h => nomatch h
  | _, _, .cons h t, x, hx => by
    rcases List.mem_cons.mp hx with e | hx
    · subst e
      exact ⟨0, _, rfl, rfl, h⟩
    · obtain ⟨j, y, e1, e2, e3⟩ := paired_at t hx
      exact ⟨j + 1, y, e1, e2, e3⟩
/-- list(zip(a, b)) of two lists of one length: a new list of new pairs -/
def tListZip (K : PySem.W.Frag) (t : TA) : TE := fun σ H Q => t σ H fun vs H1 => ∃ a b xs ys, vs = [.ref a, .ref b] ∧ SqL K H1 a xs ∧ SqL K H1 b ys ∧ xs.length = ys.length ∧
  ∀ (H' : Hp) (p : Addr) (ts : List Addr), Same H1 H' → H1 p = none → (∀ t ∈ ts, H1 t = none) → H' p = some (.lst (ts.map V.ref)) → Paired (fun (t : Addr) (q : V × V) => H' t = some (.tup [q.1, q.2])) ts (xs.zip ys) → Q (.ref p) H'
theorem pe_listZip {X : Cx} {e e2 : Expr} {ta : TA} {p p2 pos pos2 : Pos} (hm : X.mg "list" = none) (hm2 : X.mg "zip" = none) (ha : PA X [e, e2] ta) (hg : Gl X "list" := by rfl) (hg2 : Gl X "zip" := by rfl) (hc : X.calm = true := by rfl)
    (hs : starEach [e, e2] X.env = (false, eval e X.env) :: starEach [e2] X.env := by rfl) (hl : (backTo pos2 (starEach [e2] X.env)).any (·.1) = false := by rfl)
    (na : starEach [.Call (.Name "zip" p2) [e, e2] [] pos2] X.env = (false, eval (.Call (.Name "zip" p2) [e, e2] [] pos2) X.env) :: starEach [] X.env := by rfl) :
    PE X (.Call (.Name "list" p) [.Call (.Name "zip" p2) [e, e2] [] pos2] [] pos) (tListZip X.K ta) := by
  refine ⟨fun pn sh st hp Qz inv hh => ?_⟩
  refine Call_ (ld_blt inv hg hm boot_list (PyProof.Rows.callWith_type1 (PyProof.Rows.args_cons ?_ na) na rfl))
  refine Call_ (ld_blt inv hg2 hm2 PyProof.Rows.boot_zip (PyProof.Rows.callWith_type1 (thn (ha.run pos2 pn sh st hp _ inv hh) fun us s1 h1 => ?_) hs hl))
  obtain ⟨vs, hp1, inv1, r1, a, b, xs, ys, ex, hx, hy, hlen, hq⟩ := h1
  subst ex
  obtain ⟨u1, u2, rfl, ru1, ru2⟩ := vals2 r1
  obtain rfl : u1 = Value.ref a := ru1
  obtain rfl : u2 = Value.ref b := ru2
  obtain ⟨its, rv, p1', hzx⟩ := inv1.list hx
  obtain ⟨its2, rv2, p2', _⟩ := inv1.list hy
  have la : a < s1.heap.objs.size := p1'.lt
  have lb : b < s1.heap.objs.size := p2'.lt
  refine call_zip_2 p1'.isList p2'.isList fun h' hz hTI hTO g1 g2 hsz hk => ?_
  have inv2 : Inv X pn st hp1 { s1 with heap := h' } := inv1.kept (t' := s1.toks) hk
  refine PyProof.Rows.args_nil ?_
  have lt5 : ∀ {c : Nat}, c < s1.heap.objs.size + 5 → c < h'.objs.size := fun h => by rw [hsz]; exact h
  have L : Lo (s1.heap.objs.size + 4) (s1.heap.objs.size + 2) (s1.heap.objs.size + 3) s1.heap.objs.size (s1.heap.objs.size + 1) a b h'.objs.size :=
    ⟨lt5 (by omega), lt5 (by omega), lt5 (by omega), lt5 (by omega), lt5 (by omega), lt5 (Nat.lt_of_lt_of_le la (Nat.le_add_right _ 5)), lt5 (Nat.lt_of_lt_of_le lb (Nat.le_add_right _ 5))⟩
  have exy : its.toArray.size = its2.toArray.size := by rw [List.size_toArray, List.size_toArray, ← rv.length, ← rv2.length, hlen]
  have ezx : its.toArray.size ≤ sizeLine := by rw [List.size_toArray, ← rv.length]; exact hzx
  refine call_list_zip (s := { s1 with heap := h' }) (inv2.ok.hd hc) (PySem.W.ktu_apart s1.heap.objs.size a b la lb) L exy ezx hz hTI ⟨_, _, hTO⟩ g1 g2 (p1'.isList.at fun o e => hk _ o e) (p2'.isList.at fun o e => hk _ o e) fun h2 tk acc c as hk2 gS hal hG hacc => ?_
  dsimp only at hk2 gS hG ⊢
  -- what stood ahead of the zip stands
  have hk3 : ∀ b o, s1.heap.get? b = some o → h2.get? b = some o := fun b o e => by
    have q := Heap.lt_size e
    exact hk2 b o (Nat.ne_of_lt (Nat.lt_add_right 4 q)) (Nat.ne_of_lt (Nat.lt_add_right 3 q)) (Nat.ne_of_lt q) (Nat.ne_of_lt (Nat.lt_add_right 1 q)) (hk b o e)
  have lowS : s1.heap.objs.size ≤ h'.objs.size := by rw [hsz]; exact Nat.le_add_right _ _
  have newS : hp1 h'.objs.size = none := inv1.hok.fresh lowS
  have newA : ∀ t ∈ as, hp1 t = none := fun t ht => inv1.hok.fresh (Nat.le_of_lt (Nat.lt_of_le_of_lt lowS (hG.above t ht)))
  have nSA : h'.objs.size ∉ as := fun m => Nat.lt_irrefl _ (hG.above _ m)
  have ndA : as.Nodup := hG.rise.imp fun h => Nat.ne_of_lt h
  have lenA : as.length = (xs.zip ys).length := by
    rw [hal, List.size_toArray, ← rv.length, List.length_zip, ← hlen, Nat.min_self]
  have atP := putP_at as (xs.zip ys) (upd hp1 h'.objs.size (.lst (as.map V.ref))) lenA ndA
  have off : ∀ b, b ∉ as → b ≠ h'.objs.size → putP (upd hp1 h'.objs.size (.lst (as.map V.ref))) as (xs.zip ys) b = hp1 b := fun b m1 m2 => by rw [putP_off as _ _ m1, upd_ne m2]
  have kp : Same hp1 (putP (upd hp1 h'.objs.size (.lst (as.map V.ref))) as (xs.zip ys)) := fun b u e => by
    rw [off b (fun m => by rw [newA b m] at e; cases e) (fun m => by rw [m, newS] at e; cases e)]
    exact e
  have eS : putP (upd hp1 h'.objs.size (.lst (as.map V.ref))) as (xs.zip ys) h'.objs.size = some (.lst (as.map V.ref)) := by rw [putP_off as _ _ nSA, upd_same]
  have low : ∀ b o, s1.heap.get? b = some o → b ∉ as ∧ b ≠ h'.objs.size := fun b o e =>
    have q := Nat.lt_of_lt_of_le (Heap.lt_size e) lowS
    ⟨fun m => absurd (Nat.lt_trans q (hG.above b m)) (Nat.lt_irrefl _), Nat.ne_of_lt q⟩
  have inv3 : Inv X pn st (putP (upd hp1 h'.objs.size (.lst (as.map V.ref))) as (xs.zip ys)) { s1 with heap := h2, toks := tk } := by
    refine inv1.call' (ch := []) rfl ⟨fun b o q _ _ _ => hk3 b o q, fun b o q _ _ _ => ⟨o.slots, hk3 b o q⟩, fun b o q n _ => ?_, fun b o q _ => ⟨o, hk3 b o q⟩, fun b l q => kp b _ q, fun b o u q => kp b _ q, fun b l q => ⟨#[], by rw [kp b _ q]; simp⟩⟩
      (fun b u q => ?_) inv1.bare fun b m => by simp at m
    · obtain ⟨z1, z2⟩ := low b o q
      rw [off b z1 z2]
      exact n
    · by_cases hb : b ∈ as
      · obtain ⟨j, pk, e1, e2, e3⟩ := paired_at atP hb
        rw [e3] at q
        cases q
        obtain ⟨x, y, f1, f2, f3⟩ := hG.pairs j b e1
        obtain ⟨px, py⟩ := pk
        have e2' := List.getElem?_zip_eq_some.mp e2
        obtain ⟨ux, hux, rx⟩ := rv.get e2'.1
        obtain ⟨uy, huy, ry⟩ := rv2.get e2'.2
        have ex : ux = x := by
          rw [List.getElem?_toArray, hux] at f1
          exact Option.some.inj f1
        have ey : uy = y := by
          rw [List.getElem?_toArray, huy] at f2
          exact Option.some.inj f2
        subst ex ey
        exact ⟨by show 2 ≤ sizeLine; decide, [_, _], .cons rx (.cons ry .nil), ⟨_, f3, rfl, _, rfl⟩⟩
      · by_cases hb2 : b = h'.objs.size
        · rw [hb2] at q ⊢
          rw [eS] at q
          cases q
          refine ⟨by rw [List.length_map, hal]; exact ezx, acc.toList, c, by rw [hacc]; exact vals_refs as, ?_⟩
          rw [Array.toArray_toList]
          exact gS
        · rw [off b hb hb2] at q
          exact (inv1.hok b u q).stay (fun d v _ y => hk3 d v y) (fun d y => kp d _ y) fun d l y => kp d _ y
  exact ⟨.ref _, _, inv3, rfl, hq _ _ as kp newS newA eS atP⟩
end K16
namespace K16
open PySem PySem.Spec PyProof.Rows L2 RZ
section
variable {X : Cx}
/-- tuple(list), its object known to be plain -/
theorem call_tupleFrz : CallR X (.type "tuple") (fun zs H Q => ∃ c ws, zs = [.ref c] ∧ SqL X.K H c ws ∧ ∀ l o, H l = none → o.dict = none → o.cls = .type "tuple" → Q (.ref l) (upd H l (.frz o (.tup ws)))) := by
  intro pins s σ H zs us Q I r h
  obtain ⟨c, ws, rfl, hq, q⟩ := h
  obtain ⟨u, rfl, rx⟩ := vals1 r
  obtain rfl : u = Value.ref c := rx
  obtain ⟨its, r', pl, hz⟩ := I.list hq
  have hlen := r'.length
  refine call_tuple_list pl.isList (fun g kp => ?_) (by rw [List.size_toArray]; omega)
  have I1 : Inv X pins σ H { s with heap := g } := I.kept (t' := s.toks) kp
  have e0 : (g.push { cls := .type "tuple", data := .seq its.toArray }).get? g.objs.size = some { cls := .type "tuple", data := .seq its.toArray } := Heap.get?_push_size _ rfl
  have I2 : Inv X pins σ (upd H g.objs.size (.frz { cls := .type "tuple", data := .seq its.toArray } (.tup ws))) { s with heap := g.push { cls := .type "tuple", data := .seq its.toArray } } :=
    I1.laid (t' := s.toks) (fun b o e => Heap.get?_push_of_some _ e) (Nat.le_refl _) (show ObjOk X.prog X.w _ _ _ (.frz _ (.tup ws)) from ⟨e0, hz, its, r', IsTup.new _ _⟩)
  exact ⟨.ref g.objs.size, _, I2, rfl, q _ _ (I1.hok.fresh (Nat.le_refl _)) rfl rfl⟩
/-- t.index(x), t such a tuple -/
def tTIdx (K : PySem.W.Frag) (to : TE) (t : TA) : TE := fun σ H Q => to σ H fun x H1 => ∃ p o, ∃ ys : List Str, x = .ref p ∧ H1 p = some (.frz o (.tup (ys.map V.str))) ∧ o.dict = none ∧ o.cls = .type "tuple" ∧
  t σ H1 fun xs H2 => H2 p = some (.frz o (.tup (ys.map V.str))) ∧ ∃ z j, xs = [.str z] ∧ ys[j]? = some z ∧ (∀ m, m < j → ys[m]? ≠ some z) ∧ Q (.int (j : Nat)) H2
variable {o e : Expr} {to : TE} {t : TA} {apos cpos : Pos}
theorem pe_tidx (ho : PE X o to) (ha : PA X [e] t)
    (hbase : attributeBase o "index" X.env (eval o X.env) = eval o X.env := by rfl)
    (hfew : ((backTo cpos (starEach [e] X.env)).all (fun x => !x.1) && (backToKw cpos (keywordEach [] X.env)).all (fun x => x.1.isSome)
      && decide ([e].length + ([] : List Keyword).length + (if ([] : List Keyword).isEmpty then 0 else 1) < 30)) = true := by rfl)
    (hline : (apos.endLine == cpos.line) = true := by rfl) (hs : starEach [e] X.env = (false, eval e X.env) :: starEach [] X.env := by rfl) :
    PE X (.Call (.Attribute o "index" apos) [e] [] cpos) (tTIdx X.K to t) := by
  refine ⟨fun pins s σ H Q I h => ?_⟩
  refine wpAny_Call_method_late hbase hfew hline rfl (thn (ho.run pins s σ H _ I h) fun v s1 ⟨x, H1, I1, r1, p, ob, ys, ex, e1, hd, hc, q1⟩ => ?_)
  subst ex
  obtain rfl : v = Value.ref p := r1
  obtain ⟨g1, _⟩ := (show ObjOk X.prog X.w H1 s1.heap p (.frz ob (.tup (ys.map V.str))) from I1.hok p _ e1)
  refine ⟨"tuple", "tuple.index", PySem.F.plainAttrs_tuple, PySem.F.slot_tuple_index, PySem.F.type_tuple_index, ⟨ob, g1, hc⟩, (fun a ea => by
    obtain rfl : p = a := by injection ea
    exact ⟨ob, g1, hd⟩), ?_⟩
  have hA := ha.run cpos pins s1 σ H1 _ I1 q1
  rw [hs] at hA ⊢
  refine Calls.callWith_builtin rfl (Calls.evalArgs_plain ?_)
  refine thn hA fun us s2 ⟨vs, H2, I2, r2, q2⟩ => ?_
  obtain ⟨e2, z, j, rfl, hy, hno, q3⟩ := q2
  exact mt_tup_index pins s2 σ H2 (.ref p) [.str z] (.ref p) us Q I2 rfl r2 ⟨p, ys, z, j, rfl, rfl, .inl (.inr ⟨ob, e2⟩), hy, hno, q3⟩
end
end K16
namespace K16
open PySem PySem.Spec PyProof.Rows L2 RZ
/-! ### books.py: what is looked at ahead -/
/-- a row has something below 0 and something above 0 -/
def RowMix (r : List Int) : Prop := (∃ x ∈ r, x < 0) ∧ ∃ x ∈ r, 0 < x
/-- the goods and barters of a book are as they should be -/
structure BkOk (gs : List Str) (bs : List (Str × List Int)) : Prop where
  gn : gs.Nodup
  gw : ∀ g ∈ gs, Wd g
  nn : (bs.map Prod.fst).Nodup
  nw : ∀ b ∈ bs, Wd b.1
  rl : ∀ b ∈ bs, b.2.length = gs.length
  rm : ∀ b ∈ bs, RowMix b.2
  gl : gs.length ≤ 1000
  bl : bs.length ≤ 1000
/-- a barter as it stands: its pair, its row -/
def BarAt (H : Hp) (a : Addr) (b : Str × List Int) : Prop := ∃ ra : Addr, H a = some (.tup [.str b.1, .ref ra]) ∧ IntT H ra b.2
theorem BarAt.mono {H H' : Hp} (s : Same H H') {a : Addr} {b : Str × List Int} (h : BarAt H a b) : BarAt H' a b := let ⟨ra, h1, h2⟩ := h; ⟨ra, s _ _ h1, s _ _ h2⟩
def spIsAmong (K : PySem.W.Frag) : Sp := fun vs H Q _ => ∃ (z : Str) (a : Addr) (ws : List Str), vs = [.str z, .ref a] ∧ Wd z ∧ (SqL K H a (ws.map V.str) ∨ SqT K H a (ws.map V.str)) ∧ ∀ H', Same H H' → Q (.bl (decide (z ∈ ws))) H'
def spWrongGood : Sp := fun vs H Q _ => ∃ (a : Addr) (gs : List Str), vs = [.ref a] ∧ StrL H a gs ∧ gs.Nodup ∧ (∀ g ∈ gs, Wd g) ∧ gs.length ≤ 1000 ∧ ∀ H', Same H H' → Q .non H'
def spWrongEntry : Sp := fun vs H Q _ => ∃ (a : Addr) (r : List Int), vs = [.int (r.length : Int), .ref a] ∧ IntT H a r ∧ r.length ≤ 1000 ∧ ∀ v H', Same H H' → (v = .non ↔ RowMix r) → Q v H'
def spWrongBarter : Sp := fun vs H Q _ => ∃ (a b : Addr) (gs : List Str) (bs : List (Str × List Int)), vs = [.ref a, .ref b] ∧ StrL H a gs ∧ LstOf BarAt H b bs ∧ BkOk gs bs ∧ ∀ H', Same H H' → Q .non H'
section
variable {P : Program} {w : World} {K : PySem.W.Frag} {mg : Str → Option Value} {base : Heap} {f : Addr} {fd : FuncData}
theorem ok_is_among (F : Fun K "is_among" "is_among" s_is_among f fd) (T : Txt K mg) (F_is_word : Has P w K mg base 1 "is_word" spIsWord) : FnOk P w K mg base CX0 2 f fd ["value", "words"] (spIsAmong K) := by
  refine F.ok sc_is_among (fun vs H Q E h => ?_) (fun cdv A outer s H vs Q E hr h => ?_)
  · obtain ⟨z, a, ws, rfl, _⟩ := h
    rfl
  obtain ⟨z, a, ws, rfl, wd, ha, q⟩ := h
  refine ⟨_, (pss_one (ps_ret (pe_and (pe_fn F_is_word (hr.mono (by omega)) (by rfl) (pa_cons (pv 0) pa_nil)) (pe_one (pe_cmpR (r := rIn K false) op_in_seq (pv 0) (pv 1) rfl))))), ?_⟩
  refine ⟨_, rfl, z, rfl, wd, fun H1 s1 => ⟨true, rfl, iteT ?_⟩⟩
  refine ⟨_, rfl, _, rfl, a, _, rfl, ha.elim (fun h => .inl (s1.seq h)) (fun h => .inr (Same.tup s1 h)), rfl, flat_str ws, ?_⟩
  exact blE (Q := Q) (inV_str z ws) (q _ s1)
theorem ok_wrong_good (F : Fun K "wrong_good" "wrong_good" s_wrong_good f fd) (T : Txt K mg) (F_is_word : Has P w K mg base 1 "is_word" spIsWord) (F_is_list : Has P w K mg base 1 "is_list" spIsList) : FnOk P w K mg base CX0 2 f fd ["goods"] spWrongGood := by
  refine F.ok sc_wrong_good (fun vs H Q E h => ?_) (fun cdv A outer s H vs Q E hr h => ?_)
  · obtain ⟨a, gs, rfl, _⟩ := h
    rfl
  obtain ⟨a, gs, rfl, ha, nd, wd, hl, q⟩ := h
  refine ⟨_, (pss_cons (ps_if (pt_not (pt_val (pe_fn F_is_list (hr.mono (by omega)) (by rfl) (pa_cons (pv 0) pa_nil)))) (pss_one (ps_ret (pe_tup (pa_cons pe_int pa_nil)))) pss_nil)
  (pss_cons (ps_for PassesOwn.never rfl (pi_enum (by rfl) T.b_enumerate (pa_cons (pv 0) pa_nil)) (pg_tup rfl (pgs_cons (pg_name (i := 1) sc_wrong_good.nd rfl (by first | exact .inl rfl | exact .inr rfl)) (pgs_cons (pg_name (i := 2) sc_wrong_good.nd rfl (by first | exact .inl rfl | exact .inr rfl)) pgs_nil))) (pss_one (ps_if (PW.pt (pw_or (pt_not (pt_val (pe_fn F_is_word (hr.mono (by omega)) (by rfl) (pa_cons (pv 2) pa_nil)))) (pw_or1 (pt_cmpR (r := rIn K false) op_in_seq (pv 2) (pe_slice sl_list (pv 0) po_none (po_some (pv 1))) rfl)))) (pss_one (ps_ret (pe_tup (pa_cons pe_int (pa_cons (pv 1) pa_nil))))) pss_nil)))
  (pss_one (ps_ret pe_non)))), ?_⟩
  refine ⟨_, rfl, a, _, rfl, ha, fun H1 s1 => ⟨true, rfl, iteF ?_⟩⟩
  refine ⟨_, rfl, a, _, rfl, SqL.of (s1 _ _ ha), ?_⟩
  refine for_it walk_enum (fun i σ H' => ∃ y z, σ = [some (.ref a), y, z] ∧ Same H H') ⟨none, none, rfl, s1⟩ (fun i σ H' _ ⟨_, _, _, s2⟩ => s2.seq (SqL.of ha)) ?_ ?_
  · rintro i x σ H2 H3 hi ⟨_, _, rfl, s2⟩ ⟨T', k, g, rfl, hT, rfl, ek, eg⟩
    obtain rfl : V.int (i : Nat) = k := Option.some.inj ek
    have e2 : (gs.map V.str)[i]? = some g := eg
    rw [List.getElem?_map] at e2
    have hi' : i < gs.length := by rw [List.length_map] at hi; exact hi
    rw [List.getElem?_eq_getElem hi'] at e2
    obtain rfl : V.str gs[i] = g := Option.some.inj e2
    refine ⟨T', _, rfl, SqT.of upd_same, rfl, _, _, rfl, _, _, rfl, rfl, ?_⟩
    have s3 : Same H (upd H2 T' (.tup [.int (i : Nat), .str gs[i]])) := s2.trans (Same.new hT _)
    refine ⟨_, rfl, gs[i], rfl, wd _ (List.getElem_mem hi'), fun H4 s4 => ⟨true, rfl, iteF ?_⟩⟩
    have s5 := s3.trans s4
    refine ⟨_, rfl, _, rfl, _, rfl, _, rfl, a, _, rfl, SqL.of (s5 _ _ ha), fun p hp => ?_⟩
    rw [cut_to, ← List.map_take]
    refine ⟨p, _, rfl, .inl (SqL.of upd_same), rfl, flat_str _, _, rfl, ?_⟩
    rw [if_neg Bool.false_ne_true, inV_str]
    have no : gs[i] ∉ gs.take i := fun m => by
      obtain ⟨j, hj, e⟩ := List.getElem_of_mem m
      rw [List.getElem_take] at e
      rw [List.length_take] at hj
      have q := (List.getElem_inj (h₀ := by omega) (h₁ := hi') nd).mp e
      omega
    refine ifF no ⟨_, _, rfl, s5.trans (Same.new hp _)⟩
  · rintro σ H2 ⟨_, _, rfl, s2⟩
    exact q _ s2
theorem ok_wrong_entry (F : Fun K "wrong_entry" "wrong_entry" s_wrong_entry f fd) (T : Txt K mg) (F_is_row : Has P w K mg base 1 "is_row" (spIsRow K)) (F_is_integer : Has P w K mg base 1 "is_integer" spIsInt) : FnOk P w K mg base CX0 2 f fd ["many", "value"] spWrongEntry := by
  refine F.ok sc_wrong_entry (fun vs H Q E h => ?_) (fun cdv A outer s H vs Q E hr h => ?_)
  · obtain ⟨a, r, rfl, _⟩ := h
    rfl
  obtain ⟨a, r, rfl, ha, hl, q⟩ := h
  refine ⟨_, (pss_cons (ps_if (pt_not (pt_val (pe_fn F_is_row (hr.mono (by omega)) (by rfl) (pa_cons (pv 1) (pa_cons (pv 0) pa_nil))))) (pss_one (ps_ret (pe_tup pa_nil))) pss_nil)
  (pss_cons (ps_for PassesOwn.never rfl (pi_enumT (by rfl) T.b_enumerate (pa_cons (pv 1) pa_nil)) (pg_tup rfl (pgs_cons (pg_name (i := 2) sc_wrong_entry.nd rfl (by first | exact .inl rfl | exact .inr rfl)) (pgs_cons (pg_name (i := 3) sc_wrong_entry.nd rfl (by first | exact .inl rfl | exact .inr rfl)) pgs_nil))) (pss_one (ps_if (pt_not (pt_val (pe_fn F_is_integer (hr.mono (by omega)) (by rfl) (pa_cons (pv 3) pa_nil)))) (pss_one (ps_ret (pe_tup (pa_cons (pv 2) pa_nil)))) pss_nil)))
  (pss_one (ps_ret (pe_ifExp (pt_chain op_lt op_lt (pe_callB (cr_min rfl) (by rfl) T.b_min (by decide +kernel) (pa_cons (pe_lst (pa_cons pe_int (StX.pa_star (pv 1) pa_nil))) pa_nil)) pe_int (pe_callB (cr_max rfl) (by rfl) T.b_max (by decide +kernel) (pa_cons (pe_lst (pa_cons pe_int (StX.pa_star (pv 1) pa_nil))) pa_nil))) pe_non (pe_tup pa_nil)))))), ?_⟩
  refine ⟨_, rfl, _, rfl, a, r.map V.int, by rw [List.length_map]; rfl, ha, true, rfl, iteF ?_⟩
  refine ⟨_, rfl, a, r.map V.int, rfl, SqT.of ha, ?_⟩
  have lz : r.length + 1 ≤ sizeLine := by
    have q := small1000 hl
    omega
  refine for_it walk_enumT (fun i σ H' => ∃ y z, σ = [some (.int r.length), some (.ref a), y, z] ∧ Same H H') ⟨none, none, rfl, Same.refl H⟩ (fun i σ H' _ ⟨_, _, _, s2⟩ => Same.tup s2 (SqT.of ha)) ?_ ?_
  · rintro i x σ H2 H3 hi ⟨_, _, rfl, s2⟩ ⟨T', k, g, rfl, hT, rfl, ek, eg⟩
    obtain rfl : V.int (i : Nat) = k := Option.some.inj ek
    have e2 : (r.map V.int)[i]? = some g := eg
    rw [List.getElem?_map] at e2
    have hi' : i < r.length := by rw [List.length_map] at hi; exact hi
    rw [List.getElem?_eq_getElem hi'] at e2
    obtain rfl : V.int r[i] = g := Option.some.inj e2
    refine ⟨T', _, rfl, SqT.of upd_same, rfl, _, _, rfl, _, _, rfl, rfl, ?_⟩
    exact ⟨_, rfl, r[i], rfl, true, rfl, iteF ⟨_, _, rfl, s2.trans (Same.new hT _)⟩⟩
  · rintro σ H2 ⟨_, _, rfl, s2⟩
    have star : ∀ {R : Prop}, ((V.int 0 :: (r.map V.int ++ [])).length ≤ sizeLine → R) → R := fun h => h (by rw [List.append_nil, List.length_cons, List.length_map]; exact lz)
    have eL : (V.int 0 :: (r.map V.int ++ [])) = (0 :: r).map V.int := by rw [List.append_nil]; rfl
    have lenL : (V.int 0 :: (r.map V.int ++ [])).length ≤ sizeLine := by rw [List.append_nil, List.length_cons, List.length_map]; exact lz
    refine ⟨_, rfl, a, r.map V.int, rfl, .inl (Same.tup s2 (SqT.of ha)), lenL, fun p hp => ?_⟩
    refine ⟨p, 0 :: r, rfl, .inl (.inl (by rw [upd_same, eL])), Nat.zero_lt_succ _, fun m hm hle => ?_⟩
    have s3 : Same H (upd H2 p (.lst (V.int 0 :: (r.map V.int ++ [])))) := s2.trans (Same.new hp _)
    refine ⟨_, _, rfl, rfl, _, rfl, ?_⟩
    by_cases hneg : m < 0
    · refine ifT hneg ?_
      refine ⟨_, rfl, a, r.map V.int, rfl, .inl (Same.tup s3 (SqT.of ha)), lenL, fun p2 hp2 => ?_⟩
      refine ⟨p2, 0 :: r, rfl, .inl (.inl (by rw [upd_same, eL])), Nat.zero_lt_succ _, fun m2 hm2 hle2 => ?_⟩
      have s4 := s3.trans (Same.new hp2 (.lst (V.int 0 :: (r.map V.int ++ []))))
      refine ⟨_, _, rfl, rfl, _, rfl, ?_⟩
      have n1 : ∃ x ∈ r, x < 0 := by
        rcases List.mem_cons.mp hm with e | h
        · omega
        · exact ⟨m, h, hneg⟩
      by_cases hpos : 0 < m2
      · refine ifT hpos (q _ _ s4 ⟨fun _ => ⟨n1, ?_⟩, fun _ => rfl⟩)
        rcases List.mem_cons.mp hm2 with e | h
        · omega
        · exact ⟨m2, h, hpos⟩
      · refine ifF hpos ⟨(by show 0 ≤ sizeLine; decide), fun p3 hp3 => q _ _ (s4.trans (Same.new hp3 _)) ⟨fun e => (nomatch e), fun h => ?_⟩⟩
        obtain ⟨x, hx, x0⟩ := h.2
        have := hle2 x (List.mem_cons_of_mem _ hx)
        omega
    · refine ifF hneg ⟨false, rfl, iteF ⟨(by show 0 ≤ sizeLine; decide), fun p3 hp3 => q _ _ (s3.trans (Same.new hp3 _)) ⟨fun e => (nomatch e), fun h => ?_⟩⟩⟩
      obtain ⟨x, hx, x0⟩ := h.1
      have := hle x (List.mem_cons_of_mem _ hx)
      omega
theorem ok_wrong_barter (F : Fun K "wrong_barter" "wrong_barter" s_wrong_barter f fd) (T : Txt K mg) (F_is_list : Has P w K mg base 1 "is_list" spIsList) (F_is_row : Has P w K mg base 1 "is_row" (spIsRow K)) (F_is_word : Has P w K mg base 1 "is_word" spIsWord)
    (F_wrong_entry : Has P w K mg base 2 "wrong_entry" spWrongEntry) : FnOk P w K mg base CX0 3 f fd ["goods", "barters"] spWrongBarter := by
  refine F.ok sc_wrong_barter (fun vs H Q E h => ?_) (fun cdv A outer s H vs Q E hr h => ?_)
  · obtain ⟨a, b, gs, bs, rfl, _⟩ := h
    rfl
  obtain ⟨a, b, gs, bs, rfl, ha, ⟨as, hb, hp⟩, ok, q⟩ := h
  refine ⟨_, (pss_cons (ps_if (pt_not (pt_val (pe_fn F_is_list (hr.mono (by omega)) (by rfl) (pa_cons (pv 1) pa_nil)))) (pss_one (ps_ret (pe_tup (pa_cons pe_int pa_nil)))) pss_nil)
  (pss_cons (ps_set (i := 2) sc_wrong_barter.nd rfl (.inl rfl) (pe_lst pa_nil))
  (pss_cons (ps_for PassesOwn.never rfl (pi_enum (by rfl) T.b_enumerate (pa_cons (pv 1) pa_nil)) (pg_tup rfl (pgs_cons (pg_name (i := 3) sc_wrong_barter.nd rfl (by first | exact .inl rfl | exact .inr rfl)) (pgs_cons (pg_name (i := 4) sc_wrong_barter.nd rfl (by first | exact .inl rfl | exact .inr rfl)) pgs_nil))) (pss_cons (ps_if (pt_not (pt_val (pe_fn F_is_row (hr.mono (by omega)) (by rfl) (pa_cons (pv 4) (pa_cons pe_int pa_nil))))) (pss_one (ps_ret (pe_tup (pa_cons pe_int (pa_cons (pv 3) pa_nil))))) pss_nil)
  (pss_cons (ps_if (PW.pt (pw_or (pt_not (pt_val (pe_fn F_is_word (hr.mono (by omega)) (by rfl) (pa_cons (pe_ix (r := rIxT K) ix_tup (pv 4) pe_int (fun _ _ => rfl)) pa_nil)))) (pw_or1 (pt_cmpR (r := rIn K false) op_in_seq (pe_ix (r := rIxT K) ix_tup (pv 4) pe_int (fun _ _ => rfl)) (pv 2) rfl)))) (pss_one (ps_ret (pe_tup (pa_cons pe_int (pa_cons (pv 3) (pa_cons pe_int pa_nil)))))) pss_nil)
  (pss_cons (ps_set (i := 5) sc_wrong_barter.nd rfl (.inl rfl) (pe_fn F_wrong_entry (hr.mono (by omega)) (by rfl) (pa_cons (pe_callB call_len_seq (by rfl) T.b_len (by decide +kernel) (pa_cons (pv 0) pa_nil)) (pa_cons (pe_ix (r := rIxT K) ix_tup (pv 4) pe_int (fun _ _ => rfl)) pa_nil))))
  (pss_cons (ps_if (pt_cmp (pc_notN (pv 5)) rfl) (pss_one (ps_ret (pe_tup (pa_cons pe_int (pa_cons (pv 3) (pa_cons pe_int (StX.pa_star (pv 5) pa_nil))))))) pss_nil)
  (pss_one (ps_expr (pe_bm PySem.F.plainAttrs_list PySem.F.slot_list_append PySem.F.type_list_append mt_append (pv 2) (pa_cons (pe_ix (r := rIxT K) ix_tup (pv 4) pe_int (fun _ _ => rfl)) pa_nil)))))))))
  (pss_one (ps_ret pe_non))))), ?_⟩
  refine ⟨_, rfl, b, _, rfl, hb, fun H1 s1 => ⟨true, rfl, iteF ?_⟩⟩
  refine ⟨(by show 0 ≤ sizeLine; decide), fun nl hnl => ?_⟩
  have s2 : Same H (upd H1 nl (.lst [])) := s1.trans (Same.new hnl _)
  have nl0 : H nl = none := s1.free hnl
  refine ⟨_, rfl, b, _, rfl, SqL.of (s2 _ _ hb), ?_⟩
  refine for_it walk_enum (fun i σ H' => ∃ y z u, σ = [some (.ref a), some (.ref b), some (.ref nl), y, z, u] ∧ Same H H' ∧ H' nl = some (.lst (((bs.take i).map Prod.fst).map V.str))) ⟨none, none, none, rfl, s2, upd_same⟩ (fun i σ H' _ ⟨_, _, _, _, s3, _⟩ => s3.seq (SqL.of hb)) ?_ ?_
  · rintro i x σ H2 H3 hi ⟨_, _, _, rfl, s3, hn⟩ ⟨T', k, g, rfl, hT, rfl, ek, eg⟩
    obtain rfl : V.int (i : Nat) = k := Option.some.inj ek
    have e2 : (as.map V.ref)[i]? = some g := eg
    rw [List.getElem?_map] at e2
    have hi' : i < as.length := by rw [List.length_map] at hi; exact hi
    have hib : i < bs.length := by rw [← Paired.len hp]; exact hi'
    rw [List.getElem?_eq_getElem hi'] at e2
    obtain rfl : V.ref as[i] = g := Option.some.inj e2
    obtain ⟨y, ey, hy⟩ := Paired.get hp (List.getElem?_eq_getElem hi')
    rw [List.getElem?_eq_getElem hib] at ey
    obtain rfl : bs[i] = y := Option.some.inj ey
    have mb : bs[i] ∈ bs := List.getElem_mem hib
    refine ⟨T', _, rfl, SqT.of upd_same, rfl, _, _, rfl, _, _, rfl, rfl, ?_⟩
    have s4 : Same H (upd H2 T' (.tup [.int (i : Nat), .ref as[i]])) := s3.trans (Same.new hT _)
    have hn4 := at_new (u := .tup [.int (i : Nat), .ref as[i]]) hn hT
    obtain ⟨ra, h1, h2⟩ := hy.mono s4
    refine ⟨_, rfl, _, _, rfl, h1, true, rfl, iteF ?_⟩
    refine ⟨_, rfl, as[i], _, _, _, rfl, rfl, SqT.of h1, atI_nat (j := 0) rfl, bs[i].1, rfl, ok.nw _ mb, fun H5 s5 => ⟨true, rfl, iteF ?_⟩⟩
    refine ⟨_, rfl, as[i], _, _, _, rfl, rfl, SqT.of (s5 _ _ h1), atI_nat (j := 0) rfl, _, rfl, nl, _, rfl, .inl (SqL.of (s5 _ _ hn4)), rfl, flat_str _, _, rfl, ?_⟩
    have no : bs[i].1 ∉ (bs.take i).map Prod.fst := fun m => by
      rw [List.map_take] at m
      obtain ⟨j, hj, e⟩ := List.getElem_of_mem m
      rw [List.getElem_take] at e
      rw [List.length_take, List.length_map] at hj
      have ei : (bs.map Prod.fst)[i]'(by rw [List.length_map]; exact hib) = bs[i].1 := by rw [List.getElem_map]
      have q := (List.getElem_inj (h₀ := by rw [List.length_map]; omega) (h₁ := by rw [List.length_map]; exact hib) ok.nn).mp (e.trans ei.symm)
      omega
    rw [if_neg Bool.false_ne_true, inV_str]
    refine ifF no ?_
    refine ⟨_, rfl, a, _, rfl, .inl (SqL.of (s5 _ _ (s4 _ _ ha))), _, rfl, as[i], _, _, _, rfl, rfl, SqT.of (s5 _ _ h1), atI_nat (j := 1) rfl, ?_⟩
    have lr := ok.rl _ mb
    refine ⟨ra, bs[i].2, by rw [List.length_map, lr]; rfl, s5 _ _ h2, by rw [lr]; exact ok.gl, fun v H6 s6 hv => ?_⟩
    obtain rfl := hv.mpr (ok.rm _ mb)
    refine ⟨_, rfl, false, rfl, iteF ?_⟩
    have h6 := s6 _ _ (s5 _ _ hn4)
    refine ⟨_, rfl, .inl ⟨rfl, _, SqL.of h6⟩, _, rfl, as[i], _, _, _, rfl, rfl, SqT.of (s6 _ _ (s5 _ _ h1)), atI_nat (j := 0) rfl, nl, _, _, rfl, rfl, h6, ?_, ?_⟩
    · rw [List.length_map, List.length_map, List.length_take]
      refine small1000 ?_
      have := ok.bl
      omega
    · refine ⟨_, _, _, rfl, Same.laid nl0 (s4.trans (s5.trans s6)), ?_⟩
      rw [upd_same, List.take_add_one, List.getElem?_eq_getElem hib, List.map_append, List.map_append]
      rfl
  · rintro σ H2 ⟨_, _, _, rfl, s3, _⟩
    exact q _ s3
end
end K16
namespace K16
open PySem PySem.Spec PyProof.Rows L2 RZ
/-! ### books.py: the class -/
/-- what is known of the class -/
structure CTxt (K : PySem.W.Frag) (C : Addr) : Prop where
  cl : Cls K C
  nG : NoAttr K C "own_goods"
  nB : NoAttr K C "own_barters"
def bf (tg tb : Addr) : List (Str × V) := putF "own_barters" (.ref tb) (putF "own_goods" (.ref tg) [])
theorem gb_ : ¬ (("own_goods" : Str) = "own_barters") := by decide +kernel
theorem bf_g (tg tb : Addr) : (bf tg tb).lookup ("own_goods" : Str) = some (.ref tg) := by
  unfold bf
  rw [lookup_putF, if_neg gb_, lookup_putF, if_pos rfl]
theorem bf_b (tg tb : Addr) : (bf tg tb).lookup ("own_barters" : Str) = some (.ref tb) := by
  unfold bf
  rw [lookup_putF, if_pos rfl]
theorem bf_no (tg tb : Addr) {m : Str} (h1 : ¬ m = "own_goods") (h2 : ¬ m = "own_barters") : (bf tg tb).lookup m = none := by
  unfold bf
  rw [lookup_putF, if_neg h2, lookup_putF, if_neg h1]
  all_goals rfl
/-- the book at p -/
def BookAt (C : Addr) (H : Hp) (p : Addr) (gs : List Str) (bs : List (Str × List Int)) : Prop :=
  ∃ (dx tg tb : Addr) (as : List Addr) (o : Obj), H p = some (.ins C dx (bf tg tb)) ∧ (H tg = some (.frz o (.tup (gs.map V.str))) ∧ o.dict = none ∧ o.cls = .type "tuple") ∧ H tb = some (.tup (as.map V.ref)) ∧ Paired (BarAt H) as bs
theorem BookAt.mono {C : Addr} {H H' : Hp} (s : Same H H') {p : Addr} {gs : List Str} {bs : List (Str × List Int)} (h : BookAt C H p gs bs) : BookAt C H' p gs bs :=
  let ⟨dx, tg, tb, as, o, h1, h2, h3, h4⟩ := h
  ⟨dx, tg, tb, as, o, s _ _ h1, ⟨s _ _ h2.1, h2.2⟩, s _ _ h3, Paired.imp h4 fun _ _ q => q.mono s⟩
def spInit (C : Addr) : Sp := fun vs H Q _ => ∃ (p dx a b : Addr) (gs : List Str) (bs : List (Str × List Int)), vs = [.ref p, .ref a, .ref b] ∧ H p = some (.ins C dx []) ∧ StrL H a gs ∧ LstOf BarAt H b bs ∧ BkOk gs bs ∧
  ∀ H', (∀ q o, H q = some o → q ≠ p → H' q = some o) → BookAt C H' p gs bs → Q .non H'
def spGoods (C : Addr) : Sp := fun vs H Q _ => ∃ (p : Addr) (gs : List Str) (bs : List (Str × List Int)), vs = [.ref p] ∧ BookAt C H p gs bs ∧ ∀ H' l, Same H H' → H l = none → StrL H' l gs → Q (.ref l) H'
def spBarters (C : Addr) : Sp := fun vs H Q _ => ∃ (p : Addr) (gs : List Str) (bs : List (Str × List Int)), vs = [.ref p] ∧ BookAt C H p gs bs ∧ ∀ H' l, Same H H' → H l = none → LstOf BarAt H' l bs → Q (.ref l) H'
def spNames (C : Addr) : Sp := fun vs H Q _ => ∃ (p : Addr) (gs : List Str) (bs : List (Str × List Int)), vs = [.ref p] ∧ BookAt C H p gs bs ∧ bs.length ≤ 1000 ∧ ∀ H' l, Same H H' → H l = none → StrL H' l (bs.map Prod.fst) → Q (.ref l) H'
def spGoodNumber (C : Addr) : Sp := fun vs H Q _ => ∃ (p : Addr) (gs : List Str) (bs : List (Str × List Int)) (z : Str), vs = [.ref p, .str z] ∧ BookAt C H p gs bs ∧ z ∈ gs ∧ Wd z ∧ ∀ H' (j : Nat), Same H H' → gs[j]? = some z → Q (.int (j : Nat)) H'
def spBarterNumber (C : Addr) : Sp := fun vs H Q _ => ∃ (p : Addr) (gs : List Str) (bs : List (Str × List Int)) (z : Str), vs = [.ref p, .str z] ∧ BookAt C H p gs bs ∧ bs.length ≤ 1000 ∧ z ∈ bs.map Prod.fst ∧ Wd z ∧ ∀ H' (j : Nat), Same H H' → (bs.map Prod.fst)[j]? = some z → Q (.int (j : Nat)) H'
def spRow (C : Addr) : Sp := fun vs H Q _ => ∃ (p : Addr) (gs : List Str) (bs : List (Str × List Int)) (b : Str × List Int), vs = [.ref p, .str b.1] ∧ BookAt C H p gs bs ∧ bs.length ≤ 1000 ∧ (bs.map Prod.fst).Nodup ∧ b ∈ bs ∧ Wd b.1 ∧ ∀ H' ra, Same H H' → IntT H' ra b.2 → Q (.ref ra) H'
/-- the goods at which a row is as p says -/
def goodsAt (p : Int → Bool) (gs : List Str) (r : List Int) : List Str := ((gs.zip r).filter fun z => p z.2).map Prod.fst
def spSide (p : Int → Bool) (C : Addr) : Sp := fun vs H Q _ => ∃ (q : Addr) (gs : List Str) (bs : List (Str × List Int)) (b : Str × List Int), vs = [.ref q, .str b.1] ∧ BookAt C H q gs bs ∧ BkOk gs bs ∧ b ∈ bs ∧ ∀ H' l, Same H H' → H l = none → StrL H' l (goodsAt p gs b.2) → Q (.ref l) H'
section
variable {P : Program} {w : World} {K : PySem.W.Frag} {mg : Str → Option Value} {base : Heap} {f C : Addr} {fd : FuncData}
theorem ok_init (F : Fun K "__init__" "Book.__init__" s_Book___init__ f fd) (T : Txt K mg) (U : CTxt K C) (F_wrong_good : Has P w K mg base 2 "wrong_good" spWrongGood) (F_wrong_barter : Has P w K mg base 3 "wrong_barter" spWrongBarter) : FnOk P w K mg base CX0 4 f fd ["self", "goods", "barters"] (spInit C) := by
  refine F.ok sc_Book___init__ (fun vs H Q E h => ?_) (fun cdv A outer s H vs Q E hr h => ?_)
  · obtain ⟨p, dx, a, b, gs, bs, rfl, _⟩ := h
    rfl
  obtain ⟨p, dx, a, b, gs, bs, rfl, hp, ha, hb, ok, q⟩ := h
  refine ⟨_, (pss_cons (ps_set (i := 3) sc_Book___init__.nd rfl (.inl rfl) (pe_fn F_wrong_good (hr.mono (by omega)) (by rfl) (pa_cons (pv 1) pa_nil)))
  (pss_cons (ps_if (pt_cmp (pc_isN (pv 3)) rfl) (pss_one (ps_set (i := 3) sc_Book___init__.nd rfl (.inl rfl) (pe_fn F_wrong_barter (hr.mono (by omega)) (by rfl) (pa_cons (pv 1) (pa_cons (pv 2) pa_nil))))) pss_nil)
  (pss_cons (ps_if (pt_cmp (pc_notN (pv 3)) rfl) (pss_one ps_never) pss_nil)
  (pss_cons (ps_fld (pv 0) (pe_callTy call_tupleFrz (by rfl) T.b_tuple (by decide +kernel) (pa_cons (pv 1) pa_nil)) rfl)
  (pss_one (ps_fld (pv 0) (pe_callTy call_tuple_of (by rfl) T.b_tuple (by decide +kernel) (pa_cons (pv 2) pa_nil)) rfl)))))), ?_⟩
  refine ⟨_, rfl, a, gs, rfl, ha, ok.gn, ok.gw, ok.gl, fun H1 s1 => ?_⟩
  refine ⟨_, rfl, true, rfl, iteT ?_⟩
  obtain ⟨as, hb1, hb2⟩ := hb
  refine ⟨_, rfl, _, rfl, a, b, gs, bs, rfl, s1 _ _ ha, ⟨as, s1 _ _ hb1, Paired.imp hb2 fun _ _ z => z.mono s1⟩, ok, fun H2 s2 => ?_⟩
  refine ⟨_, rfl, false, rfl, iteF ?_⟩
  have s3 := s1.trans s2
  refine ⟨_, rfl, a, _, rfl, SqL.of (s3 _ _ ha), fun tg o htg od oc => ?_⟩
  have ptg : p ≠ tg := ne_of_none (s3 _ _ hp) htg
  refine ⟨_, rfl, p, C, dx, [], rfl, at_new (s3 _ _ hp) htg, U.cl, U.nG, (by show 0 < 1000; decide), ?_⟩
  have e1 : ∀ c u, c ≠ p → (upd H2 tg (.frz o (.tup (gs.map V.str)))) c = some u → (upd (upd H2 tg (.frz o (.tup (gs.map V.str)))) p (.ins C dx (putF "own_goods" (.ref tg) []))) c = some u := fun c u hc e => by rw [upd_ne hc]; exact e
  have s4 : Same H2 (upd H2 tg (.frz o (.tup (gs.map V.str)))) := Same.new htg _
  have bp : b ≠ p := ne_of hb1 hp (by intro z; cases z)
  refine ⟨_, rfl, b, _, rfl, .inl ⟨SqL.of (e1 _ _ bp (s4 _ _ (s3 _ _ hb1))), fun tb htb => ?_⟩⟩
  have ptb : p ≠ tb := fun e => by
    rw [← e, upd_same] at htb
    cases htb
  have tgtb : tg ≠ tb := fun e => by
    rw [← e, upd_ne ptg.symm, upd_same] at htb
    cases htb
  refine ⟨_, rfl, p, C, dx, _, rfl, (by rw [upd_ne ptb, upd_same]), U.cl, U.nB, (by show 1 < 1000; decide), ?_⟩
  have keep : ∀ c u, H c = some u → c ≠ p → (upd (upd (upd (upd H2 tg (.frz o (.tup (gs.map V.str)))) p (.ins C dx (putF "own_goods" (.ref tg) []))) tb (.tup (as.map V.ref))) p (.ins C dx (bf tg tb))) c = some u := fun c u e hc => by
    have e2 := e1 c u hc (s4 _ _ (s3 _ _ e))
    rw [upd_ne hc]
    exact at_new e2 htb
  refine q _ keep ⟨dx, tg, tb, as, o, upd_same, ⟨?_, od, oc⟩, ?_, Paired.imp hb2 fun x y z => ?_⟩
  · rw [upd_ne ptg.symm, upd_ne tgtb, upd_ne ptg.symm, upd_same]
  · rw [upd_ne ptb.symm, upd_same]
  · obtain ⟨ra, z1, z2⟩ := z
    exact ⟨ra, keep _ _ z1 (ne_of z1 hp (by intro z; cases z)), keep _ _ z2 (ne_of z2 hp (by intro z; cases z))⟩
theorem ok_goods (F : Fun K "goods" "Book.goods" s_Book_goods f fd) (T : Txt K mg) (U : CTxt K C) : FnOk P w K mg base CX0 1 f fd ["self"] (spGoods C) := by
  refine F.ok sc_Book_goods (fun vs H Q E h => ?_) (fun cdv A outer s H vs Q E hr h => ?_)
  · obtain ⟨p, gs, bs, rfl, _⟩ := h
    rfl
  obtain ⟨p, gs, bs, rfl, ⟨dx, tg, tb, as, o, h1, h2, h3, h4⟩, q⟩ := h
  refine ⟨_, (pss_one (ps_ret (pe_callTy call_list_of (by rfl) T.b_list (by decide +kernel) (pa_cons (pe_fld (pv 0) rfl) pa_nil)))), ?_⟩
  exact ⟨_, rfl, p, C, dx, _, _, rfl, h1, U.cl, U.nG, bf_g _ _, tg, _, rfl, .inr (.inl (.inr ⟨_, h2.1⟩)), fun l hl => q _ l (Same.new hl _) hl upd_same⟩
theorem ok_barters (F : Fun K "barters" "Book.barters" s_Book_barters f fd) (T : Txt K mg) (U : CTxt K C) : FnOk P w K mg base CX0 1 f fd ["self"] (spBarters C) := by
  refine F.ok sc_Book_barters (fun vs H Q E h => ?_) (fun cdv A outer s H vs Q E hr h => ?_)
  · obtain ⟨p, gs, bs, rfl, _⟩ := h
    rfl
  obtain ⟨p, gs, bs, rfl, ⟨dx, tg, tb, as, o, h1, h2, h3, h4⟩, q⟩ := h
  refine ⟨_, (pss_one (ps_ret (pe_callTy call_list_of (by rfl) T.b_list (by decide +kernel) (pa_cons (pe_fld (pv 0) rfl) pa_nil)))), ?_⟩
  exact ⟨_, rfl, p, C, dx, _, _, rfl, h1, U.cl, U.nB, bf_b _ _, tb, _, rfl, .inr (SqT.of h3), fun l hl => q _ l (Same.new hl _) hl ⟨as, upd_same, Paired.imp h4 fun _ _ z => z.mono (Same.new hl _)⟩⟩
theorem ok_names (F : Fun K "names" "Book.names" s_Book_names f fd) (T : Txt K mg) (U : CTxt K C) : FnOk P w K mg base CX0 1 f fd ["self"] (spNames C) := by
  refine F.ok sc_Book_names (fun vs H Q E h => ?_) (fun cdv A outer s H vs Q E hr h => ?_)
  · obtain ⟨p, gs, bs, rfl, _⟩ := h
    rfl
  obtain ⟨p, gs, bs, rfl, ⟨dx, tg, tb, as, o, h1, h2, h3, h4⟩, hl, q⟩ := h
  refine ⟨_, (pss_one (ps_ret (pe_lc (own := [("name", 1), ("row", 2)]) (g := gTup K 2 (gCons (gName 1) (gCons (gName 2) gNil))) (tt := tYes) rfl sc_Book_names.nd (pi_tup (pe_fld (pv 0) rfl)) (blkOk_by (own := [("name", 1), ("row", 2)]) (N := ["self", "name", "row"]) (by kernel_rfl)) (fun _ _ _ _ _ => (pg_tup rfl (pgs_cons (pg_name (i := 1) sc_Book_names.nd rfl (by first | exact .inl rfl | exact .inr rfl)) (pgs_cons (pg_name (i := 2) sc_Book_names.nd rfl (by first | exact .inl rfl | exact .inr rfl)) pgs_nil)))) (fun _ _ _ _ _ => pts_nil) (fun _ _ _ _ _ => (pv 1))))), ?_⟩
  have la := Paired.len h4
  refine ⟨_, rfl, p, C, dx, _, _, rfl, h1, U.cl, U.nB, bf_b _ _, tb, rfl, ⟨_, SqT.of h3⟩, fun D hD => ?_⟩
  refine lcA (walk_tup (K := K) (a := tb) (xs := as.map V.ref)) bs (fun b => .str b.1) (fun _ => true) (by rw [List.length_map, la]) hD (by rw [List.length_map, la]; exact Nat.le_of_lt (small1000 hl)) (fun H' s => Same.tup s (SqT.of h3)) (fun i b x H2 H3 Qy Qn hb s2 _ y hy _ => ?_) fun H2 s2 e => ?_
  · obtain ⟨rfl, ex⟩ := y
    rw [List.getElem?_map] at ex
    cases ea : as[i]? with
    | none => rw [ea] at ex; cases ex
    | some a =>
      rw [ea] at ex
      obtain rfl : V.ref a = x := Option.some.inj ex
      obtain ⟨b', eb, ra, z1, z2⟩ := Paired.get h4 ea
      rw [hb] at eb
      obtain rfl : b = b' := Option.some.inj eb
      exact ⟨a, _, rfl, SqT.of (s2 _ _ z1), rfl, _, _, rfl, _, _, rfl, rfl, rfl, yes ⟨_, rfl, hy rfl _ (Same.refl _)⟩⟩
  · rw [all_yes] at e
    refine q _ D s2 hD ?_
    show H2 D = _
    rw [e, List.map_map]
    rfl
theorem first_at {z : Str} : ∀ {l : List Str}, z ∈ l → ∃ j : Nat, l[j]? = some z ∧ ∀ m, m < j → l[m]? ≠ some z
  | y :: l, h => by
    by_cases e : y = z
    · exact ⟨0, by rw [e]; rfl, fun m hm => absurd hm (Nat.not_lt_zero m)⟩
    · have h2 : z ∈ l := (List.mem_cons.mp h).resolve_left fun q => e q.symm
      obtain ⟨j, h3, h4⟩ := first_at h2
      refine ⟨j + 1, by rw [List.getElem?_cons_succ]; exact h3, fun m hm => ?_⟩
      cases m with
      | zero => exact fun q => e (Option.some.inj q)
      | succ m => rw [List.getElem?_cons_succ]; exact h4 m (by omega)
theorem ok_good_number (F : Fun K "good_number" "Book.good_number" s_Book_good_number f fd) (T : Txt K mg) (U : CTxt K C) (F_is_among : Has P w K mg base 2 "is_among" (spIsAmong K)) : FnOk P w K mg base CX0 3 f fd ["self", "good"] (spGoodNumber C) := by
  refine F.ok sc_Book_good_number (fun vs H Q E h => ?_) (fun cdv A outer s H vs Q E hr h => ?_)
  · obtain ⟨p, gs, bs, z, rfl, _⟩ := h
    rfl
  obtain ⟨p, gs, bs, z, rfl, ⟨dx, tg, tb, as, o, h1, h2, h3, h4⟩, hz, wd, q⟩ := h
  refine ⟨_, (pss_cons (ps_if (pt_not (pt_val (pe_fn F_is_among (hr.mono (by omega)) (by rfl) (pa_cons (pv 1) (pa_cons (pe_fld (pv 0) rfl) pa_nil))))) (pss_one ps_never) pss_nil)
  (pss_one (ps_ret (pe_tidx (pe_fld (pv 0) rfl) (pa_cons (pv 1) pa_nil))))), ?_⟩
  refine ⟨_, rfl, _, rfl, p, C, dx, _, _, rfl, h1, U.cl, U.nG, bf_g _ _, z, tg, gs, rfl, wd, .inr (.inl (.inr ⟨_, h2.1⟩)), fun H1 s1 => ?_⟩
  refine ⟨true, by rw [decide_eq_true hz], iteF ?_⟩
  obtain ⟨j, e1, e2⟩ := first_at hz
  exact ⟨_, rfl, p, C, dx, _, _, rfl, s1 _ _ h1, U.cl, U.nG, bf_g _ _, tg, o, gs, rfl, s1 _ _ h2.1, h2.2.1, h2.2.2, _, rfl, s1 _ _ h2.1, z, j, rfl, e1, e2, q _ _ s1 e1⟩
theorem ok_barter_number (F : Fun K "barter_number" "Book.barter_number" s_Book_barter_number f fd) (T : Txt K mg) (F_is_among : Has P w K mg base 2 "is_among" (spIsAmong K)) (M_names : HasM P w K mg base C 1 "names" (spNames C)) :
    FnOk P w K mg base CX0 3 f fd ["self", "name"] (spBarterNumber C) := by
  refine F.ok sc_Book_barter_number (fun vs H Q E h => ?_) (fun cdv A outer s H vs Q E hr h => ?_)
  · obtain ⟨p, gs, bs, z, rfl, _⟩ := h
    rfl
  obtain ⟨p, gs, bs, z, rfl, hb, hl, hz, wd, q⟩ := h
  refine ⟨_, (pss_cons (ps_if (pt_not (pt_val (pe_fn F_is_among (hr.mono (by omega)) (by rfl) (pa_cons (pv 1) (pa_cons (pe_me0 M_names (hr.mono (by omega)) (pv 0)) pa_nil))))) (pss_one ps_never) pss_nil)
  (pss_one (ps_ret (pe_bm PySem.F.plainAttrs_list PySem.F.slot_list_index PySem.F.type_list_index mt_index (pe_me0 M_names (hr.mono (by omega)) (pv 0)) (pa_cons (pv 1) pa_nil))))), ?_⟩
  have hB := hb
  obtain ⟨dx, tg, tb, as, o, h1, h2, h3, h4⟩ := hb
  refine ⟨_, rfl, _, rfl, p, dx, _, rfl, h1, bf_no tg tb (by decide +kernel) (by decide +kernel), p, gs, bs, rfl, hB, hl, fun H1 l s1 hl1 hs => ?_⟩
  refine ⟨z, l, bs.map Prod.fst, rfl, wd, .inl (SqL.of hs), fun H2 s2 => ?_⟩
  refine ⟨true, by rw [decide_eq_true hz], iteF ?_⟩
  have s3 := s1.trans s2
  refine ⟨_, rfl, p, dx, _, rfl, s3 _ _ h1, bf_no tg tb (by decide +kernel) (by decide +kernel), p, gs, bs, rfl, hB.mono s3, hl, fun H4 l2 s4 hl2 hs2 => ?_⟩
  obtain ⟨j, e1, e2⟩ := first_at hz
  refine ⟨.inl ⟨rfl, _, SqL.of hs2⟩, _, rfl, l2, _, .str z, j, .str z, rfl, rfl, SqL.of hs2, rfl, flat_str _, ?_, ?_, fun m y hm ey => ?_, q _ _ (s3.trans s4) e1⟩
  · rw [List.getElem?_map, e1]
    rfl
  · show decide (z = z) = true
    exact decide_eq_true rfl
  · rw [List.getElem?_map] at ey
    cases e3 : (bs.map Prod.fst)[m]? with
    | none => rw [e3] at ey; cases ey
    | some y2 =>
      rw [e3] at ey
      obtain rfl : V.str y2 = y := Option.some.inj ey
      show decide (y2 = z) = false
      exact decide_eq_false fun e => e2 m hm (by rw [e3, e])
theorem ok_row (F : Fun K "row" "Book.row" s_Book_row f fd) (T : Txt K mg) (U : CTxt K C) (M_barter_number : HasM P w K mg base C 3 "barter_number" (spBarterNumber C)) :
    FnOk P w K mg base CX0 4 f fd ["self", "name"] (spRow C) := by
  refine F.ok sc_Book_row (fun vs H Q E h => ?_) (fun cdv A outer s H vs Q E hr h => ?_)
  · obtain ⟨p, gs, bs, b, rfl, _⟩ := h
    rfl
  obtain ⟨p, gs, bs, b, rfl, hb, hl, nn, mb, wd, q⟩ := h
  refine ⟨_, (pss_one (ps_ret (pe_ix (r := rIx K) ix_seq (pe_ix (r := rIxT K) ix_tup (pe_fld (pv 0) rfl) (pe_me M_barter_number (hr.mono (by omega)) (pv 0) (pa_cons (pv 1) pa_nil)) (fun _ _ => rfl)) pe_int (fun _ _ => rfl)))), ?_⟩
  have hB := hb
  obtain ⟨dx, tg, tb, as, o, h1, h2, h3, h4⟩ := hb
  refine ⟨_, rfl, p, C, dx, _, _, rfl, h1, U.cl, U.nB, bf_b _ _, _, rfl, p, dx, _, rfl, h1, bf_no tg tb (by decide +kernel) (by decide +kernel), _, rfl, p, gs, bs, b.1, rfl, hB, hl, List.mem_map_of_mem mb, wd, fun H1 j s1 ej => ?_⟩
  obtain ⟨k, hk, ek⟩ := List.getElem_of_mem mb
  have hk2 : k < (bs.map Prod.fst).length := by rw [List.length_map]; exact hk
  have hj : j < (bs.map Prod.fst).length := (List.getElem?_eq_some_iff.mp ej).1
  have ejk : j = k := by
    refine (List.getElem_inj (h₀ := hj) (h₁ := hk2) nn).mp ?_
    rw [(List.getElem?_eq_some_iff.mp ej).2, List.getElem_map, ek]
  subst ejk
  have ka : j < as.length := by rw [Paired.len h4]; exact hk
  obtain ⟨b2, e2, ra, z1, z2⟩ := Paired.get h4 (List.getElem?_eq_getElem ka)
  rw [List.getElem?_eq_getElem hk, ek] at e2
  obtain rfl : b = b2 := Option.some.inj e2
  refine ⟨tb, _, (j : Nat), _, rfl, rfl, SqT.of (s1 _ _ h3), atI_nat (by rw [List.getElem?_map, List.getElem?_eq_getElem ka]; rfl), ?_⟩
  exact Or.inr (Or.inl ⟨as[j], _, _, _, rfl, rfl, SqT.of (s1 _ _ z1), atI_nat (j := 1) rfl, q _ _ s1 (s1 _ _ z2)⟩)
theorem ok_takes (F : Fun K "takes" "Book.takes" s_Book_takes f fd) (T : Txt K mg) (U : CTxt K C) (M_row : HasM P w K mg base C 4 "row" (spRow C)) :
    FnOk P w K mg base CX0 5 f fd ["self", "name"] (spSide (fun e => decide (e < 0)) C) := by
  refine F.ok sc_Book_takes (fun vs H Q E h => ?_) (fun cdv A outer s H vs Q E hr h => ?_)
  · obtain ⟨p, gs, bs, b, rfl, _⟩ := h
    rfl
  obtain ⟨p, gs, bs, b, rfl, hb, ok, mb, q⟩ := h
  refine ⟨_, (pss_one (ps_ret (pe_lc (own := [("good", 2), ("entry", 3)]) (g := gTup K 2 (gCons (gName 2) (gCons (gName 3) gNil))) rfl sc_Book_takes.nd (pi_zipA (by rfl) T.b_zip (pa_cons (pe_fld (pv 0) rfl) (pa_cons (pe_me M_row (hr.mono (by omega)) (pv 0) (pa_cons (pv 1) pa_nil)) pa_nil))) (blkOk_by (own := [("good", 2), ("entry", 3)]) (N := ["self", "name", "good", "entry"]) (by kernel_rfl)) (fun _ _ _ _ _ => (pg_tup rfl (pgs_cons (pg_name (i := 2) sc_Book_takes.nd rfl (by first | exact .inl rfl | exact .inr rfl)) (pgs_cons (pg_name (i := 3) sc_Book_takes.nd rfl (by first | exact .inl rfl | exact .inr rfl)) pgs_nil)))) (fun _ _ _ _ _ => (pts_one (pt_cmpR op_lt (pv 3) pe_int (nomark _)))) (fun _ _ _ _ _ => (pv 2))))), ?_⟩
  have hB := hb
  obtain ⟨dx, tg, tb, as, o, h1, h2, h3, h4⟩ := hb
  refine ⟨_, rfl, p, C, dx, _, _, rfl, h1, U.cl, U.nG, bf_g _ _, _, rfl, p, dx, _, rfl, h1, bf_no tg tb (by decide +kernel) (by decide +kernel), _, rfl, p, gs, bs, b, rfl, hB, ok.bl, ok.nn, mb, ok.nw _ mb, fun H1 ra s1 hr1 => ?_⟩
  have eg : SqT K H1 tg (gs.map V.str) := .inl (.inr ⟨_, s1 _ _ h2.1⟩)
  have lr := ok.rl _ mb
  refine ⟨tg, ra, gs.map V.str, b.2.map V.int, rfl, .inr ⟨eg, SqT.of hr1, fun D hD => ?_⟩⟩
  have lz : (gs.zip b.2).length = (gs.map V.str).length := by rw [List.length_zip, lr, Nat.min_self, List.length_map]
  refine lcA (walk_zipTT (K := K) (a := tg) (b := ra) (xs := gs.map V.str) (ys := b.2.map V.int) (by rw [List.length_map, List.length_map, lr])) (gs.zip b.2) (fun z => .str z.1) (fun z => (fun e => decide (e < 0)) z.2) lz hD (by rw [List.length_map]; exact Nat.le_of_lt (small1000 ok.gl)) (fun H' s => ⟨Same.tup s eg, Same.tup s (SqT.of hr1)⟩) (fun i z x H2 H3 Qy Qn hz s2 _ y hy hn => ?_) fun H2 s2 e => ?_
  · obtain ⟨T', g, en, rfl, hT, rfl, e1, e2⟩ := y
    obtain ⟨eg1, eg2⟩ := List.getElem?_zip_eq_some.mp hz
    replace e1 : (gs.map V.str)[i]? = some g := e1
    replace e2 : (b.2.map V.int)[i]? = some en := e2
    rw [List.getElem?_map, eg1] at e1
    rw [List.getElem?_map, eg2] at e2
    obtain rfl : V.str z.1 = g := Option.some.inj e1
    obtain rfl : V.int z.2 = en := Option.some.inj e2
    have s3 : Same H2 (upd H2 T' (.tup [.str z.1, .int z.2])) := Same.new hT _
    refine ⟨T', _, rfl, SqT.of upd_same, rfl, _, _, rfl, _, _, rfl, rfl, rfl, ?_⟩
    refine ⟨_, rfl, _, _, rfl, rfl, _, rfl, ?_⟩
    by_cases c : z.2 < 0
    · refine ifT c ⟨_, rfl, hy (decide_eq_true c) _ s3⟩
    · refine ifF c (hn (decide_eq_false c) _ s3)
  · exact q _ D (s1.trans s2) (s1.free hD) (by show H2 D = _; rw [e]; unfold goodsAt; rw [List.map_map]; rfl)
theorem ok_gives (F : Fun K "gives" "Book.gives" s_Book_gives f fd) (T : Txt K mg) (U : CTxt K C) (M_row : HasM P w K mg base C 4 "row" (spRow C)) :
    FnOk P w K mg base CX0 5 f fd ["self", "name"] (spSide (fun e => decide (0 < e)) C) := by
  refine F.ok sc_Book_gives (fun vs H Q E h => ?_) (fun cdv A outer s H vs Q E hr h => ?_)
  · obtain ⟨p, gs, bs, b, rfl, _⟩ := h
    rfl
  obtain ⟨p, gs, bs, b, rfl, hb, ok, mb, q⟩ := h
  refine ⟨_, (pss_one (ps_ret (pe_lc (own := [("good", 2), ("entry", 3)]) (g := gTup K 2 (gCons (gName 2) (gCons (gName 3) gNil))) rfl sc_Book_gives.nd (pi_zipA (by rfl) T.b_zip (pa_cons (pe_fld (pv 0) rfl) (pa_cons (pe_me M_row (hr.mono (by omega)) (pv 0) (pa_cons (pv 1) pa_nil)) pa_nil))) (blkOk_by (own := [("good", 2), ("entry", 3)]) (N := ["self", "name", "good", "entry"]) (by kernel_rfl)) (fun _ _ _ _ _ => (pg_tup rfl (pgs_cons (pg_name (i := 2) sc_Book_gives.nd rfl (by first | exact .inl rfl | exact .inr rfl)) (pgs_cons (pg_name (i := 3) sc_Book_gives.nd rfl (by first | exact .inl rfl | exact .inr rfl)) pgs_nil)))) (fun _ _ _ _ _ => (pts_one (pt_cmpR op_gt (pv 3) pe_int (nomark _)))) (fun _ _ _ _ _ => (pv 2))))), ?_⟩
  have hB := hb
  obtain ⟨dx, tg, tb, as, o, h1, h2, h3, h4⟩ := hb
  refine ⟨_, rfl, p, C, dx, _, _, rfl, h1, U.cl, U.nG, bf_g _ _, _, rfl, p, dx, _, rfl, h1, bf_no tg tb (by decide +kernel) (by decide +kernel), _, rfl, p, gs, bs, b, rfl, hB, ok.bl, ok.nn, mb, ok.nw _ mb, fun H1 ra s1 hr1 => ?_⟩
  have eg : SqT K H1 tg (gs.map V.str) := .inl (.inr ⟨_, s1 _ _ h2.1⟩)
  have lr := ok.rl _ mb
  refine ⟨tg, ra, gs.map V.str, b.2.map V.int, rfl, .inr ⟨eg, SqT.of hr1, fun D hD => ?_⟩⟩
  have lz : (gs.zip b.2).length = (gs.map V.str).length := by rw [List.length_zip, lr, Nat.min_self, List.length_map]
  refine lcA (walk_zipTT (K := K) (a := tg) (b := ra) (xs := gs.map V.str) (ys := b.2.map V.int) (by rw [List.length_map, List.length_map, lr])) (gs.zip b.2) (fun z => .str z.1) (fun z => (fun e => decide (0 < e)) z.2) lz hD (by rw [List.length_map]; exact Nat.le_of_lt (small1000 ok.gl)) (fun H' s => ⟨Same.tup s eg, Same.tup s (SqT.of hr1)⟩) (fun i z x H2 H3 Qy Qn hz s2 _ y hy hn => ?_) fun H2 s2 e => ?_
  · obtain ⟨T', g, en, rfl, hT, rfl, e1, e2⟩ := y
    obtain ⟨eg1, eg2⟩ := List.getElem?_zip_eq_some.mp hz
    replace e1 : (gs.map V.str)[i]? = some g := e1
    replace e2 : (b.2.map V.int)[i]? = some en := e2
    rw [List.getElem?_map, eg1] at e1
    rw [List.getElem?_map, eg2] at e2
    obtain rfl : V.str z.1 = g := Option.some.inj e1
    obtain rfl : V.int z.2 = en := Option.some.inj e2
    have s3 : Same H2 (upd H2 T' (.tup [.str z.1, .int z.2])) := Same.new hT _
    refine ⟨T', _, rfl, SqT.of upd_same, rfl, _, _, rfl, _, _, rfl, rfl, rfl, ?_⟩
    refine ⟨_, rfl, _, _, rfl, rfl, _, rfl, ?_⟩
    by_cases c : 0 < z.2
    · refine ifT c ⟨_, rfl, hy (decide_eq_true c) _ s3⟩
    · refine ifF c (hn (decide_eq_false c) _ s3)
  · exact q _ D (s1.trans s2) (s1.free hD) (by show H2 D = _; rw [e]; unfold goodsAt; rw [List.map_map]; rfl)
end
end K16
namespace K16
open PySem PySem.Spec PyProof.Rows L2 RZ
/-! ### books.py: books out of books -/
def negL (r : List Int) : List Int := r.map fun e => -e
def turnB (ns : List Str) (b : Str × List Int) : Str × List Int := (b.1, if b.1 ∈ ns then negL b.2 else b.2)
theorem negL_mix {r : List Int} (h : RowMix r) : RowMix (negL r) := by
  obtain ⟨⟨x, hx, x0⟩, y, hy, y0⟩ := h
  exact ⟨⟨-y, List.mem_map_of_mem hy, by omega⟩, -x, List.mem_map_of_mem hx, by omega⟩
theorem turnB_names (ns : List Str) (bs : List (Str × List Int)) : (bs.map (turnB ns)).map Prod.fst = bs.map Prod.fst := by
  rw [List.map_map]
  rfl
theorem BkOk.turned {gs : List Str} {bs : List (Str × List Int)} (ok : BkOk gs bs) (ns : List Str) : BkOk gs (bs.map (turnB ns)) := by
  refine ⟨ok.gn, ok.gw, by rw [turnB_names]; exact ok.nn, fun b hb => ?_, fun b hb => ?_, fun b hb => ?_, ok.gl, by rw [List.length_map]; exact ok.bl⟩
  · obtain ⟨c, hc, rfl⟩ := List.mem_map.mp hb
    exact ok.nw c hc
  · obtain ⟨c, hc, rfl⟩ := List.mem_map.mp hb
    show (if c.1 ∈ ns then negL c.2 else c.2).length = _
    by_cases m : c.1 ∈ ns
    · rw [if_pos m, negL, List.length_map]
      exact ok.rl c hc
    · rw [if_neg m]
      exact ok.rl c hc
  · obtain ⟨c, hc, rfl⟩ := List.mem_map.mp hb
    show RowMix (if c.1 ∈ ns then negL c.2 else c.2)
    by_cases m : c.1 ∈ ns
    · rw [if_pos m]
      exact negL_mix (ok.rm c hc)
    · rw [if_neg m]
      exact ok.rm c hc
def cutRow (gs ks : List Str) (r : List Int) : List Int := ((gs.zip r).filter fun z => decide (z.1 ∈ ks)).map Prod.snd
def cutGs (gs ks : List Str) : List Str := gs.filter fun g => decide (g ∈ ks)
instance rowMixDec (r : List Int) : Decidable (RowMix r) := by
  unfold RowMix
  infer_instance
def cutBs (gs ks : List Str) (bs : List (Str × List Int)) : List (Str × List Int) := (bs.map fun b => (b.1, cutRow gs ks b.2)).filter fun b => decide (RowMix b.2)
theorem cutRow_len (ks : List Str) : ∀ (gs : List Str) (r : List Int), r.length = gs.length → (cutRow gs ks r).length = (cutGs gs ks).length
  | [], r, _ => by unfold cutRow cutGs; simp
  | g :: gs, [], h => by simp at h
  | g :: gs, e :: r, h => by
    have ih := cutRow_len ks gs r (by simpa using h)
    unfold cutRow cutGs at ih ⊢
    rw [List.zip_cons_cons]
    by_cases m : g ∈ ks
    · rw [List.filter_cons_of_pos (by simpa using m), List.filter_cons_of_pos (by simpa using m), List.map_cons, List.length_cons, List.length_cons, ih]
    · rw [List.filter_cons_of_neg (by simpa using m), List.filter_cons_of_neg (by simpa using m), ih]
theorem BkOk.cut {gs : List Str} {bs : List (Str × List Int)} (ok : BkOk gs bs) (ks : List Str) : BkOk (cutGs gs ks) (cutBs gs ks bs) := by
  have sub : ∀ b ∈ cutBs gs ks bs, RowMix b.2 ∧ ∃ c ∈ bs, b = (c.1, cutRow gs ks c.2) := fun b hb => by
    obtain ⟨h1, h2⟩ := List.mem_filter.mp hb
    obtain ⟨c, hc, e⟩ := List.mem_map.mp h1
    exact ⟨of_decide_eq_true h2, c, hc, e.symm⟩
  refine ⟨ok.gn.sublist List.filter_sublist, fun g hg => ok.gw g (List.mem_filter.mp hg).1, ?_, fun b hb => ?_, fun b hb => ?_, fun b hb => (sub b hb).1, Nat.le_trans (List.length_filter_le _ _) ok.gl, ?_⟩
  · have e : (bs.map fun b => (b.1, cutRow gs ks b.2)).map Prod.fst = bs.map Prod.fst := by rw [List.map_map]; rfl
    have s : ((cutBs gs ks bs).map Prod.fst).Sublist (bs.map Prod.fst) := by
      rw [← e]
      exact List.Sublist.map _ List.filter_sublist
    exact ok.nn.sublist s
  · obtain ⟨_, c, hc, rfl⟩ := sub b hb
    exact ok.nw c hc
  · obtain ⟨_, c, hc, rfl⟩ := sub b hb
    exact cutRow_len ks gs c.2 (ok.rl c hc)
  · refine Nat.le_trans (List.length_filter_le _ _) ?_
    rw [List.length_map]
    exact ok.bl
def spTurned (C : Addr) : Sp := fun vs H Q _ => ∃ (p l : Addr) (gs : List Str) (bs : List (Str × List Int)) (ns : List Str), vs = [.ref p, .ref l] ∧ BookAt C H p gs bs ∧ BkOk gs bs ∧ StrL H l ns ∧ (∀ n ∈ ns, n ∈ bs.map Prod.fst) ∧
  ∀ H' p2, Same H H' → BookAt C H' p2 gs (bs.map (turnB ns)) → Q (.ref p2) H'
def spPart (C : Addr) : Sp := fun vs H Q _ => ∃ (p l : Addr) (gs : List Str) (bs : List (Str × List Int)) (ks : List Str), vs = [.ref p, .ref l] ∧ BookAt C H p gs bs ∧ BkOk gs bs ∧ StrL H l ks ∧ (∀ g ∈ ks, g ∈ gs) ∧
  ∀ H' p2, Same H H' → BookAt C H' p2 (cutGs gs ks) (cutBs gs ks bs) → Q (.ref p2) H'
/-- a book is made -/
theorem made {C : Addr} {H : Hp} {a b : Addr} {gs : List Str} {bs : List (Str × List Int)} {Q : VK} {E : XK} (ha : StrL H a gs) (hb : LstOf BarAt H b bs) (ok : BkOk gs bs) (q : ∀ H' p, Same H H' → BookAt C H' p gs bs → Q (.ref p) H') :
    ∀ x dx, H x = none → H dx = none → dx ≠ x → spInit C (.ref x :: ([.ref a, .ref b] ++ [])) (upd (upd H dx (.own x)) x (.ins C dx [])) (fun v H2 => v = .non ∧ Q (.ref x) H2) E := by
  intro x dx hx hdx ne
  have s : Same H (upd (upd H dx (.own x)) x (.ins C dx [])) := fun c u e => by
    rw [upd_ne (ne_of_none e hx), upd_ne (ne_of_none e hdx)]
    exact e
  obtain ⟨as, h1, h2⟩ := hb
  refine ⟨x, dx, a, b, gs, bs, rfl, upd_same, s _ _ ha, ⟨as, s _ _ h1, Paired.imp h2 fun _ _ z => z.mono s⟩, ok, fun H' k hB => ⟨rfl, q _ _ (fun c u e => ?_) hB⟩⟩
  exact k c u (s c u e) (ne_of_none e hx)
section
variable {P : Program} {w : World} {K : PySem.W.Frag} {mg : Str → Option Value} {base : Heap} {f C : Addr} {fd : FuncData}
theorem ok_turned_book (F : Fun K "turned_book" "turned_book" s_turned_book f fd) (T : Txt K mg) (F_Book : HasC P w K mg base C 4 "Book" (spInit C)) (M_goods : HasM P w K mg base C 1 "goods" (spGoods C)) (M_barters : HasM P w K mg base C 1 "barters" (spBarters C)) (M_barter_number : HasM P w K mg base C 3 "barter_number" (spBarterNumber C)) :
    FnOk P w K mg base CX0 6 f fd ["book", "names"] (spTurned C) := by
  refine F.ok sc_turned_book (fun vs H Q E h => ?_) (fun cdv A outer s H vs Q E hr h => ?_)
  · obtain ⟨p, l, gs, bs, ns, rfl, _⟩ := h
    rfl
  obtain ⟨p, l, gs, bs, ns, rfl, hb, ok, hl, sub, q⟩ := h
  refine ⟨_, (pss_cons (ps_for PassesOwn.never rfl (pi_list (pv 1)) (pg_name (i := 2) sc_turned_book.nd rfl (by first | exact .inl rfl | exact .inr rfl)) (pss_one (ps_expr (pe_me M_barter_number (hr.mono (by omega)) (pv 0) (pa_cons (pv 2) pa_nil)))))
  (pss_cons (ps_set (i := 3) sc_turned_book.nd rfl (.inl rfl) (pe_lst pa_nil))
  (pss_cons (ps_for PassesOwn.never rfl (pi_list (pe_me0 M_barters (hr.mono (by omega)) (pv 0))) (pg_tup rfl (pgs_cons (pg_name (i := 2) sc_turned_book.nd rfl (by first | exact .inl rfl | exact .inr rfl)) (pgs_cons (pg_name (i := 4) sc_turned_book.nd rfl (by first | exact .inl rfl | exact .inr rfl)) pgs_nil))) (pss_one (ps_expr (pe_bm PySem.F.plainAttrs_list PySem.F.slot_list_append PySem.F.type_list_append mt_append (pv 3) (pa_cons (pe_tup (pa_cons (pv 2) (pa_cons (pe_ifExp (pt_cmpR (r := rIn K false) op_in_seq (pv 2) (pv 1) rfl) (pe_callTy call_tuple_of (by rfl) T.b_tuple (by decide +kernel) (pa_cons (pe_lc (own := [("entry", 5)]) (g := gName 5) (tt := tYes) rfl sc_turned_book.nd (pi_tup (pv 4)) (blkOk_by (own := [("entry", 5)]) (N := ["book", "names", "name", "barters", "row", "entry"]) (by kernel_rfl)) (fun _ _ _ _ _ => (pg_name (i := 5) sc_turned_book.nd rfl (by first | exact .inl rfl | exact .inr rfl))) (fun _ _ _ _ _ => pts_nil) (fun _ _ _ _ _ => (pe_un un_neg (pv 5)))) pa_nil)) (pv 4)) pa_nil))) pa_nil)))))
  (pss_one (ps_ret (pe_mk F_Book (hr.mono (by omega)) (by rfl) (pa_cons (pe_me0 M_goods (hr.mono (by omega)) (pv 0)) (pa_cons (pv 3) pa_nil)))))))), ?_⟩
  have hB := hb
  obtain ⟨dx, tg, tb, as, o, h1, h2, h3, h4⟩ := hb
  have nm : ∀ {x : Str}, (¬ x = "own_goods") → (¬ x = "own_barters") → (bf tg tb).lookup x = none := fun a b => bf_no tg tb a b
  refine ⟨_, rfl, l, rfl, ⟨_, SqL.of hl⟩, ?_⟩
  refine for_it walk_list (fun i σ H' => ∃ y, σ = [some (.ref p), some (.ref l), y, none, none, none] ∧ Same H H') ⟨none, rfl, Same.refl H⟩ (fun i σ H' _ ⟨_, _, s2⟩ => s2.seq (SqL.of hl)) ?_ ?_
  · rintro i x σ H2 H3 hi ⟨_, rfl, s2⟩ ⟨rfl, ex⟩
    rw [List.getElem?_map] at ex
    cases en : ns[i]? with
    | none => rw [en] at ex; cases ex
    | some n =>
      rw [en] at ex
      obtain rfl : V.str n = x := Option.some.inj ex
      have mn := sub n (List.mem_of_getElem? en)
      obtain ⟨c, hc, ec⟩ := List.mem_map.mp mn
      refine ⟨_, rfl, p, dx, _, rfl, s2 _ _ h1, nm (by decide +kernel) (by decide +kernel), _, rfl, p, gs, bs, n, rfl, hB.mono s2, ok.bl, mn, ec ▸ ok.nw c hc, fun H4 j s4 ej => ⟨_, rfl, s2.trans s4⟩⟩
  rintro σ H2 ⟨y0, rfl, s2⟩
  refine ⟨(by show 0 ≤ sizeLine; decide), fun bl hbl => ?_⟩
  have bl0 : H bl = none := s2.free hbl
  have s3 : Same H (upd H2 bl (.lst [])) := s2.trans (Same.new hbl _)
  refine ⟨_, rfl, p, dx, _, rfl, s3 _ _ h1, nm (by decide +kernel) (by decide +kernel), p, gs, bs, rfl, hB.mono s3, fun H4 l4 s4 l4n hl4 => ?_⟩
  obtain ⟨as4, e4, p4⟩ := hl4
  refine ⟨l4, rfl, ⟨_, SqL.of e4⟩, ?_⟩
  have s5 := s3.trans s4
  have bl4 : H4 bl = some (.lst []) := s4 _ _ upd_same
  have l4bl : l4 ≠ bl := fun e => by rw [e, upd_same] at l4n; cases l4n
  refine for_it walk_list (fun i σ H' => ∃ y z, σ = [some (.ref p), some (.ref l), y, some (.ref bl), z, none] ∧ Same H H' ∧ (∃ as2, H' bl = some (.lst (as2.map V.ref)) ∧ Paired (BarAt H') as2 ((bs.take i).map (turnB ns))) ∧ H' l4 = some (.lst (as4.map V.ref)) ∧ Paired (BarAt H') as4 bs)
    ⟨y0, none, rfl, s5, ⟨[], bl4, .nil⟩, e4, p4⟩ (fun i σ H' _ ⟨_, _, _, _, _, z, _⟩ => SqL.of z) ?_ ?_
  · rintro i x σ H0 H5 hi ⟨y1, z1, rfl, s6, ⟨as2, e6, p6⟩, e7, p7⟩ ⟨rfl, ex⟩
    have hi' : i < as4.length := by rw [List.length_map] at hi; exact hi
    rw [List.getElem?_map, List.getElem?_eq_getElem hi'] at ex
    obtain rfl : V.ref as4[i] = x := Option.some.inj ex
    obtain ⟨c, ec, ra, g1, g2⟩ := Paired.get p7 (List.getElem?_eq_getElem hi')
    have hib : i < bs.length := by rw [← Paired.len p7]; exact hi'
    have mc := List.mem_of_getElem? ec
    refine ⟨as4[i], _, rfl, SqT.of g1, rfl, _, _, rfl, _, _, rfl, rfl, ?_⟩
    have lz : c.2.length ≤ sizeLine := by rw [ok.rl c mc]; exact Nat.le_of_lt (small1000 ok.gl)
    have fin : ∀ (H7 : Hp) (rb : Addr), Same H5 H7 → IntT H7 rb (turnB ns c).2 → ∀ (tp : Addr), H7 tp = none →
        (Paired (BarAt (upd (upd H7 tp (.tup [.str c.1, .ref rb])) bl (.lst (as2.map V.ref ++ [.ref tp])))) (as2 ++ [tp]) ((bs.take (i + 1)).map (turnB ns))) ∧ Same H (upd (upd H7 tp (.tup [.str c.1, .ref rb])) bl (.lst (as2.map V.ref ++ [.ref tp]))) ∧
        (upd (upd H7 tp (.tup [.str c.1, .ref rb])) bl (.lst (as2.map V.ref ++ [.ref tp]))) l4 = some (.lst (as4.map V.ref)) ∧ Paired (BarAt (upd (upd H7 tp (.tup [.str c.1, .ref rb])) bl (.lst (as2.map V.ref ++ [.ref tp])))) as4 bs := fun H7 rb s7 hrb tp htp => by
      have e8 : H7 bl = some (.lst (as2.map V.ref)) := s7 _ _ e6
      have keepT : ∀ a us, H7 a = some (.tup us) → (upd (upd H7 tp (.tup [.str c.1, .ref rb])) bl (.lst (as2.map V.ref ++ [.ref tp]))) a = some (.tup us) := fun a us e => by
        rw [upd_ne (ne_of e e8 (by intro z; cases z)), upd_ne (ne_of_none e htp)]
        exact e
      have keepB : ∀ a b, BarAt H7 a b → BarAt (upd (upd H7 tp (.tup [.str c.1, .ref rb])) bl (.lst (as2.map V.ref ++ [.ref tp]))) a b := fun a b ⟨r, w1, w2⟩ => ⟨r, keepT _ _ w1, keepT _ _ w2⟩
      refine ⟨?_, Same.laid bl0 ((s6.trans s7).trans (Same.new htp _)), ?_, Paired.imp p7 fun a b z => keepB a b (z.mono s7)⟩
      · rw [List.take_add_one, ec, List.map_append]
        refine Paired.app (Paired.imp p6 fun a b z => keepB a b (z.mono s7)) (.cons ⟨rb, ?_, keepT _ _ hrb⟩ .nil)
        rw [upd_ne (ne_of_none e8 htp).symm, upd_same]
        rfl
      · rw [upd_ne l4bl, upd_ne (ne_of_none (s7 _ _ e7) htp)]
        exact s7 _ _ e7
    have len : as2.length < sizeLine := by
      have q := Paired.len p6
      rw [List.length_map, List.length_take] at q
      refine small1000 ?_
      have := ok.bl
      omega
    refine ⟨_, rfl, .inl ⟨rfl, _, SqL.of e6⟩, _, rfl, _, rfl, _, rfl, l, _, rfl, .inl (SqL.of (s6 _ _ hl)), rfl, flat_str ns, ?_⟩
    rw [if_neg Bool.false_ne_true, inV_str]
    by_cases m : c.1 ∈ ns
    · refine ⟨_, rfl, ifT m ?_⟩
      refine ⟨_, rfl, ra, rfl, ⟨_, SqT.of g2⟩, fun D hD => ?_⟩
      refine lcT (fun v => match v with | .int e => .int (-e) | _ => .non) (fun _ => true) hD (SqT.of g2) (by rw [List.length_map]; exact lz) (fun x H7 Qy Qn hx s7 _ hy _ => ?_) fun H7 s7 e => ?_
      · obtain ⟨e, _, rfl⟩ := List.mem_map.mp hx
        exact ⟨rfl, yes ⟨_, rfl, e, rfl, hy rfl _ (Same.refl _)⟩⟩
      · rw [all_yes, List.map_map] at e
        refine ⟨D, _, rfl, .inl ⟨SqL.of e, fun rb hrb => ?_⟩⟩
        have s8 : Same H5 (upd H7 rb (.tup ((c.2.map ((fun v => match v with | .int e => V.int (-e) | _ => .non) ∘ V.int))))) := s7.trans (Same.new hrb _)
        have irb : IntT (upd H7 rb (.tup ((c.2.map ((fun v => match v with | .int e => V.int (-e) | _ => .non) ∘ V.int))))) rb (turnB ns c).2 := by
          show upd _ _ _ _ = _
          rw [upd_same]
          show _ = some (HO.tup ((if c.1 ∈ ns then negL c.2 else c.2).map V.int))
          rw [if_pos m, negL, List.map_map]
          rfl
        refine ⟨(by show 2 ≤ sizeLine; decide), fun tp htp => ⟨bl, _, _, rfl, rfl, at_new (s8 _ _ e6) htp, (by rw [List.length_map]; exact len), ?_⟩⟩
        obtain ⟨f1, f2, f3, f4⟩ := fin _ rb s8 irb tp htp
        exact ⟨_, _, rfl, f2, ⟨as2 ++ [tp], by rw [upd_same, List.map_append]; rfl, f1⟩, f3, f4⟩
    · refine ⟨_, rfl, ifF m ?_⟩
      have irb : IntT H5 ra (turnB ns c).2 := by
        show H5 ra = some (HO.tup ((if c.1 ∈ ns then negL c.2 else c.2).map V.int))
        rw [if_neg m]
        exact g2
      refine ⟨_, rfl, (by show 2 ≤ sizeLine; decide), fun tp htp => ⟨bl, _, _, rfl, rfl, at_new e6 htp, (by rw [List.length_map]; exact len), ?_⟩⟩
      obtain ⟨f1, f2, f3, f4⟩ := fin _ ra (Same.refl _) irb tp htp
      exact ⟨_, _, rfl, f2, ⟨as2 ++ [tp], by rw [upd_same, List.map_append]; rfl, f1⟩, f3, f4⟩
  · rintro σ H5 ⟨y1, z1, rfl, s6, ⟨as2, e6, p6⟩, _⟩
    have tk : bs.take (as4.map V.ref).length = bs := List.take_of_length_le (by rw [List.length_map, Paired.len p4]; exact Nat.le_refl _)
    rw [tk] at p6
    refine ⟨_, rfl, p, dx, _, rfl, s6 _ _ h1, nm (by decide +kernel) (by decide +kernel), p, gs, bs, rfl, hB.mono s6, fun H7 l7 s7 _ hl7 => ⟨_, rfl, ?_⟩⟩
    exact made hl7 ⟨as2, s7 _ _ e6, Paired.imp p6 fun _ _ z => z.mono s7⟩ (ok.turned ns) fun H8 p8 s8 b8 => q _ _ ((s6.trans s7).trans s8) b8
theorem ok_part_book (F : Fun K "part_book" "part_book" s_part_book f fd) (T : Txt K mg) (F_Book : HasC P w K mg base C 4 "Book" (spInit C)) (M_goods : HasM P w K mg base C 1 "goods" (spGoods C)) (M_barters : HasM P w K mg base C 1 "barters" (spBarters C)) (M_good_number : HasM P w K mg base C 3 "good_number" (spGoodNumber C))
    (F_wrong_entry : Has P w K mg base 2 "wrong_entry" spWrongEntry) : FnOk P w K mg base CX0 6 f fd ["book", "goods"] (spPart C) := by
  refine F.ok sc_part_book (fun vs H Q E h => ?_) (fun cdv A outer s H vs Q E hr h => ?_)
  · obtain ⟨p, l, gs, bs, ks, rfl, _⟩ := h
    rfl
  obtain ⟨p, l, gs, bs, ks, rfl, hb, ok, hl, sub, q⟩ := h
  refine ⟨_, (pss_cons (ps_for PassesOwn.never rfl (pi_list (pv 1)) (pg_name (i := 2) sc_part_book.nd rfl (by first | exact .inl rfl | exact .inr rfl)) (pss_one (ps_expr (pe_me M_good_number (hr.mono (by omega)) (pv 0) (pa_cons (pv 2) pa_nil)))))
  (pss_cons (ps_par (i := 3) (j := 4) (by rfl) sc_part_book.nd rfl rfl (by decide) rfl rfl (pa_cons (pe_lc (own := [("good", 2)]) (g := gName 2) rfl sc_part_book.nd (pi_list (pe_me0 M_goods (hr.mono (by omega)) (pv 0))) (blkOk_by (own := [("good", 2)]) (N := ["book", "goods", "good", "kept", "barters", "name", "row", "less", "entry"]) (by kernel_rfl)) (fun _ _ _ _ _ => (pg_name (i := 2) sc_part_book.nd rfl (by first | exact .inl rfl | exact .inr rfl))) (fun _ _ _ _ _ => (pts_one (pt_cmpR (r := rIn K false) op_in_seq (pv 2) (pv 1) rfl))) (fun _ _ _ _ _ => (pv 2))) (pa_cons (pe_lst pa_nil) pa_nil)) (by rfl))
  (pss_cons (ps_for PassesOwn.never rfl (pi_list (pe_me0 M_barters (hr.mono (by omega)) (pv 0))) (pg_tup rfl (pgs_cons (pg_name (i := 5) sc_part_book.nd rfl (by first | exact .inl rfl | exact .inr rfl)) (pgs_cons (pg_name (i := 6) sc_part_book.nd rfl (by first | exact .inl rfl | exact .inr rfl)) pgs_nil))) (pss_cons (ps_set (i := 7) sc_part_book.nd rfl (.inl rfl) (pe_callTy call_tuple_of (by rfl) T.b_tuple (by decide +kernel) (pa_cons (pe_lc (own := [("good", 2), ("entry", 8)]) (g := gTup K 2 (gCons (gName 2) (gCons (gName 8) gNil))) rfl sc_part_book.nd (pi_zipLT (by rfl) T.b_zip (pa_cons (pe_me0 M_goods (hr.mono (by omega)) (pv 0)) (pa_cons (pv 6) pa_nil))) (blkOk_by (own := [("good", 2), ("entry", 8)]) (N := ["book", "goods", "good", "kept", "barters", "name", "row", "less", "entry"]) (by kernel_rfl)) (fun _ _ _ _ _ => (pg_tup rfl (pgs_cons (pg_name (i := 2) sc_part_book.nd rfl (by first | exact .inl rfl | exact .inr rfl)) (pgs_cons (pg_name (i := 8) sc_part_book.nd rfl (by first | exact .inl rfl | exact .inr rfl)) pgs_nil)))) (fun _ _ _ _ _ => (pts_one (pt_cmpR (r := rIn K false) op_in_seq (pv 2) (pv 1) rfl))) (fun _ _ _ _ _ => (pv 8))) pa_nil)))
  (pss_one (ps_if (pt_cmp (pc_isN (pe_fn F_wrong_entry (hr.mono (by omega)) (by rfl) (pa_cons (pe_callB call_len_seq (by rfl) T.b_len (by decide +kernel) (pa_cons (pv 3) pa_nil)) (pa_cons (pv 7) pa_nil)))) rfl) (pss_one (ps_expr (pe_bm PySem.F.plainAttrs_list PySem.F.slot_list_append PySem.F.type_list_append mt_append (pv 4) (pa_cons (pe_tup (pa_cons (pv 5) (pa_cons (pv 7) pa_nil))) pa_nil)))) pss_nil))))
  (pss_one (ps_ret (pe_mk F_Book (hr.mono (by omega)) (by rfl) (pa_cons (pv 3) (pa_cons (pv 4) pa_nil)))))))), ?_⟩
  have hB := hb
  obtain ⟨dx, tg, tb, as, o, h1, h2, h3, h4⟩ := hb
  have nm : ∀ {x : Str}, (¬ x = "own_goods") → (¬ x = "own_barters") → (bf tg tb).lookup x = none := fun a b => bf_no tg tb a b
  have gl := Nat.le_of_lt (small1000 ok.gl)
  refine ⟨_, rfl, l, rfl, ⟨_, SqL.of hl⟩, ?_⟩
  refine for_it walk_list (fun i σ H' => ∃ y, σ = [some (.ref p), some (.ref l), y, none, none, none, none, none, none] ∧ Same H H') ⟨none, rfl, Same.refl H⟩ (fun i σ H' _ ⟨_, _, s2⟩ => s2.seq (SqL.of hl)) ?_ ?_
  · rintro i x σ H2 H3 hi ⟨_, rfl, s2⟩ ⟨rfl, ex⟩
    rw [List.getElem?_map] at ex
    cases en : ks[i]? with
    | none => rw [en] at ex; cases ex
    | some n =>
      rw [en] at ex
      obtain rfl : V.str n = x := Option.some.inj ex
      have mn := sub n (List.mem_of_getElem? en)
      refine ⟨_, rfl, p, dx, _, rfl, s2 _ _ h1, nm (by decide +kernel) (by decide +kernel), _, rfl, p, gs, bs, n, rfl, hB.mono s2, mn, ok.gw n mn, fun H4 j s4 ej => ⟨_, rfl, s2.trans s4⟩⟩
  rintro σ H2 ⟨y0, rfl, s2⟩
  refine ⟨_, rfl, p, dx, _, rfl, s2 _ _ h1, nm (by decide +kernel) (by decide +kernel), p, gs, bs, rfl, hB.mono s2, fun H3 lg s3 lgn hlg => ?_⟩
  have s4 := s2.trans s3
  refine ⟨lg, rfl, ⟨_, SqL.of hlg⟩, fun kl hkl => ?_⟩
  refine lcL (fun v => v) (fun v => match v with | .str g => decide (g ∈ ks) | _ => false) hkl (SqL.of hlg) (by rw [List.length_map]; exact gl) (fun x H5 Qy Qn hx s5 _ hy hn => ?_) fun H5 s5 e5 => ?_
  · obtain ⟨g, _, rfl⟩ := List.mem_map.mp hx
    refine ⟨rfl, _, rfl, _, rfl, l, _, rfl, .inl (SqL.of ((s4.trans s5) _ _ hl)), rfl, flat_str ks, ?_⟩
    rw [if_neg Bool.false_ne_true, inV_str]
    by_cases m : g ∈ ks
    · exact ⟨_, rfl, ifT m ⟨_, rfl, hy (decide_eq_true m) _ (Same.refl _)⟩⟩
    · exact ⟨_, rfl, ifF m (hn (decide_eq_false m) _ (Same.refl _))⟩
  have ek : StrL H5 kl (cutGs gs ks) := by
    show H5 kl = some (HO.lst ((gs.filter fun g => decide (g ∈ ks)).map V.str))
    rw [e5, List.filter_map]
    congr 2
    rw [List.map_map]
    rfl
  have sG := s4.trans s5
  refine ⟨(by show 0 ≤ sizeLine; decide), fun bl hbl => ⟨_, _, rfl, ?_⟩⟩
  have s6 : Same H5 (upd H5 bl (.lst [])) := Same.new hbl _
  have s7 := sG.trans s6
  refine ⟨_, rfl, p, dx, _, rfl, s7 _ _ h1, nm (by decide +kernel) (by decide +kernel), p, gs, bs, rfl, hB.mono s7, fun H8 l8 s8 l8n hl8 => ?_⟩
  obtain ⟨as8, e8, p8⟩ := hl8
  refine ⟨l8, rfl, ⟨_, SqL.of e8⟩, ?_⟩
  have bl8 : H8 bl = some (.lst []) := s8 _ _ upd_same
  have l8bl : l8 ≠ bl := fun e => by rw [e, upd_same] at l8n; cases l8n
  refine for_it walk_list (fun i σ H' => ∃ y z u v x, σ = [some (.ref p), some (.ref l), y, some (.ref kl), some (.ref bl), z, u, v, x] ∧ Same H5 H' ∧ (∃ as2, H' bl = some (.lst (as2.map V.ref)) ∧ Paired (BarAt H') as2 (cutBs gs ks (bs.take i))) ∧ H' l8 = some (.lst (as8.map V.ref)) ∧ Paired (BarAt H') as8 bs)
    ⟨y0, none, none, none, none, rfl, s6.trans s8, ⟨[], bl8, .nil⟩, e8, p8⟩ (fun i σ H' _ ⟨_, _, _, _, _, _, _, _, z, _⟩ => SqL.of z) ?_ ?_
  · rintro i x σ G0 G hi ⟨y1, z1, u1, v1, x1, rfl, t1, ⟨as2, e9, p9⟩, e10, p10⟩ ⟨rfl, ex⟩
    have hi' : i < as8.length := by rw [List.length_map] at hi; exact hi
    rw [List.getElem?_map, List.getElem?_eq_getElem hi'] at ex
    obtain rfl : V.ref as8[i] = x := Option.some.inj ex
    obtain ⟨c, ec, ra, g1, g2⟩ := Paired.get p10 (List.getElem?_eq_getElem hi')
    have hib : i < bs.length := by rw [← Paired.len p10]; exact hi'
    have mc := List.mem_of_getElem? ec
    have lr := ok.rl c mc
    refine ⟨as8[i], _, rfl, SqT.of g1, rfl, _, _, rfl, _, _, rfl, rfl, ?_⟩
    refine ⟨_, rfl, p, dx, _, rfl, t1 _ _ (sG _ _ h1), nm (by decide +kernel) (by decide +kernel), p, gs, bs, rfl, hB.mono (sG.trans t1), fun G1 lg2 t2 _ hlg2 => ?_⟩
    have g2' : IntT G1 ra c.2 := t2 _ _ g2
    refine ⟨_, rfl, lg2, ra, gs.map V.str, c.2.map V.int, rfl, SqL.of hlg2, SqT.of g2', (by rw [List.length_map, List.length_map, lr]), fun D hD => ?_⟩
    have lz : (gs.zip c.2).length = (gs.map V.str).length := by rw [List.length_zip, lr, Nat.min_self, List.length_map]
    refine lcA (walk_zipM (K := K) (a := lg2) (b := ra) (xs := gs.map V.str) (ys := c.2.map V.int) (by rw [List.length_map, List.length_map, lr])) (gs.zip c.2) (fun z => .int z.2) (fun z => decide (z.1 ∈ ks)) lz hD (by rw [List.length_map]; exact gl) (fun H' s => ⟨SqL.of (s _ _ hlg2), Same.tup s (SqT.of g2')⟩) (fun j z x G2 G3 Qy Qn hz t3 _ y hy hn => ?_) fun G2 t3 e => ?_
    · obtain ⟨T', g, en, rfl, hT, rfl, ea, eb⟩ := y
      obtain ⟨eg1, eg2⟩ := List.getElem?_zip_eq_some.mp hz
      replace ea : (gs.map V.str)[j]? = some g := ea
      replace eb : (c.2.map V.int)[j]? = some en := eb
      rw [List.getElem?_map, eg1] at ea
      rw [List.getElem?_map, eg2] at eb
      obtain rfl : V.str z.1 = g := Option.some.inj ea
      obtain rfl : V.int z.2 = en := Option.some.inj eb
      have t4 : Same G2 (upd G2 T' (.tup [.str z.1, .int z.2])) := Same.new hT _
      refine ⟨T', _, rfl, SqT.of upd_same, rfl, _, _, rfl, _, _, rfl, rfl, rfl, ?_⟩
      refine ⟨_, rfl, _, rfl, l, _, rfl, .inl (SqL.of (t4 _ _ (t3 _ _ (t2 _ _ (t1 _ _ (sG _ _ hl)))))), rfl, flat_str ks, ?_⟩
      rw [if_neg Bool.false_ne_true, inV_str]
      by_cases m : z.1 ∈ ks
      · exact ⟨_, rfl, ifT m ⟨_, rfl, hy (decide_eq_true m) _ t4⟩⟩
      · exact ⟨_, rfl, ifF m (hn (decide_eq_false m) _ t4)⟩
    have e3 : G2 D = some (.lst ((cutRow gs ks c.2).map V.int)) := by
      rw [e]
      unfold cutRow
      rw [List.map_map]
      rfl
    refine ⟨D, _, rfl, .inl ⟨SqL.of e3, fun rb hrb => ?_⟩⟩
    have t5 : Same G (upd G2 rb (.tup ((cutRow gs ks c.2).map V.int))) := (t2.trans t3).trans (Same.new hrb _)
    have lcut := cutRow_len ks gs c.2 lr
    have lcut2 : (cutGs gs ks).length ≤ 1000 := Nat.le_trans (List.length_filter_le _ _) ok.gl
    refine ⟨_, rfl, kl, _, rfl, .inl (SqL.of (t5 _ _ (t1 _ _ ek))), _, rfl, rb, cutRow gs ks c.2, (by rw [lcut, List.length_map]; rfl), upd_same, by rw [lcut]; exact lcut2, fun v G4 t6 hv => ?_⟩
    have t7 := t5.trans t6
    have hrb4 : IntT G4 rb (cutRow gs ks c.2) := t6 _ _ upd_same
    have ecut : cutBs gs ks (bs.take (i + 1)) = cutBs gs ks (bs.take i) ++ (if RowMix (cutRow gs ks c.2) then [(c.1, cutRow gs ks c.2)] else []) := by
      unfold cutBs
      rw [List.take_add_one, ec, List.map_append, List.filter_append]
      congr 1
      by_cases m : RowMix (cutRow gs ks c.2)
      · rw [if_pos m]
        exact List.filter_cons_of_pos (by simpa using m)
      · rw [if_neg m]
        exact List.filter_cons_of_neg (by simpa using m)
    by_cases m : RowMix (cutRow gs ks c.2)
    · rw [if_pos m] at ecut
      refine ⟨_, rfl, ifT (hv.mpr m) ?_⟩
      refine ⟨_, rfl, .inl ⟨rfl, _, SqL.of (t7 _ _ e9)⟩, _, rfl, _, rfl, (by show 2 ≤ sizeLine; decide), fun tp htp => ⟨bl, _, _, rfl, rfl, at_new (t7 _ _ e9) htp, ?_, ?_⟩⟩
      · have q := Paired.len p9
        have q2 : (cutBs gs ks (bs.take i)).length ≤ 1000 := by
          refine Nat.le_trans (List.length_filter_le _ _) ?_
          rw [List.length_map, List.length_take]
          have := ok.bl
          omega
        rw [List.length_map]
        refine small1000 ?_
        omega
      · have e11 : G4 bl = some (.lst (as2.map V.ref)) := t7 _ _ e9
        have keepT : ∀ a us, G4 a = some (.tup us) → (upd (upd G4 tp (.tup [.str c.1, .ref rb])) bl (.lst (as2.map V.ref ++ [.ref tp]))) a = some (.tup us) := fun a us e => by
          rw [upd_ne (ne_of e e11 (by intro z; cases z)), upd_ne (ne_of_none e htp)]
          exact e
        have keepB : ∀ a b, BarAt G4 a b → BarAt (upd (upd G4 tp (.tup [.str c.1, .ref rb])) bl (.lst (as2.map V.ref ++ [.ref tp]))) a b := fun a b ⟨r, w1, w2⟩ => ⟨r, keepT _ _ w1, keepT _ _ w2⟩
        refine ⟨_, _, _, _, _, rfl, Same.laid hbl ((t1.trans t7).trans (Same.new htp _)), ⟨as2 ++ [tp], by rw [upd_same, List.map_append]; rfl, ?_⟩, ?_, Paired.imp p10 fun a b z => keepB a b (z.mono t7)⟩
        · rw [ecut]
          refine Paired.app (Paired.imp p9 fun a b z => keepB a b (z.mono t7)) (.cons ⟨rb, ?_, keepT _ _ hrb4⟩ .nil)
          rw [upd_ne (ne_of_none e11 htp).symm, upd_same]
        · rw [upd_ne l8bl, upd_ne (ne_of_none (t7 _ _ e10) htp)]
          exact t7 _ _ e10
    · rw [if_neg m, List.append_nil] at ecut
      refine ⟨_, rfl, ifF (fun e => m (hv.mp e)) ?_⟩
      refine ⟨_, _, _, _, _, rfl, t1.trans t7, ⟨as2, t7 _ _ e9, ?_⟩, t7 _ _ e10, Paired.imp p10 fun a b z => z.mono t7⟩
      rw [ecut]
      exact Paired.imp p9 fun a b z => z.mono t7
  · rintro σ G ⟨y1, z1, u1, v1, x1, rfl, t1, ⟨as2, e9, p9⟩, _⟩
    have tk : bs.take (as8.map V.ref).length = bs := List.take_of_length_le (by rw [List.length_map, Paired.len p8]; exact Nat.le_refl _)
    rw [tk] at p9
    refine ⟨_, rfl, _, rfl, ?_⟩
    exact made (t1 _ _ ek) ⟨as2, e9, p9⟩ (ok.cut ks) fun G2 p2 t2 b2 => q _ _ ((sG.trans t1).trans t2) b2
end
end K16
namespace K16
open PySem PySem.Spec PyProof.Rows L2 RZ
/-! ### how lots grow by a barter -/
theorem cnn_add {β : Type} {T : List (Sd β)} {s : Sd β} {x y : β} : Cnn (T ++ [s]) x y ↔ Cnn T x y ∨ ((∃ a ∈ s.gv ++ s.tk, Cnn T x a) ∧ ∃ b ∈ s.gv ++ s.tk, Cnn T b y) := by
  constructor
  · intro c
    induction c with
    | refl => exact .inl (.refl _)
    | step _ h1 h2 _ ih =>
      have m1 := sdo_mem h1
      have m2 := sdo_mem h2
      rcases List.mem_append.mp m1.1 with he | he
      · have c1 : Cnn T _ _ := Cnn.of he m1.2 m2.2
        rcases ih with ih | ⟨⟨a, ha, ca⟩, r⟩
        · exact .inl (c1.trans ih)
        · exact .inr ⟨⟨a, ha, c1.trans ca⟩, r⟩
      · have e : _ = s := List.mem_singleton.mp he
        rw [e] at m1 m2
        refine .inr ⟨⟨_, m1.2, .refl _⟩, ?_⟩
        rcases ih with ih | ⟨_, r⟩
        · exact ⟨_, m2.2, ih⟩
        · exact r
  · have sub : ∀ e ∈ T, e ∈ T ++ [s] := fun e he => List.mem_append_left _ he
    rintro (c | ⟨⟨a, ha, ca⟩, b, hb, cb⟩)
    · exact c.mono sub
    · exact ((ca.mono sub).trans (Cnn.of (List.mem_append_right _ (List.mem_singleton.mpr rfl)) ha hb)).trans (cb.mono sub)
open Classical in
noncomputable def bothL {β : Type} (goods : List β) (T : List (Sd β)) (s : Sd β) : List β := goods.filter fun y => (s.gv ++ s.tk).any fun o => decide (y ∈ comp goods T o)
open Classical in
theorem mem_bothL {β : Type} {goods : List β} {T : List (Sd β)} {s : Sd β} {y : β} : y ∈ bothL goods T s ↔ y ∈ goods ∧ ∃ o ∈ s.gv ++ s.tk, Cnn T o y := by
  unfold bothL
  rw [List.mem_filter, List.any_eq_true]
  constructor
  · rintro ⟨h, o, ho, e⟩
    exact ⟨h, o, ho, (mem_comp.mp (of_decide_eq_true e)).2⟩
  · rintro ⟨h, o, ho, c⟩
    exact ⟨h, o, ho, decide_eq_true (mem_comp.mpr ⟨h, c⟩)⟩
open Classical in
theorem comp_add {β : Type} {goods : List β} {T : List (Sd β)} {s : Sd β} {x : β} (hx : x ∈ goods) : comp goods (T ++ [s]) x = if x ∈ bothL goods T s then bothL goods T s else comp goods T x := by
  by_cases m : x ∈ bothL goods T s
  · rw [if_pos m]
    obtain ⟨_, o, ho, co⟩ := mem_bothL.mp m
    refine List.filter_congr fun y hy => ?_
    rw [Bool.eq_iff_iff, decide_eq_true_iff, List.any_eq_true, cnn_add]
    constructor
    · rintro (c | ⟨_, b, hb, cb⟩)
      · exact ⟨o, ho, decide_eq_true (mem_comp.mpr ⟨hy, co.trans c⟩)⟩
      · exact ⟨b, hb, decide_eq_true (mem_comp.mpr ⟨hy, cb⟩)⟩
    · rintro ⟨b, hb, e⟩
      exact .inr ⟨⟨o, ho, co.symm⟩, b, hb, (mem_comp.mp (of_decide_eq_true e)).2⟩
  · rw [if_neg m]
    refine List.filter_congr fun y hy => ?_
    refine decide_eq_decide.mpr ⟨fun c => ?_, fun c => cnn_add.mpr (.inl c)⟩
    rcases cnn_add.mp c with c | ⟨⟨a, ha, ca⟩, _⟩
    · exact c
    · exact absurd (mem_bothL.mpr ⟨hx, a, ha, ca.symm⟩) m
open Classical in
theorem comp_none {β : Type} {goods : List β} (nd : goods.Nodup) {x : β} (hx : x ∈ goods) : comp goods [] x = [x] := by
  have e1 : comp goods [] x = goods.filter fun y => decide (y = x) := by
    refine List.filter_congr fun y _ => ?_
    refine decide_eq_decide.mpr ⟨fun c => ?_, fun e => e ▸ .refl _⟩
    cases c with
    | refl => rfl
    | step _ h1 _ _ => exact (List.not_mem_nil h1.1).elim
  rw [e1]
  clear e1
  induction goods with
  | nil => cases hx
  | cons g gs ih =>
    have ⟨n1, n2⟩ := List.nodup_cons.mp nd
    by_cases e : g = x
    · subst e
      have e2 : (gs.filter fun y => decide (y = g)) = [] := List.filter_eq_nil_iff.mpr fun y hy q => n1 ((of_decide_eq_true q) ▸ hy)
      rw [List.filter_cons_of_pos (by simp), e2]
    · rw [List.filter_cons_of_neg (by simpa using e)]
      exact ih n2 ((List.mem_cons.mp hx).resolve_left fun q => e q.symm)
/-- the lots while the first j goods of both have theirs -/
noncomputable def lotJ (goods : List Str) (T : List (Sd Str)) (s : Sd Str) (j : Nat) (g : Str) : List Str := if g ∈ (bothL goods T s).take j then bothL goods T s else comp goods T g
theorem lotJ_in {goods : List Str} {T : List (Sd Str)} {s : Sd Str} {j : Nat} {g : Str} (h : g ∈ (bothL goods T s).take j) : lotJ goods T s j g = bothL goods T s := if_pos h
theorem lotJ_out {goods : List Str} {T : List (Sd Str)} {s : Sd Str} {j : Nat} {g : Str} (h : g ∉ (bothL goods T s).take j) : lotJ goods T s j g = comp goods T g := if_neg h
/-! ### dicts of goods -/
def dkL (goods : List Str) (m : Str → Addr) : List (Key × V) := goods.map fun g => (.inr g, .ref (m g))
theorem dkL_len {goods : List Str} {m : Str → Addr} : (dkL goods m).length = goods.length := List.length_map _
theorem dkL_get {m : Str → Addr} {g : Str} : ∀ {goods : List Str}, g ∈ goods → valV (dkL goods m) (.inr g) = some (.ref (m g))
  | y :: goods, h => by
    by_cases e : y = g
    · subst e
      exact valV_pos rfl
    · have h2 := (List.mem_cons.mp h).resolve_left fun q => e q.symm
      have n : ¬ (Sum.inr y : Key) = .inr g := fun q => e (Sum.inr.inj q)
      exact (valV_neg n).trans (dkL_get h2)
theorem dkL_any {m : Str → Addr} {g : Str} (goods : List Str) : ((dkL goods m).any fun kv => decide (kv.1 = .inr g)) = decide (g ∈ goods) := by
  rw [Bool.eq_iff_iff, List.any_eq_true, decide_eq_true_iff]
  constructor
  · rintro ⟨kv, h, e⟩
    obtain ⟨y, hy, rfl⟩ := List.mem_map.mp h
    have q : (Sum.inr y : Key) = .inr g := of_decide_eq_true e
    injection q with q2
    exact q2 ▸ hy
  · intro h
    exact ⟨_, List.mem_map_of_mem h, decide_eq_true rfl⟩
def mput (m : Str → Addr) (g : Str) (b : Addr) : Str → Addr := fun x => if x = g then b else m x
theorem dkL_put {m : Str → Addr} {g : Str} {b : Addr} {goods : List Str} (h : g ∈ goods) : putK (dkL goods m) (.inr g) (.ref b) = dkL goods (mput m g b) := by
  unfold putK
  rw [dkL_any, if_pos (decide_eq_true h)]
  unfold dkL
  rw [List.map_map]
  refine List.map_congr_left fun y _ => ?_
  show (if (Sum.inr y : Key) = .inr g then _ else _) = _
  by_cases e : y = g
  · subst e
    rw [if_pos rfl]
    show _ = (_, V.ref (if y = y then b else m y))
    rw [if_pos rfl]
  · rw [if_neg fun q => e (Sum.inr.inj q)]
    show _ = (_, V.ref (if y = g then b else m y))
    rw [if_neg e]
theorem dkL_new {m : Str → Addr} {g : Str} {b : Addr} {goods : List Str} (h : g ∉ goods) : putK (dkL goods m) (.inr g) (.ref b) = dkL (goods ++ [g]) (mput m g b) := by
  unfold putK
  rw [dkL_any, if_neg (by rw [decide_eq_true_iff]; exact h)]
  unfold dkL
  rw [List.map_append]
  congr 1
  · refine List.map_congr_left fun y hy => ?_
    show _ = (_, V.ref (if y = g then b else m y))
    rw [if_neg (fun q : y = g => h (q ▸ hy))]
  · show _ = [((Sum.inr g : Key), V.ref (if g = g then b else m g))]
    rw [if_pos rfl]
/-! ### comprehensions over lists of words, over lists of things -/
section
variable {K : PySem.W.Frag} {a D : Addr} {g : TG} {tt : TT} {te : TE} {vs : List Nat} {σ : L2.St} {H1 : Hp} {Qd : Hp → Prop}
theorem lcS {ws : List Str} (f : Str → V) (p : Str → Bool) (hD : H1 D = none) (hx : StrL H1 a ws) (hz : ws.length ≤ 1000)
    (turn : ∀ z H (Qy : VK) (Qn : Hp → Prop), z ∈ ws → Same H1 H → (p z = true → ∀ H2, Same H H2 → Qy (f z) H2) → (p z = false → ∀ H2, Same H H2 → Qn H2) →
      g (.str z) (wipe σ vs) H fun σ2 H2 => wipe σ2 vs = wipe σ vs ∧ tt σ2 H2 fun b H3 => if b = true then te σ2 H3 Qy else Qn H3)
    (fin : ∀ H, Same H1 H → H D = some (.lst ((ws.filter p).map f)) → Qd H) : LcDone (Itl K a) g tt te vs σ H1 D Qd := by
  refine lcA (walk_list (K := K) (a := a) (xs := ws.map V.str)) ws f p (by rw [List.length_map]) hD (by rw [List.length_map]; exact Nat.le_of_lt (small1000 hz)) (fun H s => SqL.of (s _ _ hx)) (fun i z x H H' Qy Qn hb s _ y hy hn => ?_) fin
  obtain ⟨rfl, ex⟩ := y
  rw [List.getElem?_map, hb] at ex
  obtain rfl : V.str z = x := Option.some.inj ex
  exact turn z _ Qy Qn (List.mem_of_getElem? hb) s hy hn
theorem lcR {α : Type} {R : Hp → Addr → α → Prop} {xs : List α} (f : α → V) (p : α → Bool) (hD : H1 D = none) (hx : LstOf R H1 a xs) (hz : xs.length ≤ 1000)
    (turn : ∀ i (hi : i < xs.length) b H (Qy : VK) (Qn : Hp → Prop), R H1 b xs[i] → Same H1 H → (p xs[i] = true → ∀ H2, Same H H2 → Qy (f xs[i]) H2) → (p xs[i] = false → ∀ H2, Same H H2 → Qn H2) →
      g (.ref b) (wipe σ vs) H fun σ2 H2 => wipe σ2 vs = wipe σ vs ∧ tt σ2 H2 fun b H3 => if b = true then te σ2 H3 Qy else Qn H3)
    (fin : ∀ H, Same H1 H → H D = some (.lst ((xs.filter p).map f)) → Qd H) : LcDone (Itl K a) g tt te vs σ H1 D Qd := by
  obtain ⟨as, h1, h2⟩ := hx
  have la := Paired.len h2
  refine lcA (walk_list (K := K) (a := a) (xs := as.map V.ref)) xs f p (by rw [List.length_map, la]) hD (by rw [List.length_map, la]; exact Nat.le_of_lt (small1000 hz)) (fun H s => SqL.of (s _ _ h1)) (fun i z x H H' Qy Qn hb s _ y hy hn => ?_) fin
  obtain ⟨rfl, ex⟩ := y
  rw [List.getElem?_map] at ex
  have hi : i < xs.length := (List.getElem?_eq_some_iff.mp hb).1
  have ez : xs[i] = z := (List.getElem?_eq_some_iff.mp hb).2
  subst ez
  cases ea : as[i]? with
  | none => rw [ea] at ex; cases ex
  | some b =>
    rw [ea] at ex
    obtain rfl : V.ref b = x := Option.some.inj ex
    obtain ⟨y, ey, r⟩ := Paired.get h2 ea
    rw [hb] at ey
    obtain rfl : xs[i] = y := Option.some.inj ey
    exact turn i hi b _ Qy Qn r s hy hn
end
theorem ifB {c : Bool} {A B : Prop} (h1 : c = true → A) (h2 : c = false → B) : if c = true then A else B := by
  cases c with
  | true => exact iteT (h1 rfl)
  | false => exact iteF (h2 rfl)
/-- a dict comprehension over any walk -/
theorem dc_of {J : It} {n : Nat} {G : Hp → Prop} {Y : Nat → Hp → V → Hp → Prop} {D : Addr} {g : TG} {tt : TT} {tk te : TE} {vs : List Nat} {σ : L2.St} {H1 : Hp} {Qd : Hp → Prop} (w : Walk J n G Y) (R : Nat → Hp → Prop) (first : R 0 (upd H1 D (.dK []))) (good : ∀ i Hx, i ≤ n → R i Hx → G Hx)
    (turn : ∀ i x Hx Hy, i < n → R i Hx → Y i Hx x Hy → g x (wipe σ vs) Hy fun σ2 H2 => wipe σ2 vs = wipe σ vs ∧ tt σ2 H2 fun c H3 => if c = true then tk σ2 H3 fun y H4 => te σ2 H4 fun z H5 =>
      ∃ kvs k, y = kV k ∧ H5 D = some (.dK kvs) ∧ kvs.length < sizeLine ∧ R (i + 1) (upd H5 D (.dK (putK kvs k z))) else R (i + 1) H3) (last : ∀ Hx, R n Hx → Qd Hx) :
    ∃ W : Nat → Nat → Hp → Prop, (∃ m, W 0 m (upd H1 D (.dK []))) ∧ ∀ i m Hx, W i m Hx →
      (J.stop i Hx ∧ Qd Hx) ∨ (J.go i Hx ∧ ∃ Nx : Hp → Prop, (∀ H', Nx H' → ∃ m', m' < m ∧ W (i + 1) m' H') ∧ ∀ x H', J.yld i Hx x H' → g x (wipe σ vs) H' fun σ2 H2 => wipe σ2 vs = wipe σ vs ∧ tt σ2 H2 fun c H3 =>
        if c = true then tk σ2 H3 fun y H4 => te σ2 H4 fun z H5 => ∃ kvs k, y = kV k ∧ H5 D = some (.dK kvs) ∧ kvs.length < sizeLine ∧ Nx (upd H5 D (.dK (putK kvs k z))) else Nx H3) := by
  refine ⟨fun i m Hx => (m = n - i ∧ i ≤ n) ∧ R i Hx, ⟨n, ⟨rfl, Nat.zero_le _⟩, first⟩, fun i m Hx hh => ?_⟩
  obtain ⟨⟨rfl, hle⟩, hR⟩ := hh
  have hg := good i Hx hle hR
  rcases Nat.lt_or_ge i n with lt | ge
  · exact .inr ⟨w.goes i Hx lt hg, R (i + 1), fun Hy hy => ⟨n - (i + 1), by omega, ⟨rfl, lt⟩, hy⟩, fun x Hy y => turn i x Hx Hy lt hR (w.yields i Hx x Hy lt hg y)⟩
  · obtain rfl : i = n := Nat.le_antisymm hle ge
    exact .inl ⟨w.stops Hx hg, last Hx hR⟩
theorem take_step {α : Type} {l : List α} {i : Nat} (hi : i < l.length) : l.take (i + 1) = l.take i ++ [l[i]] := by
  rw [List.take_add_one, List.getElem?_eq_getElem hi]
  rfl
theorem take_new {α : Type} {l : List α} (nd : l.Nodup) {i : Nat} (hi : i < l.length) : l[i] ∉ l.take i := fun m => by
  obtain ⟨j, hj, e⟩ := List.getElem_of_mem m
  rw [List.getElem_take] at e
  rw [List.length_take] at hj
  have q := (List.getElem_inj (h₀ := by omega) (h₁ := hi) nd).mp e
  omega
/-- which lot each good has -/
def DL (H : Hp) (d : Addr) (goods : List Str) (f : Str → List Str) : Prop := ∃ m, H d = some (.dK (dkL goods m)) ∧ ∀ g ∈ goods, StrL H (m g) (f g)
theorem StrL.mono {H H' : Hp} (s : Same H H') {l : Addr} {ws : List Str} (h : StrL H l ws) : StrL H' l ws := s _ _ h
/-- any of the marks -/
theorem any_map {α : Type} (l : List α) (q : α → Bool) : ((l.map q).any id) = l.any q := by
  rw [List.any_map]
  rfl
/-- a barter as the program splits it, as it stands -/
def SideAt (H : Hp) (a : Addr) (s : Sd Str) : Prop := ∃ ga ta : Addr, H a = some (.tup [.str s.nm, .ref ga, .ref ta]) ∧ StrL H ga s.gv ∧ StrL H ta s.tk
theorem SideAt.mono {H H' : Hp} (s : Same H H') {a : Addr} {b : Sd Str} (h : SideAt H a b) : SideAt H' a b := let ⟨ga, ta, h1, h2, h3⟩ := h; ⟨ga, ta, s _ _ h1, s _ _ h2, s _ _ h3⟩
theorem LstOf.mono {α : Type} {R : Hp → Addr → α → Prop} (m : ∀ {H H' : Hp} (_ : Same H H') {a b}, R H a b → R H' a b) {H H' : Hp} (s : Same H H') {l : Addr} {xs : List α} (h : LstOf R H l xs) : LstOf R H' l xs :=
  let ⟨as, h1, h2⟩ := h; ⟨as, s _ _ h1, Paired.imp h2 fun _ _ z => m s z⟩
def Szs (S : List (Sd Str)) : Prop := S.length ≤ 1000 ∧ ∀ s ∈ S, s.gv.length ≤ 1000 ∧ s.tk.length ≤ 1000
def spHanging : Sp := fun vs H Q _ => ∃ (a b : Addr) (goods : List Str) (S : List (Sd Str)), vs = [.ref a, .ref b] ∧ StrL H a goods ∧ LstOf SideAt H b S ∧ Wf goods S ∧ goods.length ≤ 1000 ∧ Szs S ∧
  ∀ H' l, Same H H' → H l = none → LstOf StrL H' l (hang goods S) → Q (.ref l) H'
section
variable {P : Program} {w : World} {K : PySem.W.Frag} {mg : Str → Option Value} {base : Heap} {f : Addr} {fd : FuncData}
theorem ok_hanging (F : Fun K "hanging" "hanging" s_hanging f fd) (T : Txt K mg) : FnOk P w K mg base CX0 1 f fd ["goods", "sides"] spHanging := by
  refine F.ok sc_hanging (fun vs H Q E h => ?_) (fun cdv A outer s H vs Q E hr h => ?_)
  · obtain ⟨a, b, goods, S, rfl, _⟩ := h
    rfl
  obtain ⟨a, b, goods, S, rfl, ha, hb, wf, gl, sz, q⟩ := h
  have hu := hu_of hr
  refine ⟨_, (pss_cons (ps_set (i := 3) sc_hanging.nd rfl (.inr rfl) (pe_dc (own := [("good", 2)]) (g := gName 2) (tt := tYes) rfl sc_hanging.nd (pi_list (pv 0)) (blkOk_by (own := [("good", 2)]) (N := ["goods", "sides", "good", "lots", "name", "given", "taken", "both", "found", "lot", "own"]) (by kernel_rfl)) (fun _ _ _ _ _ => (pg_name (i := 2) sc_hanging.nd rfl (by first | exact .inl rfl | exact .inr rfl))) (fun _ _ _ _ _ => pts_nil) (fun _ _ _ _ _ => (pv 2)) (fun _ _ _ _ _ => (pe_lst (pa_cons (pv 2) pa_nil)))))
  (pss_cons (ps_for PassesOwn.never rfl (pi_list (pv 1)) (pg_tup rfl (pgs_cons (pg_name (i := 4) sc_hanging.nd rfl (by first | exact .inl rfl | exact .inr rfl)) (pgs_cons (pg_name (i := 5) sc_hanging.nd rfl (by first | exact .inl rfl | exact .inr rfl)) (pgs_cons (pg_name (i := 6) sc_hanging.nd rfl (by first | exact .inl rfl | exact .inr rfl)) pgs_nil)))) (pss_cons (ps_setLc (i := 7) (own := [("good", 2)]) (g := gName 2) (tt := tB (tCB (rAny K) (tCons (tLc (iList K (tLst (StX.tStar K (tVar 5) (StX.tStar K (tVar 6) tNil)))) (gName 10) tYes (tOp (rIn K false) (tVar 2) (tDGet (tVar 3) (tVar 10))) [10]) tNil))) rfl sc_hanging.nd rfl rfl (sw_true rfl rfl rfl (by decide +kernel)) (pi_list (pv 0)) (blkOk_by (own := [("good", 2)]) (N := ["goods", "sides", "good", "lots", "name", "given", "taken", "both", "found", "lot", "own"]) (by kernel_rfl)) (fun _ _ _ _ _ => (pg_name (i := 2) sc_hanging.nd rfl (by first | exact .inl rfl | exact .inr rfl))) (fun _ _ _ _ _ => (pts_one (pt_val (pe_callB (r := rAny K) (cr_any rfl) (by rfl) T.b_any (by decide +kernel) (pa_cons (pe_lc (own := [("own", 10)]) (g := gName 10) (tt := tYes) rfl sc_hanging.nd (pi_list (pe_lst (StX.pa_star (pv 5) (StX.pa_star (pv 6) pa_nil)))) (blkOk_by (own := [("own", 10)]) (N := ["goods", "sides", "good", "lots", "name", "given", "taken", "both", "found", "lot", "own"]) (by kernel_rfl)) (fun _ _ _ _ _ => (pg_name (i := 10) sc_hanging.nd rfl (by first | exact .inl rfl | exact .inr rfl))) (fun _ _ _ _ _ => pts_nil) (fun _ _ _ _ _ => (pe_cmpR (r := rIn K false) op_in_seq (pv 2) (pe_dget hu (pv 3) (pv 10) (fun _ _ => rfl)) rfl))) pa_nil))))) (fun _ _ _ _ _ => (pv 2)))
  (pss_one (ps_for PassesOwn.never rfl (pi_list (pv 7)) (pg_name (i := 2) sc_hanging.nd rfl (by first | exact .inl rfl | exact .inr rfl)) (pss_one (ps_dput hu (pv 3) (pv 2) (pv 7) rfl))))))
  (pss_cons (ps_set (i := 8) sc_hanging.nd rfl (.inl rfl) (pe_lst pa_nil))
  (pss_cons (ps_for PassesOwn.never rfl (pi_list (pv 0)) (pg_name (i := 2) sc_hanging.nd rfl (by first | exact .inl rfl | exact .inr rfl)) (pss_one (ps_if (pt_not (pt_val (pe_callB (r := rAny K) (cr_any rfl) (by rfl) T.b_any (by decide +kernel) (pa_cons (pe_lc (own := [("lot", 9)]) (g := gName 9) (tt := tYes) rfl sc_hanging.nd (pi_list (pv 8)) (blkOk_by (own := [("lot", 9)]) (N := ["goods", "sides", "good", "lots", "name", "given", "taken", "both", "found", "lot", "own"]) (by kernel_rfl)) (fun _ _ _ _ _ => (pg_name (i := 9) sc_hanging.nd rfl (by first | exact .inl rfl | exact .inr rfl))) (fun _ _ _ _ _ => pts_nil) (fun _ _ _ _ _ => (pe_cmpR (r := rIn K false) op_in_seq (pv 2) (pv 9) rfl))) pa_nil)))) (pss_one (ps_expr (pe_bm PySem.F.plainAttrs_list PySem.F.slot_list_append PySem.F.type_list_append mt_append (pv 8) (pa_cons (pe_dget hu (pv 3) (pv 2) (fun _ _ => rfl)) pa_nil)))) pss_nil)))
  (pss_one (ps_ret (pv 8))))))), ?_⟩
  refine ⟨_, rfl, a, rfl, ⟨_, SqL.of ha⟩, fun d hd => ?_⟩
  refine dc_of (walk_list (K := K) (a := a) (xs := goods.map V.str)) (fun i Hx => Same H Hx ∧ DL Hx d (goods.take i) fun g => [g]) ⟨Same.new hd _, fun _ => d, upd_same, fun _ z => nomatch z⟩ (fun i Hx _ z => SqL.of (z.1 _ _ ha)) ?_ ?_
  · rintro i x H0 H2 hi ⟨s2, m, e2, l2⟩ ⟨rfl, ex⟩
    have hi' : i < goods.length := by rw [List.length_map] at hi; exact hi
    rw [List.getElem?_map, List.getElem?_eq_getElem hi'] at ex
    obtain rfl : V.str goods[i] = x := Option.some.inj ex
    refine ⟨rfl, yes ⟨_, rfl, _, rfl, (by show 1 ≤ sizeLine; decide), fun p hp => ?_⟩⟩
    have e3 := at_new (u := .lst [.str goods[i]]) e2 hp
    have pd : p ≠ d := (ne_of_none e2 hp).symm
    refine ⟨_, .inr goods[i], rfl, e3, ?_, Same.laid hd (s2.trans (Same.new hp _)), mput m goods[i] p, ?_, fun g hg => ?_⟩
    · rw [dkL_len, List.length_take]
      refine small1000 ?_
      omega
    · rw [upd_same, dkL_new (take_new wf.nd hi'), take_step hi']
    · show upd _ _ _ (if g = goods[i] then p else m g) = _
      by_cases eg : g = goods[i]
      · rw [if_pos eg, upd_ne pd, upd_same, eg]
        rfl
      · rw [if_neg eg]
        rw [take_step hi'] at hg
        have hg2 := (List.mem_append.mp hg).resolve_right fun z => eg (List.mem_singleton.mp z)
        have l3 : upd H2 p (.lst [.str goods[i]]) (m g) = some (.lst ([g].map V.str)) := at_new (l2 g hg2) hp
        rw [upd_ne (ne_of l3 e3 (by intro z; cases z))]
        exact l3
  rintro H2 ⟨s2, dl2⟩
  have tk : goods.take (goods.map V.str).length = goods := List.take_of_length_le (by rw [List.length_map]; exact Nat.le_refl _)
  rw [tk] at dl2
  have hb' := hb
  obtain ⟨as, hb1, hb2⟩ := hb
  refine ⟨_, rfl, b, rfl, ⟨_, SqL.of (s2 _ _ hb1)⟩, ?_⟩
  refine for_it walk_list (fun i σ Hx => ∃ y2 y4 y5 y6 y7, σ = [some (.ref a), some (.ref b), y2, some (.ref d), y4, y5, y6, y7, none, none, none] ∧ Same H Hx ∧ DL Hx d goods (comp goods (S.take i)))
    ⟨none, none, none, none, none, rfl, s2, ?_⟩ (fun i σ Hx _ ⟨_, _, _, _, _, _, z, _⟩ => SqL.of (z _ _ hb1)) ?_ ?_
  · obtain ⟨m, e, l⟩ := dl2
    exact ⟨m, e, fun g hg => by rw [List.take_zero, comp_none wf.nd hg]; exact l g hg⟩
  · rintro i x σ H0 H3 hi ⟨y2, y4, y5, y6, y7, rfl, s3, m, em, lm⟩ ⟨rfl, ex⟩
    have hi' : i < as.length := by rw [List.length_map] at hi; exact hi
    rw [List.getElem?_map, List.getElem?_eq_getElem hi'] at ex
    obtain rfl : V.ref as[i] = x := Option.some.inj ex
    obtain ⟨c, ec, hc⟩ := Paired.get hb2 (List.getElem?_eq_getElem hi')
    have hib : i < S.length := by rw [← Paired.len hb2]; exact hi'
    have mc := List.mem_of_getElem? ec
    have stp : S.take (i + 1) = S.take i ++ [c] := by rw [List.take_add_one, ec]; rfl
    obtain ⟨ga, ta, g1, g2, g3⟩ := hc.mono s3
    have own : ∀ o ∈ c.gv ++ c.tk, o ∈ goods := fun o ho => (List.mem_append.mp ho).elim (wf.gs c mc o) (wf.ts c mc o)
    have ln : (c.gv ++ c.tk).length ≤ 2000 := by
      have := sz.2 c mc
      rw [List.length_append]
      omega
    have els : c.gv.map V.str ++ (c.tk.map V.str ++ []) = (c.gv ++ c.tk).map V.str := by rw [List.append_nil, List.map_append]
    refine ⟨as[i], _, rfl, SqT.of g1, rfl, _, _, rfl, _, _, rfl, _, _, rfl, rfl, ?_⟩
    refine ⟨_, rfl, a, rfl, ⟨_, SqL.of (s3 _ _ ha)⟩, fun bl hbl => ?_⟩
    classical
    refine lcS V.str (fun y => (c.gv ++ c.tk).any fun o => decide (y ∈ comp goods (S.take i) o)) hbl (s3 _ _ ha) gl (fun y H4 Qy Qn hy s4 ky kn => ?_) fun H4 s4 e4 => ?_
    · refine ⟨rfl, _, rfl, ga, _, rfl, .inr (SqL.of (s4 _ _ g2)), _, rfl, ta, _, rfl, .inr (SqL.of (s4 _ _ g3)), ?_, fun p hp => ⟨p, rfl, ⟨_, SqL.of upd_same⟩, fun D2 hD2 => ?_⟩⟩
      · rw [els, List.length_map]
        exact Nat.le_trans ln (by decide)
      have s5 := Same.new hp (.lst (c.gv.map V.str ++ (c.tk.map V.str ++ [])))
      have s6 := s4.trans s5
      refine lcA (walk_list (K := K) (a := p) (xs := (c.gv ++ c.tk).map V.str)) (c.gv ++ c.tk) (fun o => .bl (decide (y ∈ comp goods (S.take i) o))) (fun _ => true) (by rw [List.length_map]) hD2 (by rw [List.length_map]; exact Nat.le_trans ln (by decide))
        (fun Hx s => SqL.of (s _ _ (by rw [upd_same, els]))) (fun j o x H5 H6 Qy' Qn' hb5 s7 _ y5 ky' _ => ?_) fun H5 s7 e7 => ?_
      · obtain ⟨rfl, ex⟩ := y5
        rw [List.getElem?_map, hb5] at ex
        obtain rfl : V.str o = x := Option.some.inj ex
        have mo := own o (List.mem_of_getElem? hb5)
        have s8 := s6.trans s7
        refine ⟨rfl, yes ⟨_, rfl, _, rfl, _, rfl, d, .ref (m o), rfl, .inl ⟨_, .inr o, .inl (s8 _ _ em), rfl, (dkL_get mo).symm⟩, m o, _, rfl, .inl (SqL.of (s8 _ _ (lm o mo))), rfl, flat_str _, ?_⟩⟩
        rw [if_neg Bool.false_ne_true, inV_str]
        refine blE (Q := Qy') ?_ (ky' rfl _ (Same.refl _))
        congr 1
      · rw [all_yes] at e7
        refine ⟨D2, (c.gv ++ c.tk).map (fun o => decide (y ∈ comp goods (S.take i) o)), rfl, SqL.of (by rw [e7, List.map_map]; rfl), _, rfl, ?_⟩
        rw [any_map]
        exact ifB (fun t => ⟨_, rfl, ky t _ (s5.trans s7)⟩) fun t => kn t _ (s5.trans s7)
    have e4 : StrL H4 bl (bothL goods (S.take i) c) := by
      show H4 bl = _
      rw [e4]
      congr 3
      refine List.filter_congr fun y _ => ?_
      congr 1
      funext o
      congr 1
    have bs : ∀ g ∈ bothL goods (S.take i) c, g ∈ goods := fun g hg => (mem_bothL.mp hg).1
    refine ⟨_, rfl, bl, rfl, ⟨_, SqL.of e4⟩, ?_⟩
    have bd : bl ≠ d := (ne_of_none em hbl).symm
    have fin : ∀ Hx, DL Hx d goods (lotJ goods (S.take i) c (bothL goods (S.take i) c).length) → DL Hx d goods (comp goods (S.take (i + 1))) := fun Hx ⟨m, e, l⟩ => by
      refine ⟨m, e, fun g hg => ?_⟩
      have q : Hx (m g) = some (.lst ((lotJ goods (S.take i) c (bothL goods (S.take i) c).length g).map V.str)) := l g hg
      have te : (bothL goods (S.take i) c).take (bothL goods (S.take i) c).length = bothL goods (S.take i) c := List.take_of_length_le (Nat.le_refl _)
      show Hx (m g) = _
      rw [stp, comp_add hg, q]
      by_cases mg : g ∈ bothL goods (S.take i) c
      · rw [if_pos mg, lotJ_in (by rw [te]; exact mg)]
      · rw [if_neg mg, lotJ_out (by rw [te]; exact mg)]
    refine for_it walk_list (fun j σ Hx => ∃ y2 y4 y5 y6, σ = [some (.ref a), some (.ref b), y2, some (.ref d), y4, y5, y6, some (.ref bl), none, none, none] ∧ Same H Hx ∧ StrL Hx bl (bothL goods (S.take i) c) ∧ DL Hx d goods (lotJ goods (S.take i) c j))
      ⟨_, _, _, _, rfl, s3.trans s4, e4, m, s4 _ _ em, fun g hg => ?_⟩ (fun i σ Hx _ ⟨_, _, _, _, _, _, z, _⟩ => SqL.of z) ?_ ?_
    · rw [lotJ_out (by rw [List.take_zero]; exact List.not_mem_nil)]
      exact s4 _ _ (lm g hg)
    · rintro j x σ H0 H5 hj ⟨z2, z4, z5, z6, rfl, s5, eb5, m5, em5, lm5⟩ ⟨rfl, ex⟩
      have hj' : j < (bothL goods (S.take i) c).length := by rw [List.length_map] at hj; exact hj
      rw [List.getElem?_map, List.getElem?_eq_getElem hj'] at ex
      obtain rfl : V.str (bothL goods (S.take i) c)[j] = x := Option.some.inj ex
      have mj := bs _ (List.getElem_mem hj')
      refine ⟨_, rfl, _, rfl, _, rfl, d, _, rfl, DPut.k (k := .inr _) em5 (by rw [dkL_len]; exact small1000 gl), ?_⟩
      refine ⟨_, _, _, _, rfl, Same.laid hd s5, ?_, mput m5 (bothL goods (S.take i) c)[j] bl, by rw [upd_same, dkL_put mj], fun g hg => ?_⟩
      · show upd _ _ _ _ = _
        rw [upd_ne bd]
        exact eb5
      · show upd _ _ _ (if g = (bothL goods (S.take i) c)[j] then bl else m5 g) = _
        by_cases eg : g = (bothL goods (S.take i) c)[j]
        · rw [if_pos eg, upd_ne bd, eb5, lotJ_in (by rw [take_step hj']; exact List.mem_append_right _ (List.mem_singleton.mpr eg))]
        · have l5 := lm5 g hg
          rw [if_neg eg, upd_ne (ne_of l5 em5 (by intro z; cases z)), l5]
          have iff : g ∈ (bothL goods (S.take i) c).take j ↔ g ∈ (bothL goods (S.take i) c).take (j + 1) := by
            rw [take_step hj']
            exact ⟨List.mem_append_left _, fun z => (List.mem_append.mp z).resolve_right fun q => eg (List.mem_singleton.mp q)⟩
          by_cases mg : g ∈ (bothL goods (S.take i) c).take j
          · rw [lotJ_in mg, lotJ_in (iff.mp mg)]
          · rw [lotJ_out mg, lotJ_out fun z => mg (iff.mpr z)]
    · rintro σ H5 ⟨z2, z4, z5, z6, rfl, s5, _, dl⟩
      exact ⟨_, _, _, _, _, rfl, s5, fin _ (by rw [List.length_map] at dl; exact dl)⟩
  · rintro σ H3 ⟨y2, y4, y5, y6, y7, rfl, s3, dl3⟩
    have tS : S.take (as.map V.ref).length = S := List.take_of_length_le (by rw [List.length_map, Paired.len hb2]; exact Nat.le_refl _)
    rw [tS] at dl3
    refine ⟨(by show 0 ≤ sizeLine; decide), fun fl hfl => ?_⟩
    have fl0 : H fl = none := s3.free hfl
    have sF : Same H3 (upd H3 fl (.lst [])) := Same.new hfl _
    obtain ⟨m, em, lm⟩ := dl3
    refine ⟨_, rfl, a, rfl, ⟨_, SqL.of (sF _ _ (s3 _ _ ha))⟩, ?_⟩
    refine for_it walk_list (fun i σ Hx => ∃ y2, σ = [some (.ref a), some (.ref b), y2, some (.ref d), y4, y5, y6, y7, some (.ref fl), none, none] ∧ Same H3 Hx ∧ ∃ as2, Hx fl = some (.lst (as2.map V.ref)) ∧ Paired (StrL H3) as2 ((goods.take i).foldl (hangStep goods S) []) ∧ as2.length ≤ i)
      ⟨_, rfl, sF, [], upd_same, .nil, Nat.le_refl _⟩ (fun i σ Hx _ ⟨_, _, z, _⟩ => SqL.of (z _ _ (s3 _ _ ha))) ?_ ?_
    · rintro i x σ H0 H4 hi ⟨y2, rfl, s4, as2, e4, p4, l4⟩ ⟨rfl, ex⟩
      have hi' : i < goods.length := by rw [List.length_map] at hi; exact hi
      rw [List.getElem?_map, List.getElem?_eq_getElem hi'] at ex
      obtain rfl : V.str goods[i] = x := Option.some.inj ex
      have mg : goods[i] ∈ goods := List.getElem_mem hi'
      have stp : (goods.take (i + 1)).foldl (hangStep goods S) [] = hangStep goods S ((goods.take i).foldl (hangStep goods S) []) goods[i] := by
        rw [take_step hi', List.foldl_append]
        rfl
      refine ⟨_, rfl, fl, rfl, ⟨_, SqL.of e4⟩, fun D hD => ?_⟩
      refine lcR (R := StrL) (xs := (goods.take i).foldl (hangStep goods S) []) (fun l => .bl (decide (goods[i] ∈ l))) (fun _ => true) hD ⟨as2, e4, Paired.imp p4 fun _ _ z => s4 _ _ z⟩ (by rw [← Paired.len p4]; omega) (fun j hj r H5 Qy Qn hr5 s5 ky _ => ?_) fun H5 s5 e5 => ?_
      · refine ⟨rfl, yes ⟨_, rfl, _, rfl, r, _, rfl, .inl (SqL.of (s5 _ _ hr5)), rfl, flat_str _, ?_⟩⟩
        rw [if_neg Bool.false_ne_true, inV_str]
        exact ky rfl _ (Same.refl _)
      · rw [all_yes] at e5
        refine ⟨D, ((goods.take i).foldl (hangStep goods S) []).map (fun l => decide (goods[i] ∈ l)), rfl, SqL.of (by rw [e5, List.map_map]; rfl), _, rfl, ?_⟩
        rw [any_map]
        have s6 := s4.trans s5
        have e6 := s5 _ _ e4
        cases t : (((goods.take i).foldl (hangStep goods S) []).any fun l => decide (goods[i] ∈ l)) with
        | true =>
          have ex : ∃ l ∈ (goods.take i).foldl (hangStep goods S) [], goods[i] ∈ l := by
            obtain ⟨l, h1, h2⟩ := List.any_eq_true.mp t
            exact ⟨l, h1, of_decide_eq_true h2⟩
          refine ⟨_, rfl, s6, as2, e6, ?_, Nat.le_succ_of_le l4⟩
          rw [stp, hangStep, if_pos ex]
          exact p4
        | false =>
          have ex : ¬ ∃ l ∈ (goods.take i).foldl (hangStep goods S) [], goods[i] ∈ l := by
            rintro ⟨l, h1, h2⟩
            have q := List.any_eq_false.mp t l h1
            exact q (decide_eq_true h2)
          refine ⟨_, rfl, .inl ⟨rfl, _, SqL.of e6⟩, _, rfl, _, rfl, d, .ref (m goods[i]), rfl, .inl ⟨_, .inr goods[i], .inl (s6 _ _ em), rfl, (dkL_get mg).symm⟩, fl, _, _, rfl, rfl, e6, ?_, ?_⟩
          · rw [List.length_map]
            exact small1000 (by omega)
          · refine ⟨_, rfl, Same.laid hfl s6, as2 ++ [m goods[i]], by rw [upd_same, List.map_append]; rfl, ?_, ?_⟩
            · rw [stp, hangStep, if_neg ex]
              exact Paired.app p4 (.cons (lm _ mg) .nil)
            · rw [List.length_append]
              exact Nat.succ_le_succ l4
    · rintro σ H4 ⟨y2, rfl, s4, as2, e4, p4, _⟩
      rw [tk] at p4
      exact ⟨_, rfl, q _ _ (s3.trans s4) fl0 ⟨as2, e4, Paired.imp p4 fun _ _ z => s4 _ _ z⟩⟩
end
end K16
namespace K16
open PySem PySem.Spec PyProof.Rows L2 RZ
theorem joined_step {L : List (List Str)} (sm : List Str) {i : Nat} (hi : i < L.length) : joined (L.take (i + 1)) sm = joined (L.take i) sm ++ (if (sm.any fun o => decide (o ∈ L[i])) = true then L[i] else []) := by
  unfold joined
  rw [take_step hi, List.filter_append, List.flatten_append]
  congr 1
  by_cases h : (sm.any fun o => decide (o ∈ L[i])) = true
  · rw [if_pos h, List.filter_cons_of_pos (p := fun l => sm.any fun o => decide (o ∈ l)) h]
    simp
  · rw [if_neg h, List.filter_cons_of_neg (p := fun l => sm.any fun o => decide (o ∈ l)) h]
    simp
theorem flat_len {α : Type} {L : List (List α)} {i : Nat} (hi : i < L.length) : (L.take i).flatten.length + L[i].length ≤ L.flatten.length := by
  have e : L = L.take i ++ L[i] :: L.drop (i + 1) := by
    rw [← List.drop_eq_getElem_cons hi, List.take_append_drop]
  have e2 : L.flatten.length = (L.take i ++ L[i] :: L.drop (i + 1)).flatten.length := congrArg (fun z => z.flatten.length) e
  rw [e2, List.flatten_append, List.flatten_cons, List.length_append, List.length_append]
  omega
theorem joined_len (sm : List Str) : ∀ L : List (List Str), (joined L sm).length ≤ L.flatten.length
  | [] => Nat.le_refl _
  | l :: L => by
    have ih := joined_len sm L
    unfold joined at ih ⊢
    rw [List.flatten_cons, List.length_append]
    by_cases h : (sm.any fun o => decide (o ∈ l)) = true
    · rw [List.filter_cons_of_pos (p := fun l => sm.any fun o => decide (o ∈ l)) h, List.flatten_cons, List.length_append]
      omega
    · rw [List.filter_cons_of_neg (p := fun l => sm.any fun o => decide (o ∈ l)) h]
      omega
def spJoined : Sp := fun vs H Q _ => ∃ (a b : Addr) (L : List (List Str)) (sm : List Str), vs = [.ref a, .ref b] ∧ LstOf StrL H a L ∧ StrL H b sm ∧ sm.length ≤ 1000 ∧ L.flatten.length ≤ 1000 ∧
  ∀ H' l, Same H H' → H l = none → StrL H' l (joined L sm) → Q (.ref l) H'
section
variable {P : Program} {w : World} {K : PySem.W.Frag} {mg : Str → Option Value} {base : Heap} {f : Addr} {fd : FuncData}
theorem ok_joined_lots (F : Fun K "joined_lots" "joined_lots" s_joined_lots f fd) (T : Txt K mg) : FnOk P w K mg base CX0 1 f fd ["lots", "some"] spJoined := by
  refine F.ok sc_joined_lots (fun vs H Q E h => ?_) (fun cdv A outer s H vs Q E hr h => ?_)
  · obtain ⟨a, b, L, sm, rfl, _⟩ := h
    rfl
  obtain ⟨a, b, L, sm, rfl, ⟨as, ha, hp⟩, hb, sl, fl, q⟩ := h
  refine ⟨_, (pss_one (ps_ret (pe_lc2 (own := [("lot", 2), ("good", 3)]) (vs1 := [3]) (g := gName 2) (wi1 := iList K (tVar 2)) (g1 := gName 3) (tt := tB (tCB (rAny K) (tCons (tLc (iList K (tVar 1)) (gName 4) tYes (tOp (rIn K false) (tVar 4) (tVar 2)) [4]) tNil))) (tt1 := tYes) rfl sc_joined_lots.nd (pi_list (pv 0)) (blkOk_by (own := [("lot", 2), ("good", 3)]) (N := ["lots", "some", "lot", "good", "own"]) (by kernel_rfl)) (by decide) (fun _ _ _ _ _ => (pg_name (i := 2) sc_joined_lots.nd rfl (by first | exact .inl rfl | exact .inr rfl))) (fun _ _ _ _ _ => (pts_one (pt_val (pe_callB (r := rAny K) (cr_any rfl) (by rfl) T.b_any (by decide +kernel) (pa_cons (pe_lc (own := [("own", 4)]) (g := gName 4) (tt := tYes) rfl sc_joined_lots.nd (pi_list (pv 1)) (blkOk_by (own := [("own", 4)]) (N := ["lots", "some", "lot", "good", "own"]) (by kernel_rfl)) (fun _ _ _ _ _ => (pg_name (i := 4) sc_joined_lots.nd rfl (by first | exact .inl rfl | exact .inr rfl))) (fun _ _ _ _ _ => pts_nil) (fun _ _ _ _ _ => (pe_cmpR (r := rIn K false) op_in_seq (pv 4) (pv 2) rfl))) pa_nil))))) (fun _ _ _ _ _ => (pi_list (pv 2))) (fun _ _ _ _ _ => (pg_name (i := 3) sc_joined_lots.nd rfl (by first | exact .inl rfl | exact .inr rfl))) (fun _ _ _ _ _ => pts_nil) (fun _ _ _ _ _ => (pv 3))))), ?_⟩
  have la := Paired.len hp
  refine ⟨_, rfl, a, rfl, ⟨_, SqL.of ha⟩, fun D hD => ?_⟩
  have W0 := walk_list (K := K) (a := a) (xs := as.map V.ref)
  refine ⟨fun i m Hx => m = L.length - i ∧ i ≤ L.length ∧ Same H Hx ∧ Hx D = some (.lst ((joined (L.take i) sm).map V.str)), ⟨_, rfl, Nat.zero_le _, Same.new hD _, upd_same⟩, ?_⟩
  rintro i m H1 ⟨rfl, hi, s1, e1⟩
  have q1 : SqL K H1 a (as.map V.ref) := SqL.of (s1 _ _ ha)
  by_cases lt : i < L.length
  · have lt' : i < (as.map V.ref).length := by rw [List.length_map, la]; exact lt
    have lt2 : i < as.length := by rw [la]; exact lt
    refine .inr ⟨W0.goes i H1 lt' q1, fun H2 => Same H H2 ∧ H2 D = some (.lst ((joined (L.take (i + 1)) sm).map V.str)), fun H2 h2 => ⟨L.length - (i + 1), by omega, rfl, lt, h2⟩, fun x H2 y => ?_⟩
    obtain ⟨eH, ex⟩ := W0.yields i H1 x H2 lt' q1 y
    subst eH
    rw [List.getElem?_map, List.getElem?_eq_getElem lt2] at ex
    obtain rfl : V.ref as[i] = x := Option.some.inj ex
    obtain ⟨l, el, hl⟩ := Paired.get hp (List.getElem?_eq_getElem lt2)
    rw [List.getElem?_eq_getElem lt] at el
    obtain rfl : L[i] = l := Option.some.inj el
    have hl2 := s1 _ _ hl
    refine ⟨rfl, _, rfl, b, rfl, ⟨_, SqL.of (s1 _ _ hb)⟩, fun D2 hD2 => ?_⟩
    refine lcS (fun o => .bl (decide (o ∈ L[i]))) (fun _ => true) hD2 (s1 _ _ hb) sl (fun z H3 Qy Qn _ s3 ky _ => ?_) fun H3 s3 e3 => ?_
    · refine ⟨rfl, yes ⟨_, rfl, _, rfl, as[i], _, rfl, .inl (SqL.of (s3 _ _ hl2)), rfl, flat_str _, ?_⟩⟩
      rw [if_neg Bool.false_ne_true, inV_str]
      exact ky rfl _ (Same.refl _)
    · rw [all_yes] at e3
      have s4 := s1.trans s3
      have e4 := s3 _ _ e1
      refine ⟨D2, sm.map (fun o => decide (o ∈ L[i])), rfl, SqL.of (by rw [e3, List.map_map]; rfl), _, rfl, ?_⟩
      rw [any_map]
      have stp := joined_step sm lt
      have fl2 := flat_len lt
      have jl := joined_len sm (L.take i)
      refine ifB (fun t => ?_) fun t => ⟨s4, ?_⟩
      · rw [if_pos t] at stp
        have W1 := walk_list (K := K) (a := as[i]) (xs := L[i].map V.str)
        have ql : ∀ {Hx}, Same H Hx → SqL K Hx as[i] (L[i].map V.str) := fun s => SqL.of (s _ _ hl)
        refine ⟨_, rfl, as[i], rfl, ⟨_, ql s4⟩, fun j k Hx => k = L[i].length - j ∧ j ≤ L[i].length ∧ Same H Hx ∧ Hx D = some (.lst ((joined (L.take i) sm ++ L[i].take j).map V.str)), ⟨_, rfl, Nat.zero_le _, s4, by rw [List.take_zero, List.append_nil]; exact e4⟩, ?_⟩
        rintro j k H5 ⟨rfl, hj, s5, e5⟩
        by_cases ltj : j < L[i].length
        · have ltj' : j < (L[i].map V.str).length := by rw [List.length_map]; exact ltj
          refine .inr ⟨W1.goes j H5 ltj' (ql s5), fun H6 => Same H H6 ∧ H6 D = some (.lst ((joined (L.take i) sm ++ L[i].take (j + 1)).map V.str)), fun H6 h6 => ⟨L[i].length - (j + 1), by omega, rfl, ltj, h6⟩, fun x H6 y => ?_⟩
          obtain ⟨eH, ex⟩ := W1.yields j H5 x H6 ltj' (ql s5) y
          subst eH
          rw [List.getElem?_map, List.getElem?_eq_getElem ltj] at ex
          obtain rfl : V.str L[i][j] = x := Option.some.inj ex
          refine ⟨rfl, yes ⟨_, rfl, _, e5, ?_, Same.laid hD s5, ?_⟩⟩
          · rw [List.length_map, List.length_append, List.length_take]
            refine small1000 ?_
            omega
          · have e : (joined (L.take i) sm ++ L[i].take (j + 1)).map V.str = (joined (L.take i) sm ++ L[i].take j).map V.str ++ [V.str L[i][j]] := by
              rw [take_step ltj, ← List.append_assoc, List.map_append]
              rfl
            rw [upd_same, e]
        · obtain rfl : j = L[i].length := by omega
          have z := W1.stops H5 (ql s5)
          rw [List.length_map] at z
          refine .inl ⟨z, s5, ?_⟩
          rw [List.take_of_length_le (Nat.le_refl _)] at e5
          rw [stp]
          exact e5
      · rw [if_neg (by rw [t]; exact Bool.false_ne_true), List.append_nil] at stp
        rw [stp]
        exact e4
  · obtain rfl : i = L.length := by omega
    refine .inl ⟨by have z := W0.stops H1 q1; rw [List.length_map, la] at z; exact z, ?_⟩
    rw [List.take_of_length_le (Nat.le_refl _)] at e1
    exact q _ _ s1 hD e1
end
end K16
namespace K16
open PySem PySem.Spec PyProof.Rows L2 RZ
/-- the things of a list for which p holds -/
theorem kept_of {α : Type} {R : Addr → α → Prop} (p : α → Bool) : ∀ {as : List Addr} {xs : List α}, Paired R as xs → Paired R (((as.zip xs).filter fun z => p z.2).map Prod.fst) (xs.filter p)
  | _, _, .nil => .nil
  | _, _, .cons (a := a) (b := b) r t => by
    have ih := kept_of p t
    rw [List.zip_cons_cons]
    by_cases h : p b = true
    · rw [List.filter_cons_of_pos (p := fun z : Addr × α => p z.2) h, List.filter_cons_of_pos h]
      exact .cons r ih
    · rw [List.filter_cons_of_neg (p := fun z : Addr × α => p z.2) h, List.filter_cons_of_neg h]
      exact ih
section
variable {K : PySem.W.Frag} {a D : Addr} {g : TG} {tt : TT} {te : TE} {vs : List Nat} {σ : L2.St} {H1 : Hp} {Qd : Hp → Prop}
theorem lcF {α : Type} {R : Hp → Addr → α → Prop} {xs : List α} (p : α → Bool) (hD : H1 D = none) (hx : LstOf R H1 a xs) (hz : xs.length ≤ 1000)
    (turn : ∀ b x H (Qy : VK) (Qn : Hp → Prop), x ∈ xs → R H1 b x → Same H1 H → (p x = true → ∀ H2, Same H H2 → Qy (.ref b) H2) → (p x = false → ∀ H2, Same H H2 → Qn H2) →
      g (.ref b) (wipe σ vs) H fun σ2 H2 => wipe σ2 vs = wipe σ vs ∧ tt σ2 H2 fun b H3 => if b = true then te σ2 H3 Qy else Qn H3)
    (fin : ∀ H, Same H1 H → (∃ as : List Addr, H D = some (.lst (as.map V.ref)) ∧ Paired (R H1) as (xs.filter p)) → Qd H) : LcDone (Itl K a) g tt te vs σ H1 D Qd := by
  obtain ⟨as, h1, h2⟩ := hx
  have la := Paired.len h2
  refine lcA (walk_list (K := K) (a := a) (xs := as.map V.ref)) (as.zip xs) (fun z => .ref z.1) (fun z => p z.2) (by rw [List.length_map, List.length_zip, la, Nat.min_self]) hD (by rw [List.length_map, la]; exact Nat.le_of_lt (small1000 hz)) (fun H s => SqL.of (s _ _ h1)) (fun i z x H H' Qy Qn hb s _ y hy hn => ?_) fun H s e => ?_
  · obtain ⟨rfl, ex⟩ := y
    obtain ⟨e1, e2⟩ := List.getElem?_zip_eq_some.mp hb
    rw [List.getElem?_map, e1] at ex
    obtain rfl : V.ref z.1 = x := Option.some.inj ex
    obtain ⟨y, ey, r⟩ := Paired.get h2 e1
    rw [e2] at ey
    obtain rfl : z.2 = y := Option.some.inj ey
    exact turn z.1 z.2 _ Qy Qn (List.mem_of_getElem? e2) r s hy hn
  · exact fin H s ⟨_, by rw [e, List.map_map]; rfl, kept_of p h2⟩
end
theorem Szs.sub {S T : List (Sd Str)} (h : Szs S) (s : T.Sublist S) : Szs T := ⟨Nat.le_trans s.length_le h.1, fun x hx => h.2 x (s.subset hx)⟩
theorem heads_is (S : List (Sd Str)) (l : List Str) (w : ∀ e ∈ S, e.gv ≠ []) : heads S l = S.filter fun e => decide (e.gv.getD 0 Str.empty ∈ l) := by
  refine List.filter_congr fun e he => ?_
  cases eg : e.gv with
  | nil => exact absurd eg (w e he)
  | cons x r => rfl
def spLot (n : Nat) : Sp := fun vs H Q _ => ∃ (a b : Addr) (G : List Str) (S : List (Sd Str)), vs = [.ref a, .ref b] ∧ StrL H a G ∧ LstOf SideAt H b S ∧ Wf G S ∧ G.length ≤ n ∧ G ≠ [] ∧ G.length ≤ 1000 ∧ Szs S ∧ (∀ x ∈ G, ∀ y ∈ G, Cnn S x y) ∧
  ∀ v H', Same H H' → (v = .non ↔ ¬ Good G S) → Q v H'
def spSplit (n : Nat) : Sp := fun vs H Q _ => ∃ (a b : Addr) (G : List Str) (S : List (Sd Str)), vs = [.ref a, .ref b] ∧ StrL H a G ∧ LstOf SideAt H b S ∧ Wf G S ∧ G.length ≤ n ∧ G ≠ [] ∧ G.length ≤ 1000 ∧ Szs S ∧
  ∀ v H', Same H H' → (v = .non ↔ ¬ Good G S) → Q v H'
section
variable {P : Program} {w : World} {K : PySem.W.Frag} {mg : Str → Option Value} {base : Heap} {f : Addr} {fd : FuncData} {n k : Nat}
theorem ok_split_tree (F : Fun K "split_tree" "split_tree" s_split_tree f fd) (T : Txt K mg) (hk : 1 ≤ k) (F_hanging : Has P w K mg base 1 "hanging" spHanging) (F_lot_tree : Has P w K mg base k "lot_tree" (spLot n)) :
    FnOk P w K mg base CX0 (k + 1) f fd ["goods", "sides"] (spSplit n) := by
  refine F.ok sc_split_tree (fun vs H Q E h => ?_) (fun cdv A outer s H vs Q E hr h => ?_)
  · obtain ⟨a, b, G, S, rfl, _⟩ := h
    rfl
  obtain ⟨a, b, G, S, rfl, ha, hb, wf, gn, g0, gl, sz, q⟩ := h
  refine ⟨_, (pss_cons (ps_set (i := 2) sc_split_tree.nd rfl (.inl rfl) pe_non)
  (pss_cons (ps_for PassesOwn.never rfl (pi_list (pe_fn F_hanging (hr.mono (by omega)) (by rfl) (pa_cons (pv 0) (pa_cons (pv 1) pa_nil)))) (pg_name (i := 3) sc_split_tree.nd rfl (by first | exact .inl rfl | exact .inr rfl)) (pss_cons (ps_set (i := 4) sc_split_tree.nd rfl (.inl rfl) (pe_fn F_lot_tree (hr.mono (by omega)) (by rfl) (pa_cons (pv 3) (pa_cons (pe_lc (own := [("side", 5)]) (g := gName 5) rfl sc_split_tree.nd (pi_list (pv 1)) (blkOk_by (own := [("side", 5)]) (N := ["goods", "sides", "found", "lot", "tree", "side"]) (by kernel_rfl)) (fun _ _ _ _ _ => (pg_name (i := 5) sc_split_tree.nd rfl (by first | exact .inl rfl | exact .inr rfl))) (fun _ _ _ _ _ => (pts_one (pt_cmpR (r := rIn K false) op_in_seq (pe_ix (r := rIx K) ix_seq (pe_ix (r := rIxT K) ix_tup (pv 5) pe_int (fun _ _ => rfl)) pe_int (fun _ _ => rfl)) (pv 3) rfl))) (fun _ _ _ _ _ => (pv 5))) pa_nil))))
  (pss_cons (ps_if (pt_cmp (pc_isN (pv 4)) rfl) (pss_one (ps_ret pe_non)) pss_nil)
  (pss_one (ps_set (i := 2) sc_split_tree.nd rfl (.inl rfl) (pe_ifExp (pt_cmp (pc_isN (pv 2)) rfl) (pv 4) (pe_tup (pa_cons (pv 2) (pa_cons (pv 4) (pa_cons pe_non pa_nil))))))))))
  (pss_one (ps_ret (pv 2))))), ?_⟩
  refine ⟨_, rfl, _, rfl, a, b, G, S, rfl, ha, hb, wf, gl, sz, fun H1 l s1 hl hL => ?_⟩
  have lotOk : ∀ {lot}, lot ∈ hang G S → Wf lot (heads S lot) ∧ lot.length ≤ G.length ∧ lot ≠ [] := fun {lot} h => by
    refine ⟨wf_heads wf (hang_clo wf h) (hang_nd wf.nd h), len_le (hang_nd wf.nd h) (hang_sub wf.nd h), ?_⟩
    obtain ⟨x, hx, e⟩ := (hang_lots S wf.nd).is lot h
    intro z
    have m : x ∈ comp G S x := mem_comp.mpr ⟨hx, .refl _⟩
    rw [← e, z] at m
    exact List.not_mem_nil m
  have hL' := hL
  obtain ⟨as, h1, h2⟩ := hL
  have la := Paired.len h2
  refine ⟨l, rfl, ⟨_, SqL.of h1⟩, ?_⟩
  refine for_it walk_list (fun i σ Hx => ∃ v y3 y4, σ = [some (.ref a), some (.ref b), some v, y3, y4, none] ∧ Same H1 Hx ∧ (v = .non ↔ i = 0) ∧ ∀ lot ∈ (hang G S).take i, Good lot (heads S lot))
    ⟨.non, none, none, rfl, Same.refl _, ⟨fun _ => rfl, fun _ => rfl⟩, fun _ z => (List.not_mem_nil z).elim⟩ (fun i σ Hx _ ⟨_, _, _, _, z, _⟩ => SqL.of (z _ _ h1)) ?_ ?_
  · rintro i x σ H0 H2 hi ⟨v, y3, y4, rfl, s2, hv, hg⟩ ⟨rfl, ex⟩
    have hi' : i < as.length := by rw [List.length_map] at hi; exact hi
    rw [List.getElem?_map, List.getElem?_eq_getElem hi'] at ex
    obtain rfl : V.ref as[i] = x := Option.some.inj ex
    obtain ⟨lot, el, hlot⟩ := Paired.get h2 (List.getElem?_eq_getElem hi')
    have ml := List.mem_of_getElem? el
    obtain ⟨w1, w2, w3⟩ := lotOk ml
    have s3 := s1.trans s2
    have tk : (hang G S).take (i + 1) = (hang G S).take i ++ [lot] := by rw [List.take_add_one, el]; rfl
    refine ⟨_, rfl, _, rfl, b, rfl, ⟨_, SqL.of (s3 _ _ (hb.choose_spec.1))⟩, fun D hD => ?_⟩
    refine lcF (R := SideAt) (fun e => decide (e.gv.getD 0 Str.empty ∈ lot)) hD (hb.mono SideAt.mono s3) sz.1 (fun c e H3 Qy Qn me hc s4 hy hn => ?_) fun H3 s4 e3 => ?_
    · obtain ⟨ga, ta, c1, c2, c3⟩ := hc.mono s4
      have hz := (s2.trans s4) _ _ hlot
      cases eg : e.gv with
      | nil => exact absurd eg (wf.g0 e me)
      | cons x r =>
        rw [eg] at c2 hy hn
        refine ⟨rfl, _, rfl, c, _, _, _, rfl, rfl, SqT.of c1, atI_nat (j := 1) rfl, Or.inl ⟨ga, _, _, _, rfl, rfl, SqL.of c2, atI_nat (j := 0) rfl, _, rfl, as[i], _, rfl, .inl (SqL.of hz), rfl, flat_str _, ?_⟩⟩
        rw [if_neg Bool.false_ne_true, inV_str]
        exact ⟨_, rfl, ifB (fun t => ⟨_, rfl, hy t _ (Same.refl _)⟩) fun t => hn t _ (Same.refl _)⟩
    · obtain ⟨bs, e3, p3⟩ := e3
      have s5 := s3.trans s4
      rw [← heads_is S lot wf.g0] at p3
      refine ⟨as[i], D, lot, heads S lot, rfl, (s2.trans s4) _ _ hlot, ⟨bs, e3, Paired.imp p3 fun _ _ z => z.mono s4⟩, w1, Nat.le_trans w2 gn, w3, Nat.le_trans w2 gl, sz.sub List.filter_sublist, hang_conn wf ml, fun t H4 s6 ht => ?_⟩
      refine ⟨_, rfl, _, rfl, ?_⟩
      by_cases good : Good lot (heads S lot)
      · have tn : t ≠ .non := fun e => ht.mp e good
        refine ifF tn ?_
        have more : ∀ lt ∈ (hang G S).take (i + 1), Good lt (heads S lt) := fun lt hm => by
          rw [tk] at hm
          rcases List.mem_append.mp hm with z | z
          · exact hg lt z
          · rw [List.mem_singleton.mp z]
            exact good
        have s7 : Same H1 H4 := s2.trans (s4.trans s6)
        refine ⟨_, rfl, _, rfl, ?_⟩
        by_cases vn : v = .non
        · refine ifT vn ⟨_, rfl, ?_⟩
          exact ⟨t, _, _, rfl, s7, ⟨fun z => absurd z tn, fun z => absurd z (Nat.succ_ne_zero _)⟩, more⟩
        · refine ifF vn ⟨_, rfl, _, rfl, (by show 3 ≤ sizeLine; decide), fun p hp => ?_⟩
          exact ⟨.ref p, _, _, rfl, s7.trans (Same.new hp _), ⟨fun z => (nomatch z), fun z => absurd z (Nat.succ_ne_zero _)⟩, more⟩
      · refine ifT (ht.mpr good) ?_
        refine q _ _ (s5.trans s6) ⟨fun _ z => good ((good_lots wf).mp z lot ml), fun _ => rfl⟩
  · rintro σ H2 ⟨v, y3, y4, rfl, s2, hv, hg⟩
    refine ⟨_, rfl, q _ _ (s1.trans s2) ?_⟩
    have ln : (as.map V.ref).length = (hang G S).length := by rw [List.length_map, la]
    have gd : Good G S := (good_lots wf).mpr fun lot hm => hg lot (by rw [ln, List.take_of_length_le (Nat.le_refl _)]; exact hm)
    have ne : v ≠ .non := fun e => by
      have z := hv.mp e
      rw [ln] at z
      cases eG : G with
      | nil => exact g0 eG
      | cons x r =>
        obtain ⟨lot, hm, _⟩ := hang_all S wf.nd x (by rw [eG]; exact List.mem_cons_self)
        rw [List.length_eq_zero_iff.mp z] at hm
        exact List.not_mem_nil hm
    exact ⟨fun e => absurd e ne, fun z => absurd gd z⟩
theorem str_ne {x y : Str} : (!decide (V.str x = V.str y)) = decide (x ≠ y) := by
  by_cases h : x = y
  · subst h
    rw [decide_eq_true rfl, decide_eq_false (fun z => z rfl)]
    rfl
  · rw [decide_eq_true h, decide_eq_false (fun z => h (V.str.inj z))]
    rfl
theorem ok_lot_tree (F : Fun K "lot_tree" "lot_tree" s_lot_tree f fd) (T : Txt K mg) (hk : 1 ≤ k) (F_hanging : Has P w K mg base 1 "hanging" spHanging) (F_joined_lots : Has P w K mg base 1 "joined_lots" spJoined) (F_split_tree : Has P w K mg base k "split_tree" (spSplit n)) :
    FnOk P w K mg base CX0 (k + 1) f fd ["goods", "sides"] (spLot (n + 1)) := by
  refine F.ok sc_lot_tree (fun vs H Q E h => ?_) (fun cdv A outer s H vs Q E hr h => ?_)
  · obtain ⟨a, b, G, S, rfl, _⟩ := h
    rfl
  obtain ⟨a, b, G, S, rfl, ha, hb, wf, gn, g0, gl, sz, cn, q⟩ := h
  refine ⟨_, (pss_cons (ps_if (pt_cmpR op_eq (pe_callB call_len_seq (by rfl) T.b_len (by decide +kernel) (pa_cons (pv 0) pa_nil)) pe_int (nomark _)) (pss_one (ps_ret (pe_ix (r := rIxL K) ix_list (pv 0) pe_int (fun _ _ => rfl)))) pss_nil)
  (pss_cons (ps_for PassesOwn.never rfl (pi_list (pv 1)) (pg_name (i := 2) sc_lot_tree.nd rfl (by first | exact .inl rfl | exact .inr rfl)) (pss_cons (ps_setLc (i := 3) (own := [("other", 9)]) (g := gName 9) rfl sc_lot_tree.nd rfl rfl (sw_true rfl rfl rfl (by decide +kernel)) (pi_list (pv 1)) (blkOk_by (own := [("other", 9)]) (N := ["goods", "sides", "side", "others", "lots", "left", "right", "one", "other_one", "other", "good"]) (by kernel_rfl)) (fun _ _ _ _ _ => (pg_name (i := 9) sc_lot_tree.nd rfl (by first | exact .inl rfl | exact .inr rfl))) (fun _ _ _ _ _ => (pts_one (pt_cmpR op_ne (pe_ix (r := rIxT K) ix_tup (pv 9) pe_int (fun _ _ => rfl)) (pe_ix (r := rIxT K) ix_tup (pv 2) pe_int (fun _ _ => rfl)) (nomark _)))) (fun _ _ _ _ _ => (pv 9)))
  (pss_cons (ps_set (i := 4) sc_lot_tree.nd rfl (.inl rfl) (pe_fn F_hanging (hr.mono (by omega)) (by rfl) (pa_cons (pv 0) (pa_cons (pv 3) pa_nil))))
  (pss_cons (ps_asg (pe_tup (pa_cons (pe_fn F_joined_lots (hr.mono (by omega)) (by rfl) (pa_cons (pv 4) (pa_cons (pe_ix (r := rIxT K) ix_tup (pv 2) pe_int (fun _ _ => rfl)) pa_nil))) (pa_cons (pe_fn F_joined_lots (hr.mono (by omega)) (by rfl) (pa_cons (pv 4) (pa_cons (pe_ix (r := rIxT K) ix_tup (pv 2) pe_int (fun _ _ => rfl)) pa_nil))) pa_nil))) (pg_tup rfl (pgs_cons (pg_name (i := 5) sc_lot_tree.nd rfl (by first | exact .inl rfl | exact .inr rfl)) (pgs_cons (pg_name (i := 6) sc_lot_tree.nd rfl (by first | exact .inl rfl | exact .inr rfl)) pgs_nil))))
  (pss_one (ps_if (pt_not (pt_val (pe_callB (r := rAny K) (cr_any rfl) (by rfl) T.b_any (by decide +kernel) (pa_cons (pe_lc (own := [("good", 10)]) (g := gName 10) (tt := tYes) rfl sc_lot_tree.nd (pi_list (pv 5)) (blkOk_by (own := [("good", 10)]) (N := ["goods", "sides", "side", "others", "lots", "left", "right", "one", "other_one", "other", "good"]) (by kernel_rfl)) (fun _ _ _ _ _ => (pg_name (i := 10) sc_lot_tree.nd rfl (by first | exact .inl rfl | exact .inr rfl))) (fun _ _ _ _ _ => pts_nil) (fun _ _ _ _ _ => (pe_cmpR (r := rIn K false) op_in_seq (pv 10) (pv 6) rfl))) pa_nil)))) (pss_cons (ps_set (i := 7) sc_lot_tree.nd rfl (.inl rfl) (pe_fn F_split_tree (hr.mono (by omega)) (by rfl) (pa_cons (pv 5) (pa_cons (pe_lc (own := [("other", 9)]) (g := gName 9) rfl sc_lot_tree.nd (pi_list (pv 3)) (blkOk_by (own := [("other", 9)]) (N := ["goods", "sides", "side", "others", "lots", "left", "right", "one", "other_one", "other", "good"]) (by kernel_rfl)) (fun _ _ _ _ _ => (pg_name (i := 9) sc_lot_tree.nd rfl (by first | exact .inl rfl | exact .inr rfl))) (fun _ _ _ _ _ => (pts_one (pt_cmpR (r := rIn K false) op_in_seq (pe_ix (r := rIx K) ix_seq (pe_ix (r := rIxT K) ix_tup (pv 9) pe_int (fun _ _ => rfl)) pe_int (fun _ _ => rfl)) (pv 5) rfl))) (fun _ _ _ _ _ => (pv 9))) pa_nil))))
  (pss_cons (ps_set (i := 8) sc_lot_tree.nd rfl (.inl rfl) (pe_fn F_split_tree (hr.mono (by omega)) (by rfl) (pa_cons (pv 6) (pa_cons (pe_lc (own := [("other", 9)]) (g := gName 9) rfl sc_lot_tree.nd (pi_list (pv 3)) (blkOk_by (own := [("other", 9)]) (N := ["goods", "sides", "side", "others", "lots", "left", "right", "one", "other_one", "other", "good"]) (by kernel_rfl)) (fun _ _ _ _ _ => (pg_name (i := 9) sc_lot_tree.nd rfl (by first | exact .inl rfl | exact .inr rfl))) (fun _ _ _ _ _ => (pts_one (pt_cmpR (r := rIn K false) op_in_seq (pe_ix (r := rIx K) ix_seq (pe_ix (r := rIxT K) ix_tup (pv 9) pe_int (fun _ _ => rfl)) pe_int (fun _ _ => rfl)) (pv 6) rfl))) (fun _ _ _ _ _ => (pv 9))) pa_nil))))
  (pss_one (ps_ret (pe_ifExp (PW.pt (pw_or (pt_cmp (pc_isN (pv 7)) rfl) (pw_or1 (pt_cmp (pc_isN (pv 8)) rfl)))) pe_non (pe_tup (pa_cons (pv 7) (pa_cons (pv 8) (pa_cons (pe_ix (r := rIxT K) ix_tup (pv 2) pe_int (fun _ _ => rfl)) pa_nil))))))))) pss_nil))))))
  (pss_one (ps_ret pe_non)))), ?_⟩
  refine ⟨_, rfl, a, _, rfl, .inl (SqL.of ha), rfl, _, rfl, ?_⟩
  rw [List.length_map]
  by_cases l1 : G.length = 1
  · obtain ⟨x, rfl⟩ : ∃ x, G = [x] := List.length_eq_one_iff.mp l1
    refine ifT (by rw [l1]; rfl) ⟨_, rfl, a, _, _, _, rfl, rfl, SqL.of ha, atI_nat (j := 0) rfl, ?_⟩
    exact q _ _ (Same.refl _) ⟨fun z => (nomatch z), fun z => absurd (good_one wf) z⟩
  have l2 : 2 ≤ G.length := by
    cases G with
    | nil => exact absurd rfl g0
    | cons x r =>
      rw [List.length_cons] at l1 ⊢
      omega
  refine ifF (fun z => l1 (by injection z with z; omega)) ?_
  have hb' := hb
  obtain ⟨as, hb1, hb2⟩ := hb
  have la := Paired.len hb2
  refine ⟨_, rfl, b, rfl, ⟨_, SqL.of hb1⟩, ?_⟩
  refine for_it walk_list (fun i σ Hx => ∃ y2 y3 y4 y5 y6, σ = [some (.ref a), some (.ref b), y2, y3, y4, y5, y6, none, none, none, none] ∧ Same H Hx ∧ ∀ e ∈ S.take i, ¬ Parts G S e)
    ⟨none, none, none, none, none, rfl, Same.refl _, fun _ z => (List.not_mem_nil z).elim⟩ (fun i σ Hx _ ⟨_, _, _, _, _, _, z, _⟩ => SqL.of (z _ _ hb1)) ?_ ?_
  · rintro i x σ H0 H1 hi ⟨y2, y3, y4, y5, y6, rfl, s1, no⟩ ⟨rfl, ex⟩
    have hi' : i < as.length := by rw [List.length_map] at hi; exact hi
    rw [List.getElem?_map, List.getElem?_eq_getElem hi'] at ex
    obtain rfl : V.ref as[i] = x := Option.some.inj ex
    obtain ⟨e, ee, he⟩ := Paired.get hb2 (List.getElem?_eq_getElem hi')
    have me := List.mem_of_getElem? ee
    have tk : S.take (i + 1) = S.take i ++ [e] := by rw [List.take_add_one, ee]; rfl
    refine ⟨_, rfl, b, rfl, ⟨_, SqL.of (s1 _ _ hb1)⟩, fun D hD => ?_⟩
    refine lcF (R := SideAt) (fun f => decide (f.nm ≠ e.nm)) hD (hb'.mono SideAt.mono s1) sz.1 (fun c f H3 Qy Qn mf hc s4 hy hn => ?_) fun H3 s4 e3 => ?_
    · obtain ⟨ga, ta, c1, _, _⟩ := hc.mono s4
      obtain ⟨gb, tb, d1, _, _⟩ := he.mono (s1.trans s4)
      refine ⟨rfl, _, rfl, c, _, _, _, rfl, rfl, SqT.of c1, atI_nat (j := 0) rfl, _, rfl, as[i], _, _, _, rfl, rfl, SqT.of d1, atI_nat (j := 0) rfl, rfl, _, rfl, ?_⟩
      rw [str_ne]
      exact ifB (fun t => ⟨_, rfl, hy t _ (Same.refl _)⟩) fun t => hn t _ (Same.refl _)
    obtain ⟨os, e3, p3⟩ := e3
    have s5 := s1.trans s4
    have eO : (S.filter fun f => decide (f.nm ≠ e.nm)) = others S e := rfl
    rw [eO] at p3
    have wo := wf_others wf e
    have hO : LstOf SideAt H3 D (others S e) := ⟨os, e3, Paired.imp p3 fun _ _ z => z.mono s4⟩
    refine ⟨_, rfl, _, rfl, a, D, G, others S e, rfl, s5 _ _ ha, hO, wo, gl, sz.sub List.filter_sublist, fun H4 l s6 hl hL => ?_⟩
    have s7 := s5.trans s6
    obtain ⟨ga, ta, c1, c2, c3⟩ := he.mono s7
    have fl : (hang G (others S e)).flatten.length ≤ 1000 := by
      refine Nat.le_trans (len_le (V := G) (hang_lots (others S e) wf.nd).nd fun x hx => ?_) gl
      obtain ⟨lot, h1, h2⟩ := List.mem_flatten.mp hx
      exact hang_sub wf.nd h1 x h2
    have sze := sz.2 e me
    refine ⟨_, rfl, _, rfl, as[i], _, _, _, rfl, rfl, SqT.of c1, atI_nat (j := 1) rfl, l, ga, _, e.gv, rfl, hL, c2, sze.1, fl, fun H5 lf s8 hlf hLf => ?_⟩
    refine ⟨_, rfl, _, rfl, as[i], _, _, _, rfl, rfl, SqT.of (s8 _ _ c1), atI_nat (j := 2) rfl, l, ta, _, e.tk, rfl, hL.mono StrL.mono s8, s8 _ _ c3, sze.2, fl, fun H6a rg s9a hrg hRga => ⟨(by show 2 ≤ sizeLine; decide), fun pr hpr => ?_⟩⟩
    refine ⟨pr, _, rfl, SqT.of upd_same, rfl, _, _, rfl, _, _, rfl, rfl, ?_⟩
    have s9 := s9a.trans (Same.new hpr (.tup [.ref lf, .ref rg]))
    have hRg : StrL (upd H6a pr (.tup [.ref lf, .ref rg])) rg (rgt G S e) := at_new hRga hpr
    have hLf6 := s9 _ _ hLf
    have s10 := s7.trans (s8.trans s9)
    refine ⟨_, rfl, lf, rfl, ⟨_, SqL.of hLf6⟩, fun D2 hD2 => ?_⟩
    have lft1 : (lft G S e).length ≤ 1000 := Nat.le_trans (joined_len _ _) fl
    refine lcS (fun z => .bl (decide (z ∈ rgt G S e))) (fun _ => true) hD2 hLf6 lft1 (fun z H7 Qy Qn _ s11 ky _ => ?_) fun H7 s11 e7 => ?_
    · refine ⟨rfl, yes ⟨_, rfl, _, rfl, rg, _, rfl, .inl (SqL.of (s11 _ _ hRg)), rfl, flat_str _, ?_⟩⟩
      rw [if_neg Bool.false_ne_true, inV_str]
      exact ky rfl _ (Same.refl _)
    rw [all_yes] at e7
    refine ⟨D2, (lft G S e).map (fun z => decide (z ∈ rgt G S e)), rfl, SqL.of (by rw [e7, List.map_map]; rfl), _, rfl, ?_⟩
    rw [any_map]
    have s12 := s10.trans s11
    cases t : ((lft G S e).any fun z => decide (z ∈ rgt G S e)) with
    | true =>
      refine ⟨_, _, _, _, _, rfl, s12, fun f hf => ?_⟩
      rw [tk] at hf
      rcases List.mem_append.mp hf with z | z
      · exact no f z
      · rw [List.mem_singleton.mp z]
        intro pts
        obtain ⟨x, hx, hx2⟩ := List.any_eq_true.mp t
        exact pts x hx (of_decide_eq_true hx2)
    | false =>
      have pts : Parts G S e := fun x hx hx2 => List.any_eq_false.mp t x hx (decide_eq_true hx2)
      have hO7 : LstOf SideAt H7 D (others S e) := hO.mono SideAt.mono ((s6.trans (s8.trans s9)).trans s11)
      have hLf7 := s11 _ _ hLf6
      have hRg7 := s11 _ _ hRg
      have szo : Szs (others S e) := sz.sub List.filter_sublist
      have lne : lft G S e ≠ [] := fun z => by
        cases eg : e.gv with
        | nil => exact wf.g0 e me eg
        | cons x r =>
          have m := lft_gv wf me x (by rw [eg]; exact List.mem_cons_self)
          rw [z] at m
          exact List.not_mem_nil m
      have rne : rgt G S e ≠ [] := fun z => by
        cases eg : e.tk with
        | nil => exact wf.t0 e me eg
        | cons x r =>
          have m := rgt_tk wf me x (by rw [eg]; exact List.mem_cons_self)
          rw [z] at m
          exact List.not_mem_nil m
      have ll := lft_lt wf me pts
      have rl := rgt_lt wf me pts
      have gp := good_parts wf me cn pts
      obtain ⟨os7, o1, o2⟩ := hO7
      refine ⟨_, rfl, _, rfl, D, rfl, ⟨_, SqL.of o1⟩, fun D3 hD3 => ?_⟩
      refine lcF (R := SideAt) (fun f => decide (f.gv.getD 0 Str.empty ∈ lft G S e)) hD3 ⟨os7, o1, o2⟩ szo.1 (fun c f H8 Qy Qn mf hc s13 hy hn => ?_) fun H8 s13 e8 => ?_
      · obtain ⟨ga, ta, c1, c2, c3⟩ := hc.mono s13
        have hz := s13 _ _ hLf7
        cases eg : f.gv with
        | nil => exact absurd eg (wo.g0 f mf)
        | cons x r =>
          rw [eg] at c2 hy hn
          refine ⟨rfl, _, rfl, c, _, _, _, rfl, rfl, SqT.of c1, atI_nat (j := 1) rfl, Or.inl ⟨ga, _, _, _, rfl, rfl, SqL.of c2, atI_nat (j := 0) rfl, _, rfl, lf, _, rfl, .inl (SqL.of hz), rfl, flat_str _, ?_⟩⟩
          rw [if_neg Bool.false_ne_true, inV_str]
          exact ⟨_, rfl, ifB (fun t => ⟨_, rfl, hy t _ (Same.refl _)⟩) fun t => hn t _ (Same.refl _)⟩
      obtain ⟨cs, e8, p8⟩ := e8
      rw [← heads_is (others S e) (lft G S e) wo.g0] at p8
      refine ⟨lf, D3, lft G S e, heads (others S e) (lft G S e), rfl, s13 _ _ hLf7, ⟨cs, e8, Paired.imp p8 fun _ _ z => z.mono s13⟩, wf_lft wf e, by omega, lne, lft1, szo.sub List.filter_sublist, fun v1 H9 s14 hv1 => ?_⟩
      have s15 := s13.trans s14
      have p9 : Paired (SideAt H9) os7 (others S e) := Paired.imp o2 fun _ _ z => z.mono s15
      refine ⟨_, rfl, _, rfl, D, rfl, ⟨_, SqL.of (s15 _ _ o1)⟩, fun D4 hD4 => ?_⟩
      refine lcF (R := SideAt) (fun f => decide (f.gv.getD 0 Str.empty ∈ rgt G S e)) hD4 ⟨os7, s15 _ _ o1, p9⟩ szo.1 (fun c f H10 Qy Qn mf hc s16 hy hn => ?_) fun H10 s16 e10 => ?_
      · obtain ⟨ga, ta, c1, c2, c3⟩ := hc.mono s16
        have hz := (s15.trans s16) _ _ hRg7
        cases eg : f.gv with
        | nil => exact absurd eg (wo.g0 f mf)
        | cons x r =>
          rw [eg] at c2 hy hn
          refine ⟨rfl, _, rfl, c, _, _, _, rfl, rfl, SqT.of c1, atI_nat (j := 1) rfl, Or.inl ⟨ga, _, _, _, rfl, rfl, SqL.of c2, atI_nat (j := 0) rfl, _, rfl, rg, _, rfl, .inl (SqL.of hz), rfl, flat_str _, ?_⟩⟩
          rw [if_neg Bool.false_ne_true, inV_str]
          exact ⟨_, rfl, ifB (fun t => ⟨_, rfl, hy t _ (Same.refl _)⟩) fun t => hn t _ (Same.refl _)⟩
      obtain ⟨ds, e10, p10⟩ := e10
      rw [← heads_is (others S e) (rgt G S e) wo.g0] at p10
      have s17 := s15.trans s16
      have rgt1 : (rgt G S e).length ≤ 1000 := Nat.le_trans (joined_len _ _) fl
      refine ⟨rg, D4, rgt G S e, heads (others S e) (rgt G S e), rfl, s17 _ _ hRg7, ⟨ds, e10, Paired.imp p10 fun _ _ z => z.mono s16⟩, wf_rgt wf e, by omega, rne, rgt1, szo.sub List.filter_sublist, fun v2 H11 s18 hv2 => ?_⟩
      have s19 := s12.trans (s17.trans s18)
      obtain ⟨gz, tz, z1, _, _⟩ := he.mono s19
      refine ⟨_, rfl, _, rfl, ?_⟩
      by_cases n1 : v1 = .non
      · refine ifT n1 ?_
        exact q _ _ s19 ⟨fun _ z => hv1.mp n1 (gp.mp z).1, fun _ => rfl⟩
      · refine ifF n1 ⟨_, rfl, _, rfl, ?_⟩
        by_cases n2 : v2 = .non
        · refine ifT n2 ?_
          exact q _ _ s19 ⟨fun _ z => hv2.mp n2 (gp.mp z).2, fun _ => rfl⟩
        · refine ifF n2 ⟨_, rfl, _, rfl, _, rfl, as[i], _, _, _, rfl, rfl, SqT.of z1, atI_nat (j := 0) rfl, (by show 3 ≤ sizeLine; decide), fun p hp => ?_⟩
          have gd : Good G S := gp.mpr ⟨Classical.byContradiction fun z => n1 (hv1.mpr z), Classical.byContradiction fun z => n2 (hv2.mpr z)⟩
          exact q _ _ (s19.trans (Same.new hp _)) ⟨fun z => (nomatch z), fun z => absurd gd z⟩
  · rintro σ H1 ⟨y2, y3, y4, y5, y6, rfl, s1, no⟩
    have tS : S.take (as.map V.ref).length = S := List.take_of_length_le (by rw [List.length_map, la]; exact Nat.le_refl _)
    rw [tS] at no
    exact q _ _ s1 ⟨fun _ => not_good wf cn l2 no, fun _ => rfl⟩
end
end K16
namespace K16
open PySem PySem.Spec PyProof.Rows L2 RZ
/-! ### the two defs by turns -/
section
variable {P : Program} {w : World} {K : PySem.W.Frag} {mg : Str → Option Value} {base : Heap} {f g C : Addr} {fd gd : FuncData} {k : Nat}
theorem no_goods {a b : Prop} {n : Nat} {G : List Str} (h : G.length ≤ 0) (ne : G ≠ []) : a := absurd (List.length_eq_zero_iff.mp (Nat.le_zero.mp h)) ne
theorem trees (T : Txt K mg) (F_hanging : Has P w K mg base 1 "hanging" spHanging) (F_joined_lots : Has P w K mg base 1 "joined_lots" spJoined)
    (FL : Fun K "lot_tree" "lot_tree" s_lot_tree f fd) (mL : mg "lot_tree" = some (.ref f)) (kL : PySem.W.keepIn K (.ref f) = true) (bL : Binds K fd ["goods", "sides"] [])
    (FS : Fun K "split_tree" "split_tree" s_split_tree g gd) (mS : mg "split_tree" = some (.ref g)) (kS : PySem.W.keepIn K (.ref g) = true) (bS : Binds K gd ["goods", "sides"] []) :
    ∀ n : Nat, FnOk P w K mg base CX0 (2 * n + 2) f fd ["goods", "sides"] (spLot n) ∧ FnOk P w K mg base CX0 (2 * n + 3) g gd ["goods", "sides"] (spSplit n) := by
  have sp : ∀ {n : Nat}, FnOk P w K mg base CX0 (2 * n + 2) f fd ["goods", "sides"] (spLot n) → FnOk P w K mg base CX0 (2 * n + 3) g gd ["goods", "sides"] (spSplit n) := fun {n} h =>
    ok_split_tree FS T (by omega) F_hanging ⟨f, fd, ["goods", "sides"], h, mL, kL, bL⟩
  intro n
  induction n with
  | zero =>
    have z : FnOk P w K mg base CX0 (2 * 0 + 2) f fd ["goods", "sides"] (spLot 0) :=
      ⟨fun vs H Q E h => (fun ⟨_, _, _, _, _, _, _, _, h0, ne, _⟩ => absurd (List.length_eq_zero_iff.mp (Nat.le_zero.mp h0)) ne) h,
        fun A outer s H args us vs Q E _ _ _ _ h => (fun ⟨_, _, _, _, _, _, _, _, h0, ne, _⟩ => absurd (List.length_eq_zero_iff.mp (Nat.le_zero.mp h0)) ne) h⟩
    exact ⟨z, sp z⟩
  | succ n ih =>
    have z : FnOk P w K mg base CX0 (2 * (n + 1) + 2) f fd ["goods", "sides"] (spLot (n + 1)) := ok_lot_tree FL T (by omega) F_hanging F_joined_lots ⟨g, gd, ["goods", "sides"], ih.2, mS, kS, bS⟩
    exact ⟨z, sp z⟩
end
/-! ### books as sides -/
def sideOf (gs : List Str) (b : Str × List Int) : Sd Str := ⟨b.1, goodsAt (fun e => decide (0 < e)) gs b.2, goodsAt (fun e => decide (e < 0)) gs b.2⟩
def sidesOf (gs : List Str) (bs : List (Str × List Int)) : List (Sd Str) := bs.map (sideOf gs)
def GoodBk (gs : List Str) (bs : List (Str × List Int)) : Prop := Good gs (sidesOf gs bs)
theorem mem_goodsAt {p : Int → Bool} {gs : List Str} {r : List Int} {x : Str} : x ∈ goodsAt p gs r ↔ ∃ (j : Nat) (e : Int), gs[j]? = some x ∧ r[j]? = some e ∧ p e = true := by
  unfold goodsAt
  rw [List.mem_map]
  constructor
  · rintro ⟨z, hz, rfl⟩
    obtain ⟨h1, h2⟩ := List.mem_filter.mp hz
    obtain ⟨j, hj, e⟩ := List.getElem_of_mem h1
    have q := List.getElem?_zip_eq_some.mp (List.getElem?_eq_getElem hj)
    rw [e] at q
    exact ⟨j, z.2, q.1, q.2, h2⟩
  · rintro ⟨j, e, h1, h2, h3⟩
    refine ⟨(x, e), List.mem_filter.mpr ⟨?_, h3⟩, rfl⟩
    exact List.mem_of_getElem? (List.getElem?_zip_eq_some.mpr ⟨h1, h2⟩)
theorem goodsAt_ne {p : Int → Bool} {gs : List Str} {r : List Int} (hl : r.length = gs.length) (h : ∃ e ∈ r, p e = true) : goodsAt p gs r ≠ [] := fun z => by
  obtain ⟨e, he, pe⟩ := h
  obtain ⟨j, hj, ej⟩ := List.getElem_of_mem he
  have hj2 : j < gs.length := by omega
  have m : gs[j] ∈ goodsAt p gs r := mem_goodsAt.mpr ⟨j, e, List.getElem?_eq_getElem hj2, by rw [List.getElem?_eq_getElem hj, ej], pe⟩
  rw [z] at m
  exact List.not_mem_nil m
theorem goodsAt_len {p : Int → Bool} {gs : List Str} {r : List Int} : (goodsAt p gs r).length ≤ gs.length := by
  unfold goodsAt
  rw [List.length_map]
  refine Nat.le_trans (List.length_filter_le _ _) ?_
  rw [List.length_zip]
  exact Nat.min_le_left _ _
theorem at_inj {gs : List Str} (nd : gs.Nodup) {i j : Nat} {x : Str} (h1 : gs[i]? = some x) (h2 : gs[j]? = some x) : i = j := by
  obtain ⟨a, e1⟩ := List.getElem?_eq_some_iff.mp h1
  obtain ⟨b, e2⟩ := List.getElem?_eq_some_iff.mp h2
  exact (List.getElem_inj nd).mp (e1.trans e2.symm)
theorem wf_book {gs : List Str} {bs : List (Str × List Int)} (ok : BkOk gs bs) : Wf gs (sidesOf gs bs) := by
  have is : ∀ e ∈ sidesOf gs bs, ∃ b ∈ bs, e = sideOf gs b := fun e he => by
    obtain ⟨b, hb, q⟩ := List.mem_map.mp he
    exact ⟨b, hb, q.symm⟩
  have sub : ∀ {p : Int → Bool} {r : List Int} {x : Str}, x ∈ goodsAt p gs r → x ∈ gs := fun h => by
    obtain ⟨j, e, h1, _⟩ := mem_goodsAt.mp h
    exact List.mem_of_getElem? h1
  refine ⟨ok.gn, fun e he => ?_, fun e he => ?_, fun e he x hx => ?_, fun e he x hx => ?_, fun e he x hx hx2 => ?_, ?_⟩
  · obtain ⟨b, hb, rfl⟩ := is e he
    obtain ⟨_, y, hy, y0⟩ := ok.rm b hb
    exact goodsAt_ne (p := fun e => decide (0 < e)) (ok.rl b hb) ⟨y, hy, decide_eq_true y0⟩
  · obtain ⟨b, hb, rfl⟩ := is e he
    obtain ⟨⟨y, hy, y0⟩, _⟩ := ok.rm b hb
    exact goodsAt_ne (p := fun e => decide (e < 0)) (ok.rl b hb) ⟨y, hy, decide_eq_true y0⟩
  · obtain ⟨b, hb, rfl⟩ := is e he
    exact sub (p := fun e => decide (0 < e)) (r := b.2) hx
  · obtain ⟨b, hb, rfl⟩ := is e he
    exact sub (p := fun e => decide (e < 0)) (r := b.2) hx
  · obtain ⟨b, hb, rfl⟩ := is e he
    obtain ⟨i, u, h1, h2, h3⟩ := (mem_goodsAt (p := fun e => decide (0 < e)) (gs := gs) (r := b.2)).mp hx
    obtain ⟨j, v, h4, h5, h6⟩ := (mem_goodsAt (p := fun e => decide (e < 0)) (gs := gs) (r := b.2)).mp hx2
    obtain rfl := at_inj ok.gn h1 h4
    rw [h2] at h5
    obtain rfl : u = v := Option.some.inj h5
    have a := of_decide_eq_true h3
    have b := of_decide_eq_true h6
    omega
  · have e : (sidesOf gs bs).map Sd.nm = bs.map Prod.fst := by
      unfold sidesOf
      rw [List.map_map]
      rfl
    rw [e]
    exact ok.nn
theorem szs_book {gs : List Str} {bs : List (Str × List Int)} (ok : BkOk gs bs) : Szs (sidesOf gs bs) := by
  refine ⟨by rw [sidesOf, List.length_map]; exact ok.bl, fun e he => ?_⟩
  obtain ⟨b, hb, rfl⟩ := List.mem_map.mp he
  exact ⟨Nat.le_trans (goodsAt_len (p := fun e => decide (0 < e)) (r := b.2)) ok.gl, Nat.le_trans (goodsAt_len (p := fun e => decide (e < 0)) (r := b.2)) ok.gl⟩
theorem good_none (S : List (Sd Str)) : Good [] S := fun P h => absurd h (by rw [List.countP_nil]; exact Nat.lt_irrefl 0)
/-! ### goods as data -/
theorem wd_ok {z : Str} (h : Wd z) : PyData.strOk z = true := by
  have low : ∀ c ∈ LETS.cps.toList ++ FIGS.cps.toList, c < 0x110000 := by decide +kernel
  unfold PyData.strOk
  rw [← Array.all_toList, List.all_eq_true]
  intro c hc
  refine decide_eq_true (low c ?_)
  exact List.mem_append.mpr (h.all c hc)
theorem lay_words : ∀ {ws : List Str}, (∀ z ∈ ws, Wd z) → PyData.canLayAll0 (ws.map PyData.str) = true ∧ PyData.depthAll (ws.map PyData.str) = 0
  | [], _ => ⟨rfl, rfl⟩
  | z :: ws, h => by
    obtain ⟨h1, h2⟩ := lay_words (ws := ws) fun y hy => h y (List.mem_cons_of_mem _ hy)
    have h3 := wd_ok (h z List.mem_cons_self)
    refine ⟨?_, ?_⟩
    · rw [List.map_cons, PyData.canLayAll0, PyData.canLay0, h3, h1]
      rfl
    · rw [List.map_cons, PyData.depthAll, PyData.depth, h2]
      rfl
theorem words_shaped {ws : List Str} (h : ∀ z ∈ ws, Wd z) : SeqAt.shaped (.list (ws.map PyData.str)) = true := by
  obtain ⟨h1, h2⟩ := lay_words h
  rw [SeqAt.shaped, PyData.canLay0, PyData.depth, h1, h2]
  rfl
theorem dp_words {K : PySem.W.Frag} {H : Hp} : ∀ ws : List Str, DpAll K H (ws.map V.str) (ws.map PyData.str)
  | [] => .nil
  | z :: ws => .cons (.str z) (dp_words ws)
/-! ### whole_tree, is_good_book -/
def spWhole (n : Nat) (C : Addr) : Sp := fun vs H Q _ => ∃ (p : Addr) (gs : List Str) (bs : List (Str × List Int)), vs = [.ref p] ∧ BookAt C H p gs bs ∧ BkOk gs bs ∧ gs.length ≤ n ∧ ∀ v H', Same H H' → (v = .non ↔ ¬ GoodBk gs bs) → Q v H'
def spIsGood (n : Nat) (C : Addr) : Sp := fun vs H Q _ => ∃ (p : Addr) (gs : List Str) (bs : List (Str × List Int)), vs = [.ref p] ∧ BookAt C H p gs bs ∧ BkOk gs bs ∧ gs.length ≤ n ∧ ∀ c H', Same H H' → (c = true ↔ GoodBk gs bs) → Q (.bl c) H'
/-- a side that is not at D -/
def SideOff (D : Addr) (H : Hp) (a : Addr) (s : Sd Str) : Prop := ∃ ga ta : Addr, H a = some (.tup [.str s.nm, .ref ga, .ref ta]) ∧ StrL H ga s.gv ∧ StrL H ta s.tk ∧ ga ≠ D ∧ ta ≠ D
theorem SideOff.at {D : Addr} {H : Hp} {a : Addr} {s : Sd Str} (h : SideOff D H a s) : SideAt H a s := let ⟨ga, ta, h1, h2, h3, _⟩ := h; ⟨ga, ta, h1, h2, h3⟩
theorem SideOff.mono {D : Addr} {H H' : Hp} (s : Same H H') {a : Addr} {b : Sd Str} (h : SideOff D H a b) : SideOff D H' a b := let ⟨ga, ta, h1, h2, h3, h4, h5⟩ := h; ⟨ga, ta, s _ _ h1, s _ _ h2, s _ _ h3, h4, h5⟩
theorem SideOff.put {D : Addr} {H : Hp} {xs : List V} {o : HO} (hD : H D = some (.lst xs)) {a : Addr} {b : Sd Str} (h : SideOff D H a b) : SideOff D (upd H D o) a b := by
  obtain ⟨ga, ta, h1, h2, h3, h4, h5⟩ := h
  refine ⟨ga, ta, ?_, ?_, ?_, h4, h5⟩
  · rw [upd_ne (ne_of h1 hD (by intro z; cases z))]
    exact h1
  · show upd _ _ _ _ = _
    rw [upd_ne h4]
    exact h2
  · show upd _ _ _ _ = _
    rw [upd_ne h5]
    exact h3
section
variable {P : Program} {w : World} {K : PySem.W.Frag} {mg : Str → Option Value} {base : Heap} {f C : Addr} {fd : FuncData} {n k : Nat}
theorem ok_whole_tree (F : Fun K "whole_tree" "whole_tree" s_whole_tree f fd) (T : Txt K mg) (hk : 5 ≤ k) (M_goods : HasM P w K mg base C 1 "goods" (spGoods C)) (M_names : HasM P w K mg base C 1 "names" (spNames C))
    (M_gives : HasM P w K mg base C 5 "gives" (spSide (fun e => decide (0 < e)) C)) (M_takes : HasM P w K mg base C 5 "takes" (spSide (fun e => decide (e < 0)) C)) (F_split_tree : Has P w K mg base k "split_tree" (spSplit n)) :
    FnOk P w K mg base CX0 (k + 1) f fd ["book"] (spWhole n C) := by
  refine F.ok sc_whole_tree (fun vs H Q E h => ?_) (fun cdv A outer s H vs Q E hr h => ?_)
  · obtain ⟨p, gs, bs, rfl, _⟩ := h
    rfl
  obtain ⟨p, gs, bs, rfl, hb, ok, gn, q⟩ := h
  refine ⟨_, (pss_cons (ps_if (pt_cmpR (op_eqD hr.units) (pe_me0 M_goods (hr.mono (by omega)) (pv 0)) (pe_lst pa_nil) (nomark _)) (pss_one (ps_ret (pe_tup pa_nil))) pss_nil)
  (pss_one (ps_ret (pe_fn F_split_tree (hr.mono (by omega)) (by rfl) (pa_cons (pe_me0 M_goods (hr.mono (by omega)) (pv 0)) (pa_cons (pe_lc (own := [("name", 1)]) (g := gName 1) (tt := tYes) rfl sc_whole_tree.nd (pi_list (pe_me0 M_names (hr.mono (by omega)) (pv 0))) (blkOk_by (own := [("name", 1)]) (N := ["book", "name"]) (by kernel_rfl)) (fun _ _ _ _ _ => (pg_name (i := 1) sc_whole_tree.nd rfl (by first | exact .inl rfl | exact .inr rfl))) (fun _ _ _ _ _ => pts_nil) (fun _ _ _ _ _ => (pe_tup (pa_cons (pv 1) (pa_cons (pe_me M_gives (hr.mono (by omega)) (pv 0) (pa_cons (pv 1) pa_nil)) (pa_cons (pe_me M_takes (hr.mono (by omega)) (pv 0) (pa_cons (pv 1) pa_nil)) pa_nil)))))) pa_nil)))))), ?_⟩
  have hB := hb
  obtain ⟨dx, tg, tb, as, o, h1, h2, h3, h4⟩ := hb
  have nm : ∀ {x : Str}, (¬ x = "own_goods") → (¬ x = "own_barters") → (bf tg tb).lookup x = none := fun a b => bf_no tg tb a b
  refine ⟨_, rfl, p, dx, _, rfl, h1, nm (by decide +kernel) (by decide +kernel), p, gs, bs, rfl, hB, fun H1 l s1 _ hl => ?_⟩
  refine ⟨(by show 0 ≤ sizeLine; decide), fun e he => ?_⟩
  have s2 : Same H1 (upd H1 e (.lst [])) := Same.new he _
  have s3 := s1.trans s2
  refine ⟨.list (gs.map PyData.str), .list [], .lst (SqL.of (s2 _ _ hl)) (dp_words gs), .lst (SqL.of upd_same) .nil, words_shaped ok.gw, rfl, ?_⟩
  cases eg : gs with
  | nil =>
    subst eg
    refine ⟨true, rfl, iteT ⟨(by show 0 ≤ sizeLine; decide), fun t ht => ?_⟩⟩
    exact q _ _ (s3.trans (Same.new ht _)) ⟨fun z => (nomatch z), fun z => absurd (good_none _) z⟩
  | cons g0 gr =>
    have g0ne : gs ≠ [] := by rw [eg]; exact List.cons_ne_nil _ _
    rw [← eg]
    refine ⟨false, ?_, iteF ?_⟩
    · rw [eg]
      rfl
    refine ⟨_, rfl, p, dx, _, rfl, s3 _ _ h1, nm (by decide +kernel) (by decide +kernel), p, gs, bs, rfl, hB.mono s3, fun H2 l2 s4 _ hl2 => ?_⟩
    have s5 := s3.trans s4
    refine ⟨_, rfl, p, dx, _, rfl, s5 _ _ h1, nm (by decide +kernel) (by decide +kernel), p, gs, bs, rfl, hB.mono s5, ok.bl, fun H3 ln s6 _ hln => ?_⟩
    have s7 := s5.trans s6
    refine ⟨ln, rfl, ⟨_, SqL.of hln⟩, fun D hD => ?_⟩
    refine lc_it (walk_list (K := K) (a := ln) (xs := (bs.map Prod.fst).map V.str)) (fun i Hx => Same H3 Hx ∧ ∃ as2, Hx D = some (.lst (as2.map V.ref)) ∧ Paired (SideOff D Hx) as2 ((sidesOf gs bs).take i) ∧ as2.length ≤ i)
      ⟨Same.new hD _, [], upd_same, .nil, Nat.le_refl _⟩ (fun i Hx _ z => SqL.of (z.1 _ _ hln)) ?_ ?_
    · rintro i x H0 H4 hi ⟨s8, as2, e8, p8, l8⟩ ⟨rfl, ex⟩
      have hi' : i < bs.length := by rw [List.length_map, List.length_map] at hi; exact hi
      rw [List.getElem?_map, List.getElem?_map, List.getElem?_eq_getElem hi'] at ex
      obtain rfl : V.str bs[i].1 = x := Option.some.inj ex
      have mb : bs[i] ∈ bs := List.getElem_mem hi'
      have s9 := s7.trans s8
      refine ⟨rfl, yes ⟨_, rfl, _, rfl, p, dx, _, rfl, s9 _ _ h1, nm (by decide +kernel) (by decide +kernel), _, rfl, p, gs, bs, bs[i], rfl, hB.mono s9, ok, mb, fun H5 ga s10 hga h5a => ?_⟩⟩
      have s11 := s9.trans s10
      refine ⟨_, rfl, p, dx, _, rfl, s11 _ _ h1, nm (by decide +kernel) (by decide +kernel), _, rfl, p, gs, bs, bs[i], rfl, hB.mono s11, ok, mb, fun H6 ta s12 hta h6a => ?_⟩
      refine ⟨(by show 3 ≤ sizeLine; decide), fun t ht => ?_⟩
      have s13 := (s10.trans s12).trans (Same.new ht (.tup [.str bs[i].1, .ref ga, .ref ta]))
      have gD : ga ≠ D := fun z => by rw [z, e8] at hga; cases hga
      have tD : ta ≠ D := fun z => by rw [z, s10 _ _ e8] at hta; cases hta
      have eD := s13 _ _ e8
      have stp : (sidesOf gs bs).take (i + 1) = (sidesOf gs bs).take i ++ [sideOf gs bs[i]] := by
        have e : (sidesOf gs bs)[i]? = some (sideOf gs bs[i]) := by
          rw [sidesOf, List.getElem?_map, List.getElem?_eq_getElem hi']
          rfl
        rw [List.take_add_one, e]
        rfl
      refine ⟨_, eD, by rw [List.length_map]; exact small1000 (by have := ok.bl; omega), Same.laid hD (s8.trans s13), as2 ++ [t], by rw [upd_same, List.map_append]; rfl, ?_, by rw [List.length_append]; exact Nat.succ_le_succ l8⟩
      rw [stp]
      refine Paired.app (Paired.imp p8 fun _ _ z => (z.mono s13).put eD) (.cons (SideOff.put eD ⟨ga, ta, upd_same, at_new (s12 _ _ h5a) ht, at_new h6a ht, gD, tD⟩) .nil)
    · rintro H4 ⟨s8, as2, e8, p8, _⟩
      have tS : (sidesOf gs bs).take ((bs.map Prod.fst).map V.str).length = sidesOf gs bs := List.take_of_length_le (by rw [List.length_map, List.length_map, sidesOf, List.length_map]; exact Nat.le_refl _)
      rw [tS] at p8
      refine ⟨l2, D, gs, sidesOf gs bs, rfl, s8 _ _ (s6 _ _ hl2), ⟨as2, e8, Paired.imp p8 fun _ _ z => z.at⟩, wf_book ok, gn, g0ne, ok.gl, szs_book ok, fun v H5 s9 hv => ?_⟩
      exact q _ _ ((s7.trans s8).trans s9) hv
theorem ok_is_good_book (F : Fun K "is_good_book" "is_good_book" s_is_good_book f fd) (T : Txt K mg) (F_whole_tree : Has P w K mg base k "whole_tree" (spWhole n C)) : FnOk P w K mg base CX0 (k + 1) f fd ["book"] (spIsGood n C) := by
  refine F.ok sc_is_good_book (fun vs H Q E h => ?_) (fun cdv A outer s H vs Q E hr h => ?_)
  · obtain ⟨p, gs, bs, rfl, _⟩ := h
    rfl
  obtain ⟨p, gs, bs, rfl, hb, ok, gn, q⟩ := h
  refine ⟨_, (pss_one (ps_ret (pe_cmp (pc_notN (pe_fn F_whole_tree (hr.mono (by omega)) (by rfl) (pa_cons (pv 0) pa_nil))) rfl))), ?_⟩
  refine ⟨_, rfl, p, gs, bs, rfl, hb, ok, gn, fun v H1 s1 hv => ?_⟩
  refine q _ _ s1 ?_
  by_cases h : v = .non
  · rw [decide_eq_true h]
    exact ⟨fun z => (nomatch z), fun z => absurd z (hv.mp h)⟩
  · rw [decide_eq_false h]
    exact ⟨fun _ => Classical.byContradiction fun z => h (hv.mpr z), fun _ => rfl⟩
end
end K16
namespace K16
open PySem PySem.Spec PyProof.Rows L2 RZ
/-! ### readings by name -/
def rLenQ (K : PySem.W.Frag) : List V → Hp → VK → Prop := fun zs H Q => ∃ c ws, zs = [.ref c] ∧ (SqL K H c ws ∨ SqT K H c ws) ∧ Q (.int ws.length) H
theorem call_lenQ {X : Cx} : CallR X (.builtin "len") (rLenQ X.K) := call_len_seq
def rTupQ (K : PySem.W.Frag) : List V → Hp → VK → Prop := fun zs H Q => ∃ c ws, zs = [.ref c] ∧ ((SqL K H c ws ∧ ∀ l, H l = none → Q (.ref l) (upd H l (.tup ws))) ∨ (SqT K H c ws ∧ Q (.ref c) H))
theorem call_tupQ {X : Cx} : CallR X (.type "tuple") (rTupQ X.K) := call_tuple_of
/-! ### dicts by texts -/
theorem merge_go : ∀ (more kvs : List (Key × V)), ((kvs ++ more).map Prod.fst).Nodup → mergeK kvs more = kvs ++ more
  | [], kvs, _ => by rw [List.append_nil]; rfl
  | kv :: more, kvs, nd => by
    have e : putK kvs kv.1 kv.2 = kvs ++ [kv] := by
      unfold putK
      rw [if_neg]
      rw [List.any_eq_true]
      rintro ⟨x, hx, ex⟩
      have q := of_decide_eq_true ex
      rw [List.map_append, List.nodup_append] at nd
      exact nd.2.2 x.1 (List.mem_map_of_mem hx) kv.1 (List.mem_map_of_mem List.mem_cons_self) q
    have ih := merge_go more (kvs ++ [kv]) (by rw [List.append_assoc]; exact nd)
    rw [List.append_assoc] at ih
    show mergeK (putK kvs kv.1 kv.2) more = _
    rw [e]
    exact ih
theorem merge_new {kvs : List (Key × V)} (nd : (kvs.map Prod.fst).Nodup) : mergeK [] kvs = kvs := merge_go kvs [] nd
/-! ### the source of picks -/
def srcKvs (c : Addr) (l m t : Int) : List (Key × V) := [(.inr "cells", .ref c), (.inr "left", .int l), (.inr "mixed", .int m), (.inr "turn", .int t)]
theorem kcl : ¬ (("cells" : Str) = "left") := by decide +kernel
theorem kcm : ¬ (("cells" : Str) = "mixed") := by decide +kernel
theorem kct : ¬ (("cells" : Str) = "turn") := by decide +kernel
theorem klm : ¬ (("left" : Str) = "mixed") := by decide +kernel
theorem klt : ¬ (("left" : Str) = "turn") := by decide +kernel
theorem kmt : ¬ (("mixed" : Str) = "turn") := by decide +kernel
theorem klc : ¬ (("left" : Str) = "cells") := by decide +kernel
theorem kmc : ¬ (("mixed" : Str) = "cells") := by decide +kernel
theorem ktc : ¬ (("turn" : Str) = "cells") := by decide +kernel
theorem kml : ¬ (("mixed" : Str) = "left") := by decide +kernel
theorem ktl : ¬ (("turn" : Str) = "left") := by decide +kernel
theorem ktm : ¬ (("turn" : Str) = "mixed") := by decide +kernel
theorem src_c {c : Addr} {l m t : Int} : valV (srcKvs c l m t) (.inr "cells") = some (.ref c) := by simp [valV, srcKvs]
theorem src_l {c : Addr} {l m t : Int} : valV (srcKvs c l m t) (.inr "left") = some (.int l) := by simp [valV, srcKvs, kcl]
theorem src_m {c : Addr} {l m t : Int} : valV (srcKvs c l m t) (.inr "mixed") = some (.int m) := by simp [valV, srcKvs, kcm, klm]
theorem src_t {c : Addr} {l m t : Int} : valV (srcKvs c l m t) (.inr "turn") = some (.int t) := by simp [valV, srcKvs, kct, klt, kmt]
theorem put_l {c : Addr} {l m t x : Int} : putK (srcKvs c l m t) (.inr "left") (.int x) = srcKvs c x m t := by simp [putK, srcKvs, kcl, kml, ktl]
theorem put_t {c : Addr} {l m t x : Int} : putK (srcKvs c l m t) (.inr "turn") (.int x) = srcKvs c l m x := by simp [putK, srcKvs, kct, klt, kmt]
structure Lw (s c : Addr) (G H : Hp) : Prop where
  src : ∃ (ns : List Int) (l m t : Int), H s = some (.dK (srcKvs c l m t)) ∧ H c = some (.lst (ns.map V.int))
  up : Same G H
  gs : G s = none
  gc : G c = none
section
variable {s c p : Addr} {G G' H H' : Hp} {o o' : HO}
theorem Lw.free (L : Lw s c G H) (h : H p = none) : G p = none := L.up.free h
theorem Lw.offS (L : Lw s c G H) (h : H p = none) : p ≠ s := fun e => by
  obtain ⟨_, _, _, _, h1, _⟩ := L.src
  rw [e, h1] at h
  cases h
theorem Lw.offC (L : Lw s c G H) (h : H p = none) : p ≠ c := fun e => by
  obtain ⟨_, _, _, _, _, h1⟩ := L.src
  rw [e, h1] at h
  cases h
theorem Lw.ownS (L : Lw s c G H) (h : G p = some o) : p ≠ s := ne_of_none h L.gs
theorem Lw.ownC (L : Lw s c G H) (h : G p = some o) : p ≠ c := ne_of_none h L.gc
theorem Same.both {o : HO} (u : Same G H) : Same (upd G p o) (upd H p o) := fun b x e => by
  by_cases h : b = p
  · subst h
    rw [upd_same] at e ⊢
    exact e
  · rw [upd_ne h] at e ⊢
    exact u b x e
theorem Lw.at (L : Lw s c G H) (h1 : p ≠ s) (h2 : p ≠ c) : Lw s c (upd G p o) (upd H p o) := by
  obtain ⟨ns, l, m, t, e1, e2⟩ := L.src
  exact ⟨⟨ns, l, m, t, by rw [upd_ne h1.symm]; exact e1, by rw [upd_ne h2.symm]; exact e2⟩, Same.both L.up, by rw [upd_ne h1.symm]; exact L.gs, by rw [upd_ne h2.symm]; exact L.gc⟩
theorem Lw.src' {ns : List Int} {l m t : Int} (L : Lw s c G H) (off : ∀ b, b ≠ s → b ≠ c → H' b = H b) (e1 : H' s = some (.dK (srcKvs c l m t))) (e2 : H' c = some (.lst (ns.map V.int))) : Lw s c G H' :=
  ⟨⟨ns, l, m, t, e1, e2⟩, fun b x e => by rw [off b (ne_of_none e L.gs) (ne_of_none e L.gc)]; exact L.up b x e, L.gs, L.gc⟩
/-- a new thing -/
theorem Lw.new (L : Lw s c G H) (h : H p = none) (o : HO) : Lw s c (upd G p o) (upd H p o) := L.at (L.offS h) (L.offC h)
/-- a thing that is changed -/
theorem Lw.put (L : Lw s c G H) (h : G p = some o) (o' : HO) : Lw s c (upd G p o') (upd H p o') := L.at (L.ownS h) (L.ownC h)
theorem Lw.less (L : Lw s c G H) (u : Same G' G) : Lw s c G' H := ⟨L.src, u.trans L.up, u.free L.gs, u.free L.gc⟩
/-- a call that leaves all as it was -/
theorem Lw.call (L : Lw s c G H) (u : Same H H') : ∃ G', Lw s c G' H' ∧ Same G G' ∧ ∀ p o, H' p = some o → p ≠ s → p ≠ c → G' p = some o := by
  obtain ⟨ns, l, m, t, e1, e2⟩ := L.src
  refine ⟨fun p => if p = s ∨ p = c then none else H' p, ⟨⟨ns, l, m, t, u _ _ e1, u _ _ e2⟩, fun b x e => ?_, if_pos (.inl rfl), if_pos (.inr rfl)⟩, fun b x e => ?_, fun b x e h1 h2 => ?_⟩
  · by_cases h : b = s ∨ b = c
    · have e' : (if b = s ∨ b = c then none else H' b) = some x := e
      rw [if_pos h] at e'
      cases e'
    · have e' : (if b = s ∨ b = c then none else H' b) = some x := e
      rw [if_neg h] at e'
      exact e'
  · have h : ¬ (b = s ∨ b = c) := fun z => z.elim (ne_of_none e L.gs) (ne_of_none e L.gc)
    show (if b = s ∨ b = c then none else H' b) = some x
    rw [if_neg h]
    exact u _ _ (L.up _ _ e)
  · show (if b = s ∨ b = c then none else H' b) = some x
    rw [if_neg fun z => z.elim h1 h2]
    exact e
/-- what is at the source is a dict, a list -/
theorem Lw.kindS (L : Lw s c G H) (h : H p = some o) (k : ∀ kvs, o ≠ .dK kvs) : p ≠ s := fun e => by
  obtain ⟨_, _, _, _, h1, _⟩ := L.src
  rw [e, h1] at h
  exact k _ (Option.some.inj h).symm
theorem Lw.kindC (L : Lw s c G H) (h : H p = some o) (k : ∀ xs, o ≠ .lst xs) : p ≠ c := fun e => by
  obtain ⟨_, _, _, _, _, h1⟩ := L.src
  rw [e, h1] at h
  exact k _ (Option.some.inj h).symm
end
def spSource (K : PySem.W.Frag) : Sp := fun vs H Q _ => ∃ (a : Addr) (ns : List Int), vs = [.ref a] ∧ SqL K H a (ns.map V.int) ∧ ns.length ≤ 1000 ∧ ∀ s c H', Lw s c H H' → Q (.ref s) H'
def spPick : Sp := fun vs H Q _ => ∃ (s c : Addr) (G : Hp) (many : Int), vs = [.ref s, .int many] ∧ Lw s c G H ∧ 1 ≤ many ∧ many ≤ 1000000 ∧ ∀ r H', Lw s c G H' → 0 ≤ r → r < many → Q (.int r) H'
def spOf : Sp := fun vs H Q _ => ∃ (s c a : Addr) (G : Hp) (xs : List V), vs = [.ref s, .ref a] ∧ Lw s c G H ∧ G a = some (.lst xs) ∧ xs ≠ [] ∧ xs.length ≤ 1000 ∧ ∀ x H', x ∈ xs → Lw s c G H' → Q x H'
section
variable {P : Program} {w : World} {K : PySem.W.Frag} {mg : Str → Option Value} {base : Heap} {f : Addr} {fd : FuncData}
theorem ok__law_source (F : Fun K "_law_source" "_law_source" s__law_source f fd) (T : Txt K mg) : FnOk P w K mg base CX0 1 f fd ["_law_script"] (spSource K) := by
  refine F.ok sc__law_source (fun vs H Q E h => ?_) (fun cdv A outer s H vs Q E hr h => ?_)
  · obtain ⟨a, ns, rfl, _⟩ := h
    rfl
  obtain ⟨a, ns, rfl, ha, hl, q⟩ := h
  refine ⟨_, (pss_cons (ps_set (i := 1) sc__law_source.nd rfl (.inl rfl) pe_int)
  (pss_cons (ps_for PassesOwn.never rfl (pi_list (pv 0)) (pg_name (i := 2) sc__law_source.nd rfl (by first | exact .inl rfl | exact .inr rfl)) (pss_one (ps_set (i := 1) sc__law_source.nd rfl (.inl rfl) (pe_op op_modN (pe_callTy call_int1 (by rfl) T.b_int (by decide +kernel) (pa_cons (pe_op op_add (pe_op op_add (pe_op op_mul (pv 1) pe_int) (pe_op op_mul (pv 2) pe_int)) pe_int) pa_nil)) pe_int))))
  (pss_one (ps_ret (pe_disp (pps_cons pe_str (pe_revL (pe_lc (own := [("_law_cell", 2)]) (g := gName 2) (tt := tYes) rfl sc__law_source.nd (pi_list (pv 0)) (blkOk_by (own := [("_law_cell", 2)]) (N := ["_law_script", "_law_mixed_here", "_law_cell"]) (by kernel_rfl)) (fun _ _ _ _ _ => (pg_name (i := 2) sc__law_source.nd rfl (by first | exact .inl rfl | exact .inr rfl))) (fun _ _ _ _ _ => pts_nil) (fun _ _ _ _ _ => (pe_callB call_abs (by rfl) T.b_abs (by decide +kernel) (pa_cons (pv 2) pa_nil))))) (pps_cons pe_str pe_int (pps_cons pe_str (pv 1) (pps_cons pe_str pe_int pps_nil)))) (by rfl) (by rfl) (fun z => by cases z) (by decide)))))), ?_⟩
  refine ⟨_, rfl, a, rfl, ⟨_, ha⟩, ?_⟩
  refine for_it walk_list (fun i σ Hx => ∃ m y, σ = [some (.ref a), some (.int m), y] ∧ Same H Hx) ⟨11, none, rfl, Same.refl H⟩ (fun i σ Hx _ ⟨_, _, _, z⟩ => z.seq ha) ?_ ?_
  · rintro i x σ H1 H2 hi ⟨m, y, rfl, s2⟩ ⟨rfl, ex⟩
    rw [List.getElem?_map] at ex
    cases en : ns[i]? with
    | none => rw [en] at ex; cases ex
    | some n =>
      rw [en] at ex
      obtain rfl : V.int n = x := Option.some.inj ex
      refine ⟨_, rfl, _, _, rfl, rfl, .inr ⟨by decide, by decide⟩, _, rfl, _, _, rfl, rfl, .inr ⟨by decide, by decide⟩, _, _, rfl, rfl, _, _, rfl, rfl, .inl ⟨_, rfl, _, _, rfl, rfl, (by show (2147483629 : Int) ≠ 0; decide), _, _, rfl, s2⟩⟩
  · rintro σ H1 ⟨m, y, rfl, s1⟩
    intro p hp
    refine ⟨_, rfl, a, rfl, ⟨_, (s1.trans (Same.new hp _)).seq ha⟩, fun D hD => ?_⟩
    refine lcA (walk_list (K := K) (a := a) (xs := ns.map V.int)) ns (fun n => .int (if n < 0 then -n else n)) (fun _ => true) (by rw [List.length_map]) hD (by rw [List.length_map]; exact Nat.le_of_lt (small1000 hl)) (fun Hx s => s.seq ((s1.trans (Same.new hp _)).seq ha)) (fun i n x H2 H3 Qy Qn hn s2 _ y hy _ => ?_) fun H2 s2 e2 => ?_
    · obtain ⟨rfl, ex⟩ := y
      rw [List.getElem?_map, hn] at ex
      obtain rfl : V.int n = x := Option.some.inj ex
      exact ⟨rfl, yes ⟨_, rfl, n, rfl, hy rfl _ (Same.refl _)⟩⟩
    · rw [all_yes] at e2
      refine ⟨D, _, rfl, SqL.of e2, fun r hr2 => ?_⟩
      have s3 := s2.trans (Same.new hr2 (.lst (ns.map fun n => V.int (if n < 0 then -n else n)).reverse))
      refine ⟨_, rfl, s3 _ _ upd_same, srcKvs r 1 m 0, rfl, (by show 4 ≤ 15; decide), ?_⟩
      rw [merge_new (by show (([.inr "cells", .inr "left", .inr "mixed", .inr "turn"] : List Key)).Nodup; decide +kernel)]
      have pr : r ≠ p := (ne_of_none (s2 _ _ upd_same) hr2).symm
      have s4 : Same H1 _ := Same.laid (o := .dK (srcKvs r 1 m 0)) hp ((Same.new hp (.dK [])).trans s3)
      refine q p r _ ⟨⟨(ns.map fun n => if n < 0 then -n else n).reverse, 1, m, 0, upd_same, ?_⟩, s1.trans s4, s1.free hp, s1.free ((Same.new hp (.dK [])).free (s2.free hr2))⟩
      rw [upd_ne pr, upd_same, List.map_reverse, List.map_map]
      rfl
theorem fmod_in {a b : Int} (h : 0 < b) : 0 ≤ a.fmod b ∧ a.fmod b < b := by
  rw [Int.fmod_eq_emod_of_nonneg a (by omega)]
  exact ⟨Int.emod_nonneg a (by omega), Int.emod_lt_of_pos a h⟩
theorem ok__law_pick (F : Fun K "_law_pick" "_law_pick" s__law_pick f fd) (T : Txt K mg) : FnOk P w K mg base CX0 1 f fd ["_law_source_here", "_law_many"] spPick := by
  refine F.ok sc__law_pick (fun vs H Q E h => ?_) (fun cdv A outer s H vs Q E hr h => ?_)
  · obtain ⟨s, c, G, many, rfl, _⟩ := h
    rfl
  obtain ⟨p, c, G, many, rfl, L, m1, m2, q⟩ := h
  have hu := hu_of hr
  refine ⟨_, (pss_cons (ps_while PassesOwn.never (PW.pt (pw_and (pt_cmpR op_gt (pv 1) pe_int (nomark _)) (pw_and (pt_cmpR op_lt (pe_dget hu (pv 0) pe_str (fun _ _ => rfl)) pe_int (nomark _)) (pw_and1 (pt_cmpR op_gt (pe_callB (r := rLenQ K) call_lenQ (by rfl) T.b_len (by decide +kernel) (pa_cons (pe_dget hu (pv 0) pe_str (fun _ _ => rfl)) pa_nil)) pe_int (nomark _)))))) (pss_one (ps_dput hu (pv 0) pe_str (pe_bm0 PySem.F.plainAttrs_list PySem.F.slot_list_pop PySem.F.type_list_pop mt_pop (pe_dget hu (pv 0) pe_str (fun _ _ => rfl))) rfl)))
  (pss_cons (ps_set (i := 2) sc__law_pick.nd rfl (.inl rfl) (pe_dget hu (pv 0) pe_str (fun _ _ => rfl)))
  (pss_cons (ps_if (PW.pt (pw_or (pt_cmpR op_lt (pv 1) pe_int (nomark _)) (pw_or1 (pt_cmpR op_gt (pv 2) pe_int (nomark _))))) (pss_cons (ps_dput hu (pv 0) pe_str (pe_op op_fdivN (pv 2) (pe_callB (call_max2 rfl) (by rfl) T.b_max (by decide +kernel) (pa_cons pe_int (pa_cons (pv 1) pa_nil)))) rfl)
  (pss_one (ps_ret (pe_op op_modN (pe_callTy call_int1 (by rfl) T.b_int (by decide +kernel) (pa_cons (pv 2) pa_nil)) (pe_callB (call_max2 rfl) (by rfl) T.b_max (by decide +kernel) (pa_cons pe_int (pa_cons (pv 1) pa_nil))))))) pss_nil)
  (pss_cons (ps_dput hu (pv 0) pe_str (pe_op op_add (pe_dget hu (pv 0) pe_str (fun _ _ => rfl)) pe_int) rfl)
  (pss_cons (ps_set (i := 3) sc__law_pick.nd rfl (.inl rfl) (pe_op op_modN (pe_callTy call_int1 (by rfl) T.b_int (by decide +kernel) (pa_cons (pe_op op_add (pe_dget hu (pv 0) pe_str (fun _ _ => rfl)) (pe_op op_mul (pe_dget hu (pv 0) pe_str (fun _ _ => rfl)) pe_int)) pa_nil)) pe_int))
  (pss_cons (ps_set (i := 3) sc__law_pick.nd rfl (.inl rfl) (pe_op op_modN (pe_callTy call_int1 (by rfl) T.b_int (by decide +kernel) (pa_cons (pe_op op_add (pe_op op_mul (pv 3) (pv 3)) (pe_op op_mul (pe_dget hu (pv 0) pe_str (fun _ _ => rfl)) pe_int)) pa_nil)) pe_int))
  (pss_one (ps_ret (pe_op op_modN (pe_callTy call_int1 (by rfl) T.b_int (by decide +kernel) (pa_cons (pe_op op_fdivN (pv 3) pe_int) pa_nil)) (pv 1)))))))))), ?_⟩
  have get : ∀ {Hx : Hp} {l m t : Int} (k : Str) (v : V), Hx p = some (.dK (srcKvs c l m t)) → valV (srcKvs c l m t) (.inr k) = some v → DGet Hx p (.str k) (some v) := fun k v e h => .inl ⟨_, .inr k, .inl e, rfl, h.symm⟩
  have put : ∀ {Hx : Hp} {l m t : Int} (k : Str) (v : V), Hx p = some (.dK (srcKvs c l m t)) → DPut Hx p (.str k) v (upd Hx p (.dK (putK (srcKvs c l m t) (.inr k) v))) := fun k v e => DPut.k (k := .inr k) e (by show 4 < sizeLine; decide)
  have mx : (if many > 1 then many else 1) = many := by
    by_cases h : many > 1
    · rw [if_pos h]
    · rw [if_neg h]
      omega
  have cp : ∀ {Hx : Hp} {ns : List Int} {l m t : Int}, Hx p = some (.dK (srcKvs c l m t)) → Hx c = some (.lst (ns.map V.int)) → c ≠ p := fun e1 e2 => ne_of e2 e1 (by intro z; cases z)
  obtain ⟨ns0, l0, m0, t0, z1, z2⟩ := L.src
  refine ⟨fun n σ Hx => σ = [some (.ref p), some (.int many), none, none] ∧ Lw p c G Hx ∧ ∃ ns l m t, Hx p = some (.dK (srcKvs c l m t)) ∧ Hx c = some (.lst ((ns : List Int).map V.int)) ∧ ns.length = n, ⟨ns0.length, rfl, L, ns0, l0, m0, t0, z1, z2, rfl⟩, ?_⟩
  rintro n σ H1 ⟨rfl, L1, ns, l, m, t, e1, e2, ln⟩
  refine ⟨_, rfl, _, _, rfl, rfl, _, rfl, ifB (fun h1 => ⟨_, rfl, p, _, rfl, get "left" _ e1 src_l, _, _, rfl, rfl, _, rfl, ifB (fun h2 => ⟨_, rfl, p, _, rfl, get "cells" _ e1 src_c, c, _, rfl, .inl (SqL.of e2), _, _, rfl, rfl, _, rfl, ifB (fun h3 => ?go) (fun h3 => ?x3)⟩) (fun h2 => iteF ?x2)⟩) (fun h1 => iteF ?x1)⟩
  case go =>
    have pos : 0 < ns.length := by
      have z := of_decide_eq_true h3
      rw [List.length_map] at z
      omega
    refine ⟨fun σ Hx => σ = [some (.ref p), some (.int many), none, none] ∧ Lw p c G Hx ∧ ∃ ns2 l m t, Hx p = some (.dK (srcKvs c l m t)) ∧ Hx c = some (.lst ((ns2 : List Int).map V.int)) ∧ ns2.length < ns.length, fun σ' H' ⟨a1, a2, ns2, l, m, t, a3, a4, a5⟩ => ⟨ns2.length, by omega, a1, a2, ns2, l, m, t, a3, a4, rfl⟩, ?_⟩
    have hy : (ns.map V.int)[(ns.map V.int).length - 1]? = some (.int (ns[ns.length - 1]'(by omega))) := by
      rw [List.length_map, List.getElem?_map, List.getElem?_eq_getElem (by omega)]
      rfl
    have pc := cp e1 e2
    have e3 : (upd H1 c (.lst (ns.map V.int).dropLast)) p = some (.dK (srcKvs c l m t)) := by rw [upd_ne pc.symm]; exact e1
    refine ⟨_, rfl, p, _, rfl, get "cells" _ e1 src_c, .inl ⟨rfl, _, SqL.of e2⟩, c, _, _, rfl, rfl, e2, hy, _, rfl, p, _, rfl, put "left" _ e3, ?_⟩
    have e4 : (upd (upd H1 c (.lst (ns.map V.int).dropLast)) p (.dK (putK (srcKvs c l m t) (.inr "left") (.int (ns[ns.length - 1]'(by omega)))))) p = some (.dK (srcKvs c (ns[ns.length - 1]'(by omega)) m t)) := by rw [upd_same, put_l]
    have e5 : (upd (upd H1 c (.lst (ns.map V.int).dropLast)) p (.dK (putK (srcKvs c l m t) (.inr "left") (.int (ns[ns.length - 1]'(by omega)))))) c = some (.lst (ns.dropLast.map V.int)) := by rw [upd_ne pc, upd_same, List.map_dropLast]
    exact ⟨rfl, L1.src' (fun b h1 h2 => by rw [upd_ne h1, upd_ne h2]) e4 e5, ns.dropLast, _, m, t, e4, e5, by rw [List.length_dropLast]; omega⟩
  all_goals
    have pc := cp e1 e2
    refine ⟨_, rfl, p, _, rfl, get "left" _ e1 src_l, ?_⟩
    refine ⟨_, rfl, _, _, rfl, rfl, _, rfl, ifB (fun g1 => ?_) (fun g1 => ⟨_, rfl, _, _, rfl, rfl, _, rfl, ifB (fun g2 => ?_) (fun g2 => ?_)⟩)⟩
    rotate_left 2
    · refine ⟨_, rfl, p, _, rfl, get "turn" _ e1 src_t, _, _, rfl, rfl, _, rfl, p, _, rfl, put "turn" _ e1, ?_⟩
      have e4 : (upd H1 p (.dK (putK (srcKvs c l m t) (.inr "turn") (.int (t + 1))))) p = some (.dK (srcKvs c l m (t + 1))) := by rw [upd_same, put_t]
      have e5 : (upd H1 p (.dK (putK (srcKvs c l m t) (.inr "turn") (.int (t + 1))))) c = some (.lst (ns.map V.int)) := by rw [upd_ne pc]; exact e2
      have L2 := L1.src' (H' := upd H1 p (.dK (putK (srcKvs c l m t) (.inr "turn") (.int (t + 1))))) (fun b h1 h2 => by rw [upd_ne h1]) e4 e5
      refine ⟨_, rfl, p, _, rfl, get "mixed" _ e4 src_m, _, rfl, p, _, rfl, get "turn" _ e4 src_t, _, _, rfl, rfl, .inr ⟨by decide, by decide⟩, _, _, rfl, rfl, .inl ⟨_, rfl, _, _, rfl, rfl, (by show (998244353 : Int) ≠ 0; decide), ?_⟩⟩
      have b1 := fmod_in (a := m + (t + 1) * 104729) (b := 998244353) (by decide)
      refine ⟨_, rfl, _, rfl, _, _, rfl, rfl, .inl ⟨by omega, by omega⟩, _, rfl, p, _, rfl, get "turn" _ e4 src_t, _, _, rfl, rfl, .inr ⟨by decide, by decide⟩, _, _, rfl, rfl, .inl ⟨_, rfl, _, _, rfl, rfl, (by show (2147483647 : Int) ≠ 0; decide), ?_⟩⟩
      refine ⟨_, rfl, _, _, rfl, rfl, ⟨by decide, by decide⟩, .inl ⟨_, rfl, _, rfl, _, _, rfl, rfl, (by show many ≠ 0; omega), ?_⟩⟩
      have b2 := fmod_in (a := ((((m + (t + 1) * 104729).fmod 998244353) * ((m + (t + 1) * 104729).fmod 998244353) + (t + 1) * 17).fmod 2147483647).fdiv 16) (b := many) (by omega)
      exact q _ _ L2 b2.1 b2.2
    all_goals
      refine ⟨_, rfl, _, rfl, _, _, rfl, ?_⟩
      rw [mx]
      refine ⟨_, _, rfl, rfl, ⟨by omega, by omega⟩, _, rfl, p, _, rfl, put "left" _ e1, ?_⟩
      have e4 : (upd H1 p (.dK (putK (srcKvs c l m t) (.inr "left") (.int (l.fdiv many))))) p = some (.dK (srcKvs c (l.fdiv many) m t)) := by rw [upd_same, put_l]
      have e5 : (upd H1 p (.dK (putK (srcKvs c l m t) (.inr "left") (.int (l.fdiv many))))) c = some (.lst (ns.map V.int)) := by rw [upd_ne pc]; exact e2
      have L2 := L1.src' (H' := upd H1 p (.dK (putK (srcKvs c l m t) (.inr "left") (.int (l.fdiv many))))) (fun b h1 h2 => by rw [upd_ne h1]) e4 e5
      refine ⟨_, rfl, .inl ⟨_, rfl, _, rfl, _, _, rfl, ?_⟩⟩
      rw [mx]
      refine ⟨_, _, rfl, rfl, (by show many ≠ 0; omega), ?_⟩
      have b2 := fmod_in (a := l) (b := many) (by omega)
      exact q _ _ L2 b2.1 b2.2
end
end K16
namespace K16
open PySem PySem.Spec PyProof.Rows L2 RZ
theorem seq_nat {n j : Nat} (h : j < n) : seqIndex? (j : Int) n = some j := by
  have e : ixN n (j : Int) = some j := by
    unfold ixN
    rw [if_pos (by omega), if_pos (by omega), Int.toNat_natCast]
  exact (ixN_seq e).1
theorem erase_perm {α : Type} : ∀ (l : List α) (i : Nat) (h : i < l.length), (l[i] :: l.eraseIdx i).Perm l
  | a :: l, 0, _ => .refl _
  | a :: l, i + 1, h => by
    have h2 : i < l.length := by simpa using h
    have ih := erase_perm l i h2
    exact (List.Perm.swap _ _ _).trans (ih.cons a)
theorem nat_of {r : Int} {n : Nat} (h0 : 0 ≤ r) (h1 : r < n) : ∃ j : Nat, r = (j : Int) ∧ j < n := by
  obtain ⟨j, rfl⟩ := Int.eq_ofNat_of_zero_le h0
  exact ⟨j, rfl, by omega⟩
def spMixed : Sp := fun vs H Q _ => ∃ (s c a : Addr) (G : Hp) (xs : List V), vs = [.ref s, .ref a] ∧ Lw s c G H ∧ G a = some (.lst xs) ∧ xs.length ≤ 1000 ∧
  ∀ l ys G' H', List.Perm ys xs → Lw s c G' H' → Same G G' → G l = none → G' l = some (.lst ys) → Q (.ref l) H'
section
variable {P : Program} {w : World} {K : PySem.W.Frag} {mg : Str → Option Value} {base : Heap} {f : Addr} {fd : FuncData}
theorem ok__law_of (F : Fun K "_law_of" "_law_of" s__law_of f fd) (T : Txt K mg) (F__law_pick : Has P w K mg base 1 "_law_pick" spPick) : FnOk P w K mg base CX0 2 f fd ["_law_source_here", "_law_some"] spOf := by
  refine F.ok sc__law_of (fun vs H Q E h => ?_) (fun cdv A outer s H vs Q E hr h => ?_)
  · obtain ⟨s, c, a, G, xs, rfl, _⟩ := h
    rfl
  obtain ⟨p, c, a, G, xs, rfl, L, ha, x0, hl, q⟩ := h
  refine ⟨_, (pss_one (ps_ret (pe_ix (r := rIxL K) ix_list (pv 1) (pe_fn F__law_pick (hr.mono (by omega)) (by rfl) (pa_cons (pv 0) (pa_cons (pe_callB (r := rLenQ K) call_lenQ (by rfl) T.b_len (by decide +kernel) (pa_cons (pv 1) pa_nil)) pa_nil))) (fun _ _ => rfl)))), ?_⟩
  have pos : 0 < xs.length := List.length_pos_iff.mpr x0
  refine ⟨_, rfl, _, rfl, _, rfl, a, _, rfl, .inl (SqL.of (L.up _ _ ha)), p, c, G, xs.length, rfl, L, by omega, by omega, fun r H1 L1 r0 r1 => ?_⟩
  obtain ⟨j, rfl, hj⟩ := nat_of r0 r1
  exact ⟨a, xs, _, xs[j], rfl, rfl, SqL.of (L1.up _ _ ha), atI_nat (List.getElem?_eq_getElem hj), q _ _ (List.getElem_mem hj) L1⟩
theorem ok__law_mixed (F : Fun K "_law_mixed" "_law_mixed" s__law_mixed f fd) (T : Txt K mg) (F__law_pick : Has P w K mg base 1 "_law_pick" spPick) : FnOk P w K mg base CX0 2 f fd ["_law_source_here", "_law_things"] spMixed := by
  refine F.ok sc__law_mixed (fun vs H Q E h => ?_) (fun cdv A outer s H vs Q E hr h => ?_)
  · obtain ⟨s, c, a, G, xs, rfl, _⟩ := h
    rfl
  obtain ⟨p, c, a, G, xs, rfl, L, ha, hl, q⟩ := h
  refine ⟨_, (pss_cons (ps_set (i := 2) sc__law_mixed.nd rfl (.inr rfl) (pe_callTy call_list_of (by rfl) T.b_list (by decide +kernel) (pa_cons (pv 1) pa_nil)))
  (pss_one (ps_ret (pe_lc (own := [("_law_lap", 3)]) (g := gName 3) (tt := tYes) (te := (tBM K "list" rPopAt (tVar 2) (tCons (tCall spPick [] E0 (tCons (tVar 0) (tCons (tCB (rLenQ K) (tCons (tVar 2) tNil)) tNil))) tNil))) rfl sc__law_mixed.nd (pi_range1 (by rfl) T.b_range (pa_cons (pe_callB (r := rLenQ K) call_lenQ (by rfl) T.b_len (by decide +kernel) (pa_cons (pv 2) pa_nil)) pa_nil)) (blkOk_by (own := [("_law_lap", 3)]) (N := ["_law_source_here", "_law_things", "_law_rest", "_law_lap"]) (by kernel_rfl)) (fun _ _ _ _ _ => (pg_name (i := 3) sc__law_mixed.nd rfl (by first | exact .inl rfl | exact .inr rfl))) (fun _ _ _ _ _ => pts_nil) (fun _ _ _ _ _ => (pe_bm PySem.F.plainAttrs_list PySem.F.slot_list_pop PySem.F.type_list_pop mt_popAt (pv 2) (pa_cons (pe_fn F__law_pick (hr.mono (by omega)) (by rfl) (pa_cons (pv 0) (pa_cons (pe_callB (r := rLenQ K) call_lenQ (by rfl) T.b_len (by decide +kernel) (pa_cons (pv 2) pa_nil)) pa_nil))) pa_nil))))))), ?_⟩
  refine ⟨_, rfl, a, _, rfl, .inl (SqL.of (L.up _ _ ha)), fun l hl0 => ?_⟩
  have L1 := L.new hl0 (.lst xs)
  have gl0 := L.free hl0
  refine ⟨_, rfl, l, _, rfl, .inl (SqL.of upd_same), _, rfl, by omega, by omega, fun D hD => ?_⟩
  have L2 := L1.new hD (.lst [])
  have lD : l ≠ D := ne_of_none (H := upd H l (.lst xs)) upd_same hD
  have gD : (upd G l (.lst xs)) D = none := L1.free hD
  have gD0 : G D = none := by rw [upd_ne lD.symm] at gD; exact gD
  refine lc_it walk_range (fun i Hx => ∃ acc rest G', Lw p c G' Hx ∧ Same G G' ∧ G' l = some (.lst rest) ∧ G' D = some (.lst acc) ∧ (acc ++ rest).Perm xs ∧ acc.length = i)
    ⟨[], xs, _, L2, (Same.new gl0 _).trans (Same.new gD _), by rw [upd_ne lD, upd_same], upd_same, .refl _, rfl⟩ (fun _ _ _ _ => True.intro) ?_ ?_
  · rintro i x H0 H1 hi ⟨acc, rest, G1, L3, s3, e1, e2, pm, la⟩ ⟨rfl, ex⟩
    have ln := pm.length_eq
    rw [List.length_append] at ln
    have hi' : i < xs.length := by
      have z : i < ((xs.length : Nat) : Int).toNat := hi
      rw [Int.toNat_natCast] at z
      exact z
    refine ⟨rfl, yes ⟨_, rfl, .inl ⟨rfl, _, SqL.of (L3.up _ _ e1)⟩, _, rfl, _, rfl, l, _, rfl, .inl (SqL.of (L3.up _ _ e1)), p, c, G1, rest.length, rfl, L3, by omega, by omega, fun r H2 L4 r0 r1 => ?_⟩⟩
    obtain ⟨j, rfl, hj⟩ := nat_of r0 r1
    refine ⟨l, rest, _, j, rest[j], rfl, rfl, L4.up _ _ e1, by omega, by omega, seq_nat hj, List.getElem?_eq_getElem hj, ?_⟩
    have L5 := L4.put e1 (.lst (rest.eraseIdx j))
    have e3 : (upd G1 l (.lst (rest.eraseIdx j))) D = some (.lst acc) := by rw [upd_ne lD.symm]; exact e2
    refine ⟨acc, by rw [upd_ne lD.symm]; exact L4.up _ _ e2, small1000 (by omega), acc ++ [rest[j]], rest.eraseIdx j, _, L5.put e3 _, Same.laid gD0 (Same.laid gl0 s3), by rw [upd_ne lD, upd_same], upd_same, ?_, by rw [List.length_append, la]; rfl⟩
    rw [List.append_assoc]
    exact ((erase_perm rest j hj).append_left acc).trans pm
  · rintro H1 ⟨acc, rest, G1, L3, s3, e1, e2, pm, la⟩
    have ln := pm.length_eq
    rw [List.length_append] at ln
    have z : acc.length = ((xs.length : Nat) : Int).toNat := la
    rw [Int.toNat_natCast] at z
    have r0 : rest = [] := List.length_eq_zero_iff.mp (by omega)
    rw [r0, List.append_nil] at pm
    exact q D acc G1 H1 pm L3 s3 gD0 e2
end
/-! ### names -/
def Nine : List Nat := [107, 107, 107, 107, 107, 107, 107, 107, 107]
def NameAt (v : Nat) (z : Str) : Prop := ∃ c tl, c ∈ LETS.cps.toList ∧ (tl = [] ∨ tl = [107] ∨ tl = Nine) ∧ z.cps.toList = c :: (48 + v / 10) :: (48 + v % 10) :: tl
theorem NameAt.wd {v : Nat} {z : Str} (hv : v < 100) (h : NameAt v z) : Wd z := by
  obtain ⟨c, tl, hc, ht, e⟩ := h
  have len : z.length = 3 + tl.length := by
    show z.cps.size = _
    rw [← Array.length_toList, e, List.length_cons, List.length_cons, List.length_cons]
    omega
  have fig : ∀ d : Fin 10, 48 + (d : Nat) ∈ FIGS.cps.toList := by decide +kernel
  have let107 : 107 ∈ LETS.cps.toList := by decide +kernel
  refine ⟨by omega, ?_, ⟨c, ?_, hc⟩, fun x hx => ?_⟩
  · rw [len]
    rcases ht with h | h | h <;> rw [h] <;> decide
  · rw [← Array.getElem?_toList, e]
    rfl
  · rw [e] at hx
    rcases List.mem_cons.mp hx with h | hx
    · exact .inl (h ▸ hc)
    rcases List.mem_cons.mp hx with h | hx
    · exact .inr (h ▸ fig ⟨v / 10, by omega⟩)
    rcases List.mem_cons.mp hx with h | hx
    · exact .inr (h ▸ fig ⟨v % 10, by omega⟩)
    · refine .inl ?_
      have q : ∀ y ∈ Nine, y = 107 := by decide
      rcases ht with h | h | h
      · rw [h] at hx
        cases hx
      · rw [h] at hx
        rw [List.mem_singleton.mp hx]
        exact let107
      · rw [h] at hx
        rw [q x hx]
        exact let107
theorem NameAt.inj {v u : Nat} {z : Str} (h : NameAt v z) (k : NameAt u z) : v = u := by
  obtain ⟨c, tl, _, _, e⟩ := h
  obtain ⟨d, t2, _, _, e2⟩ := k
  rw [e] at e2
  injection e2 with _ e3
  injection e3 with a e4
  injection e4 with b _
  omega
theorem NameAt.zz {v : Nat} {z : Str} (hv : v < 100) (h : NameAt v z) : z ≠ "zz9" := fun q => by
  obtain ⟨c, tl, _, _, e⟩ := h
  rw [q] at e
  have e2 : (("zz9" : Str).cps.toList)[1]? = some 122 := by decide +kernel
  rw [e] at e2
  have e3 : 48 + v / 10 = 122 := Option.some.inj e2
  omega
theorem two_is : ∀ v : Fin 100, (cutS (toString ((100 : Int) + ((v : Nat) : Int)) : Str) (some 1) none).cps.toList = [48 + (v : Nat) / 10, 48 + (v : Nat) % 10] := by decide +kernel
theorem shift_inj {sh i j : Nat} (hi : i < 100) (hj : j < 100) (h : (sh + 37 * i) % 100 = (sh + 37 * j) % 100) : i = j := by omega
def spLawNames : Sp := fun vs H Q _ => ∃ (s c : Addr) (G : Hp) (n : Nat), vs = [.ref s, .int (n : Int)] ∧ Lw s c G H ∧ n < 100 ∧
  ∀ l zs G' H', zs.length = n → zs.Nodup → (∀ z ∈ zs, Wd z ∧ z ≠ "zz9") → Lw s c G' H' → Same G G' → G l = none → StrL G' l zs → Q (.ref l) H'
theorem str_list {z u : Str} : (z ++ u).cps.toList = z.cps.toList ++ u.cps.toList := by
  show (z.cps ++ u.cps).toList = _
  exact Array.toList_append
theorem str_size {z : Str} : z.length = z.cps.toList.length := (Array.length_toList).symm
section
variable {P : Program} {w : World} {K : PySem.W.Frag} {mg : Str → Option Value} {base : Heap} {f : Addr} {fd : FuncData}
theorem ok__law_names (F : Fun K "_law_names" "_law_names" s__law_names f fd) (T : Txt K mg) (F__law_pick : Has P w K mg base 1 "_law_pick" spPick) : FnOk P w K mg base CX0 2 f fd ["_law_source_here", "_law_many"] spLawNames := by
  refine F.ok sc__law_names (fun vs H Q E h => ?_) (fun cdv A outer s H vs Q E hr h => ?_)
  · obtain ⟨s, c, G, n, rfl, _⟩ := h
    rfl
  obtain ⟨p, c, G, n, rfl, L, hn, q⟩ := h
  refine ⟨_, (pss_cons (ps_par3 (i := 2) (j := 3) (l := 4) (by rfl) sc__law_names.nd rfl rfl rfl (by decide) (by decide) (by decide) rfl rfl rfl (pa_cons (pe_fn F__law_pick (hr.mono (by omega)) (by rfl) (pa_cons (pv 0) (pa_cons pe_int pa_nil))) (pa_cons (pe_lst pa_nil) (pa_cons (pe_lst (pa_cons pe_str (pa_cons pe_str (pa_cons pe_str (pa_cons pe_str (pa_cons pe_str pa_nil)))))) pa_nil))) (by rfl))
  (pss_cons (ps_for PassesOwn.never rfl (pi_range1 (by rfl) T.b_range (pa_cons (pv 1) pa_nil)) (pg_name (i := 5) sc__law_names.nd rfl (by first | exact .inl rfl | exact .inr rfl)) (pss_cons (ps_set (i := 6) sc__law_names.nd rfl (.inl rfl) (pe_ix (r := rIxS) ix_str pe_str (pe_fn F__law_pick (hr.mono (by omega)) (by rfl) (pa_cons (pv 0) (pa_cons pe_int pa_nil))) (fun _ _ => rfl)))
  (pss_one (ps_expr (pe_bm PySem.F.plainAttrs_list PySem.F.slot_list_append PySem.F.type_list_append mt_append (pv 3) (pa_cons (pe_op op_add_str (pe_op op_add_str (pv 6) (pe_slice sl_str (pe_callTy call_str_int (by rfl) T.b_str (by decide +kernel) (pa_cons (pe_op op_add pe_int (pe_op op_modN (pe_callTy call_int1 (by rfl) T.b_int (by decide +kernel) (pa_cons (pe_op op_add (pv 2) (pe_op op_mul pe_int (pv 5))) pa_nil)) pe_int)) pa_nil)) (po_some pe_int) po_none)) (pe_ix (r := rIxL K) ix_list (pv 4) (pe_fn F__law_pick (hr.mono (by omega)) (by rfl) (pa_cons (pv 0) (pa_cons pe_int pa_nil))) (fun _ _ => rfl))) pa_nil))))))
  (pss_one (ps_ret (pv 3))))), ?_⟩
  refine ⟨_, rfl, p, c, G, 100, rfl, L, by omega, by omega, fun r H1 L1 r0 r1 => ?_⟩
  obtain ⟨sh, rfl, hsh⟩ := nat_of (n := 100) r0 r1
  refine ⟨(by show 0 ≤ sizeLine; decide), fun nl hnl => ?_⟩
  have L2 := L1.new hnl (.lst [])
  refine ⟨(by show 5 ≤ sizeLine; decide), fun tl htl => ⟨_, _, _, rfl, ?_⟩⟩
  have L3 := L2.new htl (.lst [.str "", .str "", .str "", .str "k", .str "kkkkkkkkk"])
  have nt : nl ≠ tl := ne_of_none (H := upd H1 nl (.lst [])) upd_same htl
  have gn := L1.free hnl
  have gt : G tl = none := by
    have z := L2.free htl
    rw [upd_ne nt.symm] at z
    exact z
  refine ⟨_, rfl, _, rfl, by omega, by omega, ?_⟩
  rw [Int.toNat_natCast]
  refine for_it walk_range (fun i σ Hx => ∃ y5 y6 zs G', σ = [some (.ref p), some (.int (n : Int)), some (.int (sh : Int)), some (.ref nl), some (.ref tl), y5, y6] ∧ Lw p c G' Hx ∧ Same G G' ∧ G' tl = some (.lst [.str "", .str "", .str "", .str "k", .str "kkkkkkkkk"]) ∧
      G' nl = some (.lst ((zs : List Str).map V.str)) ∧ zs.length = i ∧ ∀ j (h : j < zs.length), NameAt ((sh + 37 * j) % 100) zs[j])
    ⟨none, none, [], _, rfl, L3, (Same.new gn _).trans (Same.new (by rw [upd_ne nt.symm]; exact gt) _), upd_same, by rw [upd_ne nt, upd_same]; rfl, rfl, fun j h => absurd h (Nat.not_lt_zero j)⟩ (fun _ _ _ _ _ => True.intro) ?_ ?_
  · rintro i x σ H0 H4 hi ⟨y5, y6, zs, G1, rfl, L4, s4, e1, e2, lz, nm⟩ ⟨rfl, rfl⟩
    refine ⟨_, rfl, p, c, G1, 26, rfl, L4, by omega, by omega, fun r H5 L5 r0 r1 => ?_⟩
    obtain ⟨a, rfl, ha⟩ := nat_of (n := 26) r0 r1
    have la : a < LETS.cps.toList.length := by
      have z : LETS.cps.toList.length = 26 := by decide +kernel
      omega
    refine ⟨LETS, _, LETS.cps.toList[a], rfl, rfl, by decide +kernel, atI_nat (List.getElem?_eq_getElem la), ?_⟩
    refine ⟨_, rfl, .inl ⟨rfl, _, SqL.of (L5.up _ _ e2)⟩, _, rfl, _, rfl, _, rfl, _, _, rfl, rfl, .inl ⟨by decide, by decide⟩, _, _, rfl, rfl, .inl ⟨_, rfl, _, _, rfl, rfl, (by show (100 : Int) ≠ 0; decide), ?_⟩⟩
    have ev : ((sh : Int) + 37 * (0 + (i : Int))).fmod 100 = (((sh + 37 * i) % 100 : Nat) : Int) := by
      rw [Int.fmod_eq_emod_of_nonneg _ (by omega)]
      omega
    have hv : (sh + 37 * i) % 100 < 100 := Nat.mod_lt _ (by decide)
    obtain ⟨v, hV⟩ : ∃ v, (sh + 37 * i) % 100 = v := ⟨_, rfl⟩
    rw [hV] at ev hv
    have two := two_is ⟨v, hv⟩
    refine ⟨100, (v : Int), rfl, congrArg V.int ev, _, rfl, ?_, ?_⟩
    · have z : ((100 : Int) + (v : Int)).natAbs.log2 < 1920 := by
        have z2 : ((100 : Int) + (v : Int)).natAbs < 2 ^ 1920 := Nat.lt_of_lt_of_le (show _ < 2 ^ 8 by omega) (Nat.pow_le_pow_right (by decide) (by decide))
        exact (Nat.log2_lt (by omega)).mpr z2
      exact z
    have l2 : (cutS (toString ((100 : Int) + (v : Int)) : Str) (some 1) none).length = 2 := by
      rw [str_size, two]
      rfl
    refine ⟨_, rfl, _, rfl, ?_, _, _, rfl, rfl, ?_, _, rfl, _, rfl, p, c, G1, 5, rfl, L5, by omega, by omega, fun r H6 L6 r0 r1 => ?_⟩
    · have z : ∀ u : Fin 100, (toString ((100 : Int) + ((u : Nat) : Int)) : Str).length ≤ 1000 := by decide +kernel
      exact Nat.le_of_lt (small1000 (z ⟨v, hv⟩))
    · rw [l2]
      show 1 + 2 ≤ sizeLine
      decide
    obtain ⟨b, rfl, hb⟩ := nat_of (n := 5) r0 r1
    have tails : ∃ t : Str, ([.str "", .str "", .str "", .str "k", .str "kkkkkkkkk"] : List V)[b]? = some (.str t) ∧ (t.cps.toList = [] ∨ t.cps.toList = [107] ∨ t.cps.toList = Nine) := by
      have k0 : (("" : Str).cps.toList) = [] := by decide +kernel
      have k1 : (("k" : Str).cps.toList) = [107] := by decide +kernel
      have k9 : (("kkkkkkkkk" : Str).cps.toList) = Nine := by decide +kernel
      match b, hb with
      | 0, _ => exact ⟨_, rfl, .inl k0⟩
      | 1, _ => exact ⟨_, rfl, .inl k0⟩
      | 2, _ => exact ⟨_, rfl, .inl k0⟩
      | 3, _ => exact ⟨_, rfl, .inr (.inl k1)⟩
      | 4, _ => exact ⟨_, rfl, .inr (.inr k9)⟩
    obtain ⟨t, et, ht⟩ := tails
    have lt9 : t.cps.toList.length ≤ 9 := by rcases ht with h | h | h <;> rw [h] <;> decide
    have e6 := L6.up _ _ e2
    refine ⟨tl, _, _, _, rfl, rfl, SqL.of (L6.up _ _ e1), atI_nat et, _, _, rfl, rfl, ?_, nl, _, _, rfl, rfl, e6, ?_, ?_⟩
    · rw [str_size, str_size, str_list, two, List.length_append]
      refine Nat.le_of_lt (small1000 ?_)
      show 1 + 2 + _ ≤ 1000
      omega
    · rw [List.length_map]
      exact small1000 (by have : i < n := hi; omega)
    · refine ⟨_, _, zs ++ [_], _, rfl, L6.put e2 _, Same.laid gn s4, by rw [upd_ne nt.symm]; exact e1, by rw [upd_same, List.map_append]; rfl, by rw [List.length_append, lz]; rfl, fun j hj => ?_⟩
      by_cases e : j < zs.length
      · rw [List.getElem_append_left e]
        exact nm j e
      · rw [List.length_append] at hj
        have e3 : j = zs.length := by
          have : j < zs.length + 1 := hj
          omega
        subst e3
        rw [List.getElem_append_right (Nat.le_refl _)]
        have ev2 : (sh + 37 * zs.length) % 100 = v := by rw [lz]; exact hV
        rw [ev2]
        refine ⟨LETS.cps.toList[a], t.cps.toList, List.getElem_mem la, ht, ?_⟩
        rw [List.getElem_singleton, str_list, str_list, two]
        rfl
  · rintro σ H4 ⟨y5, y6, zs, G1, rfl, L4, s4, e1, e2, lz, nm⟩
    have mem : ∀ z ∈ zs, ∃ j, j < zs.length ∧ NameAt ((sh + 37 * j) % 100) z := fun z hz => by
      obtain ⟨j, hj, rfl⟩ := List.getElem_of_mem hz
      exact ⟨j, hj, nm j hj⟩
    refine ⟨_, rfl, q nl zs G1 H4 lz ?_ (fun z hz => ?_) L4 s4 gn e2⟩
    · refine List.pairwise_iff_getElem.mpr fun i j hi hj lt e => ?_
      have a := nm i hi
      rw [e] at a
      have b := shift_inj (by omega) (by omega) (a.inj (nm j hj))
      omega
    · obtain ⟨j, hj, h⟩ := mem z hz
      exact ⟨h.wd (Nat.mod_lt _ (by decide)), h.zz (Nat.mod_lt _ (by decide))⟩
end
end K16
namespace K16
open PySem PySem.Spec PyProof.Rows L2 RZ
theorem perm_map {α β : Type} {f : α → β} {ys xs : List β} (h : List.Perm ys xs) : ∀ {gs : List α}, xs = gs.map f → ∃ zs : List α, ys = zs.map f ∧ zs.Perm gs := by
  induction h with
  | nil =>
    intro gs e
    exact ⟨[], rfl, by cases gs with
      | nil => exact .nil
      | cons a r => cases e⟩
  | cons x _ ih =>
    intro gs e
    cases gs with
    | nil => cases e
    | cons a r =>
      injection e with e1 e2
      obtain ⟨zs, e3, p⟩ := ih e2
      exact ⟨a :: zs, by rw [List.map_cons, ← e3, ← e1], p.cons a⟩
  | swap x y l =>
    intro gs e
    cases gs with
    | nil => cases e
    | cons a r =>
      injection e with e1 e2
      cases r with
      | nil => cases e2
      | cons b r =>
        injection e2 with e3 e4
        exact ⟨b :: a :: r, by rw [List.map_cons, List.map_cons, ← e1, ← e3, ← e4], .swap _ _ _⟩
  | trans _ _ ih1 ih2 =>
    intro gs e
    obtain ⟨zs, e1, p1⟩ := ih2 e
    obtain ⟨us, e2, p2⟩ := ih1 e1
    exact ⟨us, e2, p2.trans p1⟩
inductive Tr where
  | leaf (z : Str)
  | node (a b : Tr)
def Tr.lv : Tr → List Str
  | .leaf z => [z]
  | .node a b => a.lv ++ b.lv
def Tr.sz : Tr → Nat
  | .leaf _ => 0
  | .node a b => a.sz + b.sz + 1
theorem Tr.lv_sz : ∀ t : Tr, t.lv.length = t.sz + 1
  | .leaf _ => rfl
  | .node a b => by
    show (a.lv ++ b.lv).length = a.sz + b.sz + 1 + 1
    rw [List.length_append, lv_sz a, lv_sz b]
    omega
def TreeAt (H : Hp) : V → Tr → Prop
  | v, .leaf z => v = .str z
  | v, .node a b => ∃ l x y, v = .ref l ∧ H l = some (.lst [x, y]) ∧ TreeAt H x a ∧ TreeAt H y b
theorem TreeAt.mono {H H' : Hp} (s : Same H H') : ∀ {t : Tr} {v : V}, TreeAt H v t → TreeAt H' v t
  | .leaf _, _, h => h
  | .node _ _, _, h => let ⟨l, x, y, h1, h2, h3, h4⟩ := h; ⟨l, x, y, h1, s _ _ h2, mono s h3, mono s h4⟩
def spTree (n : Nat) : Sp := fun vs H Q _ => ∃ (s c a : Addr) (G : Hp) (gs : List Str), vs = [.ref s, .ref a] ∧ Lw s c G H ∧ StrL G a gs ∧ gs ≠ [] ∧ gs.length ≤ n ∧ gs.length ≤ 1000 ∧
  ∀ v t G' H', Lw s c G' H' → Same G G' → TreeAt G' v t → t.lv.Perm gs → Q v H'
def spLeaves (n : Nat) : Sp := fun vs H Q _ => ∃ (v : V) (t : Tr), vs = [v] ∧ TreeAt H v t ∧ t.sz < n ∧ t.lv.length ≤ 1000 ∧ ∀ H' l, Same H H' → H l = none → StrL H' l t.lv → Q (.ref l) H'
section
variable {P : Program} {w : World} {K : PySem.W.Frag} {mg : Str → Option Value} {base : Heap} {f : Addr} {fd : FuncData} {n k : Nat}
theorem ok__law_tree (F : Fun K "_law_tree" "_law_tree" s__law_tree f fd) (T : Txt K mg) (hk : 2 ≤ k) (F__law_pick : Has P w K mg base 1 "_law_pick" spPick) (F__law_mixed : Has P w K mg base 2 "_law_mixed" spMixed) (F__law_tree : Has P w K mg base k "_law_tree" (spTree n)) :
    FnOk P w K mg base CX0 (k + 1) f fd ["_law_source_here", "_law_goods"] (spTree (n + 1)) := by
  refine F.ok sc__law_tree (fun vs H Q E h => ?_) (fun cdv A outer s H vs Q E hr h => ?_)
  · obtain ⟨s, c, a, G, gs, rfl, _⟩ := h
    rfl
  obtain ⟨p, c, a, G, gs, rfl, L, ha, g0, gn, gl, q⟩ := h
  refine ⟨_, (pss_cons (ps_if (pt_cmpR op_eq (pe_callB (r := rLenQ K) call_lenQ (by rfl) T.b_len (by decide +kernel) (pa_cons (pv 1) pa_nil)) pe_int (nomark _)) (pss_one (ps_ret (pe_ix (r := rIxL K) ix_list (pv 1) pe_int (fun _ _ => rfl)))) pss_nil)
  (pss_cons (ps_par (i := 2) (j := 3) (by rfl) sc__law_tree.nd rfl rfl (by decide) rfl rfl (pa_cons (pe_op op_add pe_int (pe_fn F__law_pick (hr.mono (by omega)) (by rfl) (pa_cons (pv 0) (pa_cons (pe_op op_sub (pe_callB (r := rLenQ K) call_lenQ (by rfl) T.b_len (by decide +kernel) (pa_cons (pv 1) pa_nil)) pe_int) pa_nil)))) (pa_cons (pe_fn F__law_mixed (hr.mono (by omega)) (by rfl) (pa_cons (pv 0) (pa_cons (pv 1) pa_nil))) pa_nil)) (by rfl))
  (pss_one (ps_ret (pe_lst (pa_cons (pe_fn F__law_tree (hr.mono (by omega)) (by rfl) (pa_cons (pv 0) (pa_cons (pe_slice sl_list (pv 3) po_none (po_some (pv 2))) pa_nil))) (pa_cons (pe_fn F__law_tree (hr.mono (by omega)) (by rfl) (pa_cons (pv 0) (pa_cons (pe_slice sl_list (pv 3) (po_some (pv 2)) po_none) pa_nil))) pa_nil))))))), ?_⟩
  refine ⟨_, rfl, a, _, rfl, .inl (SqL.of (L.up _ _ ha)), rfl, _, rfl, ?_⟩
  rw [List.length_map]
  by_cases l1 : gs.length = 1
  · obtain ⟨x, rfl⟩ : ∃ x, gs = [x] := List.length_eq_one_iff.mp l1
    refine ifT (by rw [l1]; rfl) ⟨_, rfl, a, _, _, _, rfl, rfl, SqL.of (L.up _ _ ha), atI_nat (j := 0) rfl, ?_⟩
    exact q (.str x) (.leaf x) G H L (Same.refl _) rfl (.refl _)
  have l2 : 2 ≤ gs.length := by
    cases gs with
    | nil => exact absurd rfl g0
    | cons x r =>
      rw [List.length_cons] at l1 ⊢
      omega
  refine ifF (fun z => l1 (by injection z with z; omega)) ?_
  refine ⟨_, rfl, _, rfl, a, _, rfl, .inl (SqL.of (L.up _ _ ha)), _, _, rfl, rfl, p, c, G, ((gs.map V.str).length : Int) - 1, rfl, L, by rw [List.length_map]; omega, by rw [List.length_map]; omega, fun r H1 L1 r0 r1 => ?_⟩
  rw [List.length_map] at r1
  obtain ⟨j, rfl⟩ := Int.eq_ofNat_of_zero_le r0
  refine ⟨_, _, rfl, rfl, _, rfl, _, rfl, p, c, a, G, gs.map V.str, rfl, L1, ha, by rw [List.length_map]; exact gl, fun l ys G2 H2 pm L2 s2 gl2 el => ⟨_, _, rfl, ?_⟩⟩
  obtain ⟨zs, rfl, pz⟩ := perm_map pm rfl
  have lz := pz.length_eq
  have cut1 : cutV (zs.map V.str) none (some (1 + (j : Int))) = (zs.take (j + 1)).map V.str := by
    have e : (1 + (j : Int)) = ((j + 1 : Nat) : Int) := by omega
    rw [e, cut_to, List.map_take]
  have cut2 : cutV (zs.map V.str) (some (1 + (j : Int))) none = (zs.drop (j + 1)).map V.str := by
    have e : (1 + (j : Int)) = ((j + 1 : Nat) : Int) := by omega
    rw [e, cut_from, List.map_drop]
  refine ⟨_, rfl, _, rfl, _, rfl, _, rfl, l, _, rfl, SqL.of (L2.up _ _ el), fun d hd => ?_⟩
  rw [cut1]
  have L3 := L2.new hd (.lst ((zs.take (j + 1)).map V.str))
  have s3 : Same G2 _ := Same.new (L2.free hd) (.lst ((zs.take (j + 1)).map V.str))
  refine ⟨p, c, d, _, zs.take (j + 1), rfl, L3, upd_same, ?_, ?_, ?_, fun v1 t1 G4 H4 L4 s4 T1 p1 => ?_⟩
  · intro z
    have z2 := congrArg List.length z
    rw [List.length_take, List.length_nil] at z2
    omega
  · rw [List.length_take]
    omega
  · rw [List.length_take]
    omega
  have s5 := s3.trans s4
  refine ⟨_, rfl, _, rfl, _, rfl, _, rfl, l, _, rfl, SqL.of (L4.up _ _ (s5 _ _ el)), fun d2 hd2 => ?_⟩
  rw [cut2]
  have L5 := L4.new hd2 (.lst ((zs.drop (j + 1)).map V.str))
  have s6 : Same G4 _ := Same.new (L4.free hd2) (.lst ((zs.drop (j + 1)).map V.str))
  refine ⟨p, c, d2, _, zs.drop (j + 1), rfl, L5, upd_same, ?_, ?_, ?_, fun v2 t2 G7 H7 L7 s7 T2 p2 => ?_⟩
  · intro z
    have z2 := congrArg List.length z
    rw [List.length_drop, List.length_nil] at z2
    omega
  · rw [List.length_drop]
    omega
  · rw [List.length_drop]
    omega
  refine ⟨(by show 2 ≤ sizeLine; decide), fun r hr2 => ?_⟩
  have L8 := L7.new hr2 (.lst [v1, v2])
  have s8 : Same G7 _ := Same.new (L7.free hr2) (.lst [v1, v2])
  refine q (.ref r) (.node t1 t2) _ _ L8 (s2.trans (s5.trans (s6.trans (s7.trans s8)))) ⟨r, v1, v2, rfl, upd_same, T1.mono (s6.trans (s7.trans s8)), T2.mono s8⟩ ?_
  have pp := p1.append p2
  rw [List.take_append_drop] at pp
  exact pp.trans pz
theorem ok__law_leaves (F : Fun K "_law_leaves" "_law_leaves" s__law_leaves f fd) (T : Txt K mg) (F__law_leaves : Has P w K mg base k "_law_leaves" (spLeaves n)) :
    FnOk P w K mg base CX0 (k + 1) f fd ["_law_tree_here"] (spLeaves (n + 1)) := by
  refine F.ok sc__law_leaves (fun vs H Q E h => ?_) (fun cdv A outer s H vs Q E hr h => ?_)
  · obtain ⟨v, t, rfl, _⟩ := h
    rfl
  obtain ⟨v, t, rfl, ht, tn, tl, q⟩ := h
  refine ⟨_, (pss_cons (ps_if (pt_val (pe_callB call_isi (by rfl) T.b_isinstance (by decide +kernel) (pa_cons (pv 0) (pa_cons (pe_bltn (v := .ty "str") (by rfl) T.b_str (by decide +kernel) rfl) pa_nil)))) (pss_one (ps_ret (pe_lst (pa_cons (pv 0) pa_nil)))) pss_nil)
  (pss_one (ps_ret (pe_op op_cat (pe_fn F__law_leaves (hr.mono (by omega)) (by rfl) (pa_cons (pe_ix (r := rIxL K) ix_list (pv 0) pe_int (fun _ _ => rfl)) pa_nil)) (pe_fn F__law_leaves (hr.mono (by omega)) (by rfl) (pa_cons (pe_ix (r := rIxL K) ix_list (pv 0) pe_int (fun _ _ => rfl)) pa_nil)))))), ?_⟩
  cases t with
  | leaf z =>
    obtain rfl : v = .str z := ht
    refine ⟨_, rfl, _, _, _, _, true, rfl, .ty _, .base (.str _), rfl, true, rfl, iteT ?_⟩
    exact ⟨_, rfl, (by show 1 ≤ sizeLine; decide), fun l hl => q _ _ (Same.new hl _) hl upd_same⟩
  | node a b =>
    obtain ⟨l, x, y, rfl, hl, ha, hb⟩ := ht
    have t1 : a.sz + b.sz + 1 < n + 1 := tn
    have t2 : (a.lv ++ b.lv).length ≤ 1000 := tl
    rw [List.length_append] at t2
    refine ⟨_, rfl, _, _, _, _, false, rfl, .ty _, .base (.lst hl), rfl, false, rfl, iteF ?_⟩
    refine ⟨_, rfl, l, _, _, _, rfl, rfl, SqL.of hl, atI_nat (j := 0) rfl, x, a, rfl, ha, by omega, by omega, fun H1 l1 s1 n1 e1 => ?_⟩
    refine ⟨_, rfl, l, _, _, _, rfl, rfl, SqL.of (s1 _ _ hl), atI_nat (j := 1) rfl, y, b, rfl, hb.mono s1, by omega, by omega, fun H2 l2 s2 n2 e2 => ?_⟩
    refine ⟨l1, l2, _, _, rfl, rfl, s2 _ _ e1, e2, by rw [List.length_map, List.length_map]; exact Nat.le_of_lt (small1000 (by omega)), fun r hr2 => ?_⟩
    refine q _ _ ((s1.trans s2).trans (Same.new hr2 _)) ((s1.trans s2).free hr2) ?_
    show upd _ _ _ _ = _
    rw [upd_same, ← List.map_append]
    rfl
end
end K16
namespace K16
open PySem PySem.Spec PyProof.Rows L2 RZ
/-! ### dicts of values by words -/
def dkV (gs : List Str) (m : Str → Int) : List (Key × V) := gs.map fun g => (.inr g, .int (m g))
theorem dkV_len {gs : List Str} {m : Str → Int} : (dkV gs m).length = gs.length := List.length_map _
theorem dkV_get {m : Str → Int} {g : Str} : ∀ {gs : List Str}, g ∈ gs → valV (dkV gs m) (.inr g) = some (.int (m g))
  | y :: gs, h => by
    by_cases e : y = g
    · subst e
      exact valV_pos rfl
    · have h2 := (List.mem_cons.mp h).resolve_left fun q => e q.symm
      have n : ¬ (Sum.inr y : Key) = .inr g := fun q => e (Sum.inr.inj q)
      exact (valV_neg n).trans (dkV_get h2)
def vput (m : Str → Int) (g : Str) (b : Int) : Str → Int := fun x => if x = g then b else m x
theorem vput_at {m : Str → Int} {g : Str} {b : Int} : vput m g b g = b := if_pos rfl
theorem vput_off {m : Str → Int} {g x : Str} {b : Int} (h : x ≠ g) : vput m g b x = m x := if_neg h
theorem dkV_put {m : Str → Int} {g : Str} {b : Int} {gs : List Str} (h : g ∈ gs) : putK (dkV gs m) (.inr g) (.int b) = dkV gs (vput m g b) := by
  have any : ((dkV gs m).any fun kv => decide (kv.1 = .inr g)) = true := List.any_eq_true.mpr ⟨_, List.mem_map_of_mem h, decide_eq_true rfl⟩
  unfold putK
  rw [if_pos any]
  unfold dkV
  rw [List.map_map]
  refine List.map_congr_left fun y _ => ?_
  show (if (Sum.inr y : Key) = .inr g then _ else _) = _
  by_cases e : y = g
  · subst e
    rw [if_pos rfl, vput_at]
  · rw [if_neg fun q => e (Sum.inr.inj q), vput_off e]
theorem dkV_nd {gs : List Str} {m : Str → Int} (nd : gs.Nodup) : ((dkV gs m).map Prod.fst).Nodup := by
  have e : (dkV gs m).map Prod.fst = gs.map fun g => (Sum.inr g : Key) := by
    unfold dkV
    rw [List.map_map]
    rfl
  rw [e]
  refine List.pairwise_map.mpr (nd.imp fun h q => h (Sum.inr.inj q))
/-! ### without one thing -/
def drop (G : Hp) (p : Addr) : Hp := fun a => if a = p then none else G a
theorem drop_at {G : Hp} {p : Addr} : drop G p p = none := if_pos rfl
theorem drop_off {G : Hp} {p a : Addr} {o : HO} (h : G a = some o) (n : a ≠ p) : drop G p a = some o := (if_neg n).trans h
theorem drop_same {G : Hp} {p : Addr} : Same (drop G p) G := fun a o e => by
  by_cases h : a = p
  · subst h
    rw [drop_at] at e
    cases e
  · exact (if_neg h).symm.trans e
theorem same_drop {G0 G : Hp} {p : Addr} (h : G0 p = none) (s : Same G0 G) : Same G0 (drop G p) := fun a o e => drop_off (s _ _ e) (ne_of_none e h)
def RowOk (n : Nat) (r : List Int) : Prop := r.length = n ∧ RowMix r
def spForked (n : Nat) : Sp := fun vs H Q _ => ∃ (s c a l : Addr) (v : V) (share : Int) (t : Tr) (G : Hp) (gs : List Str) (R : List (List Int)), vs = [.ref s, v, .ref a, .int share, .ref l] ∧ Lw s c G H ∧ TreeAt G v t ∧ StrL G a gs ∧ LstOf IntT G l R ∧ t.sz < n ∧
  gs.Nodup ∧ gs.length ≤ 100 ∧ t.lv.Nodup ∧ (∀ z ∈ t.lv, z ∈ gs) ∧ 1 ≤ share ∧ share ≤ 1000 ∧ (∀ r ∈ R, RowOk gs.length r) ∧ R.length + t.sz ≤ 900 ∧
  ∀ l' R' G' H', Lw s c G' H' → Same G G' → LstOf IntT G' l' R' → (∀ r ∈ R', RowOk gs.length r) → R'.length ≤ R.length + t.sz → Q (.ref l') H'
theorem Paired.mapR {α β γ : Type} {R : α → β → Prop} {S : α → γ → Prop} {f : β → γ} (h : ∀ a b, R a b → S a (f b)) : ∀ {xs : List α} {ys : List β}, Paired R xs ys → Paired S xs (ys.map f)
  | _, _, .nil => .nil
  | _, _, .cons r t => .cons (h _ _ r) (Paired.mapR h t)
theorem mix_of {m : Str → Int} {gs : List Str} {sg : Int} (hsg : sg = 1 ∨ sg = -1) {g1 g2 : Str} (m1 : g1 ∈ gs) (m2 : g2 ∈ gs) (p1 : 0 < sg * m g1) (p2 : sg * m g2 < 0) : RowMix (gs.map m) := by
  rcases hsg with rfl | rfl
  · exact ⟨⟨m g2, List.mem_map_of_mem m2, by omega⟩, m g1, List.mem_map_of_mem m1, by omega⟩
  · exact ⟨⟨m g1, List.mem_map_of_mem m1, by omega⟩, m g2, List.mem_map_of_mem m2, by omega⟩
theorem Lw.same {s c : Addr} {G H : Hp} (L : Lw s c G H) {p : Addr} (h : H p = none) (o : HO) : Same G (upd G p o) := Same.new (L.free h) o
theorem sign_neg {sg : Int} (h : sg = 1 ∨ sg = -1) : 0 - sg = 1 ∨ 0 - sg = -1 := by omega
theorem sign_lt {sg x : Int} (h : 0 < (0 - sg) * x) : sg * x < 0 := by
  rw [Int.sub_mul, Int.zero_mul] at h
  omega
theorem sign_sq {sd k : Int} (h : sd = 1 ∨ sd = -1) : sd * (sd * k) = k := by
  rcases h with rfl | rfl <;> omega
section
variable {P : Program} {w : World} {K : PySem.W.Frag} {mg : Str → Option Value} {base : Heap} {f : Addr} {fd : FuncData} {n k : Nat}
theorem ok__law_forked (F : Fun K "_law_forked" "_law_forked" s__law_forked f fd) (T : Txt K mg) (hk : 2 ≤ k) (F__law_pick : Has P w K mg base 1 "_law_pick" spPick) (F__law_of : Has P w K mg base 2 "_law_of" spOf) (F__law_mixed : Has P w K mg base 2 "_law_mixed" spMixed)
    {j : Nat} (hj : j ≤ k) (F__law_leaves : Has P w K mg base j "_law_leaves" (spLeaves n)) (F__law_forked : Has P w K mg base k "_law_forked" (spForked n)) :
    FnOk P w K mg base CX0 (k + 1) f fd ["_law_source_here", "_law_tree_here", "_law_goods", "_law_share", "_law_rows"] (spForked (n + 1)) := by
  refine F.ok sc__law_forked (fun vs H Q E h => ?_) (fun cdv A outer s H vs Q E hr h => ?_)
  · obtain ⟨s, c, a, l, v, share, t, G, gs, R, rfl, _⟩ := h
    rfl
  obtain ⟨p, c, a, l, v, share, t, G, gs, R, rfl, L, ht, ha, hR, tn, gnd, gl, tnd, tsub, sh1, sh2, rok, rl, q⟩ := h
  have hu := hu_of hr
  refine ⟨_, (pss_cons (ps_if (pt_val (pe_callB call_isi (by rfl) T.b_isinstance (by decide +kernel) (pa_cons (pv 1) (pa_cons (pe_bltn (v := .ty "str") (by rfl) T.b_str (by decide +kernel) rfl) pa_nil)))) (pss_one (ps_ret (pv 4))) pss_nil)
  (C8.pss_cut (ps_if (PW.pt (pw_or (pt_cmpR op_gt (pe_fn F__law_pick (hr.mono (by omega)) (by rfl) (pa_cons (pv 0) (pa_cons (pv 3) pa_nil))) pe_int (nomark _)) (pw_or1 (pt_cmpR op_eq (pv 3) pe_int (nomark _))))) (pss_cons (ps_asg (pe_tup (pa_cons (pe_callTy (call_dictP rfl) (by rfl) T.b_dict (by decide +kernel) (pa_cons (pe_lc (own := [("_law_good", 5)]) (g := gName 5) (tt := tYes) rfl sc__law_forked.nd (pi_list (pv 2)) (blkOk_by (own := [("_law_good", 5)]) (N := ["_law_source_here", "_law_tree_here", "_law_goods", "_law_share", "_law_rows", "_law_good", "_law_row", "_law_sign", "_law_side", "_law_part"]) (by kernel_rfl)) (fun _ _ _ _ _ => (pg_name (i := 5) sc__law_forked.nd rfl (by first | exact .inl rfl | exact .inr rfl))) (fun _ _ _ _ _ => pts_nil) (fun _ _ _ _ _ => (pe_tup (pa_cons (pv 5) (pa_cons pe_int pa_nil))))) pa_nil)) (pa_cons (pe_fn F__law_of (hr.mono (by omega)) (by rfl) (pa_cons (pv 0) (pa_cons (pe_lst (pa_cons pe_int (pa_cons (pe_un un_neg pe_int) pa_nil))) pa_nil))) pa_nil))) (pg_tup rfl (pgs_cons (pg_name (i := 6) sc__law_forked.nd rfl (by first | exact .inl rfl | exact .inr rfl)) (pgs_cons (pg_name (i := 7) sc__law_forked.nd rfl (by first | exact .inl rfl | exact .inr rfl)) pgs_nil))))
  (pss_cons (ps_for PassesOwn.never rfl (pi_list (pe_lst (pa_cons (pe_tup (pa_cons (pv 7) (pa_cons (pe_ix (r := rIxL K) ix_list (pv 1) pe_int (fun _ _ => rfl)) pa_nil))) (pa_cons (pe_tup (pa_cons (pe_op op_sub pe_int (pv 7)) (pa_cons (pe_ix (r := rIxL K) ix_list (pv 1) pe_int (fun _ _ => rfl)) pa_nil))) pa_nil)))) (pg_tup rfl (pgs_cons (pg_name (i := 8) sc__law_forked.nd rfl (by first | exact .inl rfl | exact .inr rfl)) (pgs_cons (pg_name (i := 9) sc__law_forked.nd rfl (by first | exact .inl rfl | exact .inr rfl)) pgs_nil))) (pss_one (ps_for PassesOwn.never rfl (pi_list (pe_slice sl_list (pe_fn F__law_mixed (hr.mono (by omega)) (by rfl) (pa_cons (pv 0) (pa_cons (pe_fn F__law_leaves (hr.mono (by omega)) (by rfl) (pa_cons (pv 9) pa_nil)) pa_nil))) po_none (po_some (pe_fn F__law_of (hr.mono (by omega)) (by rfl) (pa_cons (pv 0) (pa_cons (pe_lst (pa_cons pe_int (pa_cons pe_int (pa_cons pe_int (pa_cons pe_int pa_nil))))) pa_nil)))))) (pg_name (i := 5) sc__law_forked.nd rfl (by first | exact .inl rfl | exact .inr rfl)) (pss_one (ps_dput hu (pv 6) (pv 5) (pe_op op_mul (pv 8) (pe_fn F__law_of (hr.mono (by omega)) (by rfl) (pa_cons (pv 0) (pa_cons (pe_lst (pa_cons pe_int (pa_cons pe_int (pa_cons pe_int (pa_cons pe_int (pa_cons pe_int (pa_cons pe_int (pa_cons pe_int pa_nil)))))))) pa_nil)))) rfl)))))
  (pss_one (ps_set (i := 4) sc__law_forked.nd rfl (.inl rfl) (pe_op op_cat (pv 4) (pe_lst (pa_cons (pe_callTy (r := rTupQ K) call_tupQ (by rfl) T.b_tuple (by decide +kernel) (pa_cons (pe_lc (own := [("_law_good", 5)]) (g := gName 5) (tt := tYes) (te := (tDGet (tVar 6) (tVar 5))) rfl sc__law_forked.nd (pi_list (pv 2)) (blkOk_by (own := [("_law_good", 5)]) (N := ["_law_source_here", "_law_tree_here", "_law_goods", "_law_share", "_law_rows", "_law_good", "_law_row", "_law_sign", "_law_side", "_law_part"]) (by kernel_rfl)) (fun _ _ _ _ _ => (pg_name (i := 5) sc__law_forked.nd rfl (by first | exact .inl rfl | exact .inr rfl))) (fun _ _ _ _ _ => pts_nil) (fun _ _ _ _ _ => (pe_dget hu (pv 6) (pv 5) (fun _ _ => rfl)))) pa_nil)) pa_nil))))))) pss_nil)
  (pss_cons (ps_set (i := 4) sc__law_forked.nd rfl (.inl rfl) (pe_fn F__law_forked (hr.mono (by omega)) (by rfl) (pa_cons (pv 0) (pa_cons (pe_ix (r := rIxL K) ix_list (pv 1) pe_int (fun _ _ => rfl)) (pa_cons (pv 2) (pa_cons (pv 3) (pa_cons (pv 4) pa_nil)))))))
  (pss_one (ps_ret (pe_fn F__law_forked (hr.mono (by omega)) (by rfl) (pa_cons (pv 0) (pa_cons (pe_ix (r := rIxL K) ix_list (pv 1) pe_int (fun _ _ => rfl)) (pa_cons (pv 2) (pa_cons (pv 3) (pa_cons (pv 4) pa_nil))))))))))), ?_⟩
  cases t with
  | leaf z =>
    obtain rfl : v = .str z := ht
    refine ⟨_, rfl, _, _, _, _, true, rfl, .ty _, .base (.str _), rfl, true, rfl, iteT ?_⟩
    exact ⟨_, rfl, q l R G H L (Same.refl _) hR rok (Nat.le_add_right _ _)⟩
  | node ta tb =>
    obtain ⟨lt, x, y, rfl, hlt, hx, hy⟩ := ht
    refine ⟨_, rfl, _, _, _, _, false, rfl, .ty _, .base (.lst (L.up _ _ hlt)), rfl, false, rfl, iteF ?_⟩
    have sz2 : ta.sz + tb.sz + 1 < n + 1 := tn
    have tnd2 : (ta.lv ++ tb.lv).Nodup := tnd
    have tsub2 : ∀ z ∈ ta.lv ++ tb.lv, z ∈ gs := tsub
    have rl2 : R.length + (ta.sz + tb.sz + 1) ≤ 900 := rl
    obtain ⟨nda, ndb, dis⟩ := List.nodup_append.mp tnd2
    refine ⟨fun σ Hx => ∃ y5 y6 y7 y8 y9 l1 R1 G1, σ = [some (.ref p), some (.ref lt), some (.ref a), some (.int share), some (.ref l1), y5, y6, y7, y8, y9] ∧ Lw p c G1 Hx ∧ Same G G1 ∧ LstOf IntT G1 l1 R1 ∧ (∀ r ∈ R1, RowOk gs.length r) ∧ R1.length ≤ R.length + 1, ?_, ?_⟩
    · refine ⟨_, rfl, _, rfl, p, c, G, share, rfl, L, sh1, by omega, fun r H1 L1 _ _ => ⟨_, _, rfl, rfl, _, rfl, ifB (fun h => ?_) (fun h => ⟨_, rfl, rfl, _, rfl, ifB (fun h => ?_) (fun h => ?_)⟩)⟩⟩
      rotate_left 2
      · exact ⟨none, none, none, none, none, l, R, G, rfl, L1, Same.refl _, hR, rok, Nat.le_succ _⟩
      all_goals
        refine ⟨_, rfl, a, rfl, ⟨_, SqL.of (L1.up _ _ ha)⟩, fun D hD => ?_⟩
        refine lc_it (walk_list (K := K) (a := a) (xs := gs.map V.str)) (fun i Hx => Same H1 Hx ∧ ∃ as : List Addr, Hx D = some (.lst (as.map V.ref)) ∧ Paired (fun q g => Hx q = some (.tup [.str g, .int 0])) as (gs.take i) ∧ as.length ≤ i) ⟨Same.new hD _, [], upd_same, .nil, Nat.le_refl _⟩ (fun i Hx _ z => SqL.of (z.1 _ _ (L1.up _ _ ha))) ?_ ?_
        · rintro i z H0 H2 hi ⟨s2, as, e2, p2, l2⟩ ⟨rfl, ex⟩
          have hi' : i < gs.length := by rw [List.length_map] at hi; exact hi
          rw [List.getElem?_map, List.getElem?_eq_getElem hi'] at ex
          obtain rfl : V.str gs[i] = z := Option.some.inj ex
          refine ⟨rfl, yes ⟨_, rfl, (by show 2 ≤ sizeLine; decide), fun q hq => ?_⟩⟩
          have qD : q ≠ D := (ne_of_none e2 hq).symm
          refine ⟨_, at_new e2 hq, by rw [List.length_map]; exact small1000 (by omega), Same.laid hD (s2.trans (Same.new hq _)), as ++ [q], by rw [upd_same, List.map_append]; rfl, ?_, by rw [List.length_append]; exact Nat.succ_le_succ l2⟩
          rw [take_step hi']
          refine Paired.app (Paired.imp p2 fun u g h => ?_) (.cons ?_ .nil)
          · rw [upd_ne (ne_of h e2 (by intro z; cases z))]
            exact at_new h hq
          · rw [upd_ne qD, upd_same]
        rintro H2 ⟨s2, as, e2, p2, _⟩
        rw [List.length_map, List.take_of_length_le (Nat.le_refl _)] at p2
        refine ⟨D, as, dkV gs fun _ => 0, rfl, SqL.of e2, Paired.mapR (S := fun (u : Addr) (kv : Key × V) => SqT K H2 u [kV kv.1, kv.2]) (f := fun g => ((.inr g : Key), V.int 0)) (fun u g h => SqT.of h) p2, fun dr hdr => ?_⟩
        rw [merge_new (dkV_nd gnd)]
        obtain ⟨G2, L2, sG2, _⟩ := L1.call s2
        have L3 := L2.new hdr (.dK (dkV gs fun _ => 0))
        have drG : G dr = none := L1.free (s2.free hdr)
        refine ⟨_, rfl, _, rfl, (by show 2 ≤ sizeLine; decide), fun la hla => ?_⟩
        have L4 := L3.new hla (.lst [.int 1, .int (-1)])
        refine ⟨p, c, la, _, _, rfl, L4, upd_same, List.cons_ne_nil _ _, (by show 2 ≤ 1000; decide), fun sv H5 hm L5 => ?_⟩
        obtain ⟨sg, rfl, hsg⟩ : ∃ sg : Int, sv = .int sg ∧ (sg = 1 ∨ sg = -1) := by
          rcases List.mem_cons.mp hm with rfl | hm
          · exact ⟨1, rfl, .inl rfl⟩
          · exact ⟨-1, List.mem_singleton.mp hm, .inr rfl⟩
        refine ⟨(by show 2 ≤ sizeLine; decide), fun tp htp => ?_⟩
        have L6 := L5.new htp (.tup [.ref dr, .int sg])
        refine ⟨tp, _, rfl, SqT.of upd_same, rfl, _, _, rfl, _, _, rfl, rfl, ?_⟩
        have dr6 : (upd (upd (upd G2 dr (.dK (dkV gs fun _ => 0))) la (.lst [.int 1, .int (-1)])) tp (.tup [.ref dr, .int sg])) dr = some (.dK (dkV gs fun _ => 0)) := by
          have z1 := ne_of_none (H := upd H2 dr (.dK (dkV gs fun _ => 0))) upd_same hla
          have z2 := L5.free htp
          have z3 : dr ≠ tp := fun e => by
            rw [← e, upd_ne z1, upd_same] at z2
            cases z2
          rw [upd_ne z3, upd_ne z1, upd_same]
        have s6 : Same G (upd (upd (upd G2 dr (.dK (dkV gs fun _ => 0))) la (.lst [.int 1, .int (-1)])) tp (.tup [.ref dr, .int sg])) := (sG2.trans (L2.same hdr _)).trans ((L3.same hla _).trans (L5.same htp _))
        generalize (upd (upd (upd G2 dr (.dK (dkV gs fun _ => 0))) la (.lst [.int 1, .int (-1)])) tp (.tup [.ref dr, .int sg])) = G6 at L6 dr6 s6
        generalize (upd H5 tp (.tup [.ref dr, .int sg])) = H6 at L6
        refine ⟨_, rfl, _, rfl, lt, _, _, _, rfl, rfl, SqL.of (L6.up _ _ (s6 _ _ hlt)), atI_nat (j := 0) rfl, (by show 2 ≤ sizeLine; decide), fun t1 ht1 => ?_⟩
        have L7 := L6.new ht1 (.tup [.int sg, x])
        have s7 := L6.same ht1 (.tup [.int sg, x])
        refine ⟨_, rfl, _, _, rfl, rfl, _, rfl, lt, _, _, _, rfl, rfl, SqL.of (L7.up _ _ (s7 _ _ (s6 _ _ hlt))), atI_nat (j := 1) rfl, (by show 2 ≤ sizeLine; decide), fun t2 ht2 => ?_⟩
        have L8 := L7.new ht2 (.tup [.int (0 - sg), y])
        have s8 := L7.same ht2 (.tup [.int (0 - sg), y])
        refine ⟨(by show 2 ≤ sizeLine; decide), fun ol hol => ⟨ol, rfl, ⟨_, SqL.of upd_same⟩, ?_⟩⟩
        have L9 := L8.new hol (.lst [.ref t1, .ref t2])
        have s9 := L8.same hol (.lst [.ref t1, .ref t2])
        have s69 := s7.trans (s8.trans s9)
        have dr9 := s69 _ _ dr6
        have q1 := (s8.trans s9) _ _ (upd_same (H := G6) (a := t1) (o := .tup [.int sg, x]))
        have q2 := s9 _ _ (upd_same (H := upd G6 t1 (.tup [.int sg, x])) (a := t2) (o := .tup [.int (0 - sg), y]))
        have q3 := upd_same (H := upd (upd G6 t1 (.tup [.int sg, x])) t2 (.tup [.int (0 - sg), y])) (a := ol) (o := .lst [.ref t1, .ref t2])
        have s09 := s6.trans s69
        generalize (upd (upd (upd G6 t1 (.tup [.int sg, x])) t2 (.tup [.int (0 - sg), y])) ol (.lst [.ref t1, .ref t2])) = G9 at L9 dr9 q1 q2 q3 s09
        generalize (upd (upd (upd H6 t1 (.tup [.int sg, x])) t2 (.tup [.int (0 - sg), y])) ol (.lst [.ref t1, .ref t2])) = H9 at L9
        have sB : Same G (drop G9 dr) := same_drop drG s09
        have o1 := drop_off q1 (ne_of q1 dr9 (by intro z; cases z))
        have o2 := drop_off q2 (ne_of q2 dr9 (by intro z; cases z))
        have o3 := drop_off q3 (ne_of q3 dr9 (by intro z; cases z))
        have dB : (drop G9 dr) dr = none := drop_at
        refine for_it (walk_list (K := K) (a := ol) (xs := [.ref t1, .ref t2])) (fun i σ Hx => ∃ y5 y8 y9 G1 m, σ = [some (.ref p), some (.ref lt), some (.ref a), some (.int share), some (.ref l), y5, some (.ref dr), some (.int sg), y8, y9] ∧ Lw p c G1 Hx ∧ Same (drop G9 dr) G1 ∧ G1 dr = some (.dK (dkV gs m)) ∧
            (1 ≤ i → ∃ g ∈ ta.lv, 0 < sg * m g) ∧ (2 ≤ i → ∃ g ∈ tb.lv, sg * m g < 0))
          ⟨none, none, none, G9, _, rfl, L9, drop_same, dr9, fun z => absurd z (by decide), fun z => absurd z (by decide)⟩ (fun i σ Hx _ ⟨_, _, _, _, _, _, z, z2, _⟩ => SqL.of (z.up _ _ (z2 _ _ o3))) ?_ ?_
        · rintro i w0 σ H0 H1 hi ⟨y5, y8, y9, G1, m, rfl, L1, s1, e1, done1, done2⟩ ⟨rfl, ex⟩
          have pick : ∃ (tq : Addr) (sd : Int) (tv : V) (u : Tr), w0 = .ref tq ∧ (drop G9 dr) tq = some (.tup [.int sd, tv]) ∧ TreeAt (drop G9 dr) tv u ∧ (sd = 1 ∨ sd = -1) ∧ u.sz < n ∧ (∀ z ∈ u.lv, z ∈ gs) ∧ u.lv.length ≤ 1000 ∧ (i = 0 ∧ sd = sg ∧ u = ta ∨ i = 1 ∧ sd = 0 - sg ∧ u = tb) := by
            have la := Tr.lv_sz ta
            have lb := Tr.lv_sz tb
            have hi2 : i < 2 := hi
            match i, hi2, ex with
            | 0, _, ex =>
              obtain rfl : V.ref t1 = w0 := Option.some.inj ex
              exact ⟨t1, sg, x, ta, rfl, o1, hx.mono sB, hsg, by omega, fun z hz => tsub2 z (List.mem_append_left _ hz), by omega, .inl ⟨rfl, rfl, rfl⟩⟩
            | 1, _, ex =>
              obtain rfl : V.ref t2 = w0 := Option.some.inj ex
              exact ⟨t2, 0 - sg, y, tb, rfl, o2, hy.mono sB, sign_neg hsg, by omega, fun z hz => tsub2 z (List.mem_append_right _ hz), by omega, .inr ⟨rfl, rfl, rfl⟩⟩
          obtain ⟨tq, sd, tv, u, rfl, eq, hu2, hsd, usz, usub, ulen, cases2⟩ := pick
          refine ⟨tq, _, rfl, SqT.of (L1.up _ _ (s1 _ _ eq)), rfl, _, _, rfl, _, _, rfl, rfl, ?_⟩
          refine ⟨_, rfl, _, rfl, tv, u, rfl, (hu2.mono s1).mono L1.up, usz, ulen, fun H2 ll s2 lln hll => ?_⟩
          obtain ⟨G2, L2, sG2, trk⟩ := L1.call s2
          have ell := trk _ _ hll (L1.offS lln) (L1.offC lln)
          refine ⟨p, c, ll, G2, u.lv.map V.str, rfl, L2, ell, by rw [List.length_map]; exact ulen, fun ml ys G3 H3 pm L3 s3 _ eml => ?_⟩
          obtain ⟨zs, rfl, pz⟩ := perm_map pm rfl
          refine ⟨_, rfl, (by show 4 ≤ sizeLine; decide), fun la hla => ⟨p, c, la, _, _, rfl, L3.new hla _, upd_same, List.cons_ne_nil _ _, (by show 4 ≤ 1000; decide), fun zv H4 hm L4 => ?_⟩⟩
          obtain ⟨zi, rfl, hz1, hz3⟩ : ∃ zi : Nat, zv = .int (zi : Int) ∧ 1 ≤ zi ∧ zi ≤ 3 := by
            rcases List.mem_cons.mp hm with rfl | hm
            · exact ⟨1, rfl, by decide, by decide⟩
            rcases List.mem_cons.mp hm with rfl | hm
            · exact ⟨1, rfl, by decide, by decide⟩
            rcases List.mem_cons.mp hm with rfl | hm
            · exact ⟨2, rfl, by decide, by decide⟩
            · exact ⟨3, List.mem_singleton.mp hm, by decide, by decide⟩
          have s4 := s3.trans (L3.same hla (.lst [.int 1, .int 1, .int 2, .int 3]))
          have eml4 := (L3.same hla (.lst [.int 1, .int 1, .int 2, .int 3])) _ _ eml
          refine ⟨_, rfl, ml, _, rfl, SqL.of (L4.up _ _ eml4), fun cl hcl => ⟨cl, rfl, ⟨_, SqL.of upd_same⟩, ?_⟩⟩
          rw [cut_to, ← List.map_take]
          have L5 := L4.new hcl (.lst ((zs.take zi).map V.str))
          have s5 := (sG2.trans s4).trans (L4.same hcl (.lst ((zs.take zi).map V.str)))
          have cl5 := upd_same (H := upd G3 la (.lst [.int 1, .int 1, .int 2, .int 3])) (a := cl) (o := .lst ((zs.take zi).map V.str))
          have usub2 : ∀ z ∈ zs.take zi, z ∈ u.lv := fun z hz => pz.mem_iff.mp (List.mem_of_mem_take hz)
          have une : zs.take zi ≠ [] := fun e => by
            have e2 := congrArg List.length e
            have e3 := pz.length_eq
            have e4 := Tr.lv_sz u
            rw [List.length_take, List.length_nil] at e2
            omega
          generalize zs.take zi = us at cl5 usub2 une s5 L5
          have s6 := s1.trans s5
          have dr5 := s5 _ _ e1
          have cD := drop_off cl5 (ne_of cl5 dr5 (by intro z; cases z))
          have s7 : Same (drop G9 dr) (drop _ dr) := same_drop dB s6
          refine for_it (walk_list (K := K) (a := cl) (xs := us.map V.str)) (fun j σ Hx => ∃ y5 G7 m7, σ = [some (.ref p), some (.ref lt), some (.ref a), some (.int share), some (.ref l), y5, some (.ref dr), some (.int sg), some (.int sd), some tv] ∧ Lw p c G7 Hx ∧ Same (drop _ dr) G7 ∧ G7 dr = some (.dK (dkV gs m7)) ∧
              (∀ g, g ∉ us → m7 g = m g) ∧ ∀ g ∈ us.take j, 0 < sd * m7 g)
            ⟨_, _, m, rfl, L5, drop_same, dr5, fun _ _ => rfl, fun g hg => (List.not_mem_nil hg).elim⟩ (fun i σ Hx _ ⟨_, _, _, _, z, z2, _⟩ => SqL.of (z.up _ _ (z2 _ _ cD))) ?_ ?_
          · rintro j2 w1 σ H0 H6 hj2 ⟨y6, G7, m7, rfl, L7, s8, e7, k1, k2⟩ ⟨rfl, ex2⟩
            have hj3 : j2 < us.length := by rw [List.length_map] at hj2; exact hj2
            rw [List.getElem?_map, List.getElem?_eq_getElem hj3] at ex2
            obtain rfl : V.str us[j2] = w1 := Option.some.inj ex2
            have mu : us[j2] ∈ us := List.getElem_mem hj3
            have mgs := usub _ (usub2 _ mu)
            refine ⟨_, rfl, _, rfl, (by show 7 ≤ sizeLine; decide), fun lb hlb => ⟨p, c, lb, _, _, rfl, L7.new hlb _, upd_same, List.cons_ne_nil _ _, (by show 7 ≤ 1000; decide), fun kv H8 hm8 L8 => ?_⟩⟩
            obtain ⟨kk, rfl, hk1, hk4⟩ : ∃ kk : Int, kv = .int kk ∧ 1 ≤ kk ∧ kk ≤ 4 := by
              rcases List.mem_cons.mp hm8 with rfl | hm8
              · exact ⟨1, rfl, by decide, by decide⟩
              rcases List.mem_cons.mp hm8 with rfl | hm8
              · exact ⟨1, rfl, by decide, by decide⟩
              rcases List.mem_cons.mp hm8 with rfl | hm8
              · exact ⟨1, rfl, by decide, by decide⟩
              rcases List.mem_cons.mp hm8 with rfl | hm8
              · exact ⟨2, rfl, by decide, by decide⟩
              rcases List.mem_cons.mp hm8 with rfl | hm8
              · exact ⟨2, rfl, by decide, by decide⟩
              rcases List.mem_cons.mp hm8 with rfl | hm8
              · exact ⟨3, rfl, by decide, by decide⟩
              · exact ⟨4, List.mem_singleton.mp hm8, by decide, by decide⟩
            have s9 := L7.same hlb (.lst [.int 1, .int 1, .int 1, .int 2, .int 2, .int 3, .int 4])
            have e8 := s9 _ _ e7
            refine ⟨_, _, rfl, rfl, .inr ⟨Int.lt_of_lt_of_le (by decide : (-(2 ^ 64) : Int) < 1) hk1, Int.lt_of_le_of_lt hk4 (by decide)⟩, _, rfl, _, rfl, dr, _, rfl, DPut.k (k := .inr us[j2]) (L8.up _ _ e8) (by rw [dkV_len]; exact small1000 (Nat.le_trans gl (by decide))), ?_⟩
            refine ⟨_, _, vput m7 us[j2] (sd * kk), rfl, L8.put e8 _, Same.laid drop_at (s8.trans s9), by rw [upd_same, dkV_put mgs], fun g hg => ?_, fun g hg => ?_⟩
            · rw [vput_off (fun e : g = us[j2] => hg (by rw [e]; exact mu))]
              exact k1 g hg
            · by_cases e : g = us[j2]
              · rw [e, vput_at, sign_sq hsd]
                exact Int.lt_of_lt_of_le (by decide) hk1
              · rw [vput_off e]
                rw [take_step hj3] at hg
                exact k2 g ((List.mem_append.mp hg).resolve_right fun z => e (List.mem_singleton.mp z))
          · rintro σ H6 ⟨y6, G7, m7, rfl, L7, s8, e7, k1, k2⟩
            rw [List.length_map, List.take_of_length_le (Nat.le_refl _)] at k2
            obtain ⟨g0, gm⟩ := List.exists_mem_of_ne_nil us une
            have pos := k2 g0 gm
            refine ⟨_, _, _, G7, m7, rfl, L7, s7.trans s8, e7, ?_, ?_⟩
            · rcases cases2 with ⟨rfl, rfl, rfl⟩ | ⟨rfl, rfl, rfl⟩
              · exact fun _ => ⟨g0, usub2 _ gm, pos⟩
              · intro _
                obtain ⟨g, hg, pg⟩ := done1 (Nat.le_refl 1)
                exact ⟨g, hg, by rw [k1 g fun z => dis g hg g (usub2 _ z) rfl]; exact pg⟩
            · rcases cases2 with ⟨rfl, rfl, rfl⟩ | ⟨rfl, rfl, rfl⟩
              · exact fun z => absurd z (by decide)
              · exact fun _ => ⟨g0, usub2 _ gm, sign_lt pos⟩
        · rintro σ H1 ⟨y5, y8, y9, G1, m, rfl, L1, s1, e1, done1, done2⟩
          obtain ⟨ga, ma, pa⟩ := done1 (by show 1 ≤ 2; decide)
          obtain ⟨gb, mb, pb⟩ := done2 (Nat.le_refl 2)
          have s2 := sB.trans s1
          refine ⟨_, rfl, _, rfl, a, rfl, ⟨_, SqL.of (L1.up _ _ (s2 _ _ ha))⟩, fun D2 hD2 => ?_⟩
          refine lcS (fun g => .int (m g)) (fun _ => true) hD2 (L1.up _ _ (s2 _ _ ha)) (Nat.le_trans gl (by decide)) (fun g H2 Qy Qn hg s3 ky _ => ?_) fun H2 s3 e3 => ?_
          · exact ⟨rfl, yes ⟨_, rfl, _, rfl, dr, _, rfl, .inl ⟨_, .inr g, .inl (s3 _ _ (L1.up _ _ e1)), rfl, (dkV_get hg).symm⟩, ky rfl _ (Same.refl _)⟩⟩
          · rw [all_yes] at e3
            obtain ⟨G2, L2, sG2, _⟩ := L1.call s3
            refine ⟨D2, _, rfl, .inl ⟨SqL.of e3, fun rt hrt => ?_⟩⟩
            have L3 := L2.new hrt (.tup (gs.map fun g => .int (m g)))
            have t3 := L2.same hrt (.tup (gs.map fun g => .int (m g)))
            refine ⟨(by show 1 ≤ sizeLine; decide), fun nl hnl => ?_⟩
            have L4 := L3.new hnl (.lst [.ref rt])
            have t4 := L3.same hnl (.lst [.ref rt])
            obtain ⟨rs, h1, h2⟩ := hR
            have t5 := s2.trans (sG2.trans (t3.trans t4))
            have lr := Paired.len h2
            refine ⟨l, nl, _, _, rfl, rfl, L4.up _ _ (t5 _ _ h1), upd_same, by rw [List.length_map, lr]; exact Nat.le_of_lt (small1000 (by show R.length + 1 ≤ 1000; omega)), fun nr hnr => ?_⟩
            have L5 := L4.new hnr (.lst (rs.map V.ref ++ [.ref rt]))
            have t6 := L4.same hnr (.lst (rs.map V.ref ++ [.ref rt]))
            refine ⟨_, _, _, _, _, nr, R ++ [gs.map m], _, rfl, L5, t5.trans t6, ⟨rs ++ [rt], by rw [upd_same, List.map_append]; rfl, Paired.app (Paired.imp h2 fun _ _ z => t6 _ _ (t5 _ _ z)) (.cons ?_ .nil)⟩, fun r hr => ?_, by rw [List.length_append]; exact Nat.le_refl _⟩
            · have z := t6 _ _ (t4 _ _ (upd_same (H := G2) (a := rt) (o := .tup (gs.map fun g => .int (m g)))))
              show _ = some (HO.tup ((gs.map m).map V.int))
              rw [z, List.map_map]
              rfl
            · rcases List.mem_append.mp hr with z | z
              · exact rok r z
              · rw [List.mem_singleton.mp z]
                exact ⟨List.length_map _, mix_of hsg (tsub2 _ (List.mem_append_left _ ma)) (tsub2 _ (List.mem_append_right _ mb)) pa pb⟩
    · rintro σ H1 ⟨y5, y6, y7, y8, y9, l1, R1, G1, rfl, L1, s1, hR1, rok1, rl1⟩
      refine ⟨_, rfl, _, rfl, lt, _, _, _, rfl, rfl, SqL.of (L1.up _ _ (s1 _ _ hlt)), atI_nat (j := 0) rfl, _, rfl, _, rfl, _, rfl, p, c, a, l1, x, share, ta, G1, gs, R1, rfl, L1, hx.mono s1, s1 _ _ ha, hR1, by omega, gnd, gl, nda, fun z hz => tsub2 z (List.mem_append_left _ hz), sh1, sh2, rok1, by omega, fun l2 R2 G2 H2 L2 s2 hR2 rok2 rl3 => ?_⟩
      have s3 := s1.trans s2
      refine ⟨_, rfl, _, rfl, lt, _, _, _, rfl, rfl, SqL.of (L2.up _ _ (s3 _ _ hlt)), atI_nat (j := 1) rfl, _, rfl, _, rfl, _, rfl, p, c, a, l2, y, share, tb, G2, gs, R2, rfl, L2, hy.mono s3, s3 _ _ ha, hR2, by omega, gnd, gl, ndb, fun z hz => tsub2 z (List.mem_append_right _ hz), sh1, sh2, rok2, by omega, fun l3 R3 G3 H3 L3 s4 hR3 rok3 rl4 => ?_⟩
      exact q l3 R3 G3 H3 L3 (s3.trans s4) hR3 rok3 (by show R3.length ≤ R.length + (ta.sz + tb.sz + 1); omega)
end
end K16
namespace K16
open PySem PySem.Spec PyProof.Rows L2 RZ
/-! ### worlds -/
def wKvs (a b p : Addr) : List (Key × V) := [(.inr "goods", .ref a), (.inr "barters", .ref b), (.inr "book", .ref p)]
theorem wgb : ¬ (("goods" : Str) = "barters") := by decide +kernel
theorem wgk : ¬ (("goods" : Str) = "book") := by decide +kernel
theorem wbk : ¬ (("barters" : Str) = "book") := by decide +kernel
theorem wgt : ¬ (("goods" : Str) = "tree") := by decide +kernel
theorem wbt : ¬ (("barters" : Str) = "tree") := by decide +kernel
theorem wkt : ¬ (("book" : Str) = "tree") := by decide +kernel
def spMade (C : Addr) : Sp := fun vs H Q _ => ∃ (a b : Addr) (gs : List Str) (bs : List (Str × List Int)), vs = [.ref a, .ref b] ∧ StrL H a gs ∧ LstOf BarAt H b bs ∧ BkOk gs bs ∧
  ∀ H' wa p, Same H H' → H wa = none → H' wa = some (.dK (wKvs a b p)) → BookAt C H' p gs bs → Q (.ref wa) H'
/-- a world: its goods, its barters, its book -/
def WorldAt (C : Addr) (G : Hp) (wa : Addr) (gs : List Str) (bs : List (Str × List Int)) : Prop :=
  ∃ kvs gl bl p, G wa = some (.dK kvs) ∧ valV kvs (.inr "goods") = some (.ref gl) ∧ valV kvs (.inr "barters") = some (.ref bl) ∧ valV kvs (.inr "book") = some (.ref p) ∧ StrL G gl gs ∧ LstOf BarAt G bl bs ∧ BookAt C G p gs bs
theorem WorldAt.mono {C : Addr} {G G' : Hp} (s : Same G G') {wa : Addr} {gs : List Str} {bs : List (Str × List Int)} (h : WorldAt C G wa gs bs) : WorldAt C G' wa gs bs :=
  let ⟨kvs, gl, bl, p, h1, h2, h3, h4, h5, h6, h7⟩ := h; ⟨kvs, gl, bl, p, s _ _ h1, h2, h3, h4, s _ _ h5, h6.mono BarAt.mono s, h7.mono s⟩
theorem BookAt.own {C s c p : Addr} {G H : Hp} {gs : List Str} {bs : List (Str × List Int)} (L : Lw s c G H) (t : ∀ q o, H q = some o → q ≠ s → q ≠ c → G q = some o) (h : BookAt C H p gs bs) : BookAt C G p gs bs := by
  obtain ⟨dx, tg, tb, as, o, h1, ⟨h2, h2a⟩, h3, h4⟩ := h
  have no : ∀ q u, H q = some u → (∀ kvs, u ≠ .dK kvs) → (∀ xs, u ≠ .lst xs) → G q = some u := fun q u e k1 k2 => t q u e (L.kindS e k1) (L.kindC e k2)
  refine ⟨dx, tg, tb, as, o, no _ _ h1 (fun _ z => by cases z) (fun _ z => by cases z), ⟨no _ _ h2 (fun _ z => by cases z) (fun _ z => by cases z), h2a⟩, no _ _ h3 (fun _ z => by cases z) (fun _ z => by cases z), Paired.imp h4 fun x y z => ?_⟩
  obtain ⟨ra, z1, z2⟩ := z
  exact ⟨ra, no _ _ z1 (fun _ z => by cases z) (fun _ z => by cases z), no _ _ z2 (fun _ z => by cases z) (fun _ z => by cases z)⟩
theorem made_at {C : Addr} {H : Hp} {a b : Addr} {gs : List Str} {bs : List (Str × List Int)} {R : Addr → Hp → Prop} {E : XK} (ha : StrL H a gs) (hb : LstOf BarAt H b bs) (ok : BkOk gs bs) (q : ∀ H' p, Same H H' → BookAt C H' p gs bs → R p H') :
    ∀ x dx, H x = none → H dx = none → dx ≠ x → spInit C (.ref x :: ([.ref a, .ref b] ++ [])) (upd (upd H dx (.own x)) x (.ins C dx [])) (fun v H2 => v = .non ∧ R x H2) E :=
  fun x dx hx hdx ne => by
    have z := made (C := C) (Q := fun v H2 => ∀ y, v = .ref y → R y H2) (E := E) ha hb ok (fun H' p s b y e => by
      injection e with e
      exact e ▸ q H' p s b) x dx hx hdx ne
    obtain ⟨x', dx', a', b', gs', bs', e, h1, h2, h3, h4, k⟩ := z
    exact ⟨x', dx', a', b', gs', bs', e, h1, h2, h3, h4, fun H' k1 k2 => ⟨rfl, (k H' k1 k2).2 x rfl⟩⟩
theorem ixN_nat {n j : Nat} (h : j < n) : ixN n (j : Int) = some j := by
  unfold ixN
  rw [if_pos (by omega), if_pos (by omega), Int.toNat_natCast]
theorem mix_set {r : List Int} {i j : Nat} {u v : Int} (ij : i ≠ j) (hi : i < r.length) (hj : j < r.length) (hu : 0 < u) (hv : v < 0) : RowMix ((r.set i u).set j v) := by
  refine ⟨⟨v, List.mem_of_getElem? (i := j) ?_, hv⟩, u, List.mem_of_getElem? (i := i) ?_, hu⟩
  · rw [List.getElem?_set_self (by rw [List.length_set]; exact hj)]
  · rw [List.getElem?_set_ne ij.symm, List.getElem?_set_self hi]
theorem rg_is (n : Nat) : rgV 0 (n : Int) = (List.range n).map fun i : Nat => V.int (i : Int) := by
  unfold rgV
  rw [Int.sub_zero, Int.toNat_natCast]
  exact List.map_congr_left fun i _ => by rw [Int.zero_add]
def spAnyRow : Sp := fun vs H Q _ => ∃ (s c : Addr) (G : Hp) (n : Nat), vs = [.ref s, .int (n : Int)] ∧ Lw s c G H ∧ 2 ≤ n ∧ n ≤ 100 ∧ ∀ ra r G' H', Lw s c G' H' → Same G G' → IntT G' ra r → RowOk n r → Q (.ref ra) H'
section
variable {P : Program} {w : World} {K : PySem.W.Frag} {mg : Str → Option Value} {base : Heap} {f C : Addr} {fd : FuncData} {k : Nat}
theorem ok__law_made (F : Fun K "_law_made" "_law_made" s__law_made f fd) (T : Txt K mg) (F_Book : HasC P w K mg base C 4 "Book" (spInit C)) : FnOk P w K mg base CX0 6 f fd ["_law_goods", "_law_barters"] (spMade C) := by
  refine F.ok sc__law_made (fun vs H Q E h => ?_) (fun cdv A outer s H vs Q E hr h => ?_)
  · obtain ⟨a, b, gs, bs, rfl, _⟩ := h
    rfl
  obtain ⟨a, b, gs, bs, rfl, ha, hb, ok, q⟩ := h
  refine ⟨_, (pss_one (ps_ret (pe_disp (pps_cons pe_str (pv 0) (pps_cons pe_str (pv 1) (pps_cons pe_str (pe_mk F_Book (hr.mono (by omega)) (by rfl) (pa_cons (pv 0) (pa_cons (pv 1) pa_nil))) pps_nil))) (by rfl) (by rfl) (fun z => by cases z) (by decide)))), ?_⟩
  intro wa hwa
  have s1 : Same H (upd H wa (.dK [])) := Same.new hwa _
  refine ⟨_, rfl, _, rfl, _, rfl, _, rfl, ?_⟩
  refine made_at (s1 _ _ ha) (hb.mono BarAt.mono s1) ok fun H2 p s2 hB => ?_
  refine ⟨s2 _ _ upd_same, wKvs a b p, rfl, (by show 3 ≤ 15; decide), ?_⟩
  rw [merge_new (by show (([.inr "goods", .inr "barters", .inr "book"] : List Key)).Nodup; decide +kernel)]
  refine q _ wa p (Same.laid hwa (s1.trans s2)) hwa upd_same ?_
  have e := s2 _ _ (upd_same (H := H) (a := wa) (o := .dK []))
  obtain ⟨dx, tg, tb, as, o, h1, ⟨h2, h2a⟩, h3, h4⟩ := hB
  have keep : ∀ x u, H2 x = some u → (∀ kvs, u ≠ .dK kvs) → (upd H2 wa (.dK (wKvs a b p))) x = some u := fun x u h n => by
    rw [upd_ne (ne_of h e (n _))]
    exact h
  refine ⟨dx, tg, tb, as, o, keep _ _ h1 (fun _ z => by cases z), ⟨keep _ _ h2 (fun _ z => by cases z), h2a⟩, keep _ _ h3 (fun _ z => by cases z), Paired.imp h4 fun x y z => ?_⟩
  obtain ⟨ra, z1, z2⟩ := z
  exact ⟨ra, keep _ _ z1 (fun _ z => by cases z), keep _ _ z2 (fun _ z => by cases z)⟩
theorem ok__law_any_row (F : Fun K "_law_any_row" "_law_any_row" s__law_any_row f fd) (T : Txt K mg) (F__law_pick : Has P w K mg base 1 "_law_pick" spPick) (F__law_of : Has P w K mg base 2 "_law_of" spOf) (F__law_mixed : Has P w K mg base 2 "_law_mixed" spMixed) :
    FnOk P w K mg base CX0 3 f fd ["_law_source_here", "_law_size"] spAnyRow := by
  refine F.ok sc__law_any_row (fun vs H Q E h => ?_) (fun cdv A outer s H vs Q E hr h => ?_)
  · obtain ⟨s, c, G, n, rfl, _⟩ := h
    rfl
  obtain ⟨p, c, G, n, rfl, L, n2, n100, q⟩ := h
  refine ⟨_, (pss_cons (ps_setLc (i := 2) (own := [("_law_k", 4)]) (g := gName 4) (tt := tYes) (te := (tCall spOf [] E0 (tCons (tVar 0) (tCons (tLst (tCons (tC (.int 0)) (tCons (tC (.int 0)) (tCons (tC (.int 0)) (tCons (tC (.int 1)) (tCons (tUn (rU fun i => .int (-i)) (tC (.int 1))) (tCons (tC (.int 1)) (tCons (tUn (rU fun i => .int (-i)) (tC (.int 1))) (tCons (tC (.int 2)) (tCons (tUn (rU fun i => .int (-i)) (tC (.int 2))) (tCons (tC (.int 3)) tNil))))))))))) tNil)))) rfl sc__law_any_row.nd rfl rfl (sw_true rfl rfl rfl (by decide +kernel)) (pi_range1 (by rfl) T.b_range (pa_cons (pv 1) pa_nil)) (blkOk_by (own := [("_law_k", 4)]) (N := ["_law_source_here", "_law_size", "_law_row", "_law_here", "_law_k"]) (by kernel_rfl)) (fun _ _ _ _ _ => (pg_name (i := 4) sc__law_any_row.nd rfl (by first | exact .inl rfl | exact .inr rfl))) (fun _ _ _ _ _ => pts_nil) (fun _ _ _ _ _ => (pe_fn F__law_of (hr.mono (by omega)) (by rfl) (pa_cons (pv 0) (pa_cons (pe_lst (pa_cons pe_int (pa_cons pe_int (pa_cons pe_int (pa_cons pe_int (pa_cons (pe_un un_neg pe_int) (pa_cons pe_int (pa_cons (pe_un un_neg pe_int) (pa_cons pe_int (pa_cons (pe_un un_neg pe_int) (pa_cons pe_int pa_nil))))))))))) pa_nil)))))
  (pss_cons (ps_set (i := 3) sc__law_any_row.nd rfl (.inl rfl) (pe_fn F__law_mixed (hr.mono (by omega)) (by rfl) (pa_cons (pv 0) (pa_cons (pe_listRg rfl (by rfl) T.b_list (prg_1 (by rfl) T.b_range (pv 1))) pa_nil))))
  (pss_cons (ps_asg (pe_tup (pa_cons (pe_op op_add pe_int (pe_fn F__law_pick (hr.mono (by omega)) (by rfl) (pa_cons (pv 0) (pa_cons pe_int pa_nil)))) (pa_cons (pe_op op_sub (pe_op op_sub pe_int pe_int) (pe_fn F__law_pick (hr.mono (by omega)) (by rfl) (pa_cons (pv 0) (pa_cons pe_int pa_nil)))) pa_nil))) (pg_tup rfl (pgs_cons (pg_sub (pv 2) (pe_ix (r := rIxL K) ix_list (pv 3) pe_int (fun _ _ => rfl)) set_list) (pgs_cons (pg_sub (pv 2) (pe_ix (r := rIxL K) ix_list (pv 3) pe_int (fun _ _ => rfl)) set_list) pgs_nil))))
  (pss_one (ps_ret (pe_callTy (r := rTupQ K) call_tupQ (by rfl) T.b_tuple (by decide +kernel) (pa_cons (pv 2) pa_nil))))))), ?_⟩
  refine ⟨_, rfl, _, rfl, by omega, by omega, fun D hD => ?_⟩
  rw [Int.toNat_natCast]
  have gD := L.free hD
  refine lc_it walk_range (fun i Hx => ∃ acc G', Lw p c G' Hx ∧ Same G G' ∧ G' D = some (.lst ((acc : List Int).map V.int)) ∧ acc.length = i) ⟨[], _, L.new hD _, Same.new gD _, upd_same, rfl⟩ (fun _ _ _ _ => True.intro) ?_ ?_
  · rintro i x H0 H1 hi ⟨acc, G1, L1, s1, e1, la⟩ ⟨rfl, rfl⟩
    refine ⟨rfl, yes ⟨_, rfl, _, rfl, _, rfl, _, rfl, (by show 10 ≤ sizeLine; decide), fun lb hlb => ⟨p, c, lb, _, _, rfl, L1.new hlb _, upd_same, List.cons_ne_nil _ _, (by show 10 ≤ 1000; decide), fun z H2 hm L2 => ?_⟩⟩⟩
    obtain ⟨z, _, rfl⟩ := List.mem_map.mp (show z ∈ ([0, 0, 0, 1, -1, 1, -1, 2, -2, 3] : List Int).map V.int from hm)
    have s2 := L1.same hlb (.lst [.int 0, .int 0, .int 0, .int 1, .int (-1), .int 1, .int (-1), .int 2, .int (-2), .int 3])
    have e2 := s2 _ _ e1
    exact ⟨_, L2.up _ _ e2, by rw [List.length_map]; exact small1000 (by have : i < n := hi; omega), acc ++ [z], _, L2.put e2 _, Same.laid gD (s1.trans s2), by rw [upd_same, List.map_append]; rfl, by rw [List.length_append, la]; rfl⟩
  rintro H1 ⟨acc, G1, L1, s1, e1, la⟩
  refine ⟨_, rfl, _, rfl, _, rfl, RgOk.of_le (by decide) (by omega) (by decide) (by omega), fun lr hlr => ?_⟩
  have L2 := L1.new hlr (.lst (rgV 0 (n : Int)))
  have s2 := L1.same hlr (.lst (rgV 0 (n : Int)))
  have erg := rg_is n
  refine ⟨p, c, lr, _, _, rfl, L2, upd_same, by rw [erg, List.length_map, List.length_range]; omega, fun lh ys G3 H3 pm L3 s3 glh eh => ?_⟩
  obtain ⟨zs, rfl, pz⟩ := perm_map pm erg
  have lz := pz.length_eq
  rw [List.length_range] at lz
  have znd : zs.Nodup := pz.nodup_iff.mpr List.nodup_range
  have zlt : ∀ z ∈ zs, z < n := fun z hz => List.mem_range.mp (pz.mem_iff.mp hz)
  have at0 : (zs.map fun i : Nat => V.int (i : Int))[0]? = some (.int ((zs[0]'(by omega) : Nat) : Int)) := by
    rw [List.getElem?_map, List.getElem?_eq_getElem (by omega)]
    rfl
  have at1 : (zs.map fun i : Nat => V.int (i : Int))[1]? = some (.int ((zs[1]'(by omega) : Nat) : Int)) := by
    rw [List.getElem?_map, List.getElem?_eq_getElem (by omega)]
    rfl
  have z0 := zlt _ (List.getElem_mem (show 0 < zs.length by omega))
  have z1 := zlt _ (List.getElem_mem (show 1 < zs.length by omega))
  have z01 : zs[0]'(by omega) ≠ zs[1]'(by omega) := fun e => by
    have z := (List.getElem_inj (h₀ := by omega) (h₁ := by omega) znd).mp e
    omega
  generalize zs[0]'(by omega) = j0 at at0 z0 z01
  generalize zs[1]'(by omega) = j1 at at1 z1 z01
  refine ⟨_, rfl, p, c, G3, 3, rfl, L3, by decide, by decide, fun r H4 L4 r0 _ => ⟨_, _, rfl, rfl, _, _, rfl, rfl, _, rfl, p, c, G3, 3, rfl, L4, by decide, by decide, fun r2 H5 L5 r20 _ => ⟨_, _, rfl, rfl, (by show 2 ≤ sizeLine; decide), fun tp htp => ?_⟩⟩⟩
  have L6 := L5.new htp (.tup [.int (1 + r), .int (0 - 1 - r2)])
  have s6 := L5.same htp (.tup [.int (1 + r), .int (0 - 1 - r2)])
  have s16 := s2.trans (s3.trans s6)
  have eD := s16 _ _ e1
  have eh6 := s6 _ _ eh
  have hD2 : lh ≠ D := (ne_of_none (s2 _ _ e1) glh).symm
  have u0 : 0 < 1 + r := by omega
  have u1 : 0 - 1 - r2 < 0 := by omega
  refine ⟨tp, _, rfl, SqT.of upd_same, rfl, _, _, rfl, _, rfl, _, rfl, lh, _, _, _, rfl, rfl, SqL.of (L6.up _ _ eh6), atI_nat (j := 0) at0, D, _, _, j0, rfl, rfl, L6.up _ _ eD, ixN_nat (by rw [List.length_map, la]; exact z0), ?_⟩
  have L7 := L6.put eD (.lst ((acc.map V.int).set j0 (.int (1 + r))))
  refine ⟨_, _, rfl, _, rfl, _, rfl, lh, _, _, _, rfl, rfl, SqL.of (L7.up _ _ (by rw [upd_ne hD2]; exact eh6)), atI_nat (j := 1) at1, D, _, _, j1, rfl, rfl, L7.up _ _ upd_same, ixN_nat (by rw [List.length_set, List.length_map, la]; exact z1), rfl, ?_⟩
  have L8 := L7.put upd_same (.lst (((acc.map V.int).set j0 (.int (1 + r))).set j1 (.int (0 - 1 - r2))))
  refine ⟨_, rfl, D, _, rfl, .inl ⟨SqL.of upd_same, fun ra hra => ?_⟩⟩
  have L9 := L8.new hra (.tup (((acc.map V.int).set j0 (.int (1 + r))).set j1 (.int (0 - 1 - r2))))
  have s9 := L8.same hra (.tup (((acc.map V.int).set j0 (.int (1 + r))).set j1 (.int (0 - 1 - r2))))
  have sG : Same G _ := Same.laid (o := .lst (((acc.map V.int).set j0 (.int (1 + r))).set j1 (.int (0 - 1 - r2)))) gD (Same.laid (o := .lst ((acc.map V.int).set j0 (.int (1 + r)))) gD (s1.trans s16))
  refine q ra ((acc.set j0 (1 + r)).set j1 (0 - 1 - r2)) _ _ L9 (sG.trans s9) ?_ ⟨by rw [List.length_set, List.length_set, la], mix_set z01 (by rw [la]; exact z0) (by rw [la]; exact z1) u0 u1⟩
  show upd _ _ _ _ = _
  rw [upd_same, List.map_set, List.map_set]
end
end K16
namespace K16
open PySem PySem.Spec PyProof.Rows L2 RZ
/-! ### books out of names and rows -/
theorem zip_bars {H : Hp} : ∀ {ts rs : List Addr} {ns : List Str} {R : List (List Int)}, Paired (fun (t : Addr) (q : V × V) => H t = some (.tup [q.1, q.2])) ts ((ns.map V.str).zip (rs.map V.ref)) → Paired (IntT H) rs R → Paired (BarAt H) ts (ns.zip R)
  | ts, [], ns, R, h, k => by
    cases k
    rw [List.map_nil, List.zip_nil_right] at h
    cases h
    rw [List.zip_nil_right]
    exact .nil
  | ts, r :: rs, [], R, h, k => by
    rw [List.map_nil, List.zip_nil_left] at h
    cases h
    rw [List.zip_nil_left]
    exact .nil
  | ts, r :: rs, n :: ns, R, h, k => by
    cases k with
    | cons k1 k2 =>
      rw [List.map_cons, List.map_cons, List.zip_cons_cons] at h
      cases h with
      | cons h1 h2 => exact .cons ⟨r, h1, k1⟩ (zip_bars h2 k2)
theorem perm_paired {α β : Type} {P : α → β → Prop} {zs rs : List α} (h : List.Perm zs rs) : ∀ {R : List β}, Paired P rs R → ∃ R2, Paired P zs R2 ∧ R2.Perm R := by
  induction h with
  | nil => exact fun k => ⟨_, k, .refl _⟩
  | cons x _ ih =>
    intro R k
    cases k with
    | cons k1 k2 =>
      obtain ⟨R2, h1, h2⟩ := ih k2
      exact ⟨_, .cons k1 h1, h2.cons _⟩
  | swap x y l =>
    intro R k
    cases k with
    | cons k1 k2 =>
      cases k2 with
      | cons k2 k3 => exact ⟨_, .cons k2 (.cons k1 k3), .swap _ _ _⟩
  | trans _ _ ih1 ih2 =>
    intro R k
    obtain ⟨R1, h1, p1⟩ := ih2 k
    obtain ⟨R2, h2, p2⟩ := ih1 h1
    exact ⟨R2, h2, p2.trans p1⟩
theorem BarAt.own {s c a : Addr} {G H : Hp} {b : Str × List Int} (L : Lw s c G H) (t : ∀ q o, H q = some o → q ≠ s → q ≠ c → G q = some o) (h : BarAt H a b) : BarAt G a b := by
  obtain ⟨ra, z1, z2⟩ := h
  have no : ∀ q u, H q = some u → (∀ kvs, u ≠ .dK kvs) → (∀ xs, u ≠ .lst xs) → G q = some u := fun q u e k1 k2 => t q u e (L.kindS e k1) (L.kindC e k2)
  exact ⟨ra, no _ _ z1 (fun _ z => by cases z) (fun _ z => by cases z), no _ _ z2 (fun _ z => by cases z) (fun _ z => by cases z)⟩
theorem BarAt.put {D a : Addr} {G : Hp} {xs : List V} {o : HO} {b : Str × List Int} (hD : G D = some (.lst xs)) (h : BarAt G a b) : BarAt (upd G D o) a b := by
  obtain ⟨ra, z1, z2⟩ := h
  refine ⟨ra, ?_, ?_⟩
  · rw [upd_ne (ne_of z1 hD (by intro z; cases z))]
    exact z1
  · show upd _ _ _ _ = _
    rw [upd_ne (ne_of z2 hD (by intro z; cases z))]
    exact z2
theorem world_of {C s c a b p wa : Addr} {G H H' : Hp} {gs : List Str} {bs : List (Str × List Int)} (L : Lw s c G H) (ha : StrL G a gs) (hb : LstOf BarAt G b bs) (u : Same H H') (hw : H wa = none) (ew : H' wa = some (.dK (wKvs a b p))) (hB : BookAt C H' p gs bs) :
    ∃ G', Lw s c G' H' ∧ Same G G' ∧ G' wa = some (.dK (wKvs a b p)) ∧ StrL G' a gs ∧ LstOf BarAt G' b bs ∧ BookAt C G' p gs bs := by
  obtain ⟨G', L', s', trk⟩ := L.call u
  exact ⟨G', L', s', trk _ _ ew (L.offS hw) (L.offC hw), s' _ _ ha, hb.mono BarAt.mono s', hB.own L' trk⟩
theorem w_g {a b p : Addr} : valV (wKvs a b p) (.inr "goods") = some (.ref a) := by simp [valV, wKvs]
theorem w_b {a b p : Addr} : valV (wKvs a b p) (.inr "barters") = some (.ref b) := by simp [valV, wKvs, wgb]
theorem w_k {a b p : Addr} : valV (wKvs a b p) (.inr "book") = some (.ref p) := by simp [valV, wKvs, wgk, wbk]
theorem put_tree {a b p : Addr} {v : V} : putK (wKvs a b p) (.inr "tree") v = wKvs a b p ++ [(.inr "tree", v)] := by simp [putK, wKvs, wgt, wbt, wkt]
theorem val_app {kvs more : List (Key × V)} {k : Key} {v : V} (h : valV kvs k = some v) : valV (kvs ++ more) k = some v := by
  unfold valV at h ⊢
  rw [List.find?_append]
  cases e : kvs.find? fun kv => decide (kv.1 = k) with
  | none => rw [e] at h; cases h
  | some x => rw [e] at h; exact h
/-- a dict is changed: lists and books stay -/
theorem off_dict {q : Addr} {G : Hp} {kvs : List (Key × V)} (hq : G q = some (.dK kvs)) (o : HO) : ∀ x u, G x = some u → (∀ k, u ≠ .dK k) → (upd G q o) x = some u := fun x u e n => by
  rw [upd_ne (ne_of e hq (n _))]
  exact e
theorem BarAt.offD {q a : Addr} {G : Hp} {kvs : List (Key × V)} (hq : G q = some (.dK kvs)) (o : HO) {b : Str × List Int} (h : BarAt G a b) : BarAt (upd G q o) a b :=
  let ⟨ra, z1, z2⟩ := h; ⟨ra, off_dict hq o _ _ z1 (fun _ z => by cases z), off_dict hq o _ _ z2 (fun _ z => by cases z)⟩
theorem BookAt.offD {C q p : Addr} {G : Hp} {kvs : List (Key × V)} (hq : G q = some (.dK kvs)) (o : HO) {gs : List Str} {bs : List (Str × List Int)} (h : BookAt C G p gs bs) : BookAt C (upd G q o) p gs bs :=
  let ⟨dx, tg, tb, as, ob, h1, ⟨h2, h2a⟩, h3, h4⟩ := h
  ⟨dx, tg, tb, as, ob, off_dict hq o _ _ h1 (fun _ z => by cases z), ⟨off_dict hq o _ _ h2 (fun _ z => by cases z), h2a⟩, off_dict hq o _ _ h3 (fun _ z => by cases z), Paired.imp h4 fun _ _ z => z.offD hq o⟩
theorem bk_of {gs ns : List Str} {R : List (List Int)} (g1 : gs.Nodup) (g2 : ∀ z ∈ gs, Wd z) (g3 : gs.length ≤ 1000) (n1 : ns.Nodup) (n2 : ∀ z ∈ ns, Wd z) (l : ns.length = R.length) (l2 : R.length ≤ 1000) (ok : ∀ r ∈ R, RowOk gs.length r) : BkOk gs (ns.zip R) := by
  have e : (ns.zip R).map Prod.fst = ns := List.map_fst_zip (by omega)
  have m : ∀ b ∈ ns.zip R, b.1 ∈ ns ∧ b.2 ∈ R := fun b hb => List.of_mem_zip hb
  refine ⟨g1, g2, by rw [e]; exact n1, fun b hb => n2 _ (m b hb).1, fun b hb => (ok _ (m b hb).2).1, fun b hb => (ok _ (m b hb).2).2, g3, ?_⟩
  rw [List.length_zip]
  omega
structure WOk (gs : List Str) (bs : List (Str × List Int)) : Prop where
  ok : BkOk gs bs
  g : gs.length ≤ 10
  b : bs.length ≤ 40
  zz : ∀ x ∈ bs, x.1 ≠ "zz9"
/-- what makes a world -/
def spWorld (C : Addr) (lo hi : Int) : Sp := fun vs H Q _ => ∃ (s c : Addr) (G : Hp) (n : Int), vs = [.ref s, .int n] ∧ Lw s c G H ∧ lo ≤ n ∧ n ≤ hi ∧ ∀ wa gs bs G' H', Lw s c G' H' → Same G G' → WorldAt C G' wa gs bs → WOk gs bs → Q (.ref wa) H'
section
variable {P : Program} {w : World} {K : PySem.W.Frag} {mg : Str → Option Value} {base : Heap} {f C : Addr} {fd : FuncData} {k : Nat}
theorem ok__law_any_book (F : Fun K "_law_any_book" "_law_any_book" s__law_any_book f fd) (T : Txt K mg) (F__law_pick : Has P w K mg base 1 "_law_pick" spPick) (F__law_names : Has P w K mg base 2 "_law_names" spLawNames) (F__law_any_row : Has P w K mg base 3 "_law_any_row" spAnyRow) (F__law_made : Has P w K mg base 6 "_law_made" (spMade C)) :
    FnOk P w K mg base CX0 7 f fd ["_law_source_here", "_law_most"] (spWorld C 2 10) := by
  refine F.ok sc__law_any_book (fun vs H Q E h => ?_) (fun cdv A outer s H vs Q E hr h => ?_)
  · obtain ⟨s, c, G, n, rfl, _⟩ := h
    rfl
  obtain ⟨p, c, G, n, rfl, L, n2, n10, q⟩ := h
  refine ⟨_, (pss_cons (ps_set (i := 2) sc__law_any_book.nd rfl (.inr rfl) (pe_fn F__law_names (hr.mono (by omega)) (by rfl) (pa_cons (pv 0) (pa_cons (pe_op op_add pe_int (pe_fn F__law_pick (hr.mono (by omega)) (by rfl) (pa_cons (pv 0) (pa_cons (pe_op op_sub (pv 1) pe_int) pa_nil)))) pa_nil))))
  (pss_cons (ps_set (i := 3) sc__law_any_book.nd rfl (.inl rfl) (pe_fn F__law_names (hr.mono (by omega)) (by rfl) (pa_cons (pv 0) (pa_cons (pe_fn F__law_pick (hr.mono (by omega)) (by rfl) (pa_cons (pv 0) (pa_cons pe_int pa_nil))) pa_nil))))
  (pss_one (ps_ret (pe_fn F__law_made (hr.mono (by omega)) (by rfl) (pa_cons (pv 2) (pa_cons (pe_lc (own := [("_law_name", 4)]) (g := gName 4) (tt := tYes) (te := (tTup (tCons (tVar 4) (tCons (tCall spAnyRow [] E0 (tCons (tVar 0) (tCons (tCB (rLenQ K) (tCons (tVar 2) tNil)) tNil))) tNil)))) rfl sc__law_any_book.nd (pi_list (pv 3)) (blkOk_by (own := [("_law_name", 4)]) (N := ["_law_source_here", "_law_most", "_law_goods", "_law_names_here", "_law_name"]) (by kernel_rfl)) (fun _ _ _ _ _ => (pg_name (i := 4) sc__law_any_book.nd rfl (by first | exact .inl rfl | exact .inr rfl))) (fun _ _ _ _ _ => pts_nil) (fun _ _ _ _ _ => (pe_tup (pa_cons (pv 4) (pa_cons (pe_fn F__law_any_row (hr.mono (by omega)) (by rfl) (pa_cons (pv 0) (pa_cons (pe_callB (r := rLenQ K) call_lenQ (by rfl) T.b_len (by decide +kernel) (pa_cons (pv 2) pa_nil)) pa_nil))) pa_nil))))) pa_nil))))))), ?_⟩
  refine ⟨_, rfl, _, rfl, _, rfl, _, _, rfl, rfl, p, c, G, n - 1, rfl, L, by omega, by omega, fun r H1 L1 r0 r1 => ⟨_, _, rfl, rfl, ?_⟩⟩
  obtain ⟨j, rfl⟩ := Int.eq_ofNat_of_zero_le r0
  have e2 : (2 + (j : Int)) = ((2 + j : Nat) : Int) := by omega
  refine ⟨p, c, G, 2 + j, congrArg (fun z => [V.ref p, V.int z]) e2, L1, by omega, fun lg gs G2 H2 lgs gnd gwd L2 s2 _ eg => ?_⟩
  refine ⟨_, rfl, _, rfl, p, c, G2, 5, rfl, L2, by decide, by decide, fun r2 H3 L3 r20 r21 => ?_⟩
  obtain ⟨nb, rfl, hnb⟩ := nat_of (n := 5) r20 r21
  refine ⟨p, c, G2, nb, rfl, L3, by omega, fun ln ns G4 H4 lns nnd nwd L4 s4 _ en => ?_⟩
  have eg4 := s4 _ _ eg
  refine ⟨_, rfl, _, rfl, ln, rfl, ⟨_, SqL.of (L4.up _ _ en)⟩, fun D hD => ?_⟩
  have gD := L4.free hD
  refine lc_it (walk_list (K := K) (a := ln) (xs := ns.map V.str)) (fun i Hx => ∃ ts R G', Lw p c G' Hx ∧ Same G4 G' ∧ G' D = some (.lst ((ts : List Addr).map V.ref)) ∧ Paired (BarAt G') ts ((ns.take i).zip R) ∧ R.length = i ∧ ∀ r ∈ R, RowOk gs.length r)
    ⟨[], [], _, L4.new hD _, Same.new gD _, upd_same, .nil, rfl, fun _ z => (List.not_mem_nil z).elim⟩ (fun i Hx _ ⟨_, _, _, z, z2, _⟩ => SqL.of (z.up _ _ (z2 _ _ en))) ?_ ?_
  · rintro i x H0 H5 hi ⟨ts, R, G5, L5, s5, e5, p5, l5, ok5⟩ ⟨rfl, ex⟩
    have hi' : i < ns.length := by rw [List.length_map] at hi; exact hi
    rw [List.getElem?_map, List.getElem?_eq_getElem hi'] at ex
    obtain rfl : V.str ns[i] = x := Option.some.inj ex
    refine ⟨rfl, yes ⟨_, rfl, _, rfl, _, rfl, lg, _, rfl, .inl (SqL.of (L5.up _ _ (s5 _ _ eg4))), ?_⟩⟩
    rw [List.length_map]
    refine ⟨p, c, G5, gs.length, rfl, L5, by omega, by omega, fun ra r G6 H6 L6 s6 er rok => ?_⟩
    refine ⟨(by show 2 ≤ sizeLine; decide), fun tp htp => ?_⟩
    have L7 := L6.new htp (.tup [.str ns[i], .ref ra])
    have s7 := L6.same htp (.tup [.str ns[i], .ref ra])
    have e7 := s7 _ _ (s6 _ _ e5)
    have lt := Paired.len p5
    rw [List.length_zip, List.length_take] at lt
    refine ⟨_, L7.up _ _ e7, by rw [List.length_map]; exact small1000 (by omega), ts ++ [tp], R ++ [r], _, L7.put e7 _, Same.laid gD (s5.trans (s6.trans s7)), by rw [upd_same, List.map_append]; rfl, ?_, by rw [List.length_append, l5]; rfl, fun x hx => ?_⟩
    · rw [take_step hi', List.zip_append (by rw [List.length_take, l5]; omega)]
      exact Paired.app (Paired.imp p5 fun _ _ z => (z.mono (s6.trans s7)).put e7) (.cons (BarAt.put e7 ⟨ra, upd_same, s7 _ _ er⟩) .nil)
    · rcases List.mem_append.mp hx with z | z
      · exact ok5 x z
      · rw [List.mem_singleton.mp z]
        exact rok
  rintro H5 ⟨ts, R, G5, L5, s5, e5, p5, l5, ok5⟩
  have l5' : R.length = ns.length := by rw [l5, List.length_map]
  rw [List.length_map, List.take_of_length_le (Nat.le_refl _)] at p5
  have hbG : LstOf BarAt G5 D (ns.zip R) := ⟨ts, e5, p5⟩
  have ok := bk_of gnd (fun z hz => (gwd z hz).1) (by omega) nnd (fun z hz => (nwd z hz).1) l5'.symm (by omega) ok5
  refine ⟨lg, D, gs, ns.zip R, rfl, L5.up _ _ (s5 _ _ eg4), hbG.mono BarAt.mono L5.up, ok, fun H6 wa pb s6 hwa ew hB => ?_⟩
  obtain ⟨G7, L7, s7, e7, a7, b7, c7⟩ := world_of L5 (s5 _ _ eg4) hbG s6 hwa ew hB
  refine q wa gs (ns.zip R) G7 H6 L7 (s2.trans (s4.trans (s5.trans s7))) ⟨_, lg, D, pb, e7, w_g, w_b, w_k, a7, b7, c7⟩ ⟨ok, by omega, by rw [List.length_zip]; omega, fun x hx => (nwd _ (List.of_mem_zip hx).1).2⟩
theorem ok__law_book (F : Fun K "_law_book" "_law_book" s__law_book f fd) (T : Txt K mg) (hk : 6 ≤ k) (F__law_pick : Has P w K mg base 1 "_law_pick" spPick) (F__law_of : Has P w K mg base 2 "_law_of" spOf) (F__law_mixed : Has P w K mg base 2 "_law_mixed" spMixed) (F__law_names : Has P w K mg base 2 "_law_names" spLawNames)
    {j1 j2 : Nat} (hj1 : j1 ≤ k) (hj2 : j2 ≤ k) (F__law_tree : Has P w K mg base j1 "_law_tree" (spTree 10)) (F__law_forked : Has P w K mg base j2 "_law_forked" (spForked 10)) (F__law_made : Has P w K mg base 6 "_law_made" (spMade C)) :
    FnOk P w K mg base CX0 (k + 1) f fd ["_law_source_here", "_law_most"] (spWorld C 1 10) := by
  refine F.ok sc__law_book (fun vs H Q E h => ?_) (fun cdv A outer s H vs Q E hr h => ?_)
  · obtain ⟨s, c, G, n, rfl, _⟩ := h
    rfl
  obtain ⟨p, c, G, n, rfl, L, n1, n10, q⟩ := h
  have hu := hu_of hr
  refine ⟨_, (pss_cons (ps_set (i := 2) sc__law_book.nd rfl (.inl rfl) (pe_fn F__law_names (hr.mono (by omega)) (by rfl) (pa_cons (pv 0) (pa_cons (pe_op op_add pe_int (pe_fn F__law_pick (hr.mono (by omega)) (by rfl) (pa_cons (pv 0) (pa_cons (pv 1) pa_nil)))) pa_nil))))
  (pss_cons (ps_set (i := 3) sc__law_book.nd rfl (.inl rfl) (pe_fn F__law_tree (hr.mono (by omega)) (by rfl) (pa_cons (pv 0) (pa_cons (pv 2) pa_nil))))
  (pss_cons (ps_set (i := 4) sc__law_book.nd rfl (.inl rfl) (pe_fn F__law_mixed (hr.mono (by omega)) (by rfl) (pa_cons (pv 0) (pa_cons (pe_fn F__law_forked (hr.mono (by omega)) (by rfl) (pa_cons (pv 0) (pa_cons (pv 3) (pa_cons (pv 2) (pa_cons (pe_fn F__law_of (hr.mono (by omega)) (by rfl) (pa_cons (pv 0) (pa_cons (pe_lst (pa_cons pe_int (pa_cons pe_int (pa_cons pe_int pa_nil)))) pa_nil))) (pa_cons (pe_lst pa_nil) pa_nil)))))) pa_nil))))
  (pss_cons (ps_set (i := 5) sc__law_book.nd rfl (.inl rfl) (pe_fn F__law_made (hr.mono (by omega)) (by rfl) (pa_cons (pv 2) (pa_cons (pe_listZip T.b_list T.b_zip (pa_cons (pe_fn F__law_names (hr.mono (by omega)) (by rfl) (pa_cons (pv 0) (pa_cons (pe_callB (r := rLenQ K) call_lenQ (by rfl) T.b_len (by decide +kernel) (pa_cons (pv 4) pa_nil)) pa_nil))) (pa_cons (pv 4) pa_nil))) pa_nil))))
  (pss_cons (ps_dput hu (pv 5) pe_str (pv 3) rfl)
  (pss_one (ps_ret (pv 5)))))))), ?_⟩
  refine ⟨_, rfl, _, rfl, _, rfl, p, c, G, n, rfl, L, n1, by omega, fun r H1 L1 r0 r1 => ⟨_, _, rfl, rfl, ?_⟩⟩
  obtain ⟨j, rfl⟩ := Int.eq_ofNat_of_zero_le r0
  have e2 : (1 + (j : Int)) = ((1 + j : Nat) : Int) := by omega
  refine ⟨p, c, G, 1 + j, congrArg (fun z => [V.ref p, V.int z]) e2, L1, by omega, fun lg gs G2 H2 lgs gnd gwd L2 s2 _ eg => ?_⟩
  have gne : gs ≠ [] := fun z => by rw [z, List.length_nil] at lgs; omega
  refine ⟨_, rfl, _, rfl, p, c, lg, G2, gs, rfl, L2, eg, gne, by omega, by omega, fun tv t G3 H3 L3 s3 ht pt => ?_⟩
  refine ⟨_, rfl, _, rfl, _, rfl, _, rfl, _, rfl, (by show 3 ≤ sizeLine; decide), fun lb hlb => ⟨p, c, lb, _, _, rfl, L3.new hlb _, upd_same, List.cons_ne_nil _ _, (by show 3 ≤ 1000; decide), fun sv H4 hm L4 => ?_⟩⟩
  obtain ⟨share, rfl, sh1, sh2⟩ : ∃ share : Int, sv = .int share ∧ 1 ≤ share ∧ share ≤ 1000 := by
    rcases List.mem_cons.mp hm with rfl | hm
    · exact ⟨1, rfl, by decide, by decide⟩
    rcases List.mem_cons.mp hm with rfl | hm
    · exact ⟨4, rfl, by decide, by decide⟩
    · exact ⟨4, List.mem_singleton.mp hm, by decide, by decide⟩
  have s4 := L3.same hlb (.lst [.int 1, .int 4, .int 4])
  refine ⟨(by show 0 ≤ sizeLine; decide), fun le hle => ?_⟩
  have L5 := L4.new hle (.lst [])
  have s5 := L4.same hle (.lst [])
  have s35 := s4.trans s5
  have lv := Tr.lv_sz t
  have lp := pt.length_eq
  refine ⟨p, c, lg, le, tv, share, t, _, gs, [], rfl, L5, ht.mono s35, s35 _ _ (s3 _ _ eg), ⟨[], upd_same, .nil⟩, by omega, gnd, by omega, pt.nodup_iff.mpr gnd, fun z hz => pt.mem_iff.mp hz, sh1, sh2, fun _ z => (List.not_mem_nil z).elim, by show 0 + t.sz ≤ 900; omega, fun lr R G6 H6 L6 s6 hR rok rl => ?_⟩
  obtain ⟨rs, er, pr⟩ := hR
  have lr := Paired.len pr
  have rl2 : R.length ≤ 0 + t.sz := rl
  refine ⟨p, c, _, G6, _, rfl, L6, er, by rw [List.length_map]; omega, fun lm ys G7 H7 pm L7 s7 _ em => ?_⟩
  obtain ⟨zs, rfl, pz⟩ := perm_map pm rfl
  obtain ⟨R2, pR2, pmR⟩ := perm_paired pz pr
  have ok2 : ∀ r ∈ R2, RowOk gs.length r := fun r hr => rok r (pmR.mem_iff.mp hr)
  have lR2 := pmR.length_eq
  have lz := Paired.len pR2
  have pR7 : Paired (IntT G7) zs R2 := Paired.imp pR2 fun _ _ z => s7 _ _ z
  have s27 := s3.trans (s35.trans (s6.trans s7))
  refine ⟨_, rfl, _, rfl, _, rfl, lm, _, rfl, .inl (SqL.of (L7.up _ _ em)), ?_⟩
  rw [List.length_map]
  refine ⟨p, c, G7, zs.length, rfl, L7, by omega, fun ln ns G8 H8 lns nnd nwd L8 s8 _ en => ?_⟩
  refine ⟨_, rfl, ln, lm, _, _, rfl, SqL.of (L8.up _ _ en), SqL.of (L8.up _ _ (s8 _ _ em)), by rw [List.length_map, List.length_map, lns], fun H9 lz2 ts s9 hlz2 hts elz pts => ?_⟩
  obtain ⟨G9, L9, sG9, trk⟩ := L8.call s9
  have b9 := zip_bars pts (Paired.imp pR7 fun _ _ z => s9 _ _ (L8.up _ _ (s8 _ _ z)))
  have hbG : LstOf BarAt G9 lz2 (ns.zip R2) := ⟨ts, trk _ _ elz (L8.offS hlz2) (L8.offC hlz2), Paired.imp b9 fun _ _ z => z.own L9 trk⟩
  have eg9 := sG9 _ _ (s8 _ _ (s27 _ _ eg))
  have ok := bk_of gnd (fun z hz => (gwd z hz).1) (by omega) nnd (fun z hz => (nwd z hz).1) (by omega) (by omega) ok2
  refine ⟨lg, lz2, gs, ns.zip R2, rfl, L9.up _ _ eg9, hbG.mono BarAt.mono L9.up, ok, fun H10 wa pb s10 hwa ew hB => ?_⟩
  obtain ⟨G11, L11, s11, e11, a11, b11, c11⟩ := world_of L9 eg9 hbG s10 hwa ew hB
  refine ⟨_, rfl, _, rfl, wa, _, rfl, DPut.k (k := .inr "tree") (L11.up _ _ e11) (by show 3 < sizeLine; decide), ?_⟩
  have gwa : G wa = none := (s2.trans (s27.trans (s8.trans sG9))).free (L9.free hwa)
  obtain ⟨ts2, t1, t2⟩ := b11
  refine ⟨_, rfl, ?_⟩
  rw [put_tree]
  refine q wa gs (ns.zip R2) _ _ (L11.put e11 (.dK (wKvs lg lz2 pb ++ [(.inr "tree", tv)]))) (Same.laid gwa (s2.trans (s27.trans (s8.trans (sG9.trans s11)))))
    ⟨_, lg, lz2, pb, upd_same, val_app w_g, val_app w_b, val_app w_k, off_dict e11 _ _ _ a11 (fun _ z => by cases z), ⟨ts2, off_dict e11 _ _ _ t1 (fun _ z => by cases z), Paired.imp t2 fun _ _ z => z.offD e11 _⟩, c11.offD e11 _⟩ ⟨ok, by omega, by rw [List.length_zip]; omega, fun x hx => (nwd _ (List.of_mem_zip hx).1).2⟩
end
end K16
namespace K16
open PySem PySem.Spec PyProof.Rows L2 RZ
theorem mix_scale {r : List Int} {t : Int} (h : RowMix r) (ht : t ≠ 0) : RowMix (r.map fun e => t * e) := by
  obtain ⟨⟨x, hx, x0⟩, y, hy, y0⟩ := h
  rcases Int.lt_or_gt_of_ne ht with h | h
  · exact ⟨⟨t * y, List.mem_map_of_mem hy, Int.mul_neg_of_neg_of_pos h y0⟩, t * x, List.mem_map_of_mem hx, Int.mul_pos_of_neg_of_neg h x0⟩
  · exact ⟨⟨t * x, List.mem_map_of_mem hx, Int.mul_neg_of_pos_of_neg h x0⟩, t * y, List.mem_map_of_mem hy, Int.mul_pos h y0⟩
theorem mix_perm {r u : List Int} (h : RowMix r) (p : u.Perm r) : RowMix u :=
  let ⟨⟨x, hx, x0⟩, y, hy, y0⟩ := h
  ⟨⟨x, p.mem_iff.mpr hx, x0⟩, y, p.mem_iff.mpr hy, y0⟩
theorem pick_perm {α : Type} {xs : List α} {zs : List Nat} {d : α} (p : zs.Perm (List.range xs.length)) : (zs.map fun i => xs.getD i d).Perm xs := by
  have q := p.map fun i => xs.getD i d
  rw [range_get] at q
  exact q
/-- the rows of a list, by a comprehension whose elements are new rows -/
theorem IntT.put {D a : Addr} {G : Hp} {xs : List V} {o : HO} {r : List Int} (hD : G D = some (.lst xs)) (h : IntT G a r) : IntT (upd G D o) a r := by
  show upd _ _ _ _ = _
  rw [upd_ne (ne_of h hD (by intro z; cases z))]
  exact h
theorem IntT.mono {H H' : Hp} (s : Same H H') {a : Addr} {r : List Int} (h : IntT H a r) : IntT H' a r := s _ _ h
section
variable {P : Program} {w : World} {K : PySem.W.Frag} {mg : Str → Option Value} {base : Heap} {f C : Addr} {fd : FuncData} {k : Nat}
theorem ok__law_crossed_book (F : Fun K "_law_crossed_book" "_law_crossed_book" s__law_crossed_book f fd) (T : Txt K mg) (F__law_pick : Has P w K mg base 1 "_law_pick" spPick) (F__law_of : Has P w K mg base 2 "_law_of" spOf) (F__law_mixed : Has P w K mg base 2 "_law_mixed" spMixed) (F__law_names : Has P w K mg base 2 "_law_names" spLawNames)
    (F__law_any_row : Has P w K mg base 3 "_law_any_row" spAnyRow) (F__law_made : Has P w K mg base 6 "_law_made" (spMade C)) :
    FnOk P w K mg base CX0 7 f fd ["_law_source_here", "_law_most"] (spWorld C 2 7) := by
  refine F.ok sc__law_crossed_book (fun vs H Q E h => ?_) (fun cdv A outer s H vs Q E hr h => ?_)
  · obtain ⟨s, c, G, n, rfl, _⟩ := h
    rfl
  obtain ⟨p, c, G, n, rfl, L, n2, n7, q⟩ := h
  refine ⟨_, (pss_cons (ps_set (i := 2) sc__law_crossed_book.nd rfl (.inr rfl) (pe_op op_add pe_int (pe_fn F__law_pick (hr.mono (by omega)) (by rfl) (pa_cons (pv 0) (pa_cons (pe_op op_sub (pv 1) pe_int) pa_nil)))))
  (pss_cons (ps_set (i := 3) sc__law_crossed_book.nd rfl (.inr rfl) (pe_fn F__law_names (hr.mono (by omega)) (by rfl) (pa_cons (pv 0) (pa_cons (pe_op op_add (pv 2) (pe_fn F__law_pick (hr.mono (by omega)) (by rfl) (pa_cons (pv 0) (pa_cons pe_int pa_nil)))) pa_nil))))
  (pss_cons (ps_set (i := 4) sc__law_crossed_book.nd rfl (.inl rfl) (pe_lst pa_nil))
  (pss_cons (ps_for PassesOwn.never rfl (pi_range1 (by rfl) T.b_range (pa_cons (pv 2) pa_nil)) (pg_name (i := 5) sc__law_crossed_book.nd rfl (by first | exact .inl rfl | exact .inr rfl)) (pss_cons (ps_setLc (i := 6) (own := [("_law_j", 11)]) (g := gName 11) (tt := tYes) (te := (tIf (tTest (tOp (rI0 fun i j => .bl (decide (j ≤ i))) (tVar 11) (tVar 2))) (tCall spOf [] E0 (tCons (tVar 0) (tCons (tLst (tCons (tC (.int 0)) (tCons (tC (.int 0)) (tCons (tC (.int 0)) (tCons (tC (.int 1)) (tCons (tUn (rU fun i => .int (-i)) (tC (.int 1))) tNil)))))) tNil))) (tC (.int 0)))) rfl sc__law_crossed_book.nd rfl rfl (sw_true rfl rfl rfl (by decide +kernel)) (pi_range1 (by rfl) T.b_range (pa_cons (pe_callB (r := rLenQ K) call_lenQ (by rfl) T.b_len (by decide +kernel) (pa_cons (pv 3) pa_nil)) pa_nil)) (blkOk_by (own := [("_law_j", 11)]) (N := ["_law_source_here", "_law_most", "_law_many", "_law_goods", "_law_rows", "_law_k", "_law_row", "_law_sign", "_law_more", "_law_order", "_law_lap", "_law_j", "_law_entry"]) (by kernel_rfl)) (fun _ _ _ _ _ => (pg_name (i := 11) sc__law_crossed_book.nd rfl (by first | exact .inl rfl | exact .inr rfl))) (fun _ _ _ _ _ => pts_nil) (fun _ _ _ _ _ => (pe_ifExp (pt_cmpR op_ge (pv 11) (pv 2) (nomark _)) (pe_fn F__law_of (hr.mono (by omega)) (by rfl) (pa_cons (pv 0) (pa_cons (pe_lst (pa_cons pe_int (pa_cons pe_int (pa_cons pe_int (pa_cons pe_int (pa_cons (pe_un un_neg pe_int) pa_nil)))))) pa_nil))) pe_int)))
  (pss_cons (ps_asg (pe_tup (pa_cons (pe_op op_add pe_int (pe_fn F__law_pick (hr.mono (by omega)) (by rfl) (pa_cons (pv 0) (pa_cons pe_int pa_nil)))) (pa_cons (pe_op op_sub (pe_op op_sub pe_int pe_int) (pe_fn F__law_pick (hr.mono (by omega)) (by rfl) (pa_cons (pv 0) (pa_cons pe_int pa_nil)))) pa_nil))) (pg_tup rfl (pgs_cons (pg_sub (pv 6) (pv 5) set_list) (pgs_cons (pg_sub (pv 6) (pe_op op_modN (pe_callTy call_int1 (by rfl) T.b_int (by decide +kernel) (pa_cons (pe_op op_add (pv 5) pe_int) pa_nil)) (pv 2)) set_list) pgs_nil))))
  (pss_cons (ps_set (i := 7) sc__law_crossed_book.nd rfl (.inr rfl) (pe_fn F__law_of (hr.mono (by omega)) (by rfl) (pa_cons (pv 0) (pa_cons (pe_lst (pa_cons pe_int (pa_cons (pe_un un_neg pe_int) pa_nil))) pa_nil))))
  (pss_one (ps_expr (pe_bm PySem.F.plainAttrs_list PySem.F.slot_list_append PySem.F.type_list_append mt_append (pv 4) (pa_cons (pe_callTy (r := rTupQ K) call_tupQ (by rfl) T.b_tuple (by decide +kernel) (pa_cons (pe_lc (own := [("_law_entry", 12)]) (g := gName 12) (tt := tYes) rfl sc__law_crossed_book.nd (pi_list (pv 6)) (blkOk_by (own := [("_law_entry", 12)]) (N := ["_law_source_here", "_law_most", "_law_many", "_law_goods", "_law_rows", "_law_k", "_law_row", "_law_sign", "_law_more", "_law_order", "_law_lap", "_law_j", "_law_entry"]) (by kernel_rfl)) (fun _ _ _ _ _ => (pg_name (i := 12) sc__law_crossed_book.nd rfl (by first | exact .inl rfl | exact .inr rfl))) (fun _ _ _ _ _ => pts_nil) (fun _ _ _ _ _ => (pe_op op_mul (pv 7) (pv 12)))) pa_nil)) pa_nil))))))))
  (pss_cons (ps_setLc (i := 8) (own := [("_law_lap", 10)]) (g := gName 10) (tt := tYes) (te := (tCall spAnyRow [] E0 (tCons (tVar 0) (tCons (tCB (rLenQ K) (tCons (tVar 3) tNil)) tNil)))) rfl sc__law_crossed_book.nd rfl rfl (sw_true rfl rfl rfl (by decide +kernel)) (pi_range1 (by rfl) T.b_range (pa_cons (pe_fn F__law_of (hr.mono (by omega)) (by rfl) (pa_cons (pv 0) (pa_cons (pe_lst (pa_cons pe_int (pa_cons pe_int (pa_cons pe_int (pa_cons pe_int pa_nil))))) pa_nil))) pa_nil)) (blkOk_by (own := [("_law_lap", 10)]) (N := ["_law_source_here", "_law_most", "_law_many", "_law_goods", "_law_rows", "_law_k", "_law_row", "_law_sign", "_law_more", "_law_order", "_law_lap", "_law_j", "_law_entry"]) (by kernel_rfl)) (fun _ _ _ _ _ => (pg_name (i := 10) sc__law_crossed_book.nd rfl (by first | exact .inl rfl | exact .inr rfl))) (fun _ _ _ _ _ => pts_nil) (fun _ _ _ _ _ => (pe_fn F__law_any_row (hr.mono (by omega)) (by rfl) (pa_cons (pv 0) (pa_cons (pe_callB (r := rLenQ K) call_lenQ (by rfl) T.b_len (by decide +kernel) (pa_cons (pv 3) pa_nil)) pa_nil)))))
  (pss_cons (ps_set (i := 4) sc__law_crossed_book.nd rfl (.inl rfl) (pe_fn F__law_mixed (hr.mono (by omega)) (by rfl) (pa_cons (pv 0) (pa_cons (pe_op op_cat (pv 4) (pv 8)) pa_nil))))
  (pss_cons (ps_set (i := 9) sc__law_crossed_book.nd rfl (.inr rfl) (pe_fn F__law_mixed (hr.mono (by omega)) (by rfl) (pa_cons (pv 0) (pa_cons (pe_listRg rfl (by rfl) T.b_list (prg_1 (by rfl) T.b_range (pe_callB (r := rLenQ K) call_lenQ (by rfl) T.b_len (by decide +kernel) (pa_cons (pv 3) pa_nil)))) pa_nil))))
  (pss_cons (ps_setLc (i := 4) (own := [("_law_row", 6)]) (g := gName 6) (tt := tYes) (te := (tCB (rTupQ K) (tCons (tLc (iList K (tVar 9)) (gName 5) tYes (tOp (rIxT K) (tVar 6) (tVar 5)) [5]) tNil))) rfl sc__law_crossed_book.nd rfl rfl (sw_true rfl rfl rfl (by decide +kernel)) (pi_list (pv 4)) (blkOk_by (own := [("_law_row", 6)]) (N := ["_law_source_here", "_law_most", "_law_many", "_law_goods", "_law_rows", "_law_k", "_law_row", "_law_sign", "_law_more", "_law_order", "_law_lap", "_law_j", "_law_entry"]) (by kernel_rfl)) (fun _ _ _ _ _ => (pg_name (i := 6) sc__law_crossed_book.nd rfl (by first | exact .inl rfl | exact .inr rfl))) (fun _ _ _ _ _ => pts_nil) (fun _ _ _ _ _ => (pe_callTy (r := rTupQ K) call_tupQ (by rfl) T.b_tuple (by decide +kernel) (pa_cons (pe_lc (own := [("_law_k", 5)]) (g := gName 5) (tt := tYes) (te := (tOp (rIxT K) (tVar 6) (tVar 5))) rfl sc__law_crossed_book.nd (pi_list (pv 9)) (blkOk_by (own := [("_law_k", 5)]) (N := ["_law_source_here", "_law_most", "_law_many", "_law_goods", "_law_rows", "_law_k", "_law_row", "_law_sign", "_law_more", "_law_order", "_law_lap", "_law_j", "_law_entry"]) (by kernel_rfl)) (fun _ _ _ _ _ => (pg_name (i := 5) sc__law_crossed_book.nd rfl (by first | exact .inl rfl | exact .inr rfl))) (fun _ _ _ _ _ => pts_nil) (fun _ _ _ _ _ => (pe_ix (r := rIxT K) ix_tup (pv 6) (pv 5) (fun _ _ => rfl)))) pa_nil))))
  (pss_one (ps_ret (pe_fn F__law_made (hr.mono (by omega)) (by rfl) (pa_cons (pe_lc (own := [("_law_k", 5)]) (g := gName 5) (tt := tYes) (te := (tOp (rIxL K) (tVar 3) (tVar 5))) rfl sc__law_crossed_book.nd (pi_list (pv 9)) (blkOk_by (own := [("_law_k", 5)]) (N := ["_law_source_here", "_law_most", "_law_many", "_law_goods", "_law_rows", "_law_k", "_law_row", "_law_sign", "_law_more", "_law_order", "_law_lap", "_law_j", "_law_entry"]) (by kernel_rfl)) (fun _ _ _ _ _ => (pg_name (i := 5) sc__law_crossed_book.nd rfl (by first | exact .inl rfl | exact .inr rfl))) (fun _ _ _ _ _ => pts_nil) (fun _ _ _ _ _ => (pe_ix (r := rIxL K) ix_list (pv 3) (pv 5) (fun _ _ => rfl)))) (pa_cons (pe_listZip T.b_list T.b_zip (pa_cons (pe_fn F__law_names (hr.mono (by omega)) (by rfl) (pa_cons (pv 0) (pa_cons (pe_callB (r := rLenQ K) call_lenQ (by rfl) T.b_len (by decide +kernel) (pa_cons (pv 4) pa_nil)) pa_nil))) (pa_cons (pv 4) pa_nil))) pa_nil))))))))))))), ?_⟩
  refine ⟨_, rfl, _, rfl, _, _, rfl, rfl, p, c, G, n - 1, rfl, L, by omega, by omega, fun r H1 L1 r0 r1 => ⟨_, _, rfl, rfl, ?_⟩⟩
  obtain ⟨j, rfl⟩ := Int.eq_ofNat_of_zero_le r0
  refine ⟨_, rfl, _, rfl, _, rfl, p, c, G, 4, rfl, L1, by decide, by decide, fun r H2 L2 r0 r1 => ⟨_, _, rfl, rfl, ?_⟩⟩
  obtain ⟨b, rfl, hb⟩ := nat_of (n := 4) r0 r1
  have e3 : (2 + (j : Int)) + (b : Int) = ((2 + j + b : Nat) : Int) := by omega
  refine ⟨p, c, G, 2 + j + b, congrArg (fun z => [V.ref p, V.int z]) e3, L2, by omega, fun lg gs G3 H3 lgs gnd gwd L3 s3 _ eg => ?_⟩
  refine ⟨(by show 0 ≤ sizeLine; decide), fun rl hrl => ?_⟩
  have L4 := L3.new hrl (.lst [])
  have grl := L3.free hrl
  refine ⟨_, rfl, _, rfl, by omega, by omega, ?_⟩
  have eM : (2 + (j : Int)).toNat = 2 + j := by omega
  rw [eM]
  refine for_it walk_range (fun i σ Hx => ∃ y5 y6 y7 rs R G', σ = [some (.ref p), some (.int n), some (.int (2 + (j : Int))), some (.ref lg), some (.ref rl), y5, y6, y7, none, none, none, none, none] ∧ Lw p c G' Hx ∧ Same G3 G' ∧ G' rl = some (.lst ((rs : List Addr).map V.ref)) ∧ Paired (IntT G') rs R ∧ R.length = i ∧ ∀ r ∈ R, RowOk gs.length r)
    ⟨none, none, none, [], [], _, rfl, L4, Same.new grl _, upd_same, .nil, rfl, fun _ z => (List.not_mem_nil z).elim⟩ (fun _ _ _ _ _ => True.intro) ?_ ?_
  · rintro i x σ H0 H5 hi ⟨y5, y6, y7, rs, R, G5, rfl, L5, s5, e5, p5, l5, ok5⟩ ⟨rfl, rfl⟩
    have hiM : i < 2 + j := hi
    have lr5 := Paired.len p5
    have eg5 := s5 _ _ eg
    refine ⟨_, rfl, lg, _, rfl, .inl (SqL.of (L5.up _ _ eg5)), ?_⟩
    rw [List.length_map]
    refine ⟨_, rfl, by omega, by omega, fun D hD => ?_⟩
    rw [Int.toNat_natCast]
    have gD := L5.free hD
    refine lc_it walk_range (fun i2 Hx => ∃ acc G', Lw p c G' Hx ∧ Same G5 G' ∧ G' D = some (.lst ((acc : List Int).map V.int)) ∧ acc.length = i2) ⟨[], _, L5.new hD _, Same.new gD _, upd_same, rfl⟩ (fun _ _ _ _ => True.intro) ?_ ?_
    · rintro i2 x H0 H6 hi2 ⟨acc, G6, L6, s6, e6, l6⟩ ⟨rfl, rfl⟩
      have lacc : acc.length < sizeLine := small1000 (by have : i2 < gs.length := hi2; omega)
      refine ⟨rfl, yes ⟨_, rfl, _, rfl, _, _, rfl, rfl, _, rfl, ifB (fun h => ?_) (fun h => ?_)⟩⟩
      · refine ⟨_, rfl, _, rfl, (by show 5 ≤ sizeLine; decide), fun lb hlb => ⟨p, c, lb, _, _, rfl, L6.new hlb _, upd_same, List.cons_ne_nil _ _, (by show 5 ≤ 1000; decide), fun z H7 hm L7 => ?_⟩⟩
        obtain ⟨z, _, rfl⟩ := List.mem_map.mp (show z ∈ ([0, 0, 0, 1, -1] : List Int).map V.int from hm)
        have s7 := L6.same hlb (.lst [.int 0, .int 0, .int 0, .int 1, .int (-1)])
        have e7 := s7 _ _ e6
        exact ⟨_, L7.up _ _ e7, by rw [List.length_map]; exact lacc, acc ++ [z], _, L7.put e7 _, Same.laid gD (s6.trans s7), by rw [upd_same, List.map_append]; rfl, by rw [List.length_append, l6]; rfl⟩
      · exact ⟨_, L6.up _ _ e6, by rw [List.length_map]; exact lacc, acc ++ [0], _, L6.put e6 _, Same.laid gD s6, by rw [upd_same, List.map_append]; rfl, by rw [List.length_append, l6]; rfl⟩
    rintro H6 ⟨acc, G6, L6, s6, e6, l6⟩
    refine ⟨_, rfl, p, c, G6, 3, rfl, L6, by decide, by decide, fun r H7 L7 r0 _ => ⟨_, _, rfl, rfl, _, _, rfl, rfl, _, rfl, p, c, G6, 3, rfl, L7, by decide, by decide, fun r2 H8 L8 r20 _ => ⟨_, _, rfl, rfl, (by show 2 ≤ sizeLine; decide), fun tp htp => ?_⟩⟩⟩
    have L9 := L8.new htp (.tup [.int (1 + r), .int (0 - 1 - r2)])
    have s9 := L8.same htp (.tup [.int (1 + r), .int (0 - 1 - r2)])
    have e9 := s9 _ _ e6
    have u0 : 0 < 1 + r := by omega
    have u1 : 0 - 1 - r2 < 0 := by omega
    have ev : ((0 + (i : Int)) + 1).fmod (2 + (j : Int)) = (((i + 1) % (2 + j) : Nat) : Int) := by
      have a1 : (0 + (i : Int)) + 1 = ((i + 1 : Nat) : Int) := by omega
      have a2 : (2 + (j : Int)) = ((2 + j : Nat) : Int) := by omega
      rw [a1, a2, Int.fmod_eq_emod_of_nonneg _ (by omega)]
      rfl
    have hj1 : (i + 1) % (2 + j) < 2 + j := Nat.mod_lt _ (by omega)
    have ij : i ≠ (i + 1) % (2 + j) := by
      by_cases h : i + 1 < 2 + j
      · rw [Nat.mod_eq_of_lt h]
        omega
      · have e : i + 1 = 2 + j := by omega
        rw [e, Nat.mod_self]
        omega
    generalize (i + 1) % (2 + j) = j1 at ev hj1 ij
    have ix0 : ixN ((acc.map V.int).length) (0 + (i : Int)) = some i := by
      rw [Int.zero_add]
      exact ixN_nat (by rw [List.length_map, l6]; omega)
    refine ⟨tp, _, rfl, SqT.of upd_same, rfl, _, _, rfl, _, rfl, _, rfl, D, _, _, i, rfl, rfl, L9.up _ _ e9, ix0, ?_⟩
    have L10 := L9.put e9 (.lst ((acc.map V.int).set i (.int (1 + r))))
    refine ⟨_, _, rfl, _, rfl, _, rfl, _, _, rfl, rfl, .inl ⟨_, rfl, _, rfl, _, _, rfl, rfl, (by show (2 + (j : Int)) ≠ 0; omega), D, _, _, j1, rfl, rfl, L10.up _ _ upd_same, ?_, rfl, ?_⟩⟩
    · show ixN _ (((0 + (i : Int)) + 1).fmod (2 + (j : Int))) = some j1
      rw [ev]
      exact ixN_nat (by rw [List.length_set, List.length_map, l6]; omega)
    have L11 := L10.put upd_same (.lst (((acc.map V.int).set i (.int (1 + r))).set j1 (.int (0 - 1 - r2))))
    have erow : ((acc.map V.int).set i (.int (1 + r))).set j1 (.int (0 - 1 - r2)) = ((acc.set i (1 + r)).set j1 (0 - 1 - r2)).map V.int := by rw [List.map_set, List.map_set]
    rw [erow] at L11 ⊢
    have lrow : ((acc.set i (1 + r)).set j1 (0 - 1 - r2)).length = gs.length := by rw [List.length_set, List.length_set, l6]
    have mrow : RowMix ((acc.set i (1 + r)).set j1 (0 - 1 - r2)) := mix_set ij (by omega) (by omega) u0 u1
    generalize (acc.set i (1 + r)).set j1 (0 - 1 - r2) = row at L11 lrow mrow
    have s11 : Same G5 _ := Same.laid (o := .lst (row.map V.int)) gD (Same.laid (o := .lst ((acc.map V.int).set i (.int (1 + r)))) gD (s6.trans s9))
    have e11 : (upd (upd (upd G6 tp (.tup [.int (1 + r), .int (0 - 1 - r2)])) D (.lst ((acc.map V.int).set i (.int (1 + r))))) D (.lst (row.map V.int))) D = some (.lst (row.map V.int)) := upd_same
    generalize (upd (upd (upd G6 tp (.tup [.int (1 + r), .int (0 - 1 - r2)])) D (.lst ((acc.map V.int).set i (.int (1 + r))))) D (.lst (row.map V.int))) = G11 at L11 s11 e11
    generalize (upd (upd (upd H8 tp (.tup [.int (1 + r), .int (0 - 1 - r2)])) D (.lst ((acc.map V.int).set i (.int (1 + r))))) D (.lst (row.map V.int))) = H11 at L11
    refine ⟨_, rfl, _, rfl, (by show 2 ≤ sizeLine; decide), fun la hla => ⟨p, c, la, _, _, rfl, L11.new hla _, upd_same, List.cons_ne_nil _ _, (by show 2 ≤ 1000; decide), fun sv H12 hm L12 => ?_⟩⟩
    obtain ⟨sg, rfl, hsg, hsg1, hsg2⟩ : ∃ sg : Int, sv = .int sg ∧ sg ≠ 0 ∧ -(2 ^ 64) < sg ∧ sg < 2 ^ 64 := by
      rcases List.mem_cons.mp hm with rfl | hm
      · exact ⟨1, rfl, by decide, by decide, by decide⟩
      · exact ⟨-1, List.mem_singleton.mp hm, by decide, by decide, by decide⟩
    have s12 := L11.same hla (.lst [.int 1, .int (-1)])
    have t12 := s11.trans s12
    have e12 := s12 _ _ e11
    refine ⟨_, rfl, .inl ⟨rfl, _, SqL.of (L12.up _ _ (t12 _ _ e5))⟩, _, rfl, D, rfl, ⟨_, SqL.of (L12.up _ _ e12)⟩, fun D2 hD2 => ?_⟩
    refine lcA (walk_list (K := K) (a := D) (xs := row.map V.int)) row (fun e => .int (sg * e)) (fun _ => true) (by rw [List.length_map]) hD2 (by rw [List.length_map, lrow]; exact Nat.le_of_lt (small1000 (by omega))) (fun Hx s => SqL.of (s _ _ (L12.up _ _ e12))) (fun i3 e x H13 H14 Qy Qn he s13 _ y ky _ => ?_) fun H13 s13 e13 => ?_
    · obtain ⟨rfl, ex⟩ := y
      rw [List.getElem?_map, he] at ex
      obtain rfl : V.int e = x := Option.some.inj ex
      exact ⟨rfl, yes ⟨_, rfl, _, rfl, _, _, rfl, rfl, .inl ⟨hsg1, hsg2⟩, ky rfl _ (Same.refl _)⟩⟩
    · rw [all_yes] at e13
      obtain ⟨G13, L13, sG13, trk⟩ := L12.call s13
      refine ⟨D2, _, rfl, .inl ⟨SqL.of e13, fun rt hrt => ?_⟩⟩
      have L14 := L13.new hrt (.tup (row.map fun e => .int (sg * e)))
      have s14 := L13.same hrt (.tup (row.map fun e => .int (sg * e)))
      have t14 := t12.trans (sG13.trans s14)
      have e14 := t14 _ _ e5
      refine ⟨rl, _, _, rfl, rfl, L14.up _ _ e14, by rw [List.length_map]; exact small1000 (by omega), ?_⟩
      refine ⟨_, _, _, rs ++ [rt], R ++ [row.map fun e => sg * e], _, rfl, L14.put e14 _, Same.laid grl (s5.trans t14), by rw [upd_same, List.map_append]; rfl, Paired.app (Paired.imp p5 fun _ _ z => (z.mono t14).put e14) (.cons (IntT.put e14 ?_) .nil), by rw [List.length_append, l5]; rfl, fun x hx => ?_⟩
      · show upd _ _ _ _ = _
        rw [upd_same, List.map_map]
        rfl
      · rcases List.mem_append.mp hx with z | z
        · exact ok5 x z
        · rw [List.mem_singleton.mp z]
          exact ⟨by rw [List.length_map, lrow], mix_scale mrow hsg⟩
  · rintro σ H5 ⟨y5, y6, y7, rs, R, G5, rfl, L5, s5, e5, p5, l5, ok5⟩
    have eg5 := s5 _ _ eg
    refine ⟨_, rfl, (by show 4 ≤ sizeLine; decide), fun la hla => ⟨p, c, la, _, _, rfl, L5.new hla _, upd_same, List.cons_ne_nil _ _, (by show 4 ≤ 1000; decide), fun mv H6 hm L6 => ?_⟩⟩
    obtain ⟨mo, rfl, hmo⟩ : ∃ mo : Nat, mv = .int (mo : Int) ∧ mo ≤ 2 := by
      rcases List.mem_cons.mp hm with rfl | hm
      · exact ⟨0, rfl, by decide⟩
      rcases List.mem_cons.mp hm with rfl | hm
      · exact ⟨0, rfl, by decide⟩
      rcases List.mem_cons.mp hm with rfl | hm
      · exact ⟨1, rfl, by decide⟩
      · exact ⟨2, List.mem_singleton.mp hm, by decide⟩
    have s6 := L5.same hla (.lst [.int 0, .int 0, .int 1, .int 2])
    have eg6 := s6 _ _ eg5
    have e6 := s6 _ _ e5
    generalize (upd G5 la (.lst [.int 0, .int 0, .int 1, .int 2])) = G6 at L6 s6 eg6 e6
    refine ⟨_, rfl, by omega, by omega, fun D hD => ?_⟩
    rw [Int.toNat_natCast]
    have gD := L6.free hD
    refine lc_it walk_range (fun i Hx => ∃ ts R2 G', Lw p c G' Hx ∧ Same G6 G' ∧ G' D = some (.lst ((ts : List Addr).map V.ref)) ∧ Paired (IntT G') ts R2 ∧ R2.length = i ∧ ∀ r ∈ R2, RowOk gs.length r)
      ⟨[], [], _, L6.new hD _, Same.new gD _, upd_same, .nil, rfl, fun _ z => (List.not_mem_nil z).elim⟩ (fun _ _ _ _ => True.intro) ?_ ?_
    · rintro i x H0 H7 hi ⟨ts, R2, G7, L7, s7, e7, p7, l7, ok7⟩ ⟨rfl, rfl⟩
      refine ⟨rfl, yes ⟨_, rfl, _, rfl, lg, _, rfl, .inl (SqL.of (L7.up _ _ (s7 _ _ eg6))), ?_⟩⟩
      rw [List.length_map]
      refine ⟨p, c, G7, gs.length, rfl, L7, by omega, by omega, fun ra r G8 H8 L8 s8 er rok => ?_⟩
      have e8 := s8 _ _ e7
      have lt := Paired.len p7
      have him : i < mo := hi
      refine ⟨_, L8.up _ _ e8, by rw [List.length_map]; exact small1000 (by omega), ts ++ [ra], R2 ++ [r], _, L8.put e8 _, Same.laid gD (s7.trans s8), by rw [upd_same, List.map_append]; rfl, Paired.app (Paired.imp p7 fun _ _ z => (z.mono s8).put e8) (.cons (er.put e8) .nil), by rw [List.length_append, l7]; rfl, fun x hx => ?_⟩
      rcases List.mem_append.mp hx with z | z
      · exact ok7 x z
      · rw [List.mem_singleton.mp z]
        exact rok
    rintro H7 ⟨ts, R2, G7, L7, s7, e7, p7, l7, ok7⟩
    have l1 := Paired.len p5
    have l2 := Paired.len p7
    refine ⟨_, rfl, _, rfl, _, rfl, rl, D, _, _, rfl, rfl, L7.up _ _ (s7 _ _ e6), L7.up _ _ e7, by rw [List.length_map, List.length_map]; exact Nat.le_of_lt (small1000 (by omega)), fun ca hca => ?_⟩
    have L8 := L7.new hca (.lst (rs.map V.ref ++ ts.map V.ref))
    have s8 := L7.same hca (.lst (rs.map V.ref ++ ts.map V.ref))
    have p8 : Paired (IntT (upd G7 ca (.lst (rs.map V.ref ++ ts.map V.ref)))) (rs ++ ts) (R ++ R2) := Paired.app (Paired.imp p5 fun _ _ z => s8 _ _ (s7 _ _ (s6 _ _ z))) (Paired.imp p7 fun _ _ z => s8 _ _ z)
    have ok8 : ∀ r ∈ R ++ R2, RowOk gs.length r := fun r hr => (List.mem_append.mp hr).elim (ok5 r) (ok7 r)
    refine ⟨p, c, ca, _, _, rfl, L8, upd_same, by rw [List.length_append, List.length_map, List.length_map]; omega, fun lm ys G9 H9 pm L9 s9 _ em => ?_⟩
    obtain ⟨zs, rfl, pz⟩ := perm_map pm (by rw [List.map_append])
    obtain ⟨R3, pR3, pmR⟩ := perm_paired pz p8
    have ok9 : ∀ r ∈ R3, RowOk gs.length r := fun r hr => ok8 r (pmR.mem_iff.mp hr)
    have lR3 := pmR.length_eq
    rw [List.length_append] at lR3
    have lz := Paired.len pR3
    have p9 : Paired (IntT G9) zs R3 := Paired.imp pR3 fun _ _ z => s9 _ _ z
    have eg9 := s9 _ _ (s8 _ _ (s7 _ _ eg6))
    have s39 := s5.trans (s6.trans (s7.trans (s8.trans s9)))
    refine ⟨_, rfl, _, rfl, lg, _, rfl, .inl (SqL.of (L9.up _ _ eg9)), ?_⟩
    rw [List.length_map]
    refine ⟨_, rfl, RgOk.of_le (by decide) (by omega) (by decide) (by omega), fun lr hlr => ?_⟩
    have L10 := L9.new hlr (.lst (rgV 0 (gs.length : Int)))
    have s10 := L9.same hlr (.lst (rgV 0 (gs.length : Int)))
    have erg := rg_is gs.length
    refine ⟨p, c, lr, _, _, rfl, L10, upd_same, by rw [erg, List.length_map, List.length_range]; omega, fun lo ys G11 H11 pm2 L11 s11 _ eo => ?_⟩
    obtain ⟨os, rfl, po⟩ := perm_map pm2 erg
    have lo2 := po.length_eq
    rw [List.length_range] at lo2
    have olt : ∀ z ∈ os, z < gs.length := fun z hz => List.mem_range.mp (po.mem_iff.mp hz)
    have eg11 := s11 _ _ (s10 _ _ eg9)
    have em11 := s11 _ _ (s10 _ _ em)
    have p11 : Paired (IntT G11) zs R3 := Paired.imp p9 fun _ _ z => s11 _ _ (s10 _ _ z)
    refine ⟨_, rfl, lm, rfl, ⟨_, SqL.of (L11.up _ _ em11)⟩, fun D3 hD3 => ?_⟩
    have gD3 := L11.free hD3
    refine lc_it (walk_list (K := K) (a := lm) (xs := zs.map V.ref)) (fun i Hx => ∃ us G', Lw p c G' Hx ∧ Same G11 G' ∧ G' D3 = some (.lst ((us : List Addr).map V.ref)) ∧ Paired (IntT G') us ((R3.take i).map fun r => os.map fun z => r.getD z 0) ∧ us.length ≤ i)
      ⟨[], _, L11.new hD3 _, Same.new gD3 _, upd_same, .nil, Nat.le_refl _⟩ (fun i Hx _ ⟨_, _, z, z2, _⟩ => SqL.of (z.up _ _ (z2 _ _ em11))) ?_ ?_
    · rintro i x H0 H12 hi ⟨us, G12, L12, s12, e12, p12, l12⟩ ⟨rfl, ex⟩
      have hi' : i < zs.length := by rw [List.length_map] at hi; exact hi
      rw [List.getElem?_map, List.getElem?_eq_getElem hi'] at ex
      obtain rfl : V.ref zs[i] = x := Option.some.inj ex
      obtain ⟨r, er, hr5⟩ := Paired.get p11 (List.getElem?_eq_getElem hi')
      have lr := (ok9 r (List.mem_of_getElem? er)).1
      have eo12 := s12 _ _ eo
      refine ⟨rfl, yes ⟨_, rfl, lo, rfl, ⟨_, SqL.of (L12.up _ _ eo12)⟩, fun D4 hD4 => ?_⟩⟩
      refine lcA (walk_list (K := K) (a := lo) (xs := os.map fun z : Nat => V.int (z : Int))) os (fun z => .int (r.getD z 0)) (fun _ => true) (by rw [List.length_map]) hD4 (by rw [List.length_map]; exact Nat.le_of_lt (small1000 (by omega))) (fun Hx s => SqL.of (s _ _ (L12.up _ _ eo12))) (fun i3 z x H13 H14 Qy Qn hz s13 _ y ky _ => ?_) fun H13 s13 e13 => ?_
      · obtain ⟨rfl, ex⟩ := y
        rw [List.getElem?_map, hz] at ex
        obtain rfl : V.int (z : Int) = x := Option.some.inj ex
        have hzr : z < r.length := by rw [lr]; exact olt z (List.mem_of_getElem? hz)
        refine ⟨rfl, yes ⟨_, rfl, _, rfl, zs[i], _, _, _, rfl, rfl, SqT.of (s13 _ _ (L12.up _ _ (s12 _ _ hr5))), atI_nat (v := V.int (r.getD z 0)) ?_, ky rfl _ (Same.refl _)⟩⟩
        rw [List.getElem?_map, List.getElem?_eq_getElem hzr, List.getD_eq_getElem?_getD, List.getElem?_eq_getElem hzr]
        rfl
      · rw [all_yes] at e13
        obtain ⟨G13, L13, sG13, trk⟩ := L12.call s13
        refine ⟨D4, _, rfl, .inl ⟨SqL.of e13, fun rt hrt => ?_⟩⟩
        have L14 := L13.new hrt (.tup (os.map fun z => .int (r.getD z 0)))
        have s14 := L13.same hrt (.tup (os.map fun z => .int (r.getD z 0)))
        have t14 := sG13.trans s14
        have e14 := t14 _ _ e12
        have stp : (R3.take (i + 1)).map (fun r => os.map fun z => r.getD z 0) = (R3.take i).map (fun r => os.map fun z => r.getD z 0) ++ [os.map fun z => r.getD z 0] := by
          rw [List.take_add_one, er, List.map_append]
          rfl
        refine ⟨_, L14.up _ _ e14, by rw [List.length_map]; exact small1000 (by omega), us ++ [rt], _, L14.put e14 _, Same.laid gD3 (s12.trans t14), by rw [upd_same, List.map_append]; rfl, ?_, by rw [List.length_append]; exact Nat.succ_le_succ l12⟩
        rw [stp]
        refine Paired.app (Paired.imp p12 fun _ _ z => (z.mono t14).put e14) (.cons (IntT.put e14 ?_) .nil)
        show upd _ _ _ _ = _
        rw [upd_same, List.map_map]
        rfl
    · rintro H12 ⟨us, G12, L12, s12, e12, p12, l12⟩
      rw [List.length_map, lz, List.take_of_length_le (Nat.le_refl _)] at p12
      have rok4 : ∀ r ∈ R3.map (fun r => os.map fun z => r.getD z 0), RowOk gs.length r := fun r hr => by
        obtain ⟨u, hu, rfl⟩ := List.mem_map.mp hr
        obtain ⟨a1, a2⟩ := ok9 u hu
        exact ⟨by rw [List.length_map, lo2], mix_perm a2 (pick_perm (by rw [a1]; exact po))⟩
      have lR4 : (R3.map (fun r => os.map fun z => r.getD z 0)).length = R3.length := List.length_map _
      generalize R3.map (fun r => os.map fun z => r.getD z 0) = R4 at p12 rok4 lR4
      have l4 := Paired.len p12
      have eo12 := s12 _ _ eo
      have eg12 := s12 _ _ eg11
      refine ⟨_, rfl, lo, rfl, ⟨_, SqL.of (L12.up _ _ eo12)⟩, fun D5 hD5 => ?_⟩
      refine lcA (walk_list (K := K) (a := lo) (xs := os.map fun z : Nat => V.int (z : Int))) os (fun z => .str (gs.getD z Str.empty)) (fun _ => true) (by rw [List.length_map]) hD5 (by rw [List.length_map]; exact Nat.le_of_lt (small1000 (by omega))) (fun Hx s => SqL.of (s _ _ (L12.up _ _ eo12))) (fun i3 z x H13 H14 Qy Qn hz s13 _ y ky _ => ?_) fun H13 s13 e13 => ?_
      · obtain ⟨rfl, ex⟩ := y
        rw [List.getElem?_map, hz] at ex
        obtain rfl : V.int (z : Int) = x := Option.some.inj ex
        have hzr : z < gs.length := olt z (List.mem_of_getElem? hz)
        refine ⟨rfl, yes ⟨_, rfl, _, rfl, lg, _, _, _, rfl, rfl, SqL.of (s13 _ _ (L12.up _ _ eg12)), atI_nat (v := V.str (gs.getD z Str.empty)) ?_, ky rfl _ (Same.refl _)⟩⟩
        rw [List.getElem?_map, List.getElem?_eq_getElem hzr, List.getD_eq_getElem?_getD, List.getElem?_eq_getElem hzr]
        rfl
      · rw [all_yes] at e13
        obtain ⟨G13, L13, sG13, trk⟩ := L12.call s13
        have e13' : H13 D5 = some (.lst ((os.map fun z => gs.getD z Str.empty).map V.str)) := by rw [e13, List.map_map]; rfl
        have eD5 := trk _ _ e13' (L12.offS hD5) (L12.offC hD5)
        have pg : (os.map fun z => gs.getD z Str.empty).Perm gs := pick_perm po
        have lg2 := pg.length_eq
        generalize (os.map fun z => gs.getD z Str.empty) = gs2 at eD5 pg lg2
        have e14 := sG13 _ _ e12
        refine ⟨_, rfl, _, rfl, D3, _, rfl, .inl (SqL.of (L13.up _ _ e14)), ?_⟩
        rw [List.length_map]
        refine ⟨p, c, G13, us.length, rfl, L13, by omega, fun ln ns G15 H15 lns nnd nwd L15 s15 _ en => ?_⟩
        have e15 := s15 _ _ e14
        refine ⟨_, rfl, ln, D3, _, _, rfl, SqL.of (L15.up _ _ en), SqL.of (L15.up _ _ e15), by rw [List.length_map, List.length_map, lns], fun H16 lz2 ts2 s16 hlz2 hts elz pts => ?_⟩
        obtain ⟨G16, L16, sG16, trk2⟩ := L15.call s16
        have b16 := zip_bars pts (Paired.imp p12 fun _ _ z => s16 _ _ (L15.up _ _ (s15 _ _ (sG13 _ _ z))))
        have hbG : LstOf BarAt G16 lz2 (ns.zip R4) := ⟨ts2, trk2 _ _ elz (L15.offS hlz2) (L15.offC hlz2), Paired.imp b16 fun _ _ z => z.own L16 trk2⟩
        have eg16 := sG16 _ _ (s15 _ _ eD5)
        have gwd2 : ∀ z ∈ gs2, Wd z := fun z hz => (gwd z (pg.mem_iff.mp hz)).1
        have ok := bk_of (R := R4) (pg.nodup_iff.mpr gnd) gwd2 (by omega) nnd (fun z hz => (nwd z hz).1) (by omega) (by omega) (fun r hr => by rw [lg2]; exact rok4 r hr)
        refine ⟨D5, lz2, gs2, ns.zip R4, rfl, L16.up _ _ eg16, hbG.mono BarAt.mono L16.up, ok, fun H17 wa pb s17 hwa ew hB => ?_⟩
        obtain ⟨G18, L18, s18, e18, a18, b18, c18⟩ := world_of L16 eg16 hbG s17 hwa ew hB
        refine q wa gs2 (ns.zip R4) G18 H17 L18 (s3.trans (s39.trans (s10.trans (s11.trans (s12.trans (sG13.trans (s15.trans (sG16.trans s18)))))))) ⟨_, D5, lz2, pb, e18, w_g, w_b, w_k, a18, b18, c18⟩ ⟨ok, by omega, by rw [List.length_zip]; omega, fun x hx => (nwd _ (List.of_mem_zip hx).1).2⟩
end
end K16
namespace K16
open PySem PySem.Spec PyProof.Rows L2 RZ
/-! ### the law's own word for good -/
def mixedAt (r : List Int) (pl : List Nat) : Bool := (pl.any fun k => decide (r.getD k 0 < 0)) && (pl.any fun k => decide (0 < r.getD k 0))
def lotsL : Nat → List (List Nat)
  | 0 => [[]]
  | n + 1 => lotsL n ++ (lotsL n).map fun l => l ++ [n]
theorem lots_len : ∀ n, (lotsL n).length = 2 ^ n
  | 0 => rfl
  | n + 1 => by
    show (lotsL n ++ (lotsL n).map fun l => l ++ [n]).length = _
    rw [List.length_append, List.length_map, lots_len n, Nat.pow_succ]
    omega
theorem lots_mem (q : Nat → Bool) : ∀ n, (List.range n).filter q ∈ lotsL n
  | 0 => List.mem_singleton.mpr rfl
  | n + 1 => by
    have ih := lots_mem q n
    rw [List.range_succ, List.filter_append]
    by_cases h : q n = true
    · rw [List.filter_cons_of_pos h]
      exact List.mem_append_right _ (List.mem_map.mpr ⟨_, ih, rfl⟩)
    · rw [List.filter_cons_of_neg h]
      refine List.mem_append_left _ ?_
      rw [List.filter_nil, List.append_nil]
      exact ih
theorem lots_lt : ∀ n, ∀ l ∈ lotsL n, ∀ k ∈ l, k < n
  | 0, l, h, k, hk => by
    rw [List.mem_singleton.mp h] at hk
    cases hk
  | n + 1, l, h, k, hk => by
    rcases List.mem_append.mp h with h | h
    · exact Nat.lt_succ_of_lt (lots_lt n l h k hk)
    · obtain ⟨m, hm, rfl⟩ := List.mem_map.mp h
      rcases List.mem_append.mp hk with z | z
      · exact Nat.lt_succ_of_lt (lots_lt n m hm k z)
      · rw [List.mem_singleton.mp z]
        exact Nat.lt_succ_self n
theorem lots_is : ∀ n, ∀ l ∈ lotsL n, l = (List.range n).filter fun k => decide (k ∈ l)
  | 0, l, h => by
    rw [List.mem_singleton.mp h]
    rfl
  | n + 1, l, h => by
    rw [List.range_succ, List.filter_append]
    rcases List.mem_append.mp h with h | h
    · have no : ¬ (decide (n ∈ l) = true) := fun z => Nat.lt_irrefl n (lots_lt n l h n (of_decide_eq_true z))
      rw [List.filter_cons_of_neg (p := fun k => decide (k ∈ l)) no, List.filter_nil, List.append_nil]
      exact lots_is n l h
    · obtain ⟨m, hm, rfl⟩ := List.mem_map.mp h
      have yes : decide (n ∈ m ++ [n]) = true := decide_eq_true (List.mem_append_right _ (List.mem_singleton.mpr rfl))
      rw [List.filter_cons_of_pos (p := fun k => decide (k ∈ m ++ [n])) yes, List.filter_nil]
      congr 1
      have e := lots_is n m hm
      refine e.trans (List.filter_congr fun k hk => ?_)
      have lt := List.mem_range.mp hk
      refine decide_eq_decide.mpr ⟨List.mem_append_left _, fun z => (List.mem_append.mp z).resolve_right fun y => ?_⟩
      rw [List.mem_singleton.mp y] at lt
      exact Nat.lt_irrefl n lt
def placesOf (gs : List Str) (P : Str → Bool) : List Nat := (List.range gs.length).filter fun k => P (gs.getD k Str.empty)
theorem places_len (gs : List Str) (P : Str → Bool) : gs.countP P = (placesOf gs P).length := by
  have e := congrArg (List.countP P) (range_get gs Str.empty)
  rw [← e, List.countP_map, List.countP_eq_length_filter]
  rfl
theorem any_side {gs : List Str} {r : List Int} (hl : r.length = gs.length) (P : Str → Bool) (p : Int → Bool) : ((goodsAt p gs r).any P) = (placesOf gs P).any fun k => p (r.getD k 0) := by
  rw [Bool.eq_iff_iff, List.any_eq_true, List.any_eq_true]
  constructor
  · rintro ⟨x, hx, px⟩
    obtain ⟨j, e, h1, h2, h3⟩ := mem_goodsAt.mp hx
    have hj := (List.getElem?_eq_some_iff.mp h1).1
    refine ⟨j, List.mem_filter.mpr ⟨List.mem_range.mpr hj, ?_⟩, ?_⟩
    · rw [List.getD_eq_getElem?_getD, h1]
      exact px
    · rw [List.getD_eq_getElem?_getD, h2]
      exact h3
  · rintro ⟨k, hk, pk⟩
    obtain ⟨h1, h2⟩ := List.mem_filter.mp hk
    have hj := List.mem_range.mp h1
    rw [List.getD_eq_getElem?_getD, List.getElem?_eq_getElem hj] at h2
    have hr : k < r.length := by omega
    rw [List.getD_eq_getElem?_getD, List.getElem?_eq_getElem hr] at pk
    exact ⟨gs[k], mem_goodsAt.mpr ⟨k, r[k], List.getElem?_eq_getElem hj, List.getElem?_eq_getElem hr, pk⟩, h2⟩
theorem count_sides {gs : List Str} {bs : List (Str × List Int)} (hl : ∀ b ∈ bs, b.2.length = gs.length) (P : Str → Bool) : (sidesOf gs bs).countP (mixd P) = bs.countP fun b => mixedAt b.2 (placesOf gs P) := by
  unfold sidesOf
  rw [List.countP_map]
  refine List.countP_congr fun b hb => ?_
  show (((goodsAt (fun e => decide (0 < e)) gs b.2).any P && (goodsAt (fun e => decide (e < 0)) gs b.2).any P) = true) ↔ _
  rw [any_side (hl b hb), any_side (hl b hb), Bool.and_comm]
  exact Iff.rfl
theorem lots_good {gs : List Str} {bs : List (Str × List Int)} (ok : BkOk gs bs) : (∀ pl ∈ lotsL gs.length, pl ≠ [] → (bs.countP fun b => mixedAt b.2 pl) < pl.length) ↔ GoodBk gs bs := by
  constructor
  · intro h P hP
    rw [count_sides ok.rl, places_len]
    rw [places_len] at hP
    exact h _ (lots_mem _ _) fun z => by rw [z] at hP; exact absurd hP (Nat.lt_irrefl 0)
  · intro h pl hm hne
    have e : placesOf gs (fun x => pl.any fun k => decide (gs.getD k Str.empty = x)) = pl := by
      rw [lots_is _ _ hm]
      conv => rhs; rw [← lots_is _ _ hm]
      unfold placesOf
      refine (List.filter_congr fun k hk => ?_).trans (lots_is _ _ hm).symm
      have lt := List.mem_range.mp hk
      rw [← lots_is _ _ hm, Bool.eq_iff_iff, List.any_eq_true, decide_eq_true_iff]
      constructor
      · rintro ⟨j, hj, ej⟩
        have q := of_decide_eq_true ej
        have ltj := lots_lt _ _ hm j hj
        rw [List.getD_eq_getElem?_getD, List.getD_eq_getElem?_getD, List.getElem?_eq_getElem ltj, List.getElem?_eq_getElem lt] at q
        have z := (List.getElem_inj (h₀ := ltj) (h₁ := lt) ok.gn).mp q
        exact z ▸ hj
      · intro hk2
        exact ⟨k, hk2, decide_eq_true rfl⟩
    have q := h (fun x => pl.any fun k => decide (gs.getD k Str.empty = x))
    rw [places_len, count_sides ok.rl, e] at q
    exact q (List.length_pos_iff.mpr hne)
/-! ### numbers as data -/
def intsOf (pl : List Nat) : List V := pl.map fun k : Nat => V.int (k : Int)
theorem lay_ints : ∀ pl : List Nat, PyData.canLayAll0 (pl.map fun k : Nat => PyData.int (k : Int)) = true ∧ PyData.depthAll (pl.map fun k : Nat => PyData.int (k : Int)) = 0
  | [] => ⟨rfl, rfl⟩
  | k :: pl => by
    obtain ⟨h1, h2⟩ := lay_ints pl
    refine ⟨?_, ?_⟩
    · rw [List.map_cons, PyData.canLayAll0, PyData.canLay0, h1]
      rfl
    · rw [List.map_cons, PyData.depthAll, PyData.depth, h2]
      rfl
theorem ints_shaped (pl : List Nat) : SeqAt.shaped (.list (pl.map fun k : Nat => PyData.int (k : Int))) = true := by
  obtain ⟨h1, h2⟩ := lay_ints pl
  rw [SeqAt.shaped, PyData.canLay0, PyData.depth, h1, h2]
  rfl
theorem dp_ints {K : PySem.W.Frag} {H : Hp} : ∀ pl : List Nat, DpAll K H (intsOf pl) (pl.map fun k : Nat => PyData.int (k : Int))
  | [] => .nil
  | k :: pl => .cons (.int k) (dp_ints pl)
theorem ne_none (pl : List Nat) : (!PyData.eqv (.list (pl.map fun k : Nat => PyData.int (k : Int))) (.list [])) = decide (pl ≠ []) := by
  cases pl with
  | nil => rfl
  | cons k pl => rfl
def NatL (H : Hp) (a : Addr) (pl : List Nat) : Prop := H a = some (.lst (intsOf pl))
def spIsMixed : Sp := fun vs H Q _ => ∃ (a b : Addr) (r : List Int) (pl : List Nat), vs = [.ref a, .ref b] ∧ IntT H a r ∧ NatL H b pl ∧ (∀ k ∈ pl, k < r.length) ∧ pl.length ≤ 1000 ∧ ∀ H', Same H H' → Q (.bl (mixedAt r pl)) H'
def spLotsOf : Sp := fun vs H Q _ => ∃ n : Nat, vs = [.int (n : Int)] ∧ n ≤ 10 ∧ ∀ H' l, Same H H' → LstOf NatL H' l (lotsL n) → Q (.ref l) H'
theorem filt_ne {p : Nat → Bool} (pl : List Nat) : decide (pl.filter p ≠ []) = pl.any p := by
  rw [Bool.eq_iff_iff, decide_eq_true_iff, List.any_eq_true]
  constructor
  · intro h
    obtain ⟨x, hx⟩ := List.exists_mem_of_ne_nil _ h
    obtain ⟨h1, h2⟩ := List.mem_filter.mp hx
    exact ⟨x, h1, h2⟩
  · rintro ⟨x, h1, h2⟩ z
    have m := List.mem_filter.mpr ⟨h1, h2⟩
    rw [z] at m
    exact List.not_mem_nil m
section
variable {P : Program} {w : World} {K : PySem.W.Frag} {mg : Str → Option Value} {base : Heap} {f C : Addr} {fd : FuncData} {k : Nat}
theorem ok__law_is_mixed (F : Fun K "_law_is_mixed" "_law_is_mixed" s__law_is_mixed f fd) (T : Txt K mg) : FnOk P w K mg base CX0 1 f fd ["_law_row", "_law_places"] spIsMixed := by
  refine F.ok sc__law_is_mixed (fun vs H Q E h => ?_) (fun cdv A outer s H vs Q E hr h => ?_)
  · obtain ⟨a, b, r, pl, rfl, _⟩ := h
    rfl
  obtain ⟨a, b, r, pl, rfl, ha, hb, lt, pl1, q⟩ := h
  refine ⟨_, (pss_one (ps_ret (pe_and (pe_cmpR (op_neD hr.units) (pe_lc (own := [("_law_k", 2)]) (g := gName 2) rfl sc__law_is_mixed.nd (pi_list (pv 1)) (blkOk_by (own := [("_law_k", 2)]) (N := ["_law_row", "_law_places", "_law_k"]) (by kernel_rfl)) (fun _ _ _ _ _ => (pg_name (i := 2) sc__law_is_mixed.nd rfl (by first | exact .inl rfl | exact .inr rfl))) (fun _ _ _ _ _ => (pts_one (pt_cmpR op_lt (pe_ix (r := rIxT K) ix_tup (pv 0) (pv 2) (fun _ _ => rfl)) pe_int (nomark _)))) (fun _ _ _ _ _ => (pv 2))) (pe_lst pa_nil) (nomark _)) (pe_one (pe_cmpR (op_neD hr.units) (pe_lc (own := [("_law_k", 2)]) (g := gName 2) rfl sc__law_is_mixed.nd (pi_list (pv 1)) (blkOk_by (own := [("_law_k", 2)]) (N := ["_law_row", "_law_places", "_law_k"]) (by kernel_rfl)) (fun _ _ _ _ _ => (pg_name (i := 2) sc__law_is_mixed.nd rfl (by first | exact .inl rfl | exact .inr rfl))) (fun _ _ _ _ _ => (pts_one (pt_cmpR op_gt (pe_ix (r := rIxT K) ix_tup (pv 0) (pv 2) (fun _ _ => rfl)) pe_int (nomark _)))) (fun _ _ _ _ _ => (pv 2))) (pe_lst pa_nil) (nomark _)))))), ?_⟩
  have getr : ∀ {z : Nat}, z < r.length → (r.map V.int)[z]? = some (V.int (r.getD z 0)) := fun {z} hz => by
    rw [List.getElem?_map, List.getElem?_eq_getElem hz, List.getD_eq_getElem?_getD, List.getElem?_eq_getElem hz]
    rfl
  refine ⟨_, rfl, b, rfl, ⟨_, SqL.of hb⟩, fun D hD => ?_⟩
  refine lcA (walk_list (K := K) (a := b) (xs := intsOf pl)) pl (fun z : Nat => .int (z : Int)) (fun z => decide (r.getD z 0 < 0)) (by rw [intsOf, List.length_map]) hD (by rw [intsOf, List.length_map]; exact Nat.le_of_lt (small1000 pl1)) (fun Hx s => SqL.of (s _ _ hb)) (fun i z x H1 H2 Qy Qn hz s1 _ y ky kn => ?_) fun H1 s1 e1 => ?_
  · obtain ⟨rfl, ex⟩ := y
    rw [intsOf, List.getElem?_map, hz] at ex
    obtain rfl : V.int (z : Int) = x := Option.some.inj ex
    exact ⟨rfl, _, rfl, _, rfl, a, _, _, _, rfl, rfl, SqT.of (s1 _ _ ha), atI_nat (getr (lt z (List.mem_of_getElem? hz))), _, _, rfl, rfl, _, rfl, ifB (fun t => ⟨_, rfl, ky t _ (Same.refl _)⟩) fun t => kn t _ (Same.refl _)⟩
  refine ⟨(by show 0 ≤ sizeLine; decide), fun e he => ?_⟩
  have s2 := s1.trans (Same.new he (.lst []))
  refine ⟨_, _, .lst (SqL.of (at_new e1 he)) (dp_ints _), .lst (SqL.of upd_same) .nil, ints_shaped _, rfl, ?_⟩
  rw [ne_none, filt_ne]
  refine ⟨_, rfl, ?_⟩
  unfold mixedAt at q
  refine ifB (fun t => ?_) (fun t => ?_)
  · rw [t, Bool.true_and] at q
    refine ⟨_, rfl, b, rfl, ⟨_, SqL.of (s2 _ _ hb)⟩, fun D2 hD2 => ?_⟩
    refine lcA (walk_list (K := K) (a := b) (xs := intsOf pl)) pl (fun z : Nat => .int (z : Int)) (fun z => decide (0 < r.getD z 0)) (by rw [intsOf, List.length_map]) hD2 (by rw [intsOf, List.length_map]; exact Nat.le_of_lt (small1000 pl1)) (fun Hx s => SqL.of (s _ _ (s2 _ _ hb))) (fun i z x H3 H4 Qy Qn hz s3 _ y ky kn => ?_) fun H3 s3 e3 => ?_
    · obtain ⟨rfl, ex⟩ := y
      rw [intsOf, List.getElem?_map, hz] at ex
      obtain rfl : V.int (z : Int) = x := Option.some.inj ex
      exact ⟨rfl, _, rfl, _, rfl, a, _, _, _, rfl, rfl, SqT.of (s3 _ _ (s2 _ _ ha)), atI_nat (getr (lt z (List.mem_of_getElem? hz))), _, _, rfl, rfl, _, rfl, ifB (fun t => ⟨_, rfl, ky t _ (Same.refl _)⟩) fun t => kn t _ (Same.refl _)⟩
    refine ⟨(by show 0 ≤ sizeLine; decide), fun e4 he4 => ?_⟩
    refine ⟨_, _, .lst (SqL.of (at_new e3 he4)) (dp_ints _), .lst (SqL.of upd_same) .nil, ints_shaped _, rfl, ?_⟩
    rw [ne_none, filt_ne]
    exact q _ ((s2.trans s3).trans (Same.new he4 _))
  · rw [t, Bool.false_and] at q
    exact q _ s2
theorem ok__law_lots_of (F : Fun K "_law_lots_of" "_law_lots_of" s__law_lots_of f fd) (T : Txt K mg) : FnOk P w K mg base CX0 1 f fd ["_law_many"] spLotsOf := by
  refine F.ok sc__law_lots_of (fun vs H Q E h => ?_) (fun cdv A outer s H vs Q E hr h => ?_)
  · obtain ⟨n, rfl, _⟩ := h
    rfl
  obtain ⟨n, rfl, n10, q⟩ := h
  refine ⟨_, (pss_cons (ps_set (i := 1) sc__law_lots_of.nd rfl (.inl rfl) (pe_lst (pa_cons (pe_lst pa_nil) pa_nil)))
  (pss_cons (ps_for PassesOwn.never rfl (pi_range1 (by rfl) T.b_range (pa_cons (pv 0) pa_nil)) (pg_name (i := 2) sc__law_lots_of.nd rfl (by first | exact .inl rfl | exact .inr rfl)) (pss_one (ps_set (i := 1) sc__law_lots_of.nd rfl (.inl rfl) (pe_op op_cat (pv 1) (pe_lc (own := [("_law_some", 3)]) (g := gName 3) (tt := tYes) rfl sc__law_lots_of.nd (pi_list (pv 1)) (blkOk_by (own := [("_law_some", 3)]) (N := ["_law_many", "_law_found", "_law_k", "_law_some"]) (by kernel_rfl)) (fun _ _ _ _ _ => (pg_name (i := 3) sc__law_lots_of.nd rfl (by first | exact .inl rfl | exact .inr rfl))) (fun _ _ _ _ _ => pts_nil) (fun _ _ _ _ _ => (pe_op op_cat (pv 3) (pe_lst (pa_cons (pv 2) pa_nil)))))))))
  (pss_one (ps_ret (pv 1))))), ?_⟩
  have big : ∀ i, i ≤ 10 → (lotsL i).length ≤ 1024 := fun i hi => by
    rw [lots_len]
    exact Nat.pow_le_pow_right (n := 2) (by decide) hi
  refine ⟨(by show 0 ≤ sizeLine; decide), fun e he => ⟨(by show 1 ≤ sizeLine; decide), fun l0 hl0 => ?_⟩⟩
  have s0 : Same H _ := (Same.new he (.lst [])).trans (Same.new hl0 (.lst [.ref e]))
  refine ⟨_, rfl, _, rfl, by omega, by omega, ?_⟩
  rw [Int.toNat_natCast]
  refine for_it walk_range (fun i σ Hx => ∃ l y2, σ = [some (.int (n : Int)), some (.ref l), y2, none] ∧ Same H Hx ∧ LstOf NatL Hx l (lotsL i)) ⟨l0, none, rfl, s0, [e], upd_same, .cons (at_new (show (upd H e (.lst [])) e = some (.lst []) from upd_same) hl0) .nil⟩ (fun _ _ _ _ _ => True.intro) ?_ ?_
  · rintro i x σ H0 H1 hi ⟨l, y2, rfl, s1, as, e1, p1⟩ ⟨rfl, rfl⟩
    have hin : i < n := hi
    have l1 := Paired.len p1
    have bi := big i (by omega)
    refine ⟨_, rfl, _, rfl, l, rfl, ⟨_, SqL.of e1⟩, fun D hD => ?_⟩
    refine lc_it (walk_list (K := K) (a := l) (xs := as.map V.ref)) (fun j Hx => Same H1 Hx ∧ ∃ us, Hx D = some (.lst ((us : List Addr).map V.ref)) ∧ Paired (fun u pl => NatL Hx u pl ∧ u ≠ D) us (((lotsL i).take j).map fun l => l ++ [i]) ∧ us.length ≤ j)
      ⟨Same.new hD _, [], upd_same, .nil, Nat.le_refl _⟩ (fun j Hx _ z => SqL.of (z.1 _ _ e1)) ?_ ?_
    · rintro j x H0 H2 hj ⟨s2, us, e2, p2, l2⟩ ⟨rfl, ex⟩
      have hj' : j < as.length := by rw [List.length_map] at hj; exact hj
      rw [List.getElem?_map, List.getElem?_eq_getElem hj'] at ex
      obtain rfl : V.ref as[j] = x := Option.some.inj ex
      obtain ⟨pl, epl, hpl⟩ := Paired.get p1 (List.getElem?_eq_getElem hj')
      have mpl := List.mem_of_getElem? epl
      have llen : pl.length ≤ 10 := by
        rw [lots_is _ _ mpl]
        refine Nat.le_trans (List.length_filter_le _ _) ?_
        rw [List.length_range]
        omega
      refine ⟨rfl, yes ⟨_, rfl, _, rfl, (by show 1 ≤ sizeLine; decide), fun o ho => ?_⟩⟩
      have s3 := s2.trans (Same.new ho (.lst [.int (0 + (i : Int))]))
      refine ⟨as[j], o, _, _, rfl, rfl, s3 _ _ hpl, upd_same, by rw [intsOf, List.length_map]; exact Nat.le_of_lt (small1000 (by show pl.length + 1 ≤ 1000; omega)), fun u hu => ?_⟩
      have s4 := (Same.new ho (.lst [.int (0 + (i : Int))])).trans (Same.new hu (.lst (intsOf pl ++ [.int (0 + (i : Int))])))
      have e4 := s4 _ _ e2
      have uD : u ≠ D := (ne_of_none ((Same.new ho (.lst [.int (0 + (i : Int))])) _ _ e2) hu).symm
      refine ⟨_, e4, by rw [List.length_map]; exact Nat.lt_of_le_of_lt (show us.length ≤ 1024 by omega) (by decide), Same.laid hD (s2.trans s4), us ++ [u], by rw [upd_same, List.map_append]; rfl, ?_, by rw [List.length_append]; exact Nat.succ_le_succ l2⟩
      have stp : ((lotsL i).take (j + 1)).map (fun l => l ++ [i]) = ((lotsL i).take j).map (fun l => l ++ [i]) ++ [pl ++ [i]] := by
        rw [List.take_add_one, epl, List.map_append]
        rfl
      rw [stp]
      refine Paired.app (Paired.imp p2 fun x y z => ⟨?_, z.2⟩) (.cons ⟨?_, uD⟩ .nil)
      · show upd _ _ _ _ = _
        rw [upd_ne z.2]
        exact s4 _ _ z.1
      · show upd _ _ _ _ = _
        rw [upd_ne uD, upd_same]
        show some (HO.lst (intsOf pl ++ [V.int (0 + (i : Int))])) = _
        rw [Int.zero_add, intsOf, intsOf, List.map_append]
        rfl
    · rintro H2 ⟨s2, us, e2, p2, l2⟩
      rw [List.length_map, l1, List.take_of_length_le (Nat.le_refl _)] at p2
      rw [List.length_map, l1] at l2
      refine ⟨l, D, _, _, rfl, rfl, s2 _ _ e1, e2, by rw [List.length_map, List.length_map, l1]; exact Nat.le_trans (show (lotsL i).length + us.length ≤ 2048 by omega) (by decide), fun nl hnl => ?_⟩
      have s3 := Same.new hnl (.lst (as.map V.ref ++ us.map V.ref))
      refine ⟨nl, _, rfl, s1.trans (s2.trans s3), as ++ us, by rw [upd_same, List.map_append], ?_⟩
      exact Paired.app (Paired.imp p1 fun _ _ z => s3 _ _ (s2 _ _ z)) (Paired.imp p2 fun _ _ z => s3 _ _ z.1)
  · rintro σ H1 ⟨l, y2, rfl, s1, h1⟩
    exact ⟨_, rfl, q _ l s1 h1⟩
end
end K16
namespace K16
open PySem PySem.Spec PyProof.Rows L2 RZ
def spLawGood (C : Addr) : Sp := fun vs H Q _ => ∃ (wa : Addr) (gs : List Str) (bs : List (Str × List Int)), vs = [.ref wa] ∧ WorldAt C H wa gs bs ∧ BkOk gs bs ∧ gs.length ≤ 10 ∧ ∀ c H', Same H H' → (c = true ↔ GoodBk gs bs) → Q (.bl c) H'
section
variable {P : Program} {w : World} {K : PySem.W.Frag} {mg : Str → Option Value} {base : Heap} {f C : Addr} {fd : FuncData} {k : Nat}
theorem ok__law_is_good (F : Fun K "_law_is_good" "_law_is_good" s__law_is_good f fd) (T : Txt K mg) (F__law_lots_of : Has P w K mg base 1 "_law_lots_of" spLotsOf) (F__law_is_mixed : Has P w K mg base 1 "_law_is_mixed" spIsMixed) : FnOk P w K mg base CX0 2 f fd ["_law_world"] (spLawGood C) := by
  refine F.ok sc__law_is_good (fun vs H Q E h => ?_) (fun cdv A outer s H vs Q E hr h => ?_)
  · obtain ⟨wa, gs, bs, rfl, _⟩ := h
    rfl
  obtain ⟨wa, gs, bs, rfl, hw, ok, g10, q⟩ := h
  have hu := hu_of hr
  refine ⟨_, (pss_cons (ps_for PassesOwn.never rfl (pi_list (pe_fn F__law_lots_of (hr.mono (by omega)) (by rfl) (pa_cons (pe_callB (r := rLenQ K) call_lenQ (by rfl) T.b_len (by decide +kernel) (pa_cons (pe_dget hu (pv 0) pe_str (fun _ _ => rfl)) pa_nil)) pa_nil))) (pg_name (i := 1) sc__law_is_good.nd rfl (by first | exact .inl rfl | exact .inr rfl)) (pss_one (ps_if (PW.pt (pw_and (pt_cmpR (op_neD hr.units) (pv 1) (pe_lst pa_nil) (nomark _)) (pw_and1 (pt_cmpR op_ge (pe_callB (r := rLenQ K) call_lenQ (by rfl) T.b_len (by decide +kernel) (pa_cons (pe_lc (own := [("_law_name", 2), ("_law_row", 3)]) (g := gTup K 2 (gCons (gName 2) (gCons (gName 3) gNil))) rfl sc__law_is_good.nd (pi_list (pe_dget hu (pv 0) pe_str (fun _ _ => rfl))) (blkOk_by (own := [("_law_name", 2), ("_law_row", 3)]) (N := ["_law_world", "_law_places", "_law_name", "_law_row"]) (by kernel_rfl)) (fun _ _ _ _ _ => (pg_tup rfl (pgs_cons (pg_name (i := 2) sc__law_is_good.nd rfl (by first | exact .inl rfl | exact .inr rfl)) (pgs_cons (pg_name (i := 3) sc__law_is_good.nd rfl (by first | exact .inl rfl | exact .inr rfl)) pgs_nil)))) (fun _ _ _ _ _ => (pts_one (pt_val (pe_fn F__law_is_mixed (hr.mono (by omega)) (by rfl) (pa_cons (pv 3) (pa_cons (pv 1) pa_nil)))))) (fun _ _ _ _ _ => pe_int)) pa_nil)) (pe_callB (r := rLenQ K) call_lenQ (by rfl) T.b_len (by decide +kernel) (pa_cons (pv 1) pa_nil)) (nomark _))))) (pss_one (ps_ret pe_bl)) pss_nil)))
  (pss_one (ps_ret pe_bl))), ?_⟩
  obtain ⟨kvs, gl, bl, pb, w1, w2, w3, w4, w5, w6, w7⟩ := hw
  refine ⟨_, rfl, wa, _, rfl, .inl ⟨kvs, .inr "goods", .inl w1, rfl, w2.symm⟩, gl, _, rfl, .inl (SqL.of w5), gs.length, by rw [List.length_map]; rfl, g10, fun H1 l s1 hL => ?_⟩
  obtain ⟨as, e1, p1⟩ := hL
  have l1 := Paired.len p1
  refine ⟨l, rfl, ⟨_, SqL.of e1⟩, ?_⟩
  refine for_it walk_list (fun i σ Hx => ∃ y1, σ = [some (.ref wa), y1, none, none] ∧ Same H1 Hx ∧ ∀ pl ∈ (lotsL gs.length).take i, pl ≠ [] → (bs.countP fun b => mixedAt b.2 pl) < pl.length) ⟨none, rfl, Same.refl _, fun _ z => (List.not_mem_nil z).elim⟩ (fun i σ Hx _ ⟨_, _, z, _⟩ => SqL.of (z _ _ e1)) ?_ ?_
  · rintro i x σ H0 H2 hi ⟨y1, rfl, s2, done⟩ ⟨rfl, ex⟩
    have hi' : i < as.length := by rw [List.length_map] at hi; exact hi
    rw [List.getElem?_map, List.getElem?_eq_getElem hi'] at ex
    obtain rfl : V.ref as[i] = x := Option.some.inj ex
    obtain ⟨pl, epl, hpl⟩ := Paired.get p1 (List.getElem?_eq_getElem hi')
    have mpl := List.mem_of_getElem? epl
    have tk : (lotsL gs.length).take (i + 1) = (lotsL gs.length).take i ++ [pl] := by rw [List.take_add_one, epl]; rfl
    have plt := lots_lt _ _ mpl
    have pl10 : pl.length ≤ 10 := by
      rw [lots_is _ _ mpl]
      refine Nat.le_trans (List.length_filter_le _ _) ?_
      rw [List.length_range]
      exact g10
    have next : ∀ (Hx : Hp), Same H1 Hx → (pl ≠ [] → (bs.countP fun b => mixedAt b.2 pl) < pl.length) → ∃ y1 : Option V, ([some (V.ref wa), y1, none, none] : L2.St) = ([some (.ref wa), some (.ref as[i]), none, none] : L2.St) ∧ Same H1 Hx ∧ ∀ u ∈ (lotsL gs.length).take (i + 1), u ≠ [] → (bs.countP fun b => mixedAt b.2 u) < u.length := fun Hx s h => by
      refine ⟨_, rfl, s, fun u hu => ?_⟩
      rw [tk] at hu
      rcases List.mem_append.mp hu with z | z
      · exact done u z
      · rw [List.mem_singleton.mp z]
        exact h
    refine ⟨_, rfl, (by show 0 ≤ sizeLine; decide), fun e he => ?_⟩
    have s3 := s2.trans (Same.new he (.lst []))
    refine ⟨_, _, .lst (SqL.of (s3 _ _ hpl)) (dp_ints _), .lst (SqL.of upd_same) .nil, ints_shaped _, rfl, ?_⟩
    rw [ne_none]
    refine ⟨_, rfl, ifB (fun t => ?_) (fun t => iteF ?_)⟩
    · have s13 := s1.trans s3
      refine ⟨_, rfl, wa, _, rfl, .inl ⟨kvs, .inr "barters", .inl (s13 _ _ w1), rfl, w3.symm⟩, bl, rfl, ⟨_, SqL.of (s13 _ _ w6.choose_spec.1)⟩, fun D hD => ?_⟩
      refine lcR (R := BarAt) (xs := bs) (fun _ => .int 1) (fun b => mixedAt b.2 pl) hD (w6.mono BarAt.mono s13) ok.bl (fun j hj ba H4 Qy Qn hba s4 ky kn => ?_) fun H4 s4 e4 => ?_
      · obtain ⟨ra, z1, z2⟩ := hba
        refine ⟨ba, _, rfl, SqT.of (s4 _ _ z1), rfl, _, _, rfl, _, _, rfl, rfl, rfl, ?_⟩
        refine ⟨_, rfl, _, rfl, ra, as[i], (bs[j]).2, pl, rfl, s4 _ _ z2, s4 _ _ (s3 _ _ hpl), fun z hz => by rw [ok.rl _ (List.getElem_mem hj)]; exact plt z hz, by omega, fun H5 s5 => ⟨_, rfl, ifB (fun u => ?_) (fun u => ?_)⟩⟩
        · exact ky u _ s5
        · exact kn u _ s5
      · have s34 := s3.trans s4
        refine ⟨D, _, rfl, .inl (SqL.of e4), _, rfl, as[i], _, rfl, .inl (SqL.of (s34 _ _ hpl)), _, _, rfl, rfl, _, rfl, ?_⟩
        rw [List.length_map, ← List.countP_eq_length_filter, intsOf, List.length_map]
        refine ifB (fun u => ?_) (fun u => ?_)
        · have ge := of_decide_eq_true u
          refine q false _ (s1.trans s34) ⟨fun z => (nomatch z), fun z => ?_⟩
          have lt := (lots_good ok).mpr z pl mpl (of_decide_eq_true t)
          omega
        · have lt := of_decide_eq_false u
          exact (fun ⟨y, e, r⟩ => ⟨y, e.symm, r⟩ : _ → ∃ y1, _ ∧ _) (next _ s34 fun _ => by omega)
    · exact (fun ⟨y, e, r⟩ => ⟨y, e.symm, r⟩ : _ → ∃ y1, _ ∧ _) (next _ s3 fun z => absurd z (of_decide_eq_false t))
  · rintro σ H2 ⟨y1, rfl, s2, done⟩
    rw [List.length_map, l1, List.take_of_length_le (Nat.le_refl _)] at done
    exact q true _ (s1.trans s2) ⟨fun _ => (lots_good ok).mp done, fun _ => rfl⟩
theorem bk_nil : BkOk [] [] := ⟨List.nodup_nil, fun _ z => (List.not_mem_nil z).elim, List.nodup_nil, fun _ z => (List.not_mem_nil z).elim, fun _ z => (List.not_mem_nil z).elim, fun _ z => (List.not_mem_nil z).elim, Nat.zero_le _, Nat.zero_le _⟩
theorem ok__law_some_book (F : Fun K "_law_some_book" "_law_some_book" s__law_some_book f fd) (T : Txt K mg) {j : Nat} (hk : 7 ≤ k) (hj : j ≤ k) (F__law_pick : Has P w K mg base 1 "_law_pick" spPick) (F__law_book : Has P w K mg base j "_law_book" (spWorld C 1 10)) (F__law_any_book : Has P w K mg base 7 "_law_any_book" (spWorld C 2 10))
    (F__law_crossed_book : Has P w K mg base 7 "_law_crossed_book" (spWorld C 2 7)) (F__law_made : Has P w K mg base 6 "_law_made" (spMade C)) :
    FnOk P w K mg base CX0 (k + 1) f fd ["_law_source_here", "_law_most"] (spWorld C 10 10) := by
  refine F.ok sc__law_some_book (fun vs H Q E h => ?_) (fun cdv A outer s H vs Q E hr h => ?_)
  · obtain ⟨s, c, G, n, rfl, _⟩ := h
    rfl
  obtain ⟨p, c, G, n, rfl, L, n1, n2, q⟩ := h
  obtain rfl : n = 10 := by omega
  refine ⟨_, (pss_cons (ps_set (i := 2) sc__law_some_book.nd rfl (.inl rfl) (pe_fn F__law_pick (hr.mono (by omega)) (by rfl) (pa_cons (pv 0) (pa_cons pe_int pa_nil))))
  (pss_cons (ps_if (pt_cmpR op_lt (pv 2) pe_int (nomark _)) (pss_one (ps_ret (pe_fn F__law_book (hr.mono (by omega)) (by rfl) (pa_cons (pv 0) (pa_cons (pv 1) pa_nil))))) pss_nil)
  (pss_cons (ps_if (pt_cmpR op_lt (pv 2) pe_int (nomark _)) (pss_one (ps_ret (pe_fn F__law_any_book (hr.mono (by omega)) (by rfl) (pa_cons (pv 0) (pa_cons (pe_callB (call_max2 rfl) (by rfl) T.b_max (by decide +kernel) (pa_cons pe_int (pa_cons (pv 1) pa_nil))) pa_nil))))) pss_nil)
  (pss_one (ps_ret (pe_ifExp (pt_cmpR op_eq (pv 2) pe_int (nomark _)) (pe_fn F__law_crossed_book (hr.mono (by omega)) (by rfl) (pa_cons (pv 0) (pa_cons (pe_callB (call_max2 rfl) (by rfl) T.b_max (by decide +kernel) (pa_cons pe_int (pa_cons (pe_op op_sub (pv 1) pe_int) pa_nil))) pa_nil))) (pe_fn F__law_made (hr.mono (by omega)) (by rfl) (pa_cons (pe_lst pa_nil) (pa_cons (pe_lst pa_nil) pa_nil))))))))), ?_⟩
  refine ⟨_, rfl, p, c, G, 8, rfl, L, by decide, by decide, fun r H1 L1 r0 r1 => ?_⟩
  refine ⟨_, rfl, _, _, rfl, rfl, _, rfl, ifB (fun t => ?_) (fun t => ?_)⟩
  · exact ⟨_, rfl, _, rfl, p, c, G, 10, rfl, L1, by decide, by decide, q⟩
  refine ⟨_, rfl, _, _, rfl, rfl, _, rfl, ifB (fun t2 => ?_) (fun t2 => ?_)⟩
  · refine ⟨_, rfl, _, rfl, 2, 10, rfl, ?_⟩
    exact ⟨p, c, G, 10, rfl, L1, by decide, by decide, q⟩
  refine ⟨_, rfl, rfl, _, rfl, ifB (fun t3 => ?_) (fun t3 => ?_)⟩
  · refine ⟨_, rfl, _, rfl, _, _, rfl, rfl, 2, 10 - 3, rfl, ?_⟩
    exact ⟨p, c, G, 7, rfl, L1, by decide, by decide, q⟩
  · refine ⟨(by show 0 ≤ sizeLine; decide), fun a ha => ⟨(by show 0 ≤ sizeLine; decide), fun b hb => ?_⟩⟩
    have L2 := L1.new ha (.lst [])
    have L3 := L2.new hb (.lst [])
    have s2 := L1.same ha (.lst [])
    have s3 := L2.same hb (.lst [])
    have ea : StrL (upd (upd G a (.lst [])) b (.lst [])) a [] := s3 _ _ upd_same
    have eb : LstOf BarAt (upd (upd G a (.lst [])) b (.lst [])) b [] := ⟨[], upd_same, .nil⟩
    refine ⟨a, b, [], [], rfl, L3.up _ _ ea, eb.mono BarAt.mono L3.up, bk_nil, fun H4 wa pb s4 hwa ew hB => ?_⟩
    obtain ⟨G5, L5, s5, e5, a5, b5, c5⟩ := world_of L3 ea eb s4 hwa ew hB
    exact q wa [] [] G5 H4 L5 (s2.trans (s3.trans s5)) ⟨_, a, b, pb, e5, w_g, w_b, w_k, a5, b5, c5⟩ ⟨bk_nil, Nat.zero_le _, Nat.zero_le _, fun _ z => (List.not_mem_nil z).elim⟩
end
end K16
namespace K16
open PySem PySem.Spec PyProof.Rows L2 RZ
/-! ### worlds near a world -/
theorem BkOk.sub {gs : List Str} {bs cs : List (Str × List Int)} (ok : BkOk gs bs) (s : cs.Sublist bs) : BkOk gs cs :=
  ⟨ok.gn, ok.gw, ok.nn.sublist (s.map _), fun b hb => ok.nw b (s.subset hb), fun b hb => ok.rl b (s.subset hb), fun b hb => ok.rm b (s.subset hb), ok.gl, Nat.le_trans s.length_le ok.bl⟩
theorem wd_zz9 : Wd "zz9" := by
  refine ⟨by decide +kernel, by decide +kernel, ⟨122, by decide +kernel, by decide +kernel⟩, ?_⟩
  have q : ∀ c ∈ ("zz9" : Str).cps.toList, c ∈ LETS.cps.toList ++ FIGS.cps.toList := by decide +kernel
  exact fun c hc => List.mem_append.mp (q c hc)
theorem BkOk.more {gs : List Str} {bs : List (Str × List Int)} (ok : BkOk gs bs) (zz : ∀ x ∈ bs, x.1 ≠ "zz9") {r : List Int} (hr : RowOk gs.length r) (l : bs.length ≤ 900) : BkOk gs (bs ++ [(("zz9" : Str), r)]) := by
  have m : ∀ b ∈ bs ++ [(("zz9" : Str), r)], b ∈ bs ∨ b = (("zz9" : Str), r) := fun b hb => (List.mem_append.mp hb).imp id List.mem_singleton.mp
  refine ⟨ok.gn, ok.gw, ?_, fun b hb => ?_, fun b hb => ?_, fun b hb => ?_, ok.gl, ?_⟩
  · rw [List.map_append]
    refine List.nodup_append.mpr ⟨ok.nn, List.nodup_cons.mpr ⟨List.not_mem_nil, List.nodup_nil⟩, fun x hx y hy e => ?_⟩
    rw [List.mem_singleton.mp hy] at e
    obtain ⟨b, hb, eb⟩ := List.mem_map.mp hx
    exact zz b hb (eb.trans e)
  · rcases m b hb with h | h
    · exact ok.nw b h
    · rw [h]
      exact wd_zz9
  · rcases m b hb with h | h
    · exact ok.rl b h
    · rw [h]
      exact hr.1
  · rcases m b hb with h | h
    · exact ok.rm b h
    · rw [h]
      exact hr.2
  · rw [List.length_append]
    show bs.length + 1 ≤ 1000
    omega
def timesB (bs : List (Str × List Int)) (ts : List Int) : List (Str × List Int) := (bs.zip ts).map fun z => (z.1.1, z.1.2.map fun e => z.2 * e)
theorem timesB_names {bs : List (Str × List Int)} {ts : List Int} (l : ts.length = bs.length) : (timesB bs ts).map Prod.fst = bs.map Prod.fst := by
  have e := congrArg (List.map Prod.fst) (List.map_fst_zip (l₁ := bs) (l₂ := ts) (by omega))
  rw [List.map_map] at e
  unfold timesB
  rw [List.map_map]
  exact e
theorem BkOk.times {gs : List Str} {bs : List (Str × List Int)} (ok : BkOk gs bs) {ts : List Int} (l : ts.length = bs.length) (nz : ∀ t ∈ ts, t ≠ 0) : BkOk gs (timesB bs ts) := by
  have m : ∀ b ∈ timesB bs ts, ∃ c ∈ bs, ∃ t ∈ ts, b = (c.1, c.2.map fun e => t * e) := fun b hb => by
    obtain ⟨z, hz, rfl⟩ := List.mem_map.mp hb
    obtain ⟨h1, h2⟩ := List.of_mem_zip hz
    exact ⟨z.1, h1, z.2, h2, rfl⟩
  refine ⟨ok.gn, ok.gw, by rw [timesB_names l]; exact ok.nn, fun b hb => ?_, fun b hb => ?_, fun b hb => ?_, ok.gl, ?_⟩
  · obtain ⟨c, hc, t, ht, rfl⟩ := m b hb
    exact ok.nw c hc
  · obtain ⟨c, hc, t, ht, rfl⟩ := m b hb
    rw [List.length_map]
    exact ok.rl c hc
  · obtain ⟨c, hc, t, ht, rfl⟩ := m b hb
    exact mix_scale (ok.rm c hc) (nz t ht)
  · unfold timesB
    rw [List.length_map, List.length_zip]
    have := ok.bl
    omega
theorem Paired.take {α β : Type} {R : α → β → Prop} : ∀ {xs : List α} {ys : List β} (n : Nat), Paired R xs ys → Paired R (xs.take n) (ys.take n)
  | _, _, 0, _ => by rw [List.take_zero, List.take_zero]; exact .nil
  | _, _, n + 1, .nil => by rw [List.take_nil, List.take_nil]; exact .nil
  | _, _, n + 1, .cons r t => .cons r (Paired.take n t)
theorem Paired.drop {α β : Type} {R : α → β → Prop} : ∀ {xs : List α} {ys : List β} (n : Nat), Paired R xs ys → Paired R (xs.drop n) (ys.drop n)
  | _, _, 0, h => h
  | _, _, n + 1, .nil => by rw [List.drop_nil, List.drop_nil]; exact .nil
  | _, _, n + 1, .cons r t => Paired.drop n t
/-- a world whose book is well made -/
def WGood (C : Addr) (G : Hp) (u : Addr) : Prop := ∃ gs bs, WorldAt C G u gs bs ∧ BkOk gs bs ∧ gs.length ≤ 10
theorem WGood.mono {C u : Addr} {G G' : Hp} (s : Same G G') (h : WGood C G u) : WGood C G' u := let ⟨gs, bs, h1, h2⟩ := h; ⟨gs, bs, h1.mono s, h2⟩
theorem world_drop {C q u gl bl pb : Addr} {G : Hp} {xs : List V} {gs : List Str} {bs : List (Str × List Int)} (hq : G q = some (.lst xs)) (h1 : gl ≠ q) (h2 : bl ≠ q) (e : G u = some (.dK (wKvs gl bl pb))) (a : StrL G gl gs) (b : LstOf BarAt G bl bs) (c : BookAt C G pb gs bs) : WorldAt C (drop G q) u gs bs := by
  have no : ∀ x o, G x = some o → (∀ l, o ≠ .lst l) → (drop G q) x = some o := fun x o e k => drop_off e (ne_of e hq (k _))
  obtain ⟨ts, b1, b2⟩ := b
  obtain ⟨dx, tg, tb, as, o, c1, ⟨c2, c3⟩, c4, c5⟩ := c
  have bar : ∀ x y, BarAt G x y → BarAt (drop G q) x y := fun x y ⟨ra, z1, z2⟩ => ⟨ra, no _ _ z1 (fun _ z => by cases z), no _ _ z2 (fun _ z => by cases z)⟩
  exact ⟨_, gl, bl, pb, no _ _ e (fun _ z => by cases z), w_g, w_b, w_k, drop_off a h1, ⟨ts, drop_off b1 h2, Paired.imp b2 bar⟩,
    ⟨dx, tg, tb, as, o, no _ _ c1 (fun _ z => by cases z), ⟨no _ _ c2 (fun _ z => by cases z), c3⟩, no _ _ c4 (fun _ z => by cases z), Paired.imp c5 bar⟩⟩
theorem drop_upd {G : Hp} {q : Addr} {o : HO} : drop (upd G q o) q = drop G q := by
  funext a
  by_cases h : a = q
  · exact (if_pos h).trans (if_pos h).symm
  · exact ((if_neg h).trans (upd_ne h)).trans (if_neg h).symm
theorem atI_z {α : Type} {xs : List α} {j : Nat} {v : α} (h : xs[j]? = some v) : atI xs (0 + (j : Int)) = some v := by
  rw [Int.zero_add]
  exact atI_nat h
def spNear (C : Addr) : Sp := fun vs H Q _ => ∃ (s c wa : Addr) (G : Hp) (gs : List Str) (bs : List (Str × List Int)), vs = [.ref s, .ref wa] ∧ Lw s c G H ∧ WorldAt C G wa gs bs ∧ WOk gs bs ∧
  ∀ l was G' H', Lw s c G' H' → Same G G' → G' l = some (.lst ((was : List Addr).map V.ref)) → (∀ u ∈ was, WGood C G' u) → Q (.ref l) H'
section
variable {P : Program} {w : World} {K : PySem.W.Frag} {mg : Str → Option Value} {base : Heap} {f C : Addr} {fd : FuncData} {k : Nat}
theorem ok__law_near_worlds (F : Fun K "_law_near_worlds" "_law_near_worlds" s__law_near_worlds f fd) (T : Txt K mg) (F__law_pick : Has P w K mg base 1 "_law_pick" spPick) (F__law_of : Has P w K mg base 2 "_law_of" spOf)
    (F__law_any_row : Has P w K mg base 3 "_law_any_row" spAnyRow) (F__law_made : Has P w K mg base 6 "_law_made" (spMade C)) : FnOk P w K mg base CX0 7 f fd ["_law_source_here", "_law_world"] (spNear C) := by
  refine F.ok sc__law_near_worlds (fun vs H Q E h => ?_) (fun cdv A outer s H vs Q E hr h => ?_)
  · obtain ⟨s, c, wa, G, gs, bs, rfl, _⟩ := h
    rfl
  obtain ⟨p, c, wa, G, gs, bs, rfl, L, hw, wok, q⟩ := h
  have hu := hu_of hr
  refine ⟨_, (pss_cons (ps_asg (pe_tup (pa_cons (pe_dget hu (pv 1) pe_str (fun _ _ => rfl)) (pa_cons (pe_dget hu (pv 1) pe_str (fun _ _ => rfl)) pa_nil))) (pg_tup rfl (pgs_cons (pg_name (i := 2) sc__law_near_worlds.nd rfl (by first | exact .inl rfl | exact .inr rfl)) (pgs_cons (pg_name (i := 3) sc__law_near_worlds.nd rfl (by first | exact .inl rfl | exact .inr rfl)) pgs_nil))))
  (pss_cons (ps_set (i := 4) sc__law_near_worlds.nd rfl (.inl rfl) (pe_fn F__law_pick (hr.mono (by omega)) (by rfl) (pa_cons (pv 0) (pa_cons (pe_op op_add (pe_callB (r := rLenQ K) call_lenQ (by rfl) T.b_len (by decide +kernel) (pa_cons (pv 3) pa_nil)) pe_int) pa_nil))))
  (pss_cons (ps_set (i := 5) sc__law_near_worlds.nd rfl (.inl rfl) (pe_lst (pa_cons (pe_fn F__law_made (hr.mono (by omega)) (by rfl) (pa_cons (pv 2) (pa_cons (pe_op op_cat (pe_slice sl_list (pv 3) po_none (po_some (pv 4))) (pe_slice sl_list (pv 3) (po_some (pe_op op_add (pv 4) pe_int)) po_none)) pa_nil))) pa_nil)))
  (C8.pss_cut (ps_if (PW.pt (pw_and (pt_cmpR op_gt (pe_callB (r := rLenQ K) call_lenQ (by rfl) T.b_len (by decide +kernel) (pa_cons (pv 2) pa_nil)) pe_int (nomark _)) (pw_and1 (pt_cmpR op_lt (pe_callB (r := rLenQ K) call_lenQ (by rfl) T.b_len (by decide +kernel) (pa_cons (pv 3) pa_nil)) pe_int (nomark _))))) (pss_one (ps_expr (pe_bm PySem.F.plainAttrs_list PySem.F.slot_list_append PySem.F.type_list_append mt_append (pv 5) (pa_cons (pe_fn F__law_made (hr.mono (by omega)) (by rfl) (pa_cons (pv 2) (pa_cons (pe_op op_cat (pv 3) (pe_lst (pa_cons (pe_tup (pa_cons pe_str (pa_cons (pe_fn F__law_any_row (hr.mono (by omega)) (by rfl) (pa_cons (pv 0) (pa_cons (pe_callB (r := rLenQ K) call_lenQ (by rfl) T.b_len (by decide +kernel) (pa_cons (pv 2) pa_nil)) pa_nil))) pa_nil))) pa_nil))) pa_nil))) pa_nil)))) pss_nil)
  (pss_cons (ps_set (i := 6) sc__law_near_worlds.nd rfl (.inr rfl) (pe_lc (own := [("_law_pair", 7)]) (g := gName 7) (tt := tYes) (te := (tCall spOf [] E0 (tCons (tVar 0) (tCons (tLst (tCons (tC (.int 1)) (tCons (tUn (rU fun i => .int (-i)) (tC (.int 1))) (tCons (tC (.int 2)) (tCons (tUn (rU fun i => .int (-i)) (tC (.int 3))) tNil))))) tNil)))) rfl sc__law_near_worlds.nd (pi_list (pv 3)) (blkOk_by (own := [("_law_pair", 7)]) (N := ["_law_source_here", "_law_world", "_law_goods", "_law_barters", "_law_k", "_law_found", "_law_times", "_law_pair", "_law_j", "_law_entry"]) (by kernel_rfl)) (fun _ _ _ _ _ => (pg_name (i := 7) sc__law_near_worlds.nd rfl (by first | exact .inl rfl | exact .inr rfl))) (fun _ _ _ _ _ => pts_nil) (fun _ _ _ _ _ => (pe_fn F__law_of (hr.mono (by omega)) (by rfl) (pa_cons (pv 0) (pa_cons (pe_lst (pa_cons pe_int (pa_cons (pe_un un_neg pe_int) (pa_cons pe_int (pa_cons (pe_un un_neg pe_int) pa_nil))))) pa_nil))))))
  (pss_one (ps_ret (pe_op op_cat (pv 5) (pe_lst (pa_cons (pe_fn F__law_made (hr.mono (by omega)) (by rfl) (pa_cons (pv 2) (pa_cons (pe_lc (own := [("_law_j", 8)]) (g := gName 8) (tt := tYes) (te := (tTup (tCons (tOp (rIx K) (tOp (rIxL K) (tVar 3) (tVar 8)) (tC (.int 0))) (tCons (tCB (rTupQ K) (tCons (tLc (iTup K (tOp (rIx K) (tOp (rIxL K) (tVar 3) (tVar 8)) (tC (.int 1)))) (gName 9) tYes (tOp (rI CMul fun i j => .int (i * j)) (tOp (rIxL K) (tVar 6) (tVar 8)) (tVar 9)) [9]) tNil)) tNil)))) rfl sc__law_near_worlds.nd (pi_range1 (by rfl) T.b_range (pa_cons (pe_callB (r := rLenQ K) call_lenQ (by rfl) T.b_len (by decide +kernel) (pa_cons (pv 3) pa_nil)) pa_nil)) (blkOk_by (own := [("_law_j", 8)]) (N := ["_law_source_here", "_law_world", "_law_goods", "_law_barters", "_law_k", "_law_found", "_law_times", "_law_pair", "_law_j", "_law_entry"]) (by kernel_rfl)) (fun _ _ _ _ _ => (pg_name (i := 8) sc__law_near_worlds.nd rfl (by first | exact .inl rfl | exact .inr rfl))) (fun _ _ _ _ _ => pts_nil) (fun _ _ _ _ _ => (pe_tup (pa_cons (pe_ix (r := rIx K) ix_seq (pe_ix (r := rIxL K) ix_list (pv 3) (pv 8) (fun _ _ => rfl)) pe_int (fun _ _ => rfl)) (pa_cons (pe_callTy (r := rTupQ K) call_tupQ (by rfl) T.b_tuple (by decide +kernel) (pa_cons (pe_lc (own := [("_law_entry", 9)]) (g := gName 9) (tt := tYes) (te := (tOp (rI CMul fun i j => .int (i * j)) (tOp (rIxL K) (tVar 6) (tVar 8)) (tVar 9))) rfl sc__law_near_worlds.nd (pi_tup (pe_ix (r := rIx K) ix_seq (pe_ix (r := rIxL K) ix_list (pv 3) (pv 8) (fun _ _ => rfl)) pe_int (fun _ _ => rfl))) (blkOk_by (own := [("_law_entry", 9)]) (N := ["_law_source_here", "_law_world", "_law_goods", "_law_barters", "_law_k", "_law_found", "_law_times", "_law_pair", "_law_j", "_law_entry"]) (by kernel_rfl)) (fun _ _ _ _ _ => (pg_name (i := 9) sc__law_near_worlds.nd rfl (by first | exact .inl rfl | exact .inr rfl))) (fun _ _ _ _ _ => pts_nil) (fun _ _ _ _ _ => (pe_op op_mul (pe_ix (r := rIxL K) ix_list (pv 6) (pv 8) (fun _ _ => rfl)) (pv 9)))) pa_nil)) pa_nil))))) pa_nil))) pa_nil)))))))))), ?_⟩
  obtain ⟨kvs, gl, bl, pb, w1, w2, w3, w4, w5, ⟨as, w6, w6p⟩, w7⟩ := hw
  have la := Paired.len w6p
  have ok := wok.ok
  have b40 := wok.b
  have g10 := wok.g
  have W1 := L.up _ _ w1
  refine ⟨_, rfl, wa, _, rfl, .inl ⟨kvs, .inr "goods", .inl W1, rfl, w2.symm⟩, _, rfl, wa, _, rfl, .inl ⟨kvs, .inr "barters", .inl W1, rfl, w3.symm⟩, (by show 2 ≤ sizeLine; decide), fun tp htp => ?_⟩
  have L1 := L.new htp (.tup [.ref gl, .ref bl])
  have s1 := L.same htp (.tup [.ref gl, .ref bl])
  refine ⟨tp, _, rfl, SqT.of upd_same, rfl, _, _, rfl, _, _, rfl, rfl, ?_⟩
  generalize (upd G tp (.tup [.ref gl, .ref bl])) = G1 at L1 s1
  generalize (upd H tp (.tup [.ref gl, .ref bl])) = H1 at L1
  refine ⟨_, rfl, _, rfl, bl, _, rfl, .inl (SqL.of (L1.up _ _ (s1 _ _ w6))), _, _, rfl, rfl, ?_⟩
  rw [List.length_map]
  refine ⟨p, c, G1, (as.length : Int) + 1, rfl, L1, by omega, by omega, fun r H2 L2 r0 r1 => ?_⟩
  obtain ⟨kk, rfl⟩ := Int.eq_ofNat_of_zero_le r0
  have bl2 := s1 _ _ w6
  have gl2 := s1 _ _ w5
  refine ⟨_, rfl, _, rfl, _, rfl, _, rfl, bl, _, rfl, SqL.of (L2.up _ _ bl2), fun c1 hc1 => ?_⟩
  rw [cut_to, ← List.map_take]
  have L3 := L2.new hc1 (.lst ((as.take kk).map V.ref))
  have s3 := L2.same hc1 (.lst ((as.take kk).map V.ref))
  refine ⟨_, rfl, _, rfl, _, _, rfl, rfl, _, rfl, bl, _, rfl, SqL.of (L3.up _ _ (s3 _ _ bl2)), fun c2 hc2 => ?_⟩
  have ek : ((kk : Int) + 1) = ((kk + 1 : Nat) : Int) := by omega
  rw [ek, cut_from, ← List.map_drop]
  have L4 := L3.new hc2 (.lst ((as.drop (kk + 1)).map V.ref))
  have s4 := L3.same hc2 (.lst ((as.drop (kk + 1)).map V.ref))
  refine ⟨c1, c2, _, _, rfl, rfl, L4.up _ _ (s4 _ _ upd_same), upd_same, by rw [List.length_map, List.length_map, List.length_take, List.length_drop]; exact Nat.le_of_lt (small1000 (by omega)), fun c3 hc3 => ?_⟩
  rw [← List.map_append]
  have L5 := L4.new hc3 (.lst ((as.take kk ++ as.drop (kk + 1)).map V.ref))
  have s5 := L4.same hc3 (.lst ((as.take kk ++ as.drop (kk + 1)).map V.ref))
  have s35 := s3.trans (s4.trans s5)
  have s15 := s1.trans s35
  have hb5 : LstOf BarAt (upd (upd (upd G1 c1 (.lst ((as.take kk).map V.ref))) c2 (.lst ((as.drop (kk + 1)).map V.ref))) c3 (.lst ((as.take kk ++ as.drop (kk + 1)).map V.ref))) c3 (bs.take kk ++ bs.drop (kk + 1)) :=
    ⟨_, upd_same, Paired.imp (Paired.app (Paired.take kk w6p) (Paired.drop (kk + 1) w6p)) fun _ _ z => z.mono s15⟩
  have sub : (bs.take kk ++ bs.drop (kk + 1)).Sublist bs := by
    have e : bs.take kk ++ bs.drop kk = bs := List.take_append_drop kk bs
    have d : (bs.drop (kk + 1)).Sublist (bs.drop kk) := by
      have e2 : bs.drop (kk + 1) = (bs.drop kk).drop 1 := by rw [List.drop_drop]
      rw [e2]
      exact List.drop_sublist _ _
    have z := (List.Sublist.refl (bs.take kk)).append d
    rw [e] at z
    exact z
  refine ⟨gl, c3, gs, _, rfl, L5.up _ _ (s35 _ _ gl2), hb5.mono BarAt.mono L5.up, ok.sub sub, fun H6 u1 pb1 s6 hu1 eu1 hB1 => ?_⟩
  obtain ⟨G6, L6, s6, e6, a6, b6, c6⟩ := world_of L5 (s35 _ _ gl2) hb5 s6 hu1 eu1 hB1
  refine ⟨(by show 1 ≤ sizeLine; decide), fun fl hfl => ?_⟩
  have L7 := L6.new hfl (.lst [.ref u1])
  have s7 := L6.same hfl (.lst [.ref u1])
  have fl6 := L6.free hfl
  have s06 := s15.trans s6
  have fl0 : G fl = none := s06.free fl6
  have glfl : gl ≠ fl := ne_of_none w5 fl0
  have s07 := s06.trans s7
  have fl7 := upd_same (H := G6) (a := fl) (o := .lst [.ref u1])
  have good1 : WGood C (drop (upd G6 fl (.lst [.ref u1])) fl) u1 := ⟨gs, _, world_drop upd_same glfl (ne_of_none (b6.choose_spec.1) fl6) (s7 _ _ e6) (s7 _ _ a6) (b6.mono BarAt.mono s7) (c6.mono s7), ok.sub sub, g10⟩
  generalize (upd G6 fl (.lst [.ref u1])) = G7 at L7 s07 fl7 good1
  generalize (upd H6 fl (.lst [.ref u1])) = H7 at L7
  refine ⟨fun σ Hx => ∃ G' was, σ = [some (.ref p), some (.ref wa), some (.ref gl), some (.ref bl), some (.int (kk : Int)), some (.ref fl), none, none, none, none] ∧ Lw p c G' Hx ∧ Same G G' ∧ G' fl = some (.lst ((was : List Addr).map V.ref)) ∧ (∀ u ∈ was, WGood C (drop G' fl) u) ∧ was.length ≤ 2, ?_, ?_⟩
  · have mid0 : ∃ G' was, ([some (.ref p), some (.ref wa), some (.ref gl), some (.ref bl), some (.int (kk : Int)), some (.ref fl), none, none, none, none] : _root_.L2.St) = [some (.ref p), some (.ref wa), some (.ref gl), some (.ref bl), some (.int (kk : Int)), some (.ref fl), none, none, none, none] ∧ Lw p c G' H7 ∧ Same G G' ∧ G' fl = some (.lst ((was : List Addr).map V.ref)) ∧ (∀ u ∈ was, WGood C (drop G' fl) u) ∧ was.length ≤ 2 :=
      ⟨G7, [u1], rfl, L7, s07, fl7, fun u hu => by rw [List.mem_singleton.mp hu]; exact good1, (by show 1 ≤ 2; decide)⟩
    refine ⟨_, rfl, gl, _, rfl, .inl (SqL.of (L7.up _ _ (s07 _ _ w5))), _, _, rfl, rfl, _, rfl, ifB (fun t => ⟨_, rfl, bl, _, rfl, .inl (SqL.of (L7.up _ _ (s07 _ _ w6))), _, _, rfl, rfl, _, rfl, ifB (fun t2 => ?_) (fun _ => mid0)⟩) (fun _ => iteF mid0)⟩
    have g2 : 2 ≤ gs.length := by
      have z := of_decide_eq_true t
      rw [List.length_map] at z
      omega
    refine ⟨_, rfl, .inl ⟨rfl, _, SqL.of (L7.up _ _ fl7)⟩, _, rfl, _, rfl, _, rfl, _, rfl, gl, _, rfl, .inl (SqL.of (L7.up _ _ (s07 _ _ w5))), ?_⟩
    rw [List.length_map]
    refine ⟨p, c, G7, gs.length, rfl, L7, g2, by omega, fun ra r G8 H8 L8 s8 er rok => ?_⟩
    refine ⟨(by show 2 ≤ sizeLine; decide), fun t ht => ?_⟩
    have L9 := L8.new ht (.tup [.str "zz9", .ref ra])
    have s9 := L8.same ht (.tup [.str "zz9", .ref ra])
    refine ⟨(by show 1 ≤ sizeLine; decide), fun nl hnl => ?_⟩
    have L10 := L9.new hnl (.lst [.ref t])
    have s10 := L9.same hnl (.lst [.ref t])
    have s8a := s8.trans (s9.trans s10)
    refine ⟨bl, nl, _, _, rfl, rfl, L10.up _ _ (s8a _ _ (s07 _ _ w6)), upd_same, by rw [List.length_map]; exact Nat.le_of_lt (small1000 (by show as.length + 1 ≤ 1000; omega)), fun c4 hc4 => ?_⟩
    have L11 := L10.new hc4 (.lst (as.map V.ref ++ [.ref t]))
    have s11 := L10.same hc4 (.lst (as.map V.ref ++ [.ref t]))
    have s8b := s8a.trans s11
    have fl11 := s8b _ _ fl7
    have c4fl : c4 ≠ fl := (ne_of_none (s8a _ _ fl7) (L10.free hc4)).symm
    have et := (s10.trans s11) _ _ (upd_same (H := G8) (a := t) (o := .tup [.str "zz9", .ref ra]))
    have er11 := (s9.trans (s10.trans s11)) _ _ er
    have e4 : (upd (upd (upd G8 t (.tup [.str "zz9", .ref ra])) nl (.lst [.ref t])) c4 (.lst (as.map V.ref ++ [.ref t]))) c4 = some (.lst ((as ++ [t]).map V.ref)) := by rw [upd_same, List.map_append]; rfl
    generalize (upd (upd (upd G8 t (.tup [.str "zz9", .ref ra])) nl (.lst [.ref t])) c4 (.lst (as.map V.ref ++ [.ref t]))) = G11 at L11 s8b fl11 et er11 e4
    generalize (upd (upd (upd H8 t (.tup [.str "zz9", .ref ra])) nl (.lst [.ref t])) c4 (.lst (as.map V.ref ++ [.ref t]))) = H11 at L11
    have hb11 : LstOf BarAt G11 c4 (bs ++ [(("zz9" : Str), r)]) := ⟨as ++ [t], e4, Paired.app (Paired.imp w6p fun _ _ z => (z.mono s07).mono s8b) (.cons ⟨ra, et, er11⟩ .nil)⟩
    have ok2 := ok.more wok.zz rok (by omega)
    have a11 : StrL G11 gl gs := s8b _ _ (s07 _ _ w5)
    refine ⟨gl, c4, gs, _, rfl, L11.up _ _ a11, hb11.mono BarAt.mono L11.up, ok2, fun H12 u2 pb2 s12 hu2 eu2 hB2 => ?_⟩
    obtain ⟨G12, L12, s12, e12, a12, b12, c12⟩ := world_of L11 a11 hb11 s12 hu2 eu2 hB2
    have fl12 := s12 _ _ fl11
    refine ⟨fl, _, _, rfl, rfl, L12.up _ _ fl12, (by show 1 < sizeLine; decide), ?_⟩
    refine ⟨_, [u1, u2], rfl, L12.put fl12 _, Same.laid fl0 (s07.trans (s8b.trans s12)), upd_same, fun u hu => ?_, (by show 2 ≤ 2; decide)⟩
    rw [drop_upd]
    rcases List.mem_cons.mp hu with rfl | hu
    · exact good1.mono (same_drop drop_at (drop_same.trans (s8b.trans s12)))
    · rw [List.mem_singleton.mp hu]
      exact ⟨gs, _, world_drop fl12 glfl c4fl e12 a12 b12 c12, ok2, g10⟩
  · rintro σ H8 ⟨G8, was, rfl, L8, s08, fl8, good8, wl8⟩
    have bl8 := s08 _ _ w6
    refine ⟨_, rfl, bl, rfl, ⟨_, SqL.of (L8.up _ _ bl8)⟩, fun D hD => ?_⟩
    have gD := L8.free hD
    refine lc_it (walk_list (K := K) (a := bl) (xs := as.map V.ref)) (fun i Hx => ∃ ts G', Lw p c G' Hx ∧ Same G8 G' ∧ G' D = some (.lst ((ts : List Int).map V.int)) ∧ ts.length = i ∧ ∀ t ∈ ts, t ≠ 0 ∧ -(2 ^ 64) < t ∧ t < 2 ^ 64)
      ⟨[], _, L8.new hD _, Same.new gD _, upd_same, rfl, fun _ z => (List.not_mem_nil z).elim⟩ (fun i Hx _ ⟨_, _, z, z2, _⟩ => SqL.of (z.up _ _ (z2 _ _ bl8))) ?_ ?_
    · rintro i x H0 H9 hi ⟨ts, G9, L9, s9, e9, l9, ok9⟩ ⟨rfl, ex⟩
      have hi' : i < as.length := by rw [List.length_map] at hi; exact hi
      refine ⟨rfl, yes ⟨_, rfl, _, rfl, _, rfl, (by show 4 ≤ sizeLine; decide), fun lb hlb => ⟨p, c, lb, _, _, rfl, L9.new hlb _, upd_same, List.cons_ne_nil _ _, (by show 4 ≤ 1000; decide), fun z H10 hm L10 => ?_⟩⟩⟩
      obtain ⟨z, hz, rfl⟩ := List.mem_map.mp (show z ∈ ([1, -1, 2, -3] : List Int).map V.int from hm)
      have zall : ∀ z ∈ ([1, -1, 2, -3] : List Int), z ≠ 0 ∧ -(2 ^ 64) < z ∧ z < 2 ^ 64 := by decide
      have s10 := L9.same hlb (.lst [.int 1, .int (-1), .int 2, .int (-3)])
      have e10 := s10 _ _ e9
      refine ⟨_, L10.up _ _ e10, by rw [List.length_map]; exact small1000 (by omega), ts ++ [z], _, L10.put e10 _, Same.laid gD (s9.trans s10), by rw [upd_same, List.map_append]; rfl, by rw [List.length_append, l9]; rfl, fun t ht => ?_⟩
      rcases List.mem_append.mp ht with h | h
      · exact ok9 t h
      · rw [List.mem_singleton.mp h]
        exact zall z hz
    rintro H9 ⟨ts, G9, L9, s9, e9, l9, ok9⟩
    rw [List.length_map] at l9
    have s09 := s08.trans s9
    have bl9 := s09 _ _ w6
    refine ⟨_, rfl, _, rfl, _, rfl, bl, _, rfl, .inl (SqL.of (L9.up _ _ bl9)), ?_⟩
    rw [List.length_map]
    refine ⟨_, rfl, by omega, by omega, fun D2 hD2 => ?_⟩
    rw [Int.toNat_natCast]
    have gD2 := L9.free hD2
    have lts : ts.length = bs.length := by omega
    refine lc_it walk_range (fun i Hx => ∃ us G', Lw p c G' Hx ∧ Same G9 G' ∧ G' D2 = some (.lst ((us : List Addr).map V.ref)) ∧ Paired (BarAt G') us ((timesB bs ts).take i) ∧ us.length ≤ i)
      ⟨[], _, L9.new hD2 _, Same.new gD2 _, upd_same, .nil, Nat.le_refl _⟩ (fun _ _ _ _ => True.intro) ?_ ?_
    · rintro i x H0 H10 hi ⟨us, G10, L10, s10, e10, p10, l10⟩ ⟨rfl, rfl⟩
      have hia : i < as.length := hi
      have hib : i < bs.length := by omega
      have hit : i < ts.length := by omega
      obtain ⟨b, eb, ra, z1, z2⟩ := Paired.get w6p (List.getElem?_eq_getElem hia)
      have mb := List.mem_of_getElem? eb
      have s00 := s09.trans s10
      have bl10 := L10.up _ _ (s00 _ _ w6)
      have t1 := ok9 _ (List.getElem_mem hit)
      have ath : (as.map V.ref)[i]? = some (.ref as[i]) := by
        rw [List.getElem?_map, List.getElem?_eq_getElem hia]
        rfl
      have att : (ts.map V.int)[i]? = some (.int ts[i]) := by
        rw [List.getElem?_map, List.getElem?_eq_getElem hit]
        rfl
      have y1 := L10.up _ _ (s00 _ _ z1)
      have y2 : IntT H10 ra b.2 := L10.up _ _ (s00 _ _ z2)
      have lb : b.2.length ≤ 10 := by rw [ok.rl b mb]; exact g10
      have eD := L10.up _ _ (s10 _ _ e9)
      refine ⟨rfl, yes ⟨_, rfl, _, rfl, bl, _, _, _, rfl, rfl, SqL.of bl10, atI_z ath, Or.inr (Or.inl ⟨as[i], _, _, _, rfl, rfl, SqT.of y1, atI_nat (j := 0) rfl, ?_⟩)⟩⟩
      refine ⟨_, rfl, _, rfl, bl, _, _, _, rfl, rfl, SqL.of bl10, atI_z ath, Or.inr (Or.inl ⟨as[i], _, _, _, rfl, rfl, SqT.of y1, atI_nat (j := 1) rfl, ra, rfl, ⟨_, SqT.of y2⟩, fun D3 hD3 => ?_⟩)⟩
      refine lcA (walk_tup (K := K) (a := ra) (xs := b.2.map V.int)) b.2 (fun e => .int (ts[i] * e)) (fun _ => true) (by rw [List.length_map]) hD3 (by rw [List.length_map]; exact Nat.le_of_lt (small1000 (by omega))) (fun Hx s => SqT.of (s _ _ y2)) (fun i3 e x H11 H12 Qy Qn he s11 _ y ky _ => ?_) fun H11 s11 e11 => ?_
      · obtain ⟨rfl, ex⟩ := y
        rw [List.getElem?_map, he] at ex
        obtain rfl : V.int e = x := Option.some.inj ex
        exact ⟨rfl, yes ⟨_, rfl, _, rfl, D, _, _, _, rfl, rfl, SqL.of (s11 _ _ eD), atI_z att, _, rfl, _, _, rfl, rfl, .inl ⟨t1.2.1, t1.2.2⟩, ky rfl _ (Same.refl _)⟩⟩
      · rw [all_yes] at e11
        obtain ⟨G11, L11, sG11, trk⟩ := L10.call s11
        refine ⟨D3, _, rfl, .inl ⟨SqL.of e11, fun rt hrt => ?_⟩⟩
        have L12 := L11.new hrt (.tup (b.2.map fun e => .int (ts[i] * e)))
        have s12 := L11.same hrt (.tup (b.2.map fun e => .int (ts[i] * e)))
        refine ⟨(by show 2 ≤ sizeLine; decide), fun tp2 htp2 => ?_⟩
        have L13 := L12.new htp2 (.tup [.str b.1, .ref rt])
        have s13 := L12.same htp2 (.tup [.str b.1, .ref rt])
        have t13 := sG11.trans (s12.trans s13)
        have e13 := t13 _ _ e10
        have ez : (timesB bs ts)[i]? = some (b.1, b.2.map fun e => ts[i] * e) := by
          have zz : (bs.zip ts)[i]? = some (b, ts[i]) := List.getElem?_zip_eq_some.mpr ⟨eb, List.getElem?_eq_getElem hit⟩
          unfold timesB
          rw [List.getElem?_map, zz]
          rfl
        refine ⟨_, L13.up _ _ e13, by rw [List.length_map]; exact small1000 (by omega), us ++ [tp2], _, L13.put e13 _, Same.laid gD2 (s10.trans t13), by rw [upd_same, List.map_append]; rfl, ?_, by rw [List.length_append]; exact Nat.succ_le_succ l10⟩
        rw [List.take_add_one, ez]
        refine Paired.app (Paired.imp p10 fun _ _ z => (z.mono t13).put e13) (.cons (BarAt.put e13 ⟨rt, upd_same, ?_⟩) .nil)
        have z := s13 _ _ (upd_same (H := G11) (a := rt) (o := .tup (b.2.map fun e => .int (ts[i] * e))))
        show _ = some (HO.tup ((b.2.map fun e => ts[i] * e).map V.int))
        rw [z, List.map_map]
        rfl
    · rintro H10 ⟨us, G10, L10, s10, e10, p10, l10⟩
      have ltm : (timesB bs ts).length = as.length := by
        unfold timesB
        rw [List.length_map, List.length_zip]
        omega
      rw [List.take_of_length_le (by rw [ltm]; exact Nat.le_refl _)] at p10
      have s00 := s09.trans s10
      have gl10 := s00 _ _ w5
      have hb10 : LstOf BarAt G10 D2 (timesB bs ts) := ⟨us, e10, p10⟩
      have ok3 := ok.times lts fun t ht => (ok9 t ht).1
      refine ⟨gl, D2, gs, _, rfl, L10.up _ _ gl10, hb10.mono BarAt.mono L10.up, ok3, fun H11 u3 pb3 s11 hu3 eu3 hB3 => ?_⟩
      obtain ⟨G11, L11, s11, e11, a11, b11, c11⟩ := world_of L10 gl10 hb10 s11 hu3 eu3 hB3
      refine ⟨(by show 1 ≤ sizeLine; decide), fun nl hnl => ?_⟩
      have L12 := L11.new hnl (.lst [.ref u3])
      have s12 := L11.same hnl (.lst [.ref u3])
      have s8b := s9.trans (s10.trans (s11.trans s12))
      refine ⟨fl, nl, _, _, rfl, rfl, L12.up _ _ (s8b _ _ fl8), upd_same, by rw [List.length_map]; exact Nat.le_of_lt (small1000 (by show was.length + 1 ≤ 1000; omega)), fun ol hol => ?_⟩
      have L13 := L12.new hol (.lst (was.map V.ref ++ [.ref u3]))
      have s13 := L12.same hol (.lst (was.map V.ref ++ [.ref u3]))
      refine q ol (was ++ [u3]) _ _ L13 (s08.trans (s8b.trans s13)) (by rw [upd_same, List.map_append]; rfl) fun u hu => ?_
      rcases List.mem_append.mp hu with h | h
      · exact (good8 u h).mono (drop_same.trans (s8b.trans s13))
      · rw [List.mem_singleton.mp h]
        exact ⟨gs, _, ⟨_, gl, D2, pb3, (s12.trans s13) _ _ e11, w_g, w_b, w_k, (s12.trans s13) _ _ a11, b11.mono BarAt.mono (s12.trans s13), c11.mono (s12.trans s13)⟩, ok3, g10⟩
end
end K16
namespace K16
open PySem PySem.Spec PyProof.Rows L2 RZ
/-! ### turned books, parts of books -/
theorem goodsAt_map {p : Int → Bool} {h : Int → Int} (gs : List Str) (r : List Int) : goodsAt p gs (r.map h) = goodsAt (fun e => p (h e)) gs r := by
  unfold goodsAt
  rw [List.zip_map_right, List.filter_map, List.map_map]
  rfl
theorem turn_mix (P : Str → Bool) (gs ns : List Str) (b : Str × List Int) : mixd P (sideOf gs (turnB ns b)) = mixd P (sideOf gs b) := by
  show ((goodsAt (fun e => decide (0 < e)) gs (if b.1 ∈ ns then negL b.2 else b.2)).any P && (goodsAt (fun e => decide (e < 0)) gs (if b.1 ∈ ns then negL b.2 else b.2)).any P) = _
  by_cases m : b.1 ∈ ns
  · rw [if_pos m]
    unfold negL
    rw [goodsAt_map, goodsAt_map]
    have e1 : (fun e : Int => decide (0 < -e)) = fun e : Int => decide (e < 0) := by
      funext e
      exact decide_eq_decide.mpr (by omega)
    have e2 : (fun e : Int => decide (-e < 0)) = fun e : Int => decide (0 < e) := by
      funext e
      exact decide_eq_decide.mpr (by omega)
    rw [e1, e2, Bool.and_comm]
    rfl
  · rw [if_neg m]
    rfl
theorem good_turned {gs : List Str} {bs : List (Str × List Int)} (ns : List Str) : GoodBk gs (bs.map (turnB ns)) ↔ GoodBk gs bs := by
  have e : ∀ P : Str → Bool, (sidesOf gs (bs.map (turnB ns))).countP (mixd P) = (sidesOf gs bs).countP (mixd P) := fun P => by
    unfold sidesOf
    rw [List.map_map, List.countP_map, List.countP_map]
    refine List.countP_congr fun b _ => ?_
    show (mixd P (sideOf gs (turnB ns b)) = true) ↔ _
    rw [turn_mix]
    exact Iff.rfl
  exact ⟨fun h P hP => by rw [← e]; exact h P hP, fun h P hP => by rw [e]; exact h P hP⟩
theorem zip_cut (ks : List Str) : ∀ (gs : List Str) (r : List Int), r.length = gs.length → (cutGs gs ks).zip (cutRow gs ks r) = (gs.zip r).filter fun z => decide (z.1 ∈ ks)
  | [], r, _ => by
    unfold cutGs cutRow
    simp
  | g :: gs, [], h => by simp at h
  | g :: gs, e :: r, h => by
    have ih := zip_cut ks gs r (by simpa using h)
    unfold cutGs cutRow at ih ⊢
    rw [List.zip_cons_cons]
    by_cases m : g ∈ ks
    · rw [List.filter_cons_of_pos (by simpa using m), List.filter_cons_of_pos (by simpa using m), List.map_cons, List.zip_cons_cons, ih]
    · rw [List.filter_cons_of_neg (by simpa using m), List.filter_cons_of_neg (by simpa using m), ih]
theorem any_cut (ks : List Str) (p : Int → Bool) (P : Str → Bool) {gs : List Str} {r : List Int} (h : r.length = gs.length) : ((goodsAt p (cutGs gs ks) (cutRow gs ks r)).any P) = (goodsAt p gs r).any fun x => decide (x ∈ ks) && P x := by
  unfold goodsAt
  rw [zip_cut ks gs r h, List.any_map, List.any_map, List.any_filter, List.any_filter, List.any_filter]
  congr 1
  funext z
  show (decide (z.1 ∈ ks) && (p z.2 && P z.1)) = (p z.2 && (decide (z.1 ∈ ks) && P z.1))
  cases decide (z.1 ∈ ks) <;> cases p z.2 <;> rfl
theorem good_cut {gs ks : List Str} {bs : List (Str × List Int)} (ok : BkOk gs bs) (h : GoodBk gs bs) : GoodBk (cutGs gs ks) (cutBs gs ks bs) := by
  intro P hP
  have e1 : (cutGs gs ks).countP P = gs.countP fun x => decide (x ∈ ks) && P x := by
    unfold cutGs
    rw [List.countP_filter]
    refine List.countP_congr fun x _ => ?_
    rw [Bool.and_comm]
  have e2 : (sidesOf (cutGs gs ks) (cutBs gs ks bs)).countP (mixd P) ≤ (sidesOf gs bs).countP (mixd fun x => decide (x ∈ ks) && P x) := by
    unfold sidesOf cutBs
    rw [List.countP_map, List.countP_filter, List.countP_map, List.countP_map]
    refine List.countP_mono_left fun b hb hm => ?_
    have h2 := (Bool.and_eq_true_iff.mp hm).1
    have h3 : ((goodsAt (fun e => decide (0 < e)) (cutGs gs ks) (cutRow gs ks b.2)).any P && (goodsAt (fun e => decide (e < 0)) (cutGs gs ks) (cutRow gs ks b.2)).any P) = true := h2
    rw [any_cut ks _ P (ok.rl b hb), any_cut ks _ P (ok.rl b hb)] at h3
    exact h3
  rw [e1] at hP ⊢
  exact Nat.lt_of_le_of_lt e2 (h _ hP)
theorem good_nil (gs : List Str) : GoodBk gs [] := fun P hP => by
  show ([] : List (Sd Str)).countP _ < _
  rw [List.countP_nil]
  exact hP
theorem words_of {xs : List Str} : ∀ {zs : List V}, (∀ z ∈ zs, z ∈ xs.map V.str) → ∃ ns : List Str, zs = ns.map V.str ∧ ∀ n ∈ ns, n ∈ xs
  | [], _ => ⟨[], rfl, fun _ z => (List.not_mem_nil z).elim⟩
  | z :: zs, h => by
    obtain ⟨ns, e, k⟩ := words_of (zs := zs) fun y hy => h y (List.mem_cons_of_mem _ hy)
    obtain ⟨x, hx, ex⟩ := List.mem_map.mp (h z List.mem_cons_self)
    exact ⟨x :: ns, by rw [List.map_cons, ← e, ex], fun n hn => (List.mem_cons.mp hn).elim (fun q => q ▸ hx) (k n)⟩
theorem wd_a : Wd "a" := by
  refine ⟨by decide +kernel, by decide +kernel, ⟨97, by decide +kernel, by decide +kernel⟩, ?_⟩
  have q : ∀ c ∈ ("a" : Str).cps.toList, c ∈ LETS.cps.toList ++ FIGS.cps.toList := by decide +kernel
  exact fun c hc => List.mem_append.mp (q c hc)
theorem bk_a : BkOk ["a"] [] := by
  refine ⟨List.nodup_cons.mpr ⟨List.not_mem_nil, List.nodup_nil⟩, fun g hg => ?_, List.nodup_nil, fun _ z => (List.not_mem_nil z).elim, fun _ z => (List.not_mem_nil z).elim, fun _ z => (List.not_mem_nil z).elim, by decide, Nat.zero_le _⟩
  rw [List.mem_singleton.mp hg]
  exact wd_a
theorem same_bool {a b : Bool} {p : Prop} (h : a = true ↔ p) (k : b = true ↔ p) : a = b := by
  rw [Bool.eq_iff_iff]
  exact h.trans k.symm
def spLaw (K : PySem.W.Frag) : Sp := fun vs H Q _ => ∃ (a : Addr) (ns : List Int), vs = [.ref a] ∧ SqL K H a (ns.map V.int) ∧ ns.length ≤ 63 ∧ ∀ H', Q (.bl true) H'
section
variable {P : Program} {w : World} {K : PySem.W.Frag} {mg : Str → Option Value} {base : Heap} {f C : Addr} {fd : FuncData} {k : Nat}
theorem ok_law (F : Fun K "law" "law" s_law f fd) (T : Txt K mg) {j1 j2 j3 : Nat} (h7 : 7 ≤ k) (hj1 : j1 ≤ k) (hj2 : j2 ≤ k) (hj3 : j3 ≤ k) (F__law_source : Has P w K mg base 1 "_law_source" (spSource K)) (F__law_pick : Has P w K mg base 1 "_law_pick" spPick)
    (F__law_some_book : Has P w K mg base j1 "_law_some_book" (spWorld C 10 10)) (F__law_crossed_book : Has P w K mg base 7 "_law_crossed_book" (spWorld C 2 7)) (F__law_book : Has P w K mg base j2 "_law_book" (spWorld C 1 10))
    (F__law_is_good : Has P w K mg base 2 "_law_is_good" (spLawGood C)) (F__law_near_worlds : Has P w K mg base 7 "_law_near_worlds" (spNear C)) (F_is_good_book : Has P w K mg base j3 "is_good_book" (spIsGood 10 C))
    (F_turned_book : Has P w K mg base 6 "turned_book" (spTurned C)) (F_part_book : Has P w K mg base 6 "part_book" (spPart C)) (M_names : HasM P w K mg base C 1 "names" (spNames C)) (F_Book : HasC P w K mg base C 4 "Book" (spInit C)) :
    FnOk P w K mg base CX0 (k + 1) f fd ["_law_script"] (spLaw K) := by
  refine F.ok sc_law (fun vs H Q E h => ?_) (fun cdv A outer s H vs Q E hr h => ?_)
  · obtain ⟨a, ns, rfl, _⟩ := h
    rfl
  obtain ⟨a, ns, rfl, hS, h63, q⟩ := h
  have hu := hu_of hr
  refine ⟨_, (pss_cons (ps_set (i := 1) sc_law.nd rfl (.inr rfl) (pe_fn F__law_source (hr.mono (by omega)) (by rfl) (pa_cons (pv 0) pa_nil)))
  (pss_cons (ps_for PassesOwn.never rfl (pi_range1 (by rfl) T.b_range (pa_cons pe_int pa_nil)) (pg_name (i := 2) sc_law.nd rfl (by first | exact .inl rfl | exact .inr rfl)) (pss_cons (ps_set (i := 3) sc_law.nd rfl (.inl rfl) (pe_ix (r := rIxL K) ix_list (pe_lst (pa_cons (pe_fn F__law_some_book (hr.mono (by omega)) (by rfl) (pa_cons (pv 1) (pa_cons pe_int pa_nil))) (pa_cons (pe_fn F__law_crossed_book (hr.mono (by omega)) (by rfl) (pa_cons (pv 1) (pa_cons pe_int pa_nil))) (pa_cons (pe_fn F__law_book (hr.mono (by omega)) (by rfl) (pa_cons (pv 1) (pa_cons pe_int pa_nil))) pa_nil)))) (pv 2) (fun _ _ => rfl)))
  (pss_cons (ps_par (i := 4) (j := 5) (by rfl) sc_law.nd rfl rfl (by decide) rfl rfl (pa_cons (pe_dget hu (pv 3) pe_str (fun _ _ => rfl)) (pa_cons (pe_fn F__law_is_good (hr.mono (by omega)) (by rfl) (pa_cons (pv 3) pa_nil)) pa_nil)) (by rfl))
  (pss_cons (ps_if (PW.pt (pw_or (pt_cmpR op_ne (pe_callB call_repr_bool (by rfl) T.b_repr (by decide +kernel) (pa_cons (pe_fn F_is_good_book (hr.mono (by omega)) (by rfl) (pa_cons (pv 4) pa_nil)) pa_nil)) (pe_callB call_repr_bool (by rfl) T.b_repr (by decide +kernel) (pa_cons (pv 5) pa_nil)) (nomark _)) (pw_or1 (pt_cmpR op_ne (pe_callB call_repr_bool (by rfl) T.b_repr (by decide +kernel) (pa_cons (pe_fn F_is_good_book (hr.mono (by omega)) (by rfl) (pa_cons (pe_fn F_turned_book (hr.mono (by omega)) (by rfl) (pa_cons (pv 4) (pa_cons (pe_stp2 (pe_me0 M_names (hr.mono (by omega)) (pv 4))) pa_nil))) pa_nil)) pa_nil)) (pe_callB call_repr_bool (by rfl) T.b_repr (by decide +kernel) (pa_cons (pv 5) pa_nil)) (nomark _))))) (pss_one (ps_ret pe_bl)) pss_nil)
  (pss_cons (ps_for PassesOwn.never rfl (pi_list (pe_fn F__law_near_worlds (hr.mono (by omega)) (by rfl) (pa_cons (pv 1) (pa_cons (pv 3) pa_nil)))) (pg_name (i := 6) sc_law.nd rfl (by first | exact .inl rfl | exact .inr rfl)) (pss_one (ps_if (pt_cmpR op_ne (pe_callB call_repr_bool (by rfl) T.b_repr (by decide +kernel) (pa_cons (pe_fn F_is_good_book (hr.mono (by omega)) (by rfl) (pa_cons (pe_dget hu (pv 6) pe_str (fun _ _ => rfl)) pa_nil)) pa_nil)) (pe_callB call_repr_bool (by rfl) T.b_repr (by decide +kernel) (pa_cons (pe_fn F__law_is_good (hr.mono (by omega)) (by rfl) (pa_cons (pv 6) pa_nil)) pa_nil)) (nomark _)) (pss_one (ps_ret pe_bl)) pss_nil)))
  (pss_cons (ps_setLc (i := 7) (own := [("_law_good", 8)]) (g := gName 8) rfl sc_law.nd rfl rfl (sw_true rfl rfl rfl (by decide +kernel)) (pi_list (pe_dget hu (pv 3) pe_str (fun _ _ => rfl))) (blkOk_by (own := [("_law_good", 8)]) (N := ["_law_script", "_law_source_here", "_law_lap", "_law_world", "_law_book_here", "_law_is_good_here", "_law_one", "_law_some", "_law_good"]) (by kernel_rfl)) (fun _ _ _ _ _ => (pg_name (i := 8) sc_law.nd rfl (by first | exact .inl rfl | exact .inr rfl))) (fun _ _ _ _ _ => (pts_one (pt_cmpR op_gt (pe_fn F__law_pick (hr.mono (by omega)) (by rfl) (pa_cons (pv 1) (pa_cons pe_int pa_nil))) pe_int (nomark _)))) (fun _ _ _ _ _ => (pv 8)))
  (pss_one (ps_if (PW.pt (pw_and (pt_val (pv 5)) (pw_and1 (pt_cmpR op_notBl (pe_fn F_is_good_book (hr.mono (by omega)) (by rfl) (pa_cons (pe_fn F_part_book (hr.mono (by omega)) (by rfl) (pa_cons (pv 4) (pa_cons (pv 7) pa_nil))) pa_nil)) pe_bl (nomark _))))) (pss_one (ps_ret pe_bl)) pss_nil))))))))
  (pss_one (ps_ret (pe_and (pe_cmpR op_isBl (pe_fn F_is_good_book (hr.mono (by omega)) (by rfl) (pa_cons (pe_mk F_Book (hr.mono (by omega)) (by rfl) (pa_cons (pe_lst pa_nil) (pa_cons (pe_lst pa_nil) pa_nil))) pa_nil)) pe_bl (nomark _)) (pe_one (pe_cmpR op_isBl (pe_fn F_is_good_book (hr.mono (by omega)) (by rfl) (pa_cons (pe_mk F_Book (hr.mono (by omega)) (by rfl) (pa_cons (pe_lst (pa_cons pe_str pa_nil)) (pa_cons (pe_lst pa_nil) pa_nil))) pa_nil)) pe_bl (nomark _)))))))), ?_⟩
  refine ⟨_, rfl, a, ns, rfl, hS, by omega, fun p c H1 L0 => ?_⟩
  refine ⟨3, rfl, by decide, by decide, ?_⟩
  refine for_it walk_range (fun i σ Hx => ∃ y2 y3 y4 y5 y6 y7 y8 G', σ = [some (.ref a), some (.ref p), y2, y3, y4, y5, y6, y7, y8] ∧ Lw p c G' Hx) ⟨none, none, none, none, none, none, none, H, rfl, L0⟩ (fun _ _ _ _ _ => True.intro) ?_ ?_
  · rintro i x σ H0 H2 hi ⟨y2, y3, y4, y5, y6, y7, y8, G2, rfl, L2⟩ ⟨rfl, rfl⟩
    have hi3 : i < 3 := hi
    refine ⟨_, rfl, p, c, G2, 10, rfl, L2, by decide, by decide, fun wa1 gs1 bs1 G3 H3 L3 s3 W1 ok1 => ?_⟩
    refine ⟨_, rfl, p, c, G3, 4, rfl, L3, by decide, by decide, fun wa2 gs2 bs2 G4 H4 L4 s4 W2 ok2 => ?_⟩
    refine ⟨_, rfl, p, c, G4, 7, rfl, L4, by decide, by decide, fun wa3 gs3 bs3 G5 H5 L5 s5 W3 ok3 => ?_⟩
    refine ⟨(by show 3 ≤ sizeLine; decide), fun wl hwl => ?_⟩
    have L6 := L5.new hwl (.lst [.ref wa1, .ref wa2, .ref wa3])
    have s6 := L5.same hwl (.lst [.ref wa1, .ref wa2, .ref wa3])
    have pick : ∃ wa gs bs, ([.ref wa1, .ref wa2, .ref wa3] : List V)[i]? = some (.ref wa) ∧ WorldAt C (upd G5 wl (.lst [.ref wa1, .ref wa2, .ref wa3])) wa gs bs ∧ WOk gs bs := by
      match i, hi3 with
      | 0, _ => exact ⟨wa1, gs1, bs1, rfl, W1.mono (s4.trans (s5.trans s6)), ok1⟩
      | 1, _ => exact ⟨wa2, gs2, bs2, rfl, W2.mono (s5.trans s6), ok2⟩
      | 2, _ => exact ⟨wa3, gs3, bs3, rfl, W3.mono s6, ok3⟩
    obtain ⟨wa, gs, bs, ewa, hW, wok⟩ := pick
    refine ⟨_, rfl, wl, _, _, _, rfl, rfl, SqL.of upd_same, atI_z ewa, ?_⟩
    generalize (upd G5 wl (.lst [.ref wa1, .ref wa2, .ref wa3])) = G6 at L6 hW
    generalize (upd H5 wl (.lst [.ref wa1, .ref wa2, .ref wa3])) = H6 at L6
    have ok := wok.ok
    have g10 := wok.g
    have hW6 := hW.mono L6.up
    have hWd := hW
    obtain ⟨kvs, gl, bl, pb, w1, w2, w3, w4, w5, w6, w7⟩ := hWd
    refine ⟨_, rfl, wa, _, rfl, .inl ⟨kvs, .inr "book", .inl (L6.up _ _ w1), rfl, w4.symm⟩, _, rfl, wa, gs, bs, rfl, hW6, ok, g10, fun g H7 s7 hg => ⟨_, _, rfl, ?_⟩⟩
    obtain ⟨G7, L7, t7, _⟩ := L6.call s7
    have hB7 : BookAt C H7 pb gs bs := (w7.mono t7).mono L7.up
    refine ⟨_, rfl, pb, gs, bs, rfl, hB7, ok, g10, fun g2 H8 s8 hg2 => ?_⟩
    obtain rfl : g2 = g := same_bool hg2 hg
    refine ⟨_, rfl, _, rfl, _, rfl, rfl, false, by rw [decide_eq_true rfl]; rfl, iteF ?_⟩
    have hB8 := hB7.mono s8
    have hB8' := hB8
    obtain ⟨dx, tg, tb, as, o, h1, h2, h3, h4⟩ := hB8
    refine ⟨_, rfl, _, rfl, pb, dx, _, rfl, h1, bf_no tg tb (by decide +kernel) (by decide +kernel), pb, gs, bs, rfl, hB8', ok.bl, fun H9 l s9 _ hl => ?_⟩
    refine ⟨l, _, rfl, SqL.of hl, fun zs hzs _ z hz => ?_⟩
    obtain ⟨ns2, rfl, sub⟩ := words_of hzs
    have s9a := s9.trans (Same.new hz (.lst (ns2.map V.str)))
    refine ⟨pb, z, gs, bs, ns2, rfl, hB8'.mono s9a, ok, upd_same, sub, fun H10 p2 s10 hB10 => ?_⟩
    refine ⟨p2, gs, bs.map (turnB ns2), rfl, hB10, ok.turned ns2, g10, fun g3 H11 s11 hg3 => ?_⟩
    obtain rfl : g3 = g2 := same_bool (hg3.trans (good_turned ns2)) hg
    refine ⟨_, rfl, _, rfl, _, rfl, rfl, false, by rw [decide_eq_true rfl]; rfl, iteF ?_⟩
    obtain ⟨G11, L11, t11, _⟩ := L7.call (s8.trans (s9a.trans (s10.trans s11)))
    have t6 := t7.trans t11
    refine ⟨_, rfl, _, rfl, p, c, wa, G11, gs, bs, rfl, L11, hW.mono t6, wok, fun nl was G12 H12 L12 s12 enl good => ?_⟩
    refine ⟨nl, rfl, ⟨_, SqL.of (L12.up _ _ enl)⟩, ?_⟩
    refine for_it (walk_list (K := K) (a := nl) (xs := was.map V.ref)) (fun i2 σ Hx => ∃ y6 G', σ = [some (.ref a), some (.ref p), some (.int (0 + (i : Int))), some (.ref wa), some (.ref pb), some (.bl g3), y6, y7, y8] ∧ Lw p c G' Hx ∧ Same G12 G') ⟨y6, G12, rfl, L12, Same.refl _⟩ (fun i2 σ Hx _ ⟨_, _, _, z, z2⟩ => SqL.of (z.up _ _ (z2 _ _ enl))) ?_ ?_
    · rintro i2 x σ H0 H13 hi2 ⟨y6, G13, rfl, L13, s13⟩ ⟨rfl, ex⟩
      have hi2' : i2 < was.length := by rw [List.length_map] at hi2; exact hi2
      rw [List.getElem?_map, List.getElem?_eq_getElem hi2'] at ex
      obtain rfl : V.ref was[i2] = x := Option.some.inj ex
      obtain ⟨gs9, bs9, hW9, ok9, g9⟩ := (good _ (List.getElem_mem hi2')).mono s13
      have hW9' := hW9.mono L13.up
      have hWe := hW9'
      obtain ⟨kvs9, gl9, bl9, pb9, v1, v2, v3, v4, v5, v6, v7⟩ := hWe
      refine ⟨_, rfl, was[i2], _, rfl, .inl ⟨kvs9, .inr "book", .inl v1, rfl, v4.symm⟩, pb9, gs9, bs9, rfl, v7, ok9, g9, fun b1 H14 s14 hb1 => ?_⟩
      refine ⟨_, rfl, _, rfl, was[i2], gs9, bs9, rfl, hW9'.mono s14, ok9, g9, fun b2 H15 s15 hb2 => ?_⟩
      obtain rfl : b1 = b2 := same_bool hb1 hb2
      refine ⟨_, rfl, rfl, false, by rw [decide_eq_true rfl]; rfl, iteF ?_⟩
      obtain ⟨G15, L15, t15, _⟩ := L13.call (s14.trans s15)
      exact ⟨_, G15, rfl, L15, s13.trans t15⟩
    rintro σ H13 ⟨y6, G13, rfl, L13, s13⟩
    have t13 := t6.trans (s12.trans s13)
    refine ⟨_, rfl, wa, _, rfl, .inl ⟨kvs, .inr "goods", .inl (L13.up _ _ (t13 _ _ w1)), rfl, w2.symm⟩, gl, rfl, ⟨_, SqL.of (L13.up _ _ (t13 _ _ w5))⟩, fun D hD => ?_⟩
    have gD := L13.free hD
    refine lc_it (walk_list (K := K) (a := gl) (xs := gs.map V.str)) (fun i2 Hx => ∃ ks G', Lw p c G' Hx ∧ Same G13 G' ∧ G' D = some (.lst ((ks : List Str).map V.str)) ∧ (∀ x ∈ ks, x ∈ gs) ∧ ks.length ≤ i2)
      ⟨[], _, L13.new hD _, Same.new gD _, upd_same, fun _ z => (List.not_mem_nil z).elim, Nat.le_refl _⟩ (fun i2 Hx _ ⟨_, _, z, z2, _⟩ => SqL.of (z.up _ _ (z2 _ _ (t13 _ _ w5)))) ?_ ?_
    · rintro i2 x H0 H14 hi2 ⟨ks, G14, L14, s14, e14, sub14, l14⟩ ⟨rfl, ex⟩
      have hi2' : i2 < gs.length := by rw [List.length_map] at hi2; exact hi2
      rw [List.getElem?_map, List.getElem?_eq_getElem hi2'] at ex
      obtain rfl : V.str gs[i2] = x := Option.some.inj ex
      refine ⟨rfl, _, rfl, p, c, G14, 4, rfl, L14, by decide, by decide, fun r H15 L15 _ _ => ⟨_, _, rfl, rfl, _, rfl, ifB (fun t => ?_) (fun t => ?_)⟩⟩
      · refine ⟨_, rfl, _, L15.up _ _ e14, by rw [List.length_map]; exact small1000 (by omega), ks ++ [gs[i2]], _, L15.put e14 _, Same.laid gD s14, by rw [upd_same, List.map_append]; rfl, fun x hx => ?_, by rw [List.length_append]; exact Nat.succ_le_succ l14⟩
        rcases List.mem_append.mp hx with z | z
        · exact sub14 x z
        · rw [List.mem_singleton.mp z]
          exact List.getElem_mem hi2'
      · exact ⟨ks, G14, L15, s14, e14, sub14, Nat.le_succ_of_le l14⟩
    rintro H14 ⟨ks, G14, L14, s14, e14, sub14, _⟩
    refine ⟨_, rfl, _, rfl, ifB (fun t => ?_) (fun t => iteF ?_)⟩
    · have hB14 : BookAt C H14 pb gs bs := (w7.mono (t13.trans s14)).mono L14.up
      have gcut : (cutGs gs ks).length ≤ 10 := Nat.le_trans (List.length_filter_le _ _) g10
      refine ⟨_, rfl, _, rfl, pb, D, gs, bs, ks, rfl, hB14, ok, L14.up _ _ e14, sub14, fun H15 p3 s15 hB15 => ?_⟩
      refine ⟨p3, _, _, rfl, hB15, ok.cut ks, gcut, fun g4 H16 s16 hg4 => ?_⟩
      have g4t : g4 = true := hg4.mpr (good_cut ok (hg.mp t))
      subst g4t
      obtain ⟨G16, L16, _, _⟩ := L14.call (s15.trans s16)
      exact ⟨true, true, rfl, rfl, false, rfl, iteF ⟨_, _, _, _, _, _, _, G16, rfl, L16⟩⟩
    · exact ⟨_, _, _, _, _, _, _, G14, rfl, L14⟩
  · rintro σ H2 ⟨y2, y3, y4, y5, y6, y7, y8, G2, rfl, L2⟩
    refine ⟨(by show 0 ≤ sizeLine; decide), fun a1 ha1 => ⟨(by show 0 ≤ sizeLine; decide), fun b1 hb1 => ?_⟩⟩
    refine made_at (gs := []) (bs := []) (at_new (show (upd H2 a1 (.lst [])) a1 = some (.lst []) from upd_same) hb1) ⟨[], upd_same, .nil⟩ bk_nil fun H3 p1 _ hB1 => ?_
    refine ⟨p1, [], [], rfl, hB1, bk_nil, Nat.zero_le _, fun g1 H4 _ hg1 => ?_⟩
    have g1t : g1 = true := hg1.mpr (good_nil [])
    subst g1t
    refine ⟨true, true, rfl, rfl, true, rfl, iteT ?_⟩
    refine ⟨(by show 1 ≤ sizeLine; decide), fun a2 ha2 => ⟨(by show 0 ≤ sizeLine; decide), fun b2 hb2 => ?_⟩⟩
    refine made_at (gs := ["a"]) (bs := []) (at_new (show (upd H4 a2 (.lst [.str "a"])) a2 = some (.lst [.str "a"]) from upd_same) hb2) ⟨[], upd_same, .nil⟩ bk_a fun H5 p2 _ hB2 => ?_
    refine ⟨p2, _, _, rfl, hB2, bk_a, (by show 1 ≤ 10; decide), fun g2 H6 _ hg2 => ?_⟩
    have g2t : g2 = true := hg2.mpr (good_nil _)
    subst g2t
    exact ⟨true, true, rfl, rfl, q _⟩
end
end K16
namespace K16
open PySem PySem.Spec PyProof.Rows L2 RZ
/-! ### defs that call themselves -/
section
variable {P : Program} {w : World} {K : PySem.W.Frag} {mg : Str → Option Value} {base : Heap} {f C : Addr} {fd : FuncData}
theorem law_trees (T : Txt K mg) (F__law_pick : Has P w K mg base 1 "_law_pick" spPick) (F__law_mixed : Has P w K mg base 2 "_law_mixed" spMixed) (FT : Fun K "_law_tree" "_law_tree" s__law_tree f fd) (mT : mg "_law_tree" = some (.ref f)) (kT : PySem.W.keepIn K (.ref f) = true) (bT : Binds K fd ["_law_source_here", "_law_goods"] []) :
    ∀ n : Nat, FnOk P w K mg base CX0 (n + 2) f fd ["_law_source_here", "_law_goods"] (spTree n)
  | 0 => ⟨fun vs H Q E h => (fun ⟨_, _, _, _, _, _, _, _, ne, h0, _⟩ => absurd (List.length_eq_zero_iff.mp (Nat.le_zero.mp h0)) ne) h,
      fun A outer s H args us vs Q E _ _ _ _ h => (fun ⟨_, _, _, _, _, _, _, _, ne, h0, _⟩ => absurd (List.length_eq_zero_iff.mp (Nat.le_zero.mp h0)) ne) h⟩
  | n + 1 => ok__law_tree FT T (by omega) F__law_pick F__law_mixed ⟨_, _, _, law_trees T F__law_pick F__law_mixed FT mT kT bT n, mT, kT, bT⟩
theorem law_leavess (T : Txt K mg) (FT : Fun K "_law_leaves" "_law_leaves" s__law_leaves f fd) (mT : mg "_law_leaves" = some (.ref f)) (kT : PySem.W.keepIn K (.ref f) = true) (bT : Binds K fd ["_law_tree_here"] []) :
    ∀ n : Nat, FnOk P w K mg base CX0 (n + 1) f fd ["_law_tree_here"] (spLeaves n)
  | 0 => ⟨fun vs H Q E h => (fun ⟨_, _, _, _, h0, _⟩ => absurd h0 (Nat.not_lt_zero _)) h, fun A outer s H args us vs Q E _ _ _ _ h => (fun ⟨_, _, _, _, h0, _⟩ => absurd h0 (Nat.not_lt_zero _)) h⟩
  | n + 1 => ok__law_leaves FT T ⟨_, _, _, law_leavess T FT mT kT bT n, mT, kT, bT⟩
theorem law_forkeds (T : Txt K mg) (F__law_pick : Has P w K mg base 1 "_law_pick" spPick) (F__law_of : Has P w K mg base 2 "_law_of" spOf) (F__law_mixed : Has P w K mg base 2 "_law_mixed" spMixed) (F__law_leaves : ∀ n : Nat, Has P w K mg base (n + 1) "_law_leaves" (spLeaves n))
    (FT : Fun K "_law_forked" "_law_forked" s__law_forked f fd) (mT : mg "_law_forked" = some (.ref f)) (kT : PySem.W.keepIn K (.ref f) = true) (bT : Binds K fd ["_law_source_here", "_law_tree_here", "_law_goods", "_law_share", "_law_rows"] []) :
    ∀ n : Nat, FnOk P w K mg base CX0 (n + 2) f fd ["_law_source_here", "_law_tree_here", "_law_goods", "_law_share", "_law_rows"] (spForked n)
  | 0 => ⟨fun vs H Q E h => (fun ⟨_, _, _, _, _, _, _, _, _, _, _, _, _, _, _, h0, _⟩ => absurd h0 (Nat.not_lt_zero _)) h, fun A outer s H args us vs Q E _ _ _ _ h => (fun ⟨_, _, _, _, _, _, _, _, _, _, _, _, _, _, _, h0, _⟩ => absurd h0 (Nat.not_lt_zero _)) h⟩
  | n + 1 => ok__law_forked FT T (by omega) F__law_pick F__law_of F__law_mixed (by omega) (F__law_leaves n) ⟨_, _, _, law_forkeds T F__law_pick F__law_of F__law_mixed F__law_leaves FT mT kT bT n, mT, kT, bT⟩
end
/-! ### what the program's top has written -/
theorem all_mk {l : PySem.W.OpenLaw} {w : World} {K : PySem.W.Frag} {h : Heap} {mg : Str → Option Value} {fa C f1 f2 f3 f4 f5 f6 f7 f8 f9 f10 f11 f12 f13 f14 f15 f16 f17 f18 f19 f20 f21 f22 f23 f24 f25 f26 f27 f28 f29 f30 f31 f32 f33 f34 f35 f36 f37 f38 f39 f40 f41 f42 f43 f44 : Addr} (X : K.In h) (G : h.Ns mainGlobals mg) (hfa : mg "law" = some (.ref fa))
    {tL tF : Tok} {od1 an1 od2 an2 od3 an3 od4 an4 od5 an5 od6 an6 od7 an7 od8 an8 od9 an9 od10 an10 od11 an11 od12 an12 od13 an13 od14 an14 od15 an15 od16 an16 od17 an17 od18 an18 od19 an19 od20 an20 od21 an21 od22 an22 od23 an23 od24 an24 od25 an25 od26 an26 od27 an27 od28 an28 od29 an29 od30 an30 od31 an31 od32 an32 od33 an33 od34 an34 od35 an35 od36 an36 od37 an37 od38 an38 od39 an39 od40 an40 od41 an41 od42 an42 od43 an43 od44 an44 : Option Addr} {sl1 sl2 sl3 sl4 sl5 sl6 sl7 sl8 sl9 sl10 sl11 sl12 sl13 sl14 sl15 sl16 sl17 sl18 sl19 sl20 sl21 sl22 sl23 sl24 sl25 sl26 sl27 sl28 sl29 sl30 sl31 sl32 sl33 sl34 sl35 sl36 sl37 sl38 sl39 sl40 sl41 sl42 sl43 sl44 : Array (Option Value)}
    {oc1 kV1 dc1 pm1 cd1 ct1 oc2 kV2 dc2 pm2 cd2 ct2 oc3 kV3 dc3 pm3 cd3 ct3 oc4 kV4 dc4 pm4 cd4 ct4 oc5 kV5 dc5 pm5 cd5 ct5 oc6 kV6 dc6 pm6 cd6 ct6 oc7 kV7 dc7 pm7 cd7 ct7 oc8 kV8 dc8 pm8 cd8 ct8 oc9 kV9 dc9 pm9 cd9 ct9 oc10 kV10 dc10 pm10 cd10 ct10 oc11 kV11 dc11 pm11 cd11 ct11 oc12 kV12 dc12 pm12 cd12 ct12 oc13 kV13 dc13 pm13 cd13 ct13 oc14 kV14 dc14 pm14 cd14 ct14 oc15 kV15 dc15 pm15 cd15 ct15 oc16 kV16 dc16 pm16 cd16 ct16 oc17 kV17 dc17 pm17 cd17 ct17 oc18 kV18 dc18 pm18 cd18 ct18 oc19 kV19 dc19 pm19 cd19 ct19 oc20 kV20 dc20 pm20 cd20 ct20 oc21 kV21 dc21 pm21 cd21 ct21 oc22 kV22 dc22 pm22 cd22 ct22 oc23 kV23 dc23 pm23 cd23 ct23 oc24 kV24 dc24 pm24 cd24 ct24 oc25 kV25 dc25 pm25 cd25 ct25 oc26 kV26 dc26 pm26 cd26 ct26 oc27 kV27 dc27 pm27 cd27 ct27 oc28 kV28 dc28 pm28 cd28 ct28 oc29 kV29 dc29 pm29 cd29 ct29 oc30 kV30 dc30 pm30 cd30 ct30 oc31 kV31 dc31 pm31 cd31 ct31 oc32 kV32 dc32 pm32 cd32 ct32 oc33 kV33 dc33 pm33 cd33 ct33 oc34 kV34 dc34 pm34 cd34 ct34 oc35 kV35 dc35 pm35 cd35 ct35 oc36 kV36 dc36 pm36 cd36 ct36 oc37 kV37 dc37 pm37 cd37 ct37 oc38 kV38 dc38 pm38 cd38 ct38 oc39 kV39 dc39 pm39 cd39 ct39 oc40 kV40 dc40 pm40 cd40 ct40 oc41 kV41 dc41 pm41 cd41 ct41 oc42 kV42 dc42 pm42 cd42 ct42 oc43 kV43 dc43 pm43 cd43 ct43 oc44 kV44 dc44 pm44 cd44 ct44 : Value}
    (aC : PySem.W.nsIn K mainGlobals "Book" = some (some (.ref C)))
    (a1 : PySem.W.findIn K (.ref C) "__init__" = some (some (.ref f1)))
    (i1 : PySem.W.isFn K (.ref f1) = true)
    (l1 : K.lookup f1 = some ⟨oc1, od1, .func (PySem.W.fnOf "__init__" "Book.__init__" (defArgs s_Book___init__) (defBody s_Book___init__) (defScope s_Book___init__) .none kV1 dc1 pm1 an1 cd1 ct1), sl1⟩)
    (c1 : PySem.W.codeIn K cd1 "Book.__init__" = true)
    (k1 : PySem.W.keepIn K (.ref f1) = true)
    (a2 : PySem.W.findIn K (.ref C) "goods" = some (some (.ref f2)))
    (i2 : PySem.W.isFn K (.ref f2) = true)
    (l2 : K.lookup f2 = some ⟨oc2, od2, .func (PySem.W.fnOf "goods" "Book.goods" (defArgs s_Book_goods) (defBody s_Book_goods) (defScope s_Book_goods) .none kV2 dc2 pm2 an2 cd2 ct2), sl2⟩)
    (c2 : PySem.W.codeIn K cd2 "Book.goods" = true)
    (k2 : PySem.W.keepIn K (.ref f2) = true)
    (a3 : PySem.W.findIn K (.ref C) "barters" = some (some (.ref f3)))
    (i3 : PySem.W.isFn K (.ref f3) = true)
    (l3 : K.lookup f3 = some ⟨oc3, od3, .func (PySem.W.fnOf "barters" "Book.barters" (defArgs s_Book_barters) (defBody s_Book_barters) (defScope s_Book_barters) .none kV3 dc3 pm3 an3 cd3 ct3), sl3⟩)
    (c3 : PySem.W.codeIn K cd3 "Book.barters" = true)
    (k3 : PySem.W.keepIn K (.ref f3) = true)
    (a4 : PySem.W.findIn K (.ref C) "names" = some (some (.ref f4)))
    (i4 : PySem.W.isFn K (.ref f4) = true)
    (l4 : K.lookup f4 = some ⟨oc4, od4, .func (PySem.W.fnOf "names" "Book.names" (defArgs s_Book_names) (defBody s_Book_names) (defScope s_Book_names) .none kV4 dc4 pm4 an4 cd4 ct4), sl4⟩)
    (c4 : PySem.W.codeIn K cd4 "Book.names" = true)
    (k4 : PySem.W.keepIn K (.ref f4) = true)
    (a5 : PySem.W.findIn K (.ref C) "good_number" = some (some (.ref f5)))
    (i5 : PySem.W.isFn K (.ref f5) = true)
    (l5 : K.lookup f5 = some ⟨oc5, od5, .func (PySem.W.fnOf "good_number" "Book.good_number" (defArgs s_Book_good_number) (defBody s_Book_good_number) (defScope s_Book_good_number) .none kV5 dc5 pm5 an5 cd5 ct5), sl5⟩)
    (c5 : PySem.W.codeIn K cd5 "Book.good_number" = true)
    (k5 : PySem.W.keepIn K (.ref f5) = true)
    (a6 : PySem.W.findIn K (.ref C) "barter_number" = some (some (.ref f6)))
    (i6 : PySem.W.isFn K (.ref f6) = true)
    (l6 : K.lookup f6 = some ⟨oc6, od6, .func (PySem.W.fnOf "barter_number" "Book.barter_number" (defArgs s_Book_barter_number) (defBody s_Book_barter_number) (defScope s_Book_barter_number) .none kV6 dc6 pm6 an6 cd6 ct6), sl6⟩)
    (c6 : PySem.W.codeIn K cd6 "Book.barter_number" = true)
    (k6 : PySem.W.keepIn K (.ref f6) = true)
    (a7 : PySem.W.findIn K (.ref C) "row" = some (some (.ref f7)))
    (i7 : PySem.W.isFn K (.ref f7) = true)
    (l7 : K.lookup f7 = some ⟨oc7, od7, .func (PySem.W.fnOf "row" "Book.row" (defArgs s_Book_row) (defBody s_Book_row) (defScope s_Book_row) .none kV7 dc7 pm7 an7 cd7 ct7), sl7⟩)
    (c7 : PySem.W.codeIn K cd7 "Book.row" = true)
    (k7 : PySem.W.keepIn K (.ref f7) = true)
    (a8 : PySem.W.findIn K (.ref C) "takes" = some (some (.ref f8)))
    (i8 : PySem.W.isFn K (.ref f8) = true)
    (l8 : K.lookup f8 = some ⟨oc8, od8, .func (PySem.W.fnOf "takes" "Book.takes" (defArgs s_Book_takes) (defBody s_Book_takes) (defScope s_Book_takes) .none kV8 dc8 pm8 an8 cd8 ct8), sl8⟩)
    (c8 : PySem.W.codeIn K cd8 "Book.takes" = true)
    (k8 : PySem.W.keepIn K (.ref f8) = true)
    (a9 : PySem.W.findIn K (.ref C) "gives" = some (some (.ref f9)))
    (i9 : PySem.W.isFn K (.ref f9) = true)
    (l9 : K.lookup f9 = some ⟨oc9, od9, .func (PySem.W.fnOf "gives" "Book.gives" (defArgs s_Book_gives) (defBody s_Book_gives) (defScope s_Book_gives) .none kV9 dc9 pm9 an9 cd9 ct9), sl9⟩)
    (c9 : PySem.W.codeIn K cd9 "Book.gives" = true)
    (k9 : PySem.W.keepIn K (.ref f9) = true)
    (a10 : PySem.W.nsIn K mainGlobals "is_integer" = some (some (.ref f10)))
    (l10 : K.lookup f10 = some ⟨oc10, od10, .func (PySem.W.fnOf "is_integer" "is_integer" (defArgs s_is_integer) (defBody s_is_integer) (defScope s_is_integer) .none kV10 dc10 pm10 an10 cd10 ct10), sl10⟩)
    (c10 : PySem.W.codeIn K cd10 "is_integer" = true)
    (k10 : PySem.W.keepIn K (.ref f10) = true)
    (a11 : PySem.W.nsIn K mainGlobals "is_word" = some (some (.ref f11)))
    (l11 : K.lookup f11 = some ⟨oc11, od11, .func (PySem.W.fnOf "is_word" "is_word" (defArgs s_is_word) (defBody s_is_word) (defScope s_is_word) .none kV11 dc11 pm11 an11 cd11 ct11), sl11⟩)
    (c11 : PySem.W.codeIn K cd11 "is_word" = true)
    (k11 : PySem.W.keepIn K (.ref f11) = true)
    (a12 : PySem.W.nsIn K mainGlobals "is_list" = some (some (.ref f12)))
    (l12 : K.lookup f12 = some ⟨oc12, od12, .func (PySem.W.fnOf "is_list" "is_list" (defArgs s_is_list) (defBody s_is_list) (defScope s_is_list) .none kV12 dc12 pm12 an12 cd12 ct12), sl12⟩)
    (c12 : PySem.W.codeIn K cd12 "is_list" = true)
    (k12 : PySem.W.keepIn K (.ref f12) = true)
    (a13 : PySem.W.nsIn K mainGlobals "is_row" = some (some (.ref f13)))
    (l13 : K.lookup f13 = some ⟨oc13, od13, .func (PySem.W.fnOf "is_row" "is_row" (defArgs s_is_row) (defBody s_is_row) (defScope s_is_row) .none kV13 dc13 pm13 an13 cd13 ct13), sl13⟩)
    (c13 : PySem.W.codeIn K cd13 "is_row" = true)
    (k13 : PySem.W.keepIn K (.ref f13) = true)
    (a14 : PySem.W.nsIn K mainGlobals "is_among" = some (some (.ref f14)))
    (l14 : K.lookup f14 = some ⟨oc14, od14, .func (PySem.W.fnOf "is_among" "is_among" (defArgs s_is_among) (defBody s_is_among) (defScope s_is_among) .none kV14 dc14 pm14 an14 cd14 ct14), sl14⟩)
    (c14 : PySem.W.codeIn K cd14 "is_among" = true)
    (k14 : PySem.W.keepIn K (.ref f14) = true)
    (a15 : PySem.W.nsIn K mainGlobals "wrong_good" = some (some (.ref f15)))
    (l15 : K.lookup f15 = some ⟨oc15, od15, .func (PySem.W.fnOf "wrong_good" "wrong_good" (defArgs s_wrong_good) (defBody s_wrong_good) (defScope s_wrong_good) .none kV15 dc15 pm15 an15 cd15 ct15), sl15⟩)
    (c15 : PySem.W.codeIn K cd15 "wrong_good" = true)
    (k15 : PySem.W.keepIn K (.ref f15) = true)
    (a16 : PySem.W.nsIn K mainGlobals "wrong_entry" = some (some (.ref f16)))
    (l16 : K.lookup f16 = some ⟨oc16, od16, .func (PySem.W.fnOf "wrong_entry" "wrong_entry" (defArgs s_wrong_entry) (defBody s_wrong_entry) (defScope s_wrong_entry) .none kV16 dc16 pm16 an16 cd16 ct16), sl16⟩)
    (c16 : PySem.W.codeIn K cd16 "wrong_entry" = true)
    (k16 : PySem.W.keepIn K (.ref f16) = true)
    (a17 : PySem.W.nsIn K mainGlobals "wrong_barter" = some (some (.ref f17)))
    (l17 : K.lookup f17 = some ⟨oc17, od17, .func (PySem.W.fnOf "wrong_barter" "wrong_barter" (defArgs s_wrong_barter) (defBody s_wrong_barter) (defScope s_wrong_barter) .none kV17 dc17 pm17 an17 cd17 ct17), sl17⟩)
    (c17 : PySem.W.codeIn K cd17 "wrong_barter" = true)
    (k17 : PySem.W.keepIn K (.ref f17) = true)
    (a18 : PySem.W.nsIn K mainGlobals "turned_book" = some (some (.ref f18)))
    (l18 : K.lookup f18 = some ⟨oc18, od18, .func (PySem.W.fnOf "turned_book" "turned_book" (defArgs s_turned_book) (defBody s_turned_book) (defScope s_turned_book) .none kV18 dc18 pm18 an18 cd18 ct18), sl18⟩)
    (c18 : PySem.W.codeIn K cd18 "turned_book" = true)
    (k18 : PySem.W.keepIn K (.ref f18) = true)
    (a19 : PySem.W.nsIn K mainGlobals "part_book" = some (some (.ref f19)))
    (l19 : K.lookup f19 = some ⟨oc19, od19, .func (PySem.W.fnOf "part_book" "part_book" (defArgs s_part_book) (defBody s_part_book) (defScope s_part_book) .none kV19 dc19 pm19 an19 cd19 ct19), sl19⟩)
    (c19 : PySem.W.codeIn K cd19 "part_book" = true)
    (k19 : PySem.W.keepIn K (.ref f19) = true)
    (a20 : PySem.W.nsIn K mainGlobals "hanging" = some (some (.ref f20)))
    (l20 : K.lookup f20 = some ⟨oc20, od20, .func (PySem.W.fnOf "hanging" "hanging" (defArgs s_hanging) (defBody s_hanging) (defScope s_hanging) .none kV20 dc20 pm20 an20 cd20 ct20), sl20⟩)
    (c20 : PySem.W.codeIn K cd20 "hanging" = true)
    (k20 : PySem.W.keepIn K (.ref f20) = true)
    (a21 : PySem.W.nsIn K mainGlobals "joined_lots" = some (some (.ref f21)))
    (l21 : K.lookup f21 = some ⟨oc21, od21, .func (PySem.W.fnOf "joined_lots" "joined_lots" (defArgs s_joined_lots) (defBody s_joined_lots) (defScope s_joined_lots) .none kV21 dc21 pm21 an21 cd21 ct21), sl21⟩)
    (c21 : PySem.W.codeIn K cd21 "joined_lots" = true)
    (k21 : PySem.W.keepIn K (.ref f21) = true)
    (a22 : PySem.W.nsIn K mainGlobals "lot_tree" = some (some (.ref f22)))
    (l22 : K.lookup f22 = some ⟨oc22, od22, .func (PySem.W.fnOf "lot_tree" "lot_tree" (defArgs s_lot_tree) (defBody s_lot_tree) (defScope s_lot_tree) .none kV22 dc22 pm22 an22 cd22 ct22), sl22⟩)
    (c22 : PySem.W.codeIn K cd22 "lot_tree" = true)
    (k22 : PySem.W.keepIn K (.ref f22) = true)
    (a23 : PySem.W.nsIn K mainGlobals "split_tree" = some (some (.ref f23)))
    (l23 : K.lookup f23 = some ⟨oc23, od23, .func (PySem.W.fnOf "split_tree" "split_tree" (defArgs s_split_tree) (defBody s_split_tree) (defScope s_split_tree) .none kV23 dc23 pm23 an23 cd23 ct23), sl23⟩)
    (c23 : PySem.W.codeIn K cd23 "split_tree" = true)
    (k23 : PySem.W.keepIn K (.ref f23) = true)
    (a24 : PySem.W.nsIn K mainGlobals "whole_tree" = some (some (.ref f24)))
    (l24 : K.lookup f24 = some ⟨oc24, od24, .func (PySem.W.fnOf "whole_tree" "whole_tree" (defArgs s_whole_tree) (defBody s_whole_tree) (defScope s_whole_tree) .none kV24 dc24 pm24 an24 cd24 ct24), sl24⟩)
    (c24 : PySem.W.codeIn K cd24 "whole_tree" = true)
    (k24 : PySem.W.keepIn K (.ref f24) = true)
    (a25 : PySem.W.nsIn K mainGlobals "is_good_book" = some (some (.ref f25)))
    (l25 : K.lookup f25 = some ⟨oc25, od25, .func (PySem.W.fnOf "is_good_book" "is_good_book" (defArgs s_is_good_book) (defBody s_is_good_book) (defScope s_is_good_book) .none kV25 dc25 pm25 an25 cd25 ct25), sl25⟩)
    (c25 : PySem.W.codeIn K cd25 "is_good_book" = true)
    (k25 : PySem.W.keepIn K (.ref f25) = true)
    (a26 : PySem.W.nsIn K mainGlobals "_law_source" = some (some (.ref f26)))
    (l26 : K.lookup f26 = some ⟨oc26, od26, .func (PySem.W.fnOf "_law_source" "_law_source" (defArgs s__law_source) (defBody s__law_source) (defScope s__law_source) .none kV26 dc26 pm26 an26 cd26 ct26), sl26⟩)
    (c26 : PySem.W.codeIn K cd26 "_law_source" = true)
    (k26 : PySem.W.keepIn K (.ref f26) = true)
    (a27 : PySem.W.nsIn K mainGlobals "_law_pick" = some (some (.ref f27)))
    (l27 : K.lookup f27 = some ⟨oc27, od27, .func (PySem.W.fnOf "_law_pick" "_law_pick" (defArgs s__law_pick) (defBody s__law_pick) (defScope s__law_pick) .none kV27 dc27 pm27 an27 cd27 ct27), sl27⟩)
    (c27 : PySem.W.codeIn K cd27 "_law_pick" = true)
    (k27 : PySem.W.keepIn K (.ref f27) = true)
    (a28 : PySem.W.nsIn K mainGlobals "_law_of" = some (some (.ref f28)))
    (l28 : K.lookup f28 = some ⟨oc28, od28, .func (PySem.W.fnOf "_law_of" "_law_of" (defArgs s__law_of) (defBody s__law_of) (defScope s__law_of) .none kV28 dc28 pm28 an28 cd28 ct28), sl28⟩)
    (c28 : PySem.W.codeIn K cd28 "_law_of" = true)
    (k28 : PySem.W.keepIn K (.ref f28) = true)
    (a29 : PySem.W.nsIn K mainGlobals "_law_mixed" = some (some (.ref f29)))
    (l29 : K.lookup f29 = some ⟨oc29, od29, .func (PySem.W.fnOf "_law_mixed" "_law_mixed" (defArgs s__law_mixed) (defBody s__law_mixed) (defScope s__law_mixed) .none kV29 dc29 pm29 an29 cd29 ct29), sl29⟩)
    (c29 : PySem.W.codeIn K cd29 "_law_mixed" = true)
    (k29 : PySem.W.keepIn K (.ref f29) = true)
    (a30 : PySem.W.nsIn K mainGlobals "_law_names" = some (some (.ref f30)))
    (l30 : K.lookup f30 = some ⟨oc30, od30, .func (PySem.W.fnOf "_law_names" "_law_names" (defArgs s__law_names) (defBody s__law_names) (defScope s__law_names) .none kV30 dc30 pm30 an30 cd30 ct30), sl30⟩)
    (c30 : PySem.W.codeIn K cd30 "_law_names" = true)
    (k30 : PySem.W.keepIn K (.ref f30) = true)
    (a31 : PySem.W.nsIn K mainGlobals "_law_tree" = some (some (.ref f31)))
    (l31 : K.lookup f31 = some ⟨oc31, od31, .func (PySem.W.fnOf "_law_tree" "_law_tree" (defArgs s__law_tree) (defBody s__law_tree) (defScope s__law_tree) .none kV31 dc31 pm31 an31 cd31 ct31), sl31⟩)
    (c31 : PySem.W.codeIn K cd31 "_law_tree" = true)
    (k31 : PySem.W.keepIn K (.ref f31) = true)
    (a32 : PySem.W.nsIn K mainGlobals "_law_leaves" = some (some (.ref f32)))
    (l32 : K.lookup f32 = some ⟨oc32, od32, .func (PySem.W.fnOf "_law_leaves" "_law_leaves" (defArgs s__law_leaves) (defBody s__law_leaves) (defScope s__law_leaves) .none kV32 dc32 pm32 an32 cd32 ct32), sl32⟩)
    (c32 : PySem.W.codeIn K cd32 "_law_leaves" = true)
    (k32 : PySem.W.keepIn K (.ref f32) = true)
    (a33 : PySem.W.nsIn K mainGlobals "_law_forked" = some (some (.ref f33)))
    (l33 : K.lookup f33 = some ⟨oc33, od33, .func (PySem.W.fnOf "_law_forked" "_law_forked" (defArgs s__law_forked) (defBody s__law_forked) (defScope s__law_forked) .none kV33 dc33 pm33 an33 cd33 ct33), sl33⟩)
    (c33 : PySem.W.codeIn K cd33 "_law_forked" = true)
    (k33 : PySem.W.keepIn K (.ref f33) = true)
    (a34 : PySem.W.nsIn K mainGlobals "_law_made" = some (some (.ref f34)))
    (l34 : K.lookup f34 = some ⟨oc34, od34, .func (PySem.W.fnOf "_law_made" "_law_made" (defArgs s__law_made) (defBody s__law_made) (defScope s__law_made) .none kV34 dc34 pm34 an34 cd34 ct34), sl34⟩)
    (c34 : PySem.W.codeIn K cd34 "_law_made" = true)
    (k34 : PySem.W.keepIn K (.ref f34) = true)
    (a35 : PySem.W.nsIn K mainGlobals "_law_book" = some (some (.ref f35)))
    (l35 : K.lookup f35 = some ⟨oc35, od35, .func (PySem.W.fnOf "_law_book" "_law_book" (defArgs s__law_book) (defBody s__law_book) (defScope s__law_book) .none kV35 dc35 pm35 an35 cd35 ct35), sl35⟩)
    (c35 : PySem.W.codeIn K cd35 "_law_book" = true)
    (k35 : PySem.W.keepIn K (.ref f35) = true)
    (a36 : PySem.W.nsIn K mainGlobals "_law_any_row" = some (some (.ref f36)))
    (l36 : K.lookup f36 = some ⟨oc36, od36, .func (PySem.W.fnOf "_law_any_row" "_law_any_row" (defArgs s__law_any_row) (defBody s__law_any_row) (defScope s__law_any_row) .none kV36 dc36 pm36 an36 cd36 ct36), sl36⟩)
    (c36 : PySem.W.codeIn K cd36 "_law_any_row" = true)
    (k36 : PySem.W.keepIn K (.ref f36) = true)
    (a37 : PySem.W.nsIn K mainGlobals "_law_any_book" = some (some (.ref f37)))
    (l37 : K.lookup f37 = some ⟨oc37, od37, .func (PySem.W.fnOf "_law_any_book" "_law_any_book" (defArgs s__law_any_book) (defBody s__law_any_book) (defScope s__law_any_book) .none kV37 dc37 pm37 an37 cd37 ct37), sl37⟩)
    (c37 : PySem.W.codeIn K cd37 "_law_any_book" = true)
    (k37 : PySem.W.keepIn K (.ref f37) = true)
    (a38 : PySem.W.nsIn K mainGlobals "_law_is_mixed" = some (some (.ref f38)))
    (l38 : K.lookup f38 = some ⟨oc38, od38, .func (PySem.W.fnOf "_law_is_mixed" "_law_is_mixed" (defArgs s__law_is_mixed) (defBody s__law_is_mixed) (defScope s__law_is_mixed) .none kV38 dc38 pm38 an38 cd38 ct38), sl38⟩)
    (c38 : PySem.W.codeIn K cd38 "_law_is_mixed" = true)
    (k38 : PySem.W.keepIn K (.ref f38) = true)
    (a39 : PySem.W.nsIn K mainGlobals "_law_lots_of" = some (some (.ref f39)))
    (l39 : K.lookup f39 = some ⟨oc39, od39, .func (PySem.W.fnOf "_law_lots_of" "_law_lots_of" (defArgs s__law_lots_of) (defBody s__law_lots_of) (defScope s__law_lots_of) .none kV39 dc39 pm39 an39 cd39 ct39), sl39⟩)
    (c39 : PySem.W.codeIn K cd39 "_law_lots_of" = true)
    (k39 : PySem.W.keepIn K (.ref f39) = true)
    (a40 : PySem.W.nsIn K mainGlobals "_law_is_good" = some (some (.ref f40)))
    (l40 : K.lookup f40 = some ⟨oc40, od40, .func (PySem.W.fnOf "_law_is_good" "_law_is_good" (defArgs s__law_is_good) (defBody s__law_is_good) (defScope s__law_is_good) .none kV40 dc40 pm40 an40 cd40 ct40), sl40⟩)
    (c40 : PySem.W.codeIn K cd40 "_law_is_good" = true)
    (k40 : PySem.W.keepIn K (.ref f40) = true)
    (a41 : PySem.W.nsIn K mainGlobals "_law_crossed_book" = some (some (.ref f41)))
    (l41 : K.lookup f41 = some ⟨oc41, od41, .func (PySem.W.fnOf "_law_crossed_book" "_law_crossed_book" (defArgs s__law_crossed_book) (defBody s__law_crossed_book) (defScope s__law_crossed_book) .none kV41 dc41 pm41 an41 cd41 ct41), sl41⟩)
    (c41 : PySem.W.codeIn K cd41 "_law_crossed_book" = true)
    (k41 : PySem.W.keepIn K (.ref f41) = true)
    (a42 : PySem.W.nsIn K mainGlobals "_law_some_book" = some (some (.ref f42)))
    (l42 : K.lookup f42 = some ⟨oc42, od42, .func (PySem.W.fnOf "_law_some_book" "_law_some_book" (defArgs s__law_some_book) (defBody s__law_some_book) (defScope s__law_some_book) .none kV42 dc42 pm42 an42 cd42 ct42), sl42⟩)
    (c42 : PySem.W.codeIn K cd42 "_law_some_book" = true)
    (k42 : PySem.W.keepIn K (.ref f42) = true)
    (a43 : PySem.W.nsIn K mainGlobals "_law_near_worlds" = some (some (.ref f43)))
    (l43 : K.lookup f43 = some ⟨oc43, od43, .func (PySem.W.fnOf "_law_near_worlds" "_law_near_worlds" (defArgs s__law_near_worlds) (defBody s__law_near_worlds) (defScope s__law_near_worlds) .none kV43 dc43 pm43 an43 cd43 ct43), sl43⟩)
    (c43 : PySem.W.codeIn K cd43 "_law_near_worlds" = true)
    (k43 : PySem.W.keepIn K (.ref f43) = true)
    (a44 : PySem.W.nsIn K mainGlobals "law" = some (some (.ref f44)))
    (l44 : K.lookup f44 = some ⟨oc44, od44, .func (PySem.W.fnOf "law" "law" (defArgs s_law) (defBody s_law) (defScope s_law) .none kV44 dc44 pm44 an44 cd44 ct44), sl44⟩)
    (c44 : PySem.W.codeIn K cd44 "law" = true)
    (k44 : PySem.W.keepIn K (.ref f44) = true)
    (pg : PySem.W.plainGet K C Str.empty = true)
    (hd : PySem.W.hasDictIn K C = true)
    (po : PySem.W.plainOver K C = true)
    (sa : PySem.W.findIn K (.ref C) "__setattr__" = some (some (.builtin "object.__setattr__")))
    (mk : PySem.W.makesIn K C = true)
    (kc : PySem.W.keepIn K (.ref C) = true)
    (nG : PySem.W.findIn K (.ref C) "own_goods" = some none)
    (nB : PySem.W.findIn K (.ref C) "own_barters" = some none)
    (z_len : PySem.W.nsIn K mainGlobals "len" = some none)
    (z_range : PySem.W.nsIn K mainGlobals "range" = some none)
    (z_isinstance : PySem.W.nsIn K mainGlobals "isinstance" = some none)
    (z_int : PySem.W.nsIn K mainGlobals "int" = some none)
    (z_bool : PySem.W.nsIn K mainGlobals "bool" = some none)
    (z_abs : PySem.W.nsIn K mainGlobals "abs" = some none)
    (z_max : PySem.W.nsIn K mainGlobals "max" = some none)
    (z_min : PySem.W.nsIn K mainGlobals "min" = some none)
    (z_str : PySem.W.nsIn K mainGlobals "str" = some none)
    (z_list : PySem.W.nsIn K mainGlobals "list" = some none)
    (z_tuple : PySem.W.nsIn K mainGlobals "tuple" = some none)
    (z_dict : PySem.W.nsIn K mainGlobals "dict" = some none)
    (z_any : PySem.W.nsIn K mainGlobals "any" = some none)
    (z_all : PySem.W.nsIn K mainGlobals "all" = some none)
    (z_repr : PySem.W.nsIn K mainGlobals "repr" = some none)
    (z_zip : PySem.W.nsIn K mainGlobals "zip" = some none)
    (z_enumerate : PySem.W.nsIn K mainGlobals "enumerate" = some none)
    (gLET : PySem.W.nsIn K mainGlobals "LETTERS" = some (some (.str "abcdefghijklmnopqrstuvwxyz" tL)))
    (gFIG : PySem.W.nsIn K mainGlobals "FIGURES" = some (some (.str "0123456789" tF)))
    : ∃ fd : FuncData, (∀ (s : Shared) (v : Value), BindsTo s fd ⟨[v], []⟩ [("_law_script", v)]) ∧ ∀ base : Heap, K.In base → base.Ns mainGlobals mg → FnOk l.prog w K mg base CX0 26 fa fd ["_law_script"] (spLaw K) := by
  have e := hfa.symm.trans (PySem.W.mg_of X G a44)
  cases e
  have T : Txt K mg := ⟨PySem.W.mg_none_of X G z_len, PySem.W.mg_none_of X G z_range, PySem.W.mg_none_of X G z_isinstance, PySem.W.mg_none_of X G z_int, PySem.W.mg_none_of X G z_bool, PySem.W.mg_none_of X G z_abs, PySem.W.mg_none_of X G z_max, PySem.W.mg_none_of X G z_min, PySem.W.mg_none_of X G z_str, PySem.W.mg_none_of X G z_list, PySem.W.mg_none_of X G z_tuple, PySem.W.mg_none_of X G z_dict, PySem.W.mg_none_of X G z_any, PySem.W.mg_none_of X G z_all, PySem.W.mg_none_of X G z_repr, PySem.W.mg_none_of X G z_zip, PySem.W.mg_none_of X G z_enumerate, ⟨_, PySem.W.mg_of X G gLET⟩, ⟨_, PySem.W.mg_of X G gFIG⟩⟩
  have CL : Cls K C := ⟨pg, hd, po, sa⟩
  have U : CTxt K C := ⟨CL, nG, nB⟩
  have F1 := fun_mk (st := s_Book___init__) l1 c1 k1
  have b1 := F1.binds (ps := ["self", "goods", "barters"]) fun _ _ _ _ _ _ us hl => match us, hl with | [_, _, _], _ => rfl
  have F2 := fun_mk (st := s_Book_goods) l2 c2 k2
  have b2 := F2.binds (ps := ["self"]) fun _ _ _ _ _ _ us hl => match us, hl with | [_], _ => rfl
  have F3 := fun_mk (st := s_Book_barters) l3 c3 k3
  have b3 := F3.binds (ps := ["self"]) fun _ _ _ _ _ _ us hl => match us, hl with | [_], _ => rfl
  have F4 := fun_mk (st := s_Book_names) l4 c4 k4
  have b4 := F4.binds (ps := ["self"]) fun _ _ _ _ _ _ us hl => match us, hl with | [_], _ => rfl
  have F5 := fun_mk (st := s_Book_good_number) l5 c5 k5
  have b5 := F5.binds (ps := ["self", "good"]) fun _ _ _ _ _ _ us hl => match us, hl with | [_, _], _ => rfl
  have F6 := fun_mk (st := s_Book_barter_number) l6 c6 k6
  have b6 := F6.binds (ps := ["self", "name"]) fun _ _ _ _ _ _ us hl => match us, hl with | [_, _], _ => rfl
  have F7 := fun_mk (st := s_Book_row) l7 c7 k7
  have b7 := F7.binds (ps := ["self", "name"]) fun _ _ _ _ _ _ us hl => match us, hl with | [_, _], _ => rfl
  have F8 := fun_mk (st := s_Book_takes) l8 c8 k8
  have b8 := F8.binds (ps := ["self", "name"]) fun _ _ _ _ _ _ us hl => match us, hl with | [_, _], _ => rfl
  have F9 := fun_mk (st := s_Book_gives) l9 c9 k9
  have b9 := F9.binds (ps := ["self", "name"]) fun _ _ _ _ _ _ us hl => match us, hl with | [_, _], _ => rfl
  have F10 := fun_mk (st := s_is_integer) l10 c10 k10
  have b10 := F10.binds (ps := ["value"]) fun _ _ _ _ _ _ us hl => match us, hl with | [_], _ => rfl
  have F11 := fun_mk (st := s_is_word) l11 c11 k11
  have b11 := F11.binds (ps := ["value"]) fun _ _ _ _ _ _ us hl => match us, hl with | [_], _ => rfl
  have F12 := fun_mk (st := s_is_list) l12 c12 k12
  have b12 := F12.binds (ps := ["value"]) fun _ _ _ _ _ _ us hl => match us, hl with | [_], _ => rfl
  have F13 := fun_mk (st := s_is_row) l13 c13 k13
  have b13 := F13.binds (ps := ["value", "many"]) fun _ _ _ _ _ _ us hl => match us, hl with | [_, _], _ => rfl
  have F14 := fun_mk (st := s_is_among) l14 c14 k14
  have b14 := F14.binds (ps := ["value", "words"]) fun _ _ _ _ _ _ us hl => match us, hl with | [_, _], _ => rfl
  have F15 := fun_mk (st := s_wrong_good) l15 c15 k15
  have b15 := F15.binds (ps := ["goods"]) fun _ _ _ _ _ _ us hl => match us, hl with | [_], _ => rfl
  have F16 := fun_mk (st := s_wrong_entry) l16 c16 k16
  have b16 := F16.binds (ps := ["many", "value"]) fun _ _ _ _ _ _ us hl => match us, hl with | [_, _], _ => rfl
  have F17 := fun_mk (st := s_wrong_barter) l17 c17 k17
  have b17 := F17.binds (ps := ["goods", "barters"]) fun _ _ _ _ _ _ us hl => match us, hl with | [_, _], _ => rfl
  have F18 := fun_mk (st := s_turned_book) l18 c18 k18
  have b18 := F18.binds (ps := ["book", "names"]) fun _ _ _ _ _ _ us hl => match us, hl with | [_, _], _ => rfl
  have F19 := fun_mk (st := s_part_book) l19 c19 k19
  have b19 := F19.binds (ps := ["book", "goods"]) fun _ _ _ _ _ _ us hl => match us, hl with | [_, _], _ => rfl
  have F20 := fun_mk (st := s_hanging) l20 c20 k20
  have b20 := F20.binds (ps := ["goods", "sides"]) fun _ _ _ _ _ _ us hl => match us, hl with | [_, _], _ => rfl
  have F21 := fun_mk (st := s_joined_lots) l21 c21 k21
  have b21 := F21.binds (ps := ["lots", "some"]) fun _ _ _ _ _ _ us hl => match us, hl with | [_, _], _ => rfl
  have F22 := fun_mk (st := s_lot_tree) l22 c22 k22
  have b22 := F22.binds (ps := ["goods", "sides"]) fun _ _ _ _ _ _ us hl => match us, hl with | [_, _], _ => rfl
  have F23 := fun_mk (st := s_split_tree) l23 c23 k23
  have b23 := F23.binds (ps := ["goods", "sides"]) fun _ _ _ _ _ _ us hl => match us, hl with | [_, _], _ => rfl
  have F24 := fun_mk (st := s_whole_tree) l24 c24 k24
  have b24 := F24.binds (ps := ["book"]) fun _ _ _ _ _ _ us hl => match us, hl with | [_], _ => rfl
  have F25 := fun_mk (st := s_is_good_book) l25 c25 k25
  have b25 := F25.binds (ps := ["book"]) fun _ _ _ _ _ _ us hl => match us, hl with | [_], _ => rfl
  have F26 := fun_mk (st := s__law_source) l26 c26 k26
  have b26 := F26.binds (ps := ["_law_script"]) fun _ _ _ _ _ _ us hl => match us, hl with | [_], _ => rfl
  have F27 := fun_mk (st := s__law_pick) l27 c27 k27
  have b27 := F27.binds (ps := ["_law_source_here", "_law_many"]) fun _ _ _ _ _ _ us hl => match us, hl with | [_, _], _ => rfl
  have F28 := fun_mk (st := s__law_of) l28 c28 k28
  have b28 := F28.binds (ps := ["_law_source_here", "_law_some"]) fun _ _ _ _ _ _ us hl => match us, hl with | [_, _], _ => rfl
  have F29 := fun_mk (st := s__law_mixed) l29 c29 k29
  have b29 := F29.binds (ps := ["_law_source_here", "_law_things"]) fun _ _ _ _ _ _ us hl => match us, hl with | [_, _], _ => rfl
  have F30 := fun_mk (st := s__law_names) l30 c30 k30
  have b30 := F30.binds (ps := ["_law_source_here", "_law_many"]) fun _ _ _ _ _ _ us hl => match us, hl with | [_, _], _ => rfl
  have F31 := fun_mk (st := s__law_tree) l31 c31 k31
  have b31 := F31.binds (ps := ["_law_source_here", "_law_goods"]) fun _ _ _ _ _ _ us hl => match us, hl with | [_, _], _ => rfl
  have F32 := fun_mk (st := s__law_leaves) l32 c32 k32
  have b32 := F32.binds (ps := ["_law_tree_here"]) fun _ _ _ _ _ _ us hl => match us, hl with | [_], _ => rfl
  have F33 := fun_mk (st := s__law_forked) l33 c33 k33
  have b33 := F33.binds (ps := ["_law_source_here", "_law_tree_here", "_law_goods", "_law_share", "_law_rows"]) fun _ _ _ _ _ _ us hl => match us, hl with | [_, _, _, _, _], _ => rfl
  have F34 := fun_mk (st := s__law_made) l34 c34 k34
  have b34 := F34.binds (ps := ["_law_goods", "_law_barters"]) fun _ _ _ _ _ _ us hl => match us, hl with | [_, _], _ => rfl
  have F35 := fun_mk (st := s__law_book) l35 c35 k35
  have b35 := F35.binds (ps := ["_law_source_here", "_law_most"]) fun _ _ _ _ _ _ us hl => match us, hl with | [_, _], _ => rfl
  have F36 := fun_mk (st := s__law_any_row) l36 c36 k36
  have b36 := F36.binds (ps := ["_law_source_here", "_law_size"]) fun _ _ _ _ _ _ us hl => match us, hl with | [_, _], _ => rfl
  have F37 := fun_mk (st := s__law_any_book) l37 c37 k37
  have b37 := F37.binds (ps := ["_law_source_here", "_law_most"]) fun _ _ _ _ _ _ us hl => match us, hl with | [_, _], _ => rfl
  have F38 := fun_mk (st := s__law_is_mixed) l38 c38 k38
  have b38 := F38.binds (ps := ["_law_row", "_law_places"]) fun _ _ _ _ _ _ us hl => match us, hl with | [_, _], _ => rfl
  have F39 := fun_mk (st := s__law_lots_of) l39 c39 k39
  have b39 := F39.binds (ps := ["_law_many"]) fun _ _ _ _ _ _ us hl => match us, hl with | [_], _ => rfl
  have F40 := fun_mk (st := s__law_is_good) l40 c40 k40
  have b40 := F40.binds (ps := ["_law_world"]) fun _ _ _ _ _ _ us hl => match us, hl with | [_], _ => rfl
  have F41 := fun_mk (st := s__law_crossed_book) l41 c41 k41
  have b41 := F41.binds (ps := ["_law_source_here", "_law_most"]) fun _ _ _ _ _ _ us hl => match us, hl with | [_, _], _ => rfl
  have F42 := fun_mk (st := s__law_some_book) l42 c42 k42
  have b42 := F42.binds (ps := ["_law_source_here", "_law_most"]) fun _ _ _ _ _ _ us hl => match us, hl with | [_, _], _ => rfl
  have F43 := fun_mk (st := s__law_near_worlds) l43 c43 k43
  have b43 := F43.binds (ps := ["_law_source_here", "_law_world"]) fun _ _ _ _ _ _ us hl => match us, hl with | [_, _], _ => rfl
  have F44 := fun_mk (st := s_law) l44 c44 k44
  refine ⟨PySem.W.fnOf "law" "law" (defArgs s_law) (defBody s_law) (defScope s_law) .none kV44 dc44 pm44 an44 cd44 ct44, fun s v => .of_eq rfl, fun base _ _ => ?_⟩
  have H10 : Has l.prog w K mg base 1 "is_integer" spIsInt := ⟨f10, _, _, ok_is_integer F10 T, PySem.W.mg_of X G a10, k10, b10⟩
  have H11 : Has l.prog w K mg base 1 "is_word" spIsWord := ⟨f11, _, _, ok_is_word F11 T, PySem.W.mg_of X G a11, k11, b11⟩
  have H12 : Has l.prog w K mg base 1 "is_list" spIsList := ⟨f12, _, _, ok_is_list F12 T, PySem.W.mg_of X G a12, k12, b12⟩
  have H13 : Has l.prog w K mg base 1 "is_row" (spIsRow K) := ⟨f13, _, _, ok_is_row F13 T, PySem.W.mg_of X G a13, k13, b13⟩
  have H14 : Has l.prog w K mg base 2 "is_among" (spIsAmong K) := ⟨f14, _, _, ok_is_among F14 T H11, PySem.W.mg_of X G a14, k14, b14⟩
  have H15 : Has l.prog w K mg base 2 "wrong_good" spWrongGood := ⟨f15, _, _, ok_wrong_good F15 T H11 H12, PySem.W.mg_of X G a15, k15, b15⟩
  have H16 : Has l.prog w K mg base 2 "wrong_entry" spWrongEntry := ⟨f16, _, _, ok_wrong_entry F16 T H13 H10, PySem.W.mg_of X G a16, k16, b16⟩
  have H17 : Has l.prog w K mg base 3 "wrong_barter" spWrongBarter := ⟨f17, _, _, ok_wrong_barter F17 T H12 H13 H11 H16, PySem.W.mg_of X G a17, k17, b17⟩
  have HB : HasC l.prog w K mg base C 4 "Book" (spInit C) := ⟨f1, _, _, ⟨mk, a1, i1, kc⟩, ok_init F1 T U H15 H17, PySem.W.mg_of X G aC, b1⟩
  have H2 : HasM l.prog w K mg base C 1 "goods" (spGoods C) := ⟨f2, _, _, ok_goods F2 T U, CL, ⟨a2, i2, k2⟩, b2⟩
  have H3 : HasM l.prog w K mg base C 1 "barters" (spBarters C) := ⟨f3, _, _, ok_barters F3 T U, CL, ⟨a3, i3, k3⟩, b3⟩
  have H4 : HasM l.prog w K mg base C 1 "names" (spNames C) := ⟨f4, _, _, ok_names F4 T U, CL, ⟨a4, i4, k4⟩, b4⟩
  have H5 : HasM l.prog w K mg base C 3 "good_number" (spGoodNumber C) := ⟨f5, _, _, ok_good_number F5 T U H14, CL, ⟨a5, i5, k5⟩, b5⟩
  have H6 : HasM l.prog w K mg base C 3 "barter_number" (spBarterNumber C) := ⟨f6, _, _, ok_barter_number F6 T H14 H4, CL, ⟨a6, i6, k6⟩, b6⟩
  have H7 : HasM l.prog w K mg base C 4 "row" (spRow C) := ⟨f7, _, _, ok_row F7 T U H6, CL, ⟨a7, i7, k7⟩, b7⟩
  have H8 : HasM l.prog w K mg base C 5 "takes" (spSide (fun e => decide (e < 0)) C) := ⟨f8, _, _, ok_takes F8 T U H7, CL, ⟨a8, i8, k8⟩, b8⟩
  have H9 : HasM l.prog w K mg base C 5 "gives" (spSide (fun e => decide (0 < e)) C) := ⟨f9, _, _, ok_gives F9 T U H7, CL, ⟨a9, i9, k9⟩, b9⟩
  have H18 : Has l.prog w K mg base 6 "turned_book" (spTurned C) := ⟨f18, _, _, ok_turned_book F18 T HB H2 H3 H6, PySem.W.mg_of X G a18, k18, b18⟩
  have H19 : Has l.prog w K mg base 6 "part_book" (spPart C) := ⟨f19, _, _, ok_part_book F19 T HB H2 H3 H5 H16, PySem.W.mg_of X G a19, k19, b19⟩
  have H20 : Has l.prog w K mg base 1 "hanging" spHanging := ⟨f20, _, _, ok_hanging F20 T, PySem.W.mg_of X G a20, k20, b20⟩
  have H21 : Has l.prog w K mg base 1 "joined_lots" spJoined := ⟨f21, _, _, ok_joined_lots F21 T, PySem.W.mg_of X G a21, k21, b21⟩
  have TR := (trees T H20 H21 F22 (PySem.W.mg_of X G a22) k22 b22 F23 (PySem.W.mg_of X G a23) k23 b23 10).2
  have H23 : Has l.prog w K mg base 23 "split_tree" (spSplit 10) := ⟨f23, _, _, TR, PySem.W.mg_of X G a23, k23, b23⟩
  have H24 : Has l.prog w K mg base 24 "whole_tree" (spWhole 10 C) := ⟨f24, _, _, ok_whole_tree F24 T (by decide) H2 H4 H9 H8 H23, PySem.W.mg_of X G a24, k24, b24⟩
  have H25 : Has l.prog w K mg base 25 "is_good_book" (spIsGood 10 C) := ⟨f25, _, _, ok_is_good_book F25 T H24, PySem.W.mg_of X G a25, k25, b25⟩
  have H26 : Has l.prog w K mg base 1 "_law_source" (spSource K) := ⟨f26, _, _, ok__law_source F26 T, PySem.W.mg_of X G a26, k26, b26⟩
  have H27 : Has l.prog w K mg base 1 "_law_pick" spPick := ⟨f27, _, _, ok__law_pick F27 T, PySem.W.mg_of X G a27, k27, b27⟩
  have H28 : Has l.prog w K mg base 2 "_law_of" spOf := ⟨f28, _, _, ok__law_of F28 T H27, PySem.W.mg_of X G a28, k28, b28⟩
  have H29 : Has l.prog w K mg base 2 "_law_mixed" spMixed := ⟨f29, _, _, ok__law_mixed F29 T H27, PySem.W.mg_of X G a29, k29, b29⟩
  have H30 : Has l.prog w K mg base 2 "_law_names" spLawNames := ⟨f30, _, _, ok__law_names F30 T H27, PySem.W.mg_of X G a30, k30, b30⟩
  have H31 : Has l.prog w K mg base 12 "_law_tree" (spTree 10) := ⟨f31, _, _, law_trees T H27 H29 F31 (PySem.W.mg_of X G a31) k31 b31 10, PySem.W.mg_of X G a31, k31, b31⟩
  have HL : ∀ n : Nat, Has l.prog w K mg base (n + 1) "_law_leaves" (spLeaves n) := fun n => ⟨f32, _, _, law_leavess T F32 (PySem.W.mg_of X G a32) k32 b32 n, PySem.W.mg_of X G a32, k32, b32⟩
  have H33 : Has l.prog w K mg base 12 "_law_forked" (spForked 10) := ⟨f33, _, _, law_forkeds T H27 H28 H29 HL F33 (PySem.W.mg_of X G a33) k33 b33 10, PySem.W.mg_of X G a33, k33, b33⟩
  have H34 : Has l.prog w K mg base 6 "_law_made" (spMade C) := ⟨f34, _, _, ok__law_made F34 T HB, PySem.W.mg_of X G a34, k34, b34⟩
  have H35 : Has l.prog w K mg base 13 "_law_book" (spWorld C 1 10) := ⟨f35, _, _, ok__law_book (k := 12) F35 T (by decide) H27 H28 H29 H30 (by decide) (by decide) H31 H33 H34, PySem.W.mg_of X G a35, k35, b35⟩
  have H36 : Has l.prog w K mg base 3 "_law_any_row" spAnyRow := ⟨f36, _, _, ok__law_any_row F36 T H27 H28 H29, PySem.W.mg_of X G a36, k36, b36⟩
  have H37 : Has l.prog w K mg base 7 "_law_any_book" (spWorld C 2 10) := ⟨f37, _, _, ok__law_any_book F37 T H27 H30 H36 H34, PySem.W.mg_of X G a37, k37, b37⟩
  have H38 : Has l.prog w K mg base 1 "_law_is_mixed" spIsMixed := ⟨f38, _, _, ok__law_is_mixed F38 T, PySem.W.mg_of X G a38, k38, b38⟩
  have H39 : Has l.prog w K mg base 1 "_law_lots_of" spLotsOf := ⟨f39, _, _, ok__law_lots_of F39 T, PySem.W.mg_of X G a39, k39, b39⟩
  have H40 : Has l.prog w K mg base 2 "_law_is_good" (spLawGood C) := ⟨f40, _, _, ok__law_is_good F40 T H39 H38, PySem.W.mg_of X G a40, k40, b40⟩
  have H41 : Has l.prog w K mg base 7 "_law_crossed_book" (spWorld C 2 7) := ⟨f41, _, _, ok__law_crossed_book F41 T H27 H28 H29 H30 H36 H34, PySem.W.mg_of X G a41, k41, b41⟩
  have H42 : Has l.prog w K mg base 14 "_law_some_book" (spWorld C 10 10) := ⟨f42, _, _, ok__law_some_book (k := 13) F42 T (by decide) (by decide) H27 H35 H37 H41 H34, PySem.W.mg_of X G a42, k42, b42⟩
  have H43 : Has l.prog w K mg base 7 "_law_near_worlds" (spNear C) := ⟨f43, _, _, ok__law_near_worlds F43 T H27 H28 H36 H34, PySem.W.mg_of X G a43, k43, b43⟩
  exact ok_law (k := 25) F44 T (by decide) (by decide) (by decide) (by decide) H26 H27 H42 H41 H35 H40 H43 H25 H18 H19 H4 HB
theorem walk {l : PySem.W.OpenLaw} {q : Program} {loose : List Str} {XP : (Str → Option Value) → Heap → Prop} {YP : World → Heap → Prop} {d : DefRec} {K : Params → PySem.W.Frag} (hn : l.most = some 63) (hdf : d.params.defaults = [])
    (hY : ∀ (w : World) (h : Heap), YP w h → (K w.params).In h)
    (F : ∀ (w : World) (mg : Str → Option Value) (fa : Addr) (h : Heap), (K w.params).In h → h.Ns mainGlobals mg → mg d.name = some (.ref fa) →
      ∃ fd : FuncData, (∀ (s : Shared) (u : Value), BindsTo s fd ⟨[u], []⟩ [("_law_script", u)]) ∧ ∀ base : Heap, (K w.params).In base → base.Ns mainGlobals mg → FnOk l.prog w (K w.params) mg base CX0 26 fa fd ["_law_script"] (spLaw (K w.params))) :
    PySem.W.WalkO q loose XP YP l.row.toRowW d [] (fun f vs => PySem.call f vs) :=
  L2.walk_of (n := 63) (k := 26) (x := "_law_script") (CX := fun _ => CX0) (sp := fun w => spLaw (K w.params)) hn (by decide) hdf ⟨rfl, by decide, by decide⟩ hY F (fun _ _ a ns hl _ hS => ⟨a, ns, rfl, hS, hl, fun _ => rfl⟩) fun _ _ _ _ _ z => z
end K16

open PySem PySem.W PyProof.Rows in
set_option maxRecDepth 100000 in
set_option maxHeartbeats 0 in
theorem PySem.Challenge.cw_eitherbarter_k16_whole_good_or_not_holds : PySem.Challenge.rw_eitherbarter_k16_whole_good_or_not.Holds := by
  w_on; o_law; k_head; (case hw => w_witness2)
  k_fill
  refine K16.walk (l := PySem.Challenge.rw_eitherbarter_k16_whole_good_or_not) rfl rfl (fun w h Y => PySem.W.kIn_of Y) ?F
  case F =>
    intro w mg fa h KX G hmg
    refine' K16.all_mk KX G hmg ?aC ?a1 ?i1 ?l1 ?c1 ?k1 ?a2 ?i2 ?l2 ?c2 ?k2 ?a3 ?i3 ?l3 ?c3 ?k3 ?a4 ?i4 ?l4 ?c4 ?k4 ?a5 ?i5 ?l5 ?c5 ?k5 ?a6 ?i6 ?l6 ?c6 ?k6 ?a7 ?i7 ?l7 ?c7 ?k7 ?a8 ?i8 ?l8 ?c8 ?k8 ?a9 ?i9 ?l9 ?c9 ?k9 ?a10 ?l10 ?c10 ?k10 ?a11 ?l11 ?c11 ?k11 ?a12 ?l12 ?c12 ?k12 ?a13 ?l13 ?c13 ?k13 ?a14 ?l14 ?c14 ?k14 ?a15 ?l15 ?c15 ?k15 ?a16 ?l16 ?c16 ?k16 ?a17 ?l17 ?c17 ?k17 ?a18 ?l18 ?c18 ?k18 ?a19 ?l19 ?c19 ?k19 ?a20 ?l20 ?c20 ?k20 ?a21 ?l21 ?c21 ?k21 ?a22 ?l22 ?c22 ?k22 ?a23 ?l23 ?c23 ?k23 ?a24 ?l24 ?c24 ?k24 ?a25 ?l25 ?c25 ?k25 ?a26 ?l26 ?c26 ?k26 ?a27 ?l27 ?c27 ?k27 ?a28 ?l28 ?c28 ?k28 ?a29 ?l29 ?c29 ?k29 ?a30 ?l30 ?c30 ?k30 ?a31 ?l31 ?c31 ?k31 ?a32 ?l32 ?c32 ?k32 ?a33 ?l33 ?c33 ?k33 ?a34 ?l34 ?c34 ?k34 ?a35 ?l35 ?c35 ?k35 ?a36 ?l36 ?c36 ?k36 ?a37 ?l37 ?c37 ?k37 ?a38 ?l38 ?c38 ?k38 ?a39 ?l39 ?c39 ?k39 ?a40 ?l40 ?c40 ?k40 ?a41 ?l41 ?c41 ?k41 ?a42 ?l42 ?c42 ?k42 ?a43 ?l43 ?c43 ?k43 ?a44 ?l44 ?c44 ?k44 ?pg ?hd ?po ?sa ?mk ?kc ?nG ?nB ?z_len ?z_range ?z_isinstance ?z_int ?z_bool ?z_abs ?z_max ?z_min ?z_str ?z_list ?z_tuple ?z_dict ?z_any ?z_all ?z_repr ?z_zip ?z_enumerate ?gLET ?gFIG
    (case aC => k_is)
    (case a1 => k_is)
    (case i1 => k_is)
    (case l1 => k_is)
    (case c1 => k_is)
    (case k1 => k_is)
    (case a2 => k_is)
    (case i2 => k_is)
    (case l2 => k_is)
    (case c2 => k_is)
    (case k2 => k_is)
    (case a3 => k_is)
    (case i3 => k_is)
    (case l3 => k_is)
    (case c3 => k_is)
    (case k3 => k_is)
    (case a4 => k_is)
    (case i4 => k_is)
    (case l4 => k_is)
    (case c4 => k_is)
    (case k4 => k_is)
    (case a5 => k_is)
    (case i5 => k_is)
    (case l5 => k_is)
    (case c5 => k_is)
    (case k5 => k_is)
    (case a6 => k_is)
    (case i6 => k_is)
    (case l6 => k_is)
    (case c6 => k_is)
    (case k6 => k_is)
    (case a7 => k_is)
    (case i7 => k_is)
    (case l7 => k_is)
    (case c7 => k_is)
    (case k7 => k_is)
    (case a8 => k_is)
    (case i8 => k_is)
    (case l8 => k_is)
    (case c8 => k_is)
    (case k8 => k_is)
    (case a9 => k_is)
    (case i9 => k_is)
    (case l9 => k_is)
    (case c9 => k_is)
    (case k9 => k_is)
    (case a10 => k_is)
    (case l10 => k_is)
    (case c10 => k_is)
    (case k10 => k_is)
    (case a11 => k_is)
    (case l11 => k_is)
    (case c11 => k_is)
    (case k11 => k_is)
    (case a12 => k_is)
    (case l12 => k_is)
    (case c12 => k_is)
    (case k12 => k_is)
    (case a13 => k_is)
    (case l13 => k_is)
    (case c13 => k_is)
    (case k13 => k_is)
    (case a14 => k_is)
    (case l14 => k_is)
    (case c14 => k_is)
    (case k14 => k_is)
    (case a15 => k_is)
    (case l15 => k_is)
    (case c15 => k_is)
    (case k15 => k_is)
    (case a16 => k_is)
    (case l16 => k_is)
    (case c16 => k_is)
    (case k16 => k_is)
    (case a17 => k_is)
    (case l17 => k_is)
    (case c17 => k_is)
    (case k17 => k_is)
    (case a18 => k_is)
    (case l18 => k_is)
    (case c18 => k_is)
    (case k18 => k_is)
    (case a19 => k_is)
    (case l19 => k_is)
    (case c19 => k_is)
    (case k19 => k_is)
    (case a20 => k_is)
    (case l20 => k_is)
    (case c20 => k_is)
    (case k20 => k_is)
    (case a21 => k_is)
    (case l21 => k_is)
    (case c21 => k_is)
    (case k21 => k_is)
    (case a22 => k_is)
    (case l22 => k_is)
    (case c22 => k_is)
    (case k22 => k_is)
    (case a23 => k_is)
    (case l23 => k_is)
    (case c23 => k_is)
    (case k23 => k_is)
    (case a24 => k_is)
    (case l24 => k_is)
    (case c24 => k_is)
    (case k24 => k_is)
    (case a25 => k_is)
    (case l25 => k_is)
    (case c25 => k_is)
    (case k25 => k_is)
    (case a26 => k_is)
    (case l26 => k_is)
    (case c26 => k_is)
    (case k26 => k_is)
    (case a27 => k_is)
    (case l27 => k_is)
    (case c27 => k_is)
    (case k27 => k_is)
    (case a28 => k_is)
    (case l28 => k_is)
    (case c28 => k_is)
    (case k28 => k_is)
    (case a29 => k_is)
    (case l29 => k_is)
    (case c29 => k_is)
    (case k29 => k_is)
    (case a30 => k_is)
    (case l30 => k_is)
    (case c30 => k_is)
    (case k30 => k_is)
    (case a31 => k_is)
    (case l31 => k_is)
    (case c31 => k_is)
    (case k31 => k_is)
    (case a32 => k_is)
    (case l32 => k_is)
    (case c32 => k_is)
    (case k32 => k_is)
    (case a33 => k_is)
    (case l33 => k_is)
    (case c33 => k_is)
    (case k33 => k_is)
    (case a34 => k_is)
    (case l34 => k_is)
    (case c34 => k_is)
    (case k34 => k_is)
    (case a35 => k_is)
    (case l35 => k_is)
    (case c35 => k_is)
    (case k35 => k_is)
    (case a36 => k_is)
    (case l36 => k_is)
    (case c36 => k_is)
    (case k36 => k_is)
    (case a37 => k_is)
    (case l37 => k_is)
    (case c37 => k_is)
    (case k37 => k_is)
    (case a38 => k_is)
    (case l38 => k_is)
    (case c38 => k_is)
    (case k38 => k_is)
    (case a39 => k_is)
    (case l39 => k_is)
    (case c39 => k_is)
    (case k39 => k_is)
    (case a40 => k_is)
    (case l40 => k_is)
    (case c40 => k_is)
    (case k40 => k_is)
    (case a41 => k_is)
    (case l41 => k_is)
    (case c41 => k_is)
    (case k41 => k_is)
    (case a42 => k_is)
    (case l42 => k_is)
    (case c42 => k_is)
    (case k42 => k_is)
    (case a43 => k_is)
    (case l43 => k_is)
    (case c43 => k_is)
    (case k43 => k_is)
    (case a44 => k_is)
    (case l44 => k_is)
    (case c44 => k_is)
    (case k44 => k_is)
    (case pg => k_is)
    (case hd => k_is)
    (case po => k_is)
    (case sa => k_is)
    (case mk => k_is)
    (case kc => k_is)
    (case nG => k_is)
    (case nB => k_is)
    (case z_len => k_is)
    (case z_range => k_is)
    (case z_isinstance => k_is)
    (case z_int => k_is)
    (case z_bool => k_is)
    (case z_abs => k_is)
    (case z_max => k_is)
    (case z_min => k_is)
    (case z_str => k_is)
    (case z_list => k_is)
    (case z_tuple => k_is)
    (case z_dict => k_is)
    (case z_any => k_is)
    (case z_all => k_is)
    (case z_repr => k_is)
    (case z_zip => k_is)
    (case z_enumerate => k_is)
    (case gLET => k_is)
    (case gFIG => k_is)

import PyProof.Rows.All
import Wide.All
import OpenK.AllK
import Wide.FinOn
import HandS.ForMost
import HandS.Strs
import HandS.Deep
import HandS.Walk
import KE.GoesEnum
import KE.GoesMore
import KE.KeyNested
import KE.KDictKeyed
import HandS.Exc
import HandS.ExcOwn
import HandS.TryMany
import HandS.ExcCtx
import HandS.Hot
import HandS.HotCalls
import HandS.IsInst
import HandS.WordsExc
import HandS.ExcIs
import PySem.Challenge.RW_maieutic_k04_whole_side_by_side
/-! K04Math: the plain laws of machines, their classes, and two machines side by side. No program in sight. -/
namespace K04

/-! ### lists: first places -/
section
variable {α : Type} [BEq α] [LawfulBEq α]
/-- each item's first place -/
def firsts (L : List α) : List Nat := L.map fun x => L.idxOf x
omit [LawfulBEq α] in
theorem firsts_len (L : List α) : (firsts L).length = L.length := by simp [firsts]
omit [LawfulBEq α] in
theorem firsts_get {L : List α} {i : Nat} {x : α} (h : L[i]? = some x) : (firsts L)[i]? = some (L.idxOf x) := by
  simp [firsts, h]
omit [BEq α] [LawfulBEq α] in
theorem mem_of_get {L : List α} {i : Nat} {x : α} (h : L[i]? = some x) : x ∈ L := List.mem_of_getElem? h
theorem idxOf_lt {L : List α} {x : α} (h : x ∈ L) : L.idxOf x < L.length := List.idxOf_lt_length_iff.mpr h
theorem idxOf_get {L : List α} {x : α} (h : x ∈ L) : L[L.idxOf x]? = some x := by
  rw [List.getElem?_eq_getElem (idxOf_lt h), List.getElem_idxOf]
theorem idxOf_le {L : List α} {x : α} : ∀ {i : Nat}, L[i]? = some x → L.idxOf x ≤ i := by
  induction L with
  | nil => intro i h; simp at h
  | cons a r ih =>
    intro i h
    rw [List.idxOf_cons]
    cases hb : a == x with
    | true => simp
    | false =>
      simp only [cond_false]
      cases i with
      | zero =>
        have : a = x := by simpa using h
        rw [this] at hb
        simp at hb
      | succ i =>
        have := ih (i := i) (by simpa using h)
        omega
theorem idxOf_prefix {L M : List α} {x : α} (h : x ∈ L) : (L ++ M).idxOf x = L.idxOf x := by
  rw [List.idxOf_append, if_pos h]
theorem idxOf_new {L M : List α} {x : α} (h : x ∉ L) : (L ++ x :: M).idxOf x = L.length := by
  rw [List.idxOf_append, if_neg h]
  simp
theorem idxOf_nd {L : List α} (nd : L.Nodup) {i : Nat} {x : α} (h : L[i]? = some x) : L.idxOf x = i := by
  have hx := mem_of_get h
  have e := idxOf_get hx
  have hi : i < L.length := (List.getElem?_eq_some_iff.mp h).1
  have h1 : L[L.idxOf x]'(idxOf_lt hx) = L[i] := by
    rw [List.getElem?_eq_getElem (idxOf_lt hx)] at e
    rw [List.getElem?_eq_getElem hi] at h
    exact (Option.some.inj e).trans (Option.some.inj h).symm
  exact (List.getElem_inj nd).mp h1

/-! ### a list that grows by what it lacks -/
def grow1 (o : List α) (p : α) : List α := if p ∈ o then o else o ++ [p]
def grow (o l : List α) : List α := l.foldl grow1 o
theorem grow_nil (o : List α) : grow o [] = o := rfl
theorem grow_cons (o : List α) (p : α) (l : List α) : grow o (p :: l) = grow (grow1 o p) l := rfl
theorem grow_append (o l m : List α) : grow o (l ++ m) = grow (grow o l) m := by simp [grow, List.foldl_append]
theorem grow_snoc (o l : List α) (p : α) : grow o (l ++ [p]) = grow1 (grow o l) p := by rw [grow_append]; rfl
theorem grow1_pre (o : List α) (p : α) : o <+: grow1 o p := by
  unfold grow1
  split
  · exact List.prefix_refl _
  · exact List.prefix_append _ _
theorem grow_pre (l : List α) : ∀ o : List α, o <+: grow o l := by
  induction l with
  | nil => intro o; exact List.prefix_refl _
  | cons p l ih => intro o; exact (grow1_pre o p).trans (ih _)
theorem mem_grow1 {o : List α} {p x : α} : x ∈ grow1 o p ↔ x ∈ o ∨ x = p := by
  unfold grow1
  split
  · rename_i h
    constructor
    · exact .inl
    · rintro (h' | rfl)
      · exact h'
      · exact h
  · simp
theorem mem_grow {l : List α} : ∀ {o : List α} {x : α}, x ∈ grow o l ↔ x ∈ o ∨ x ∈ l := by
  induction l with
  | nil => intro o x; simp [grow]
  | cons p l ih =>
    intro o x
    rw [grow_cons, ih, mem_grow1, List.mem_cons]
    constructor
    · rintro ((h | h) | h)
      · exact .inl h
      · exact .inr (.inl h)
      · exact .inr (.inr h)
    · rintro (h | h | h)
      · exact .inl (.inl h)
      · exact .inl (.inr h)
      · exact .inr h
theorem grow1_nd {o : List α} {p : α} (h : o.Nodup) : (grow1 o p).Nodup := by
  unfold grow1
  split
  · exact h
  · rename_i hp
    rw [List.nodup_append]
    refine ⟨h, by simp, fun a ha b hb e => ?_⟩
    simp at hb
    subst hb
    exact hp (e ▸ ha)
theorem grow_nd {l : List α} : ∀ {o : List α}, o.Nodup → (grow o l).Nodup := by
  induction l with
  | nil => intro o h; exact h
  | cons p l ih => intro o h; exact ih (grow1_nd h)
theorem idxOf_pre {L M : List α} {x : α} (p : L <+: M) (h : x ∈ L) : M.idxOf x = L.idxOf x := by
  obtain ⟨t, rfl⟩ := p
  exact idxOf_prefix h
omit [BEq α] [LawfulBEq α] in
theorem get_pre {L M : List α} {x : α} {i : Nat} (p : L <+: M) (h : L[i]? = some x) : M[i]? = some x := by
  obtain ⟨t, rfl⟩ := p
  rw [List.getElem?_append_left (List.getElem?_eq_some_iff.mp h).1, h]
end

theorem grow_len {α : Type} [BEq α] [LawfulBEq α] (o l : List α) : (grow o l).length ≤ o.length + l.length := by
  induction l generalizing o with
  | nil => exact Nat.le_refl _
  | cons p l ih =>
    have h1 : (grow1 o p).length ≤ o.length + 1 := by
      unfold grow1
      split
      · omega
      · simp
    have := ih (grow1 o p)
    rw [grow_cons, List.length_cons]
    omega
/-- no more different items than the list that bears them all -/
theorem nd_le {α : Type} [BEq α] [LawfulBEq α] : ∀ {l m : List α}, l.Nodup → (∀ x ∈ l, x ∈ m) → l.length ≤ m.length
  | [], _, _, _ => Nat.zero_le _
  | a :: l, m, nd, h => by
    have hm : a ∈ m := h a List.mem_cons_self
    have nd' := List.nodup_cons.mp nd
    have := nd_le (l := l) (m := m.erase a) nd'.2 fun x hx => by
      have hne : x ≠ a := fun e => nd'.1 (e ▸ hx)
      exact (List.mem_erase_of_ne hne).mpr (h x (List.mem_cons_of_mem _ hx))
    rw [List.length_erase_of_mem hm] at this
    have : 0 < m.length := List.length_pos_of_mem hm
    rw [List.length_cons]
    omega
/-- all pairs below a and b -/
def allPairs (a b : Nat) : List (Nat × Nat) := (List.range a).flatMap fun i => (List.range b).map fun j => (i, j)
theorem mem_allPairs {a b : Nat} {p : Nat × Nat} : p ∈ allPairs a b ↔ p.1 < a ∧ p.2 < b := by
  obtain ⟨i, j⟩ := p
  simp [allPairs]
theorem len_allPairs (a b : Nat) : (allPairs a b).length = a * b := by
  simp [allPairs, List.length_flatMap, List.map_const']
theorem pairs_le {l : List (Nat × Nat)} {a b : Nat} (nd : l.Nodup) (h : ∀ p ∈ l, p.1 < a ∧ p.2 < b) : l.length ≤ a * b := by
  rw [← len_allPairs]
  exact nd_le nd fun p hp => mem_allPairs.mpr (h p hp)

/-! ### machines -/
structure Mach where
  lt : Nat
  ou : Nat
  mv : List (List Nat)
  op : List Nat
  deriving DecidableEq, Repr
namespace Mach
def at_ (l : List Nat) (i : Nat) : Nat := l.getD i 0
def n (M : Mach) : Nat := M.op.length
def row (M : Mach) (s : Nat) : List Nat := M.mv.getD s []
def d (M : Mach) (s a : Nat) : Nat := at_ (M.row s) a
def o (M : Mach) (s : Nat) : Nat := at_ M.op s
structure WF (M : Mach) : Prop where
  len : M.mv.length = M.n
  pos : 0 < M.n
  row : ∀ r ∈ M.mv, r.length = M.lt
  st : ∀ r ∈ M.mv, ∀ s ∈ r, s < M.n
  out : ∀ x ∈ M.op, x < M.ou
def run (M : Mach) : Nat → List Nat → Nat
  | s, [] => s
  | s, a :: w => run M (M.d s a) w
theorem run_snoc (M : Mach) (a : Nat) : ∀ (w : List Nat) (s : Nat), M.run s (w ++ [a]) = M.d (M.run s w) a
  | [], _ => rfl
  | b :: w, s => run_snoc M a w (M.d s b)
end Mach
open Mach
theorem at_get {l : List Nat} {i x : Nat} (h : l[i]? = some x) : at_ l i = x := by simp [at_, h]
theorem get_at {l : List Nat} {i : Nat} (h : i < l.length) : l[i]? = some (at_ l i) := by simp [at_, h]
section
variable {M : Mach}
theorem Mach.WF.row_get (W : M.WF) {s : Nat} (h : s < M.n) : M.mv[s]? = some (M.row s) := by
  have h' : s < M.mv.length := by rw [W.len]; exact h
  simp [Mach.row, h']
theorem Mach.WF.row_len (W : M.WF) {s : Nat} (h : s < M.n) : (M.row s).length = M.lt := W.row _ (List.mem_of_getElem? (W.row_get h))
theorem Mach.WF.d_get (W : M.WF) {s a : Nat} (h : s < M.n) (ha : a < M.lt) : (M.row s)[a]? = some (M.d s a) := get_at (by rw [W.row_len h]; exact ha)
theorem Mach.WF.d_lt (W : M.WF) {s a : Nat} (h : s < M.n) (ha : a < M.lt) : M.d s a < M.n :=
  W.st _ (List.mem_of_getElem? (W.row_get h)) _ (List.mem_of_getElem? (W.d_get h ha))
theorem Mach.WF.o_get {s : Nat} (h : s < M.n) : M.op[s]? = some (M.o s) := get_at h
theorem Mach.WF.o_lt (W : M.WF) {s : Nat} (h : s < M.n) : M.o s < M.ou := W.out _ (List.mem_of_getElem? (Mach.WF.o_get h))
theorem Mach.WF.run_lt (W : M.WF) : ∀ (w : List Nat) {s : Nat}, s < M.n → (∀ a ∈ w, a < M.lt) → M.run s w < M.n
  | [], _, h, _ => h
  | a :: w, _, h, hw => W.run_lt w (W.d_lt h (hw a List.mem_cons_self)) fun b hb => hw b (List.mem_cons_of_mem _ hb)
theorem Mach.WF.row_eq (W : M.WF) {s : Nat} (h : s < M.n) : M.row s = (List.range M.lt).map fun a => M.d s a := by
  refine List.ext_getElem? fun i => ?_
  by_cases hi : i < M.lt
  · rw [W.d_get h hi]; simp [hi]
  · rw [List.getElem?_eq_none (by rw [W.row_len h]; omega)]; simp [hi]
end

/-! ### classes -/
/-- the sign of a state: its group, and those of its next states -/
def sign (M : Mach) (g : List Nat) (s : Nat) : Nat × List Nat := (at_ g s, (List.range M.lt).map fun a => at_ g (M.d s a))
def signs (M : Mach) (g : List Nat) : List (Nat × List Nat) := (List.range M.n).map (sign M g)
def refined (M : Mach) (g : List Nat) : List Nat := firsts (signs M g)
def clsT (M : Mach) : Nat → List Nat
  | 0 => firsts M.op
  | t + 1 => refined M (clsT M t)
def classes (M : Mach) : List Nat := clsT M M.n
/-- in the same group at t -/
def E (M : Mach) (t i j : Nat) : Prop := at_ (clsT M t) i = at_ (clsT M t) j
section
variable {M : Mach}
theorem signs_len (g : List Nat) : (signs M g).length = M.n := by simp [signs]
theorem signs_get (g : List Nat) {s : Nat} (h : s < M.n) : (signs M g)[s]? = some (sign M g s) := by simp [signs, h]
theorem clsT_len (t : Nat) : (clsT M t).length = M.n := by
  cases t with
  | zero => exact firsts_len _
  | succ t => rw [clsT, refined, firsts_len, signs_len]
theorem cls0 {i : Nat} (h : i < M.n) : at_ (clsT M 0) i = M.op.idxOf (M.o i) := at_get (firsts_get (Mach.WF.o_get h))
theorem clsS {t i : Nat} (h : i < M.n) : at_ (clsT M (t + 1)) i = (signs M (clsT M t)).idxOf (sign M (clsT M t) i) := at_get (firsts_get (signs_get _ h))
theorem cls_le {t i : Nat} (h : i < M.n) : at_ (clsT M t) i ≤ i := by
  cases t with
  | zero => rw [cls0 h]; exact idxOf_le (Mach.WF.o_get h)
  | succ t => rw [clsS h]; exact idxOf_le (signs_get _ h)
theorem cls_lt {t i : Nat} (h : i < M.n) : at_ (clsT M t) i < M.n := Nat.lt_of_le_of_lt (cls_le h) h
theorem idxOf_inj {α : Type} [BEq α] [LawfulBEq α] {L : List α} {x y : α} (hx : x ∈ L) (hy : y ∈ L) (e : L.idxOf x = L.idxOf y) : x = y := by
  have h1 := idxOf_get hx
  rw [e, idxOf_get hy] at h1
  exact (Option.some.inj h1).symm
theorem E0_iff {i j : Nat} (hi : i < M.n) (hj : j < M.n) : E M 0 i j ↔ M.o i = M.o j := by
  unfold E
  rw [cls0 hi, cls0 hj]
  exact ⟨idxOf_inj (mem_of_get (Mach.WF.o_get hi)) (mem_of_get (Mach.WF.o_get hj)), fun e => by rw [e]⟩
theorem sign_eq {g : List Nat} {i j : Nat} : sign M g i = sign M g j ↔ at_ g i = at_ g j ∧ ∀ a, a < M.lt → at_ g (M.d i a) = at_ g (M.d j a) := by
  unfold sign
  rw [Prod.mk.injEq]
  refine and_congr Iff.rfl ?_
  rw [List.map_inj_left]
  simp
theorem ES_iff {t i j : Nat} (hi : i < M.n) (hj : j < M.n) : E M (t + 1) i j ↔ E M t i j ∧ ∀ a, a < M.lt → E M t (M.d i a) (M.d j a) := by
  unfold E
  rw [clsS hi, clsS hj]
  refine Iff.trans ⟨idxOf_inj (mem_of_get (signs_get _ hi)) (mem_of_get (signs_get _ hj)), fun e => by rw [e]⟩ sign_eq
/-- each state is in its group's class -/
theorem E_self {t i : Nat} (h : i < M.n) : E M t (at_ (clsT M t) i) i := by
  cases t with
  | zero =>
    have hm := mem_of_get (Mach.WF.o_get h)
    rw [cls0 h]
    have hlt : M.op.idxOf (M.o i) < M.n := idxOf_lt hm
    rw [E0_iff hlt h]
    exact at_get (idxOf_get hm)
  | succ t =>
    have hm := mem_of_get (signs_get (clsT M t) h)
    have hlt : (signs M (clsT M t)).idxOf (sign M (clsT M t) i) < M.n := by
      have := idxOf_lt hm
      rwa [signs_len] at this
    have e := idxOf_get hm
    rw [signs_get _ hlt] at e
    unfold E
    rw [clsS h, clsS hlt, Option.some.inj e]
theorem cls_idem {t i : Nat} (h : i < M.n) : at_ (clsT M t) (at_ (clsT M t) i) = at_ (clsT M t) i := E_self h
theorem E_anti {t i j : Nat} (hi : i < M.n) (hj : j < M.n) (h : E M (t + 1) i j) : E M t i j := ((ES_iff hi hj).mp h).1

/-! the classes are settled behind as many turns as there are states -/
def lead (M : Mach) (t i : Nat) : Bool := at_ (clsT M t) i == i
def Settled (M : Mach) (t : Nat) : Prop := ∀ i j, i < M.n → j < M.n → E M t i j → E M (t + 1) i j
theorem lead_mono {t i : Nat} (h : i < M.n) (hl : lead M t i = true) : lead M (t + 1) i = true := by
  unfold lead at *
  rw [beq_iff_eq] at *
  have hlt := cls_lt (t := t + 1) h
  have e := E_anti hlt h (E_self (t := t + 1) h)
  unfold E at e
  rw [hl] at e
  have h1 := cls_le (t := t) hlt
  have h2 := cls_le (t := t + 1) h
  omega
def cnt (M : Mach) (t : Nat) : Nat := (List.range M.n).countP (lead M t)
theorem countP_lt {p q : Nat → Bool} : ∀ {l : List Nat}, (∀ x ∈ l, p x = true → q x = true) → (∃ x ∈ l, q x = true ∧ p x = false) → l.countP p + 1 ≤ l.countP q
  | [], _, h => by obtain ⟨x, hx, _⟩ := h; simp at hx
  | a :: l, h, ⟨x, hx, hq, hp⟩ => by
    rw [List.countP_cons, List.countP_cons]
    have hl : ∀ y ∈ l, p y = true → q y = true := fun y hy => h y (List.mem_cons_of_mem _ hy)
    have mono := List.countP_mono_left hl
    rcases List.mem_cons.mp hx with rfl | hx
    · rw [hq, hp]
      simp
      exact mono
    · have ih := countP_lt hl ⟨x, hx, hq, hp⟩
      have ha := h a List.mem_cons_self
      cases e : p a with
      | false => simp; omega
      | true =>
        rw [ha e]
        simp
        omega
theorem settled_of_lead {t : Nat} (h : ∀ i, i < M.n → lead M (t + 1) i = true → lead M t i = true) : Settled M t := by
  intro i j hi hj e
  have li := cls_lt (t := t + 1) hi
  have lj := cls_lt (t := t + 1) hj
  have ei := E_self (t := t + 1) hi
  have ej := E_self (t := t + 1) hj
  have hi' : lead M t (at_ (clsT M (t + 1)) i) = true := h _ li (by unfold lead; rw [beq_iff_eq]; exact cls_idem hi)
  have hj' : lead M t (at_ (clsT M (t + 1)) j) = true := h _ lj (by unfold lead; rw [beq_iff_eq]; exact cls_idem hj)
  unfold lead at hi' hj'
  rw [beq_iff_eq] at hi' hj'
  have e1 := E_anti li hi ei
  have e2 := E_anti lj hj ej
  unfold E at *
  rw [hi'] at e1
  rw [hj'] at e2
  rw [e1, e2, e]
theorem settled_next (W : M.WF) {t : Nat} (h : Settled M t) : Settled M (t + 1) := by
  intro i j hi hj e
  refine (ES_iff hi hj).mpr ⟨e, fun a ha => ?_⟩
  exact h _ _ (W.d_lt hi ha) (W.d_lt hj ha) (((ES_iff hi hj).mp e).2 a ha)
theorem cnt_grows : ∀ t : Nat, (∃ k, k < t ∧ Settled M k) ∨ cnt M 0 + t ≤ cnt M t
  | 0 => .inr (Nat.le_refl _)
  | t + 1 => by
    rcases cnt_grows t with ⟨k, hk, hs⟩ | h
    · exact .inl ⟨k, Nat.lt_succ_of_lt hk, hs⟩
    · by_cases q : ∃ x ∈ List.range M.n, lead M (t + 1) x = true ∧ lead M t x = false
      · refine .inr ?_
        have := countP_lt (l := List.range M.n) (p := lead M t) (q := lead M (t + 1)) (fun x hx => lead_mono (List.mem_range.mp hx)) q
        unfold cnt at *
        omega
      · refine .inl ⟨t, Nat.lt_succ_self _, settled_of_lead fun i hi hl => ?_⟩
        cases e : lead M t i with
        | true => rfl
        | false => exact absurd ⟨i, List.mem_range.mpr hi, hl, e⟩ q
theorem settled_from (W : M.WF) {k : Nat} (h : Settled M k) : ∀ t : Nat, Settled M (k + t)
  | 0 => h
  | t + 1 => settled_next W (settled_from W h t)
theorem settled (W : M.WF) : Settled M M.n := by
  rcases cnt_grows (M := M) M.n with ⟨k, hk, hs⟩ | h
  · have := settled_from W hs (M.n - k)
    rwa [show k + (M.n - k) = M.n by omega] at this
  · exfalso
    have h1 : cnt M M.n ≤ M.n := by
      have := List.countP_le_length (p := lead M M.n) (l := List.range M.n)
      rwa [List.length_range] at this
    have h0 : 0 < cnt M 0 := by
      refine List.countP_pos_iff.mpr ⟨0, List.mem_range.mpr W.pos, ?_⟩
      unfold lead
      rw [beq_iff_eq]
      exact Nat.le_zero.mp (cls_le W.pos)
    omega

/-! alike: the same outputs behind all words -/
def Alike (M : Mach) (i j : Nat) : Prop := ∀ w : List Nat, (∀ a ∈ w, a < M.lt) → M.o (M.run i w) = M.o (M.run j w)
theorem alike_E {i j : Nat} (W : M.WF) (h : Alike M i j) (hi : i < M.n) (hj : j < M.n) : ∀ t : Nat, E M t i j := by
  intro t
  induction t generalizing i j with
  | zero => exact (E0_iff hi hj).mpr (h [] fun _ z => nomatch z)
  | succ t ih =>
    refine (ES_iff hi hj).mpr ⟨ih h hi hj, fun a ha => ih (fun w hw => ?_) (W.d_lt hi ha) (W.d_lt hj ha)⟩
    exact h (a :: w) fun b hb => (List.mem_cons.mp hb).elim (fun e => e ▸ ha) (hw b)
theorem E_zero {i j : Nat} (hi : i < M.n) (hj : j < M.n) : ∀ {t : Nat}, E M t i j → E M 0 i j
  | 0, h => h
  | _ + 1, h => E_zero hi hj (E_anti hi hj h)
theorem E_alike {i j : Nat} (W : M.WF) (hi : i < M.n) (hj : j < M.n) (h : E M M.n i j) : Alike M i j := by
  intro w
  induction w generalizing i j with
  | nil => intro _; exact (E0_iff hi hj).mp (E_zero hi hj h)
  | cons a w ih =>
    intro hw
    have ha := hw a List.mem_cons_self
    exact ih (W.d_lt hi ha) (W.d_lt hj ha) (((ES_iff hi hj).mp (settled W _ _ hi hj h)).2 a ha) fun b hb => hw b (List.mem_cons_of_mem _ hb)

/-- the group of a state -/
def gr (M : Mach) (s : Nat) : Nat := at_ (classes M) s
theorem classes_len : (classes M).length = M.n := clsT_len _
theorem gr_get {s : Nat} (h : s < M.n) : (classes M)[s]? = some (gr M s) := get_at (by rw [classes_len]; exact h)
theorem gr_le {s : Nat} (h : s < M.n) : gr M s ≤ s := cls_le h
theorem gr_lt {s : Nat} (h : s < M.n) : gr M s < M.n := cls_lt h
theorem gr_idem {s : Nat} (h : s < M.n) : gr M (gr M s) = gr M s := cls_idem h
theorem gr_eq (W : M.WF) {i j : Nat} (hi : i < M.n) (hj : j < M.n) : gr M i = gr M j ↔ Alike M i j :=
  ⟨fun h => E_alike W hi hj h, fun h => alike_E W h hi hj _⟩
theorem gr_o {s : Nat} (h : s < M.n) : M.o (gr M s) = M.o s := (E0_iff (gr_lt h) h).mp (E_zero (gr_lt h) h (E_self h))
theorem gr_d (W : M.WF) {s a : Nat} (h : s < M.n) (ha : a < M.lt) : gr M (M.d (gr M s) a) = gr M (M.d s a) :=
  ((ES_iff (gr_lt h) h).mp (settled W _ _ (gr_lt h) h (E_self h))).2 a ha
/-- the least state that answers alike -/
theorem gr_min (W : M.WF) {k m : Nat} (hk : k < M.n) (hm : m < M.n) (ha : Alike M k m) (hle : ∀ j, j < M.n → Alike M k j → m ≤ j) : m = gr M k := by
  have h1 : m ≤ gr M k := hle _ (gr_lt hk) ((gr_eq W hk (gr_lt hk)).mp (gr_idem hk).symm)
  have h2 : gr M k = gr M m := (gr_eq W hk hm).mpr ha
  have h3 := gr_le hm
  omega
end

/-! ### the pairs of two states, as the law walks them -/
/-- behind some turns of the walk over the pairs from (k, j): P the pairs, the first t of them looked at -/
structure APairs (M : Mach) (k j : Nat) (P : List (Nat × Nat)) (t : Nat) : Prop where
  nd : P.Nodup
  first : P[0]? = some (k, j)
  lt : ∀ p ∈ P, p.1 < M.n ∧ p.2 < M.n
  met : ∀ p ∈ P, ∃ w : List Nat, (∀ a ∈ w, a < M.lt) ∧ p.1 = M.run k w ∧ p.2 = M.run j w
  seen : ∀ i p, i < t → P[i]? = some p → M.o p.1 = M.o p.2 ∧ ∀ a, a < M.lt → (M.d p.1 a, M.d p.2 a) ∈ P
section
variable {M : Mach} {k j : Nat} {P : List (Nat × Nat)} {t : Nat}
theorem APairs.start (hk : k < M.n) (hj : j < M.n) : APairs M k j [(k, j)] 0 where
  nd := by simp
  first := rfl
  lt := fun p hp => by
    have e : p = (k, j) := by simpa using hp
    subst e
    exact ⟨hk, hj⟩
  met := fun p hp => by
    have e : p = (k, j) := by simpa using hp
    subst e
    exact ⟨[], (fun _ z => nomatch z), rfl, rfl⟩
  seen := fun i p h _ => absurd h (Nat.not_lt_zero _)
theorem APairs.len_le (A : APairs M k j P t) : P.length ≤ M.n * M.n := pairs_le A.nd A.lt
/-- all are looked at: the two answer alike -/
theorem APairs.alike (A : APairs M k j P t) (h : P.length ≤ t) : Alike M k j := by
  have key : ∀ (w : List Nat) (p : Nat × Nat), p ∈ P → (∀ a ∈ w, a < M.lt) → M.o (M.run p.1 w) = M.o (M.run p.2 w) := by
    intro w
    induction w with
    | nil =>
      intro p hp _
      obtain ⟨i, hi, e⟩ := List.getElem_of_mem hp
      exact (A.seen i p (Nat.lt_of_lt_of_le hi h) (by rw [List.getElem?_eq_getElem hi, e])).1
    | cons a w ih =>
      intro p hp hw
      obtain ⟨i, hi, e⟩ := List.getElem_of_mem hp
      have q := (A.seen i p (Nat.lt_of_lt_of_le hi h) (by rw [List.getElem?_eq_getElem hi, e])).2 a (hw a List.mem_cons_self)
      exact ih _ q fun b hb => hw b (List.mem_cons_of_mem _ hb)
  intro w hw
  exact key w (k, j) (List.mem_of_getElem? A.first) hw
/-- a pair whose outputs differ: the two do not -/
theorem APairs.differ (A : APairs M k j P t) {p : Nat × Nat} (hp : p ∈ P) (h : M.o p.1 ≠ M.o p.2) : ¬ Alike M k j := fun q => by
  obtain ⟨w, hw, e1, e2⟩ := A.met p hp
  have := q w hw
  rw [← e1, ← e2] at this
  exact h this
/-- the next pairs of the pair at place t, as far as the letter b -/
def aNext (M : Mach) (p : Nat × Nat) (b : Nat) : List (Nat × Nat) := (List.range b).map fun a => (M.d p.1 a, M.d p.2 a)
theorem aNext_succ (p : Nat × Nat) (b : Nat) : aNext M p (b + 1) = aNext M p b ++ [(M.d p.1 b, M.d p.2 b)] := by
  simp [aNext, List.range_succ]
theorem APairs.turn (W : M.WF) (A : APairs M k j P t) {p : Nat × Nat} (hp : P[t]? = some p) (ho : M.o p.1 = M.o p.2) : APairs M k j (grow P (aNext M p M.lt)) (t + 1) where
  nd := grow_nd A.nd
  first := get_pre (grow_pre _ _) A.first
  lt := fun q hq => by
    rcases mem_grow.mp hq with h | h
    · exact A.lt q h
    · obtain ⟨a, ha, rfl⟩ := List.mem_map.mp h
      have := A.lt p (List.mem_of_getElem? hp)
      exact ⟨W.d_lt this.1 (List.mem_range.mp ha), W.d_lt this.2 (List.mem_range.mp ha)⟩
  met := fun q hq => by
    rcases mem_grow.mp hq with h | h
    · exact A.met q h
    · obtain ⟨a, ha, rfl⟩ := List.mem_map.mp h
      obtain ⟨w, hw, e1, e2⟩ := A.met p (List.mem_of_getElem? hp)
      refine ⟨w ++ [a], fun b hb => ?_, ?_, ?_⟩
      · rcases List.mem_append.mp hb with hb | hb
        · exact hw b hb
        · have e : b = a := by simpa using hb
          rw [e]
          exact List.mem_range.mp ha
      · rw [run_snoc, ← e1]
      · rw [run_snoc, ← e2]
  seen := fun i q hi hq => by
    by_cases e : i = t
    · subst e
      have e2 := get_pre (grow_pre (aNext M p M.lt) P) hp
      rw [hq] at e2
      have e3 : q = p := Option.some.inj e2
      subst e3
      exact ⟨ho, fun a ha => mem_grow.mpr (.inr (List.mem_map.mpr ⟨a, List.mem_range.mpr ha, rfl⟩))⟩
    · have hlt : i < t := by omega
      have ht : t < P.length := (List.getElem?_eq_some_iff.mp hp).1
      have hil : i < P.length := by omega
      have e1 : P[i]? = some P[i] := List.getElem?_eq_getElem hil
      have e2 := get_pre (grow_pre (aNext M p M.lt) P) e1
      rw [hq] at e2
      have e3 : q = P[i] := Option.some.inj e2
      rw [← e3] at e1
      obtain ⟨h1, h2⟩ := A.seen i q hlt e1
      exact ⟨h1, fun a ha => mem_grow.mpr (.inl (h2 a ha))⟩
end

/-! ### two machines side by side -/
section
variable (F S : Mach)
/-- the next pairs: by the letters of the first, then by those of the second -/
def next1 (p : Nat × Nat) : List (Nat × Nat) := (List.range F.lt).map fun a => (gr F (F.d p.1 a), p.2)
def next2 (p : Nat × Nat) : List (Nat × Nat) := (List.range S.lt).map fun b => (p.1, gr S (S.d p.2 b))
def nexts (p : Nat × Nat) : List (Nat × Nat) := next1 F p ++ next2 S p
/-- the pairs met behind k turns -/
def ord : Nat → List (Nat × Nat)
  | 0 => [(gr F 0, gr S 0)]
  | k + 1 => match (ord k)[k]? with
    | some p => grow (ord k) (nexts F S p)
    | none => ord k
end
section
variable {F S : Mach}
theorem next1_len (p : Nat × Nat) : (next1 F p).length = F.lt := by simp [next1]
theorem next2_len (p : Nat × Nat) : (next2 S p).length = S.lt := by simp [next2]
theorem nexts_len (p : Nat × Nat) : (nexts F S p).length = F.lt + S.lt := by simp [nexts, next1_len, next2_len]
theorem nexts_fst {p : Nat × Nat} {a : Nat} (h : a < F.lt) : (nexts F S p)[a]? = some (gr F (F.d p.1 a), p.2) := by
  unfold nexts
  rw [List.getElem?_append_left (by rw [next1_len]; exact h)]
  simp [next1, h]
theorem nexts_snd {p : Nat × Nat} {a : Nat} (h : F.lt ≤ a) (h2 : a < F.lt + S.lt) : (nexts F S p)[a]? = some (p.1, gr S (S.d p.2 (a - F.lt))) := by
  unfold nexts
  rw [List.getElem?_append_right (by rw [next1_len]; exact h), next1_len]
  have : a - F.lt < S.lt := by omega
  simp [next2, this]
theorem ord_some {k : Nat} {p : Nat × Nat} (h : (ord F S k)[k]? = some p) : ord F S (k + 1) = grow (ord F S k) (nexts F S p) := by
  show (match (ord F S k)[k]? with | some p => grow (ord F S k) (nexts F S p) | none => ord F S k) = _
  rw [h]
theorem ord_none {k : Nat} (h : (ord F S k).length ≤ k) : ord F S (k + 1) = ord F S k := by
  show (match (ord F S k)[k]? with | some p => grow (ord F S k) (nexts F S p) | none => ord F S k) = _
  rw [List.getElem?_eq_none h]
theorem ord_step (k : Nat) : ord F S k <+: ord F S (k + 1) := by
  by_cases h : (ord F S k).length ≤ k
  · rw [ord_none h]; exact List.prefix_refl _
  · have hk : k < (ord F S k).length := by omega
    rw [ord_some (List.getElem?_eq_getElem hk)]
    exact grow_pre _ _
theorem ord_add (k : Nat) : ∀ t : Nat, ord F S k <+: ord F S (k + t)
  | 0 => List.prefix_refl _
  | t + 1 => (ord_add k t).trans (ord_step (k + t))
theorem ord_pre {k m : Nat} (h : k ≤ m) : ord F S k <+: ord F S m := by
  have := ord_add (F := F) (S := S) k (m - k)
  rwa [show k + (m - k) = m by omega] at this
theorem ord_len_mono {k m : Nat} (h : k ≤ m) : (ord F S k).length ≤ (ord F S m).length := (ord_pre h).length_le
theorem ord_stop {k : Nat} (h : (ord F S k).length ≤ k) : ∀ t : Nat, ord F S (k + t) = ord F S k
  | 0 => rfl
  | t + 1 => by
    have ih := ord_stop h t
    rw [← Nat.add_assoc, ord_none (by rw [ih]; omega), ih]
theorem ord_fix {k m : Nat} (h : (ord F S k).length ≤ k) (hm : k ≤ m) : ord F S m = ord F S k := by
  have := ord_stop h (m - k)
  rwa [show k + (m - k) = m by omega] at this
theorem ord_nd : ∀ k : Nat, (ord F S k).Nodup
  | 0 => by simp [ord]
  | k + 1 => by
    by_cases h : (ord F S k).length ≤ k
    · rw [ord_none h]; exact ord_nd k
    · have hk : k < (ord F S k).length := by omega
      rw [ord_some (List.getElem?_eq_getElem hk)]
      exact grow_nd (ord_nd k)
/-- a pair of groups' first states -/
structure Good (F S : Mach) (p : Nat × Nat) : Prop where
  l1 : p.1 < F.n
  l2 : p.2 < S.n
  g1 : gr F p.1 = p.1
  g2 : gr S p.2 = p.2
theorem good_next (WF : F.WF) (WS : S.WF) {p q : Nat × Nat} (g : Good F S p) (h : q ∈ nexts F S p) : Good F S q := by
  rcases List.mem_append.mp h with h | h
  · obtain ⟨a, ha, rfl⟩ := List.mem_map.mp h
    have hd := WF.d_lt g.l1 (List.mem_range.mp ha)
    exact ⟨gr_lt hd, g.l2, gr_idem hd, g.g2⟩
  · obtain ⟨b, hb, rfl⟩ := List.mem_map.mp h
    have hd := WS.d_lt g.l2 (List.mem_range.mp hb)
    exact ⟨g.l1, gr_lt hd, g.g1, gr_idem hd⟩
theorem ord_good (WF : F.WF) (WS : S.WF) : ∀ (k : Nat), ∀ p ∈ ord F S k, Good F S p
  | 0 => fun p hp => by
    have e : p = (gr F 0, gr S 0) := by simpa [ord] using hp
    subst e
    exact ⟨gr_lt WF.pos, gr_lt WS.pos, gr_idem WF.pos, gr_idem WS.pos⟩
  | k + 1 => fun p hp => by
    by_cases h : (ord F S k).length ≤ k
    · rw [ord_none h] at hp; exact ord_good WF WS k p hp
    · have hk : k < (ord F S k).length := by omega
      rw [ord_some (List.getElem?_eq_getElem hk)] at hp
      rcases mem_grow.mp hp with hp | hp
      · exact ord_good WF WS k p hp
      · exact good_next WF WS (ord_good WF WS k _ (List.getElem_mem hk)) hp
theorem ord_le (WF : F.WF) (WS : S.WF) (k : Nat) : (ord F S k).length ≤ F.n * S.n :=
  pairs_le (ord_nd k) fun p hp => let g := ord_good WF WS k p hp; ⟨g.l1, g.l2⟩
theorem ord_pos (k : Nat) : 0 < (ord F S k).length := Nat.lt_of_lt_of_le (by simp [ord]) (ord_len_mono (F := F) (S := S) (Nat.zero_le k))
theorem ord_first (k : Nat) : (ord F S k)[0]? = some (gr F 0, gr S 0) := get_pre (ord_pre (Nat.zero_le k)) rfl

/-- too many pairs at some turn: too many at the law's last turn -/
theorem many (WF : F.WF) (WS : S.WF) {k : Nat} (h : k < (ord F S k).length) : (ord F S (k + 1)).length ≤ (ord F S (F.n * S.n)).length := by
  have := ord_le WF WS k
  exact ord_len_mono (by omega)
/-- the turn at which no pair is left: the law's last turn tells the same -/
theorem ended (WF : F.WF) (WS : S.WF) {k : Nat} (h : k = (ord F S k).length) : ord F S (F.n * S.n) = ord F S k := by
  have := ord_le WF WS k
  exact ord_fix (by omega) (by omega)

/-- the row of a pair, by the places of the next pairs in the order O -/
def rowOf (F S : Mach) (O : List (Nat × Nat)) (p : Nat × Nat) : List Nat := (nexts F S p).map fun q => O.idxOf q
def rowsOf (F S : Mach) (O : List (Nat × Nat)) (k : Nat) : List (List Nat) := (O.take k).map (rowOf F S O)
def outOf (F S : Mach) (p : Nat × Nat) : Nat := F.o p.1 * S.ou + S.o p.2
/-- the machine side by side, told from the order of the pairs -/
def told (F S : Mach) (O : List (Nat × Nat)) : Mach := ⟨F.lt + S.lt, F.ou * S.ou, O.map (rowOf F S O), O.map (outOf F S)⟩
theorem rowOf_pre {O O' : List (Nat × Nat)} {p : Nat × Nat} (h : O <+: O') (hm : ∀ q ∈ nexts F S p, q ∈ O) : rowOf F S O' p = rowOf F S O p :=
  List.map_congr_left fun q hq => idxOf_pre h (hm q hq)
/-- behind k turns the next pairs of the first k pairs are there -/
theorem ord_closed : ∀ (k i : Nat) (p : Nat × Nat), i < k → (ord F S k)[i]? = some p → ∀ q ∈ nexts F S p, q ∈ ord F S k
  | 0, i, p, hi, _, _, _ => absurd hi (Nat.not_lt_zero _)
  | k + 1, i, p, hi, hp, q, hq => by
    by_cases h : (ord F S k).length ≤ k
    · rw [ord_none h] at hp ⊢
      have hlt := (List.getElem?_eq_some_iff.mp hp).1
      exact ord_closed k i p (by omega) hp q hq
    · have hk : k < (ord F S k).length := by omega
      have hil : i < (ord F S k).length := by omega
      have e1 := List.getElem?_eq_getElem hil
      have e2 := get_pre (ord_step k) e1
      rw [hp] at e2
      have e3 : p = (ord F S k)[i] := Option.some.inj e2
      rw [← e3] at e1
      by_cases hik : i = k
      · subst hik
        rw [ord_some e1]
        exact mem_grow.mpr (.inr hq)
      · exact (ord_step k).subset (ord_closed k i p (by omega) e1 q hq)
theorem rows_step {k : Nat} {p : Nat × Nat} (hp : (ord F S k)[k]? = some p) : rowsOf F S (ord F S (k + 1)) (k + 1) = rowsOf F S (ord F S k) k ++ [rowOf F S (ord F S (k + 1)) p] := by
  have hk := (List.getElem?_eq_some_iff.mp hp).1
  have pre := ord_step (F := F) (S := S) k
  have ht : (ord F S (k + 1)).take k = (ord F S k).take k := by
    obtain ⟨t, e⟩ := pre
    rw [← e, List.take_append_of_le_length (by omega)]
  unfold rowsOf
  rw [List.take_succ, get_pre pre hp, List.map_append, ht]
  congr 1
  refine List.map_congr_left fun q hq => rowOf_pre pre fun z hz => ?_
  obtain ⟨i, hi, e⟩ := List.getElem_of_mem hq
  rw [List.length_take] at hi
  rw [List.getElem_take] at e
  exact ord_closed k i q (by omega) (by rw [List.getElem?_eq_getElem (by omega), e]) z hz
theorem rows_end {k : Nat} (h : k = (ord F S k).length) : rowsOf F S (ord F S k) k = (ord F S k).map (rowOf F S (ord F S k)) := by
  unfold rowsOf
  rw [List.take_of_length_le (Nat.le_of_eq h.symm)]

section
variable {k : Nat}
/-- the told machine's parts -/
theorem told_n (O : List (Nat × Nat)) : (told F S O).n = O.length := by simp [told, Mach.n]
theorem told_row {O : List (Nat × Nat)} {i : Nat} {p : Nat × Nat} (h : O[i]? = some p) : (told F S O).mv[i]? = some (rowOf F S O p) := by simp [told, h]
theorem told_out {O : List (Nat × Nat)} {i : Nat} {p : Nat × Nat} (h : O[i]? = some p) : (told F S O).o i = outOf F S p := by simp [told, Mach.o, at_, h]
theorem told_d {O : List (Nat × Nat)} {i a : Nat} {p q : Nat × Nat} (h : O[i]? = some p) (hq : (nexts F S p)[a]? = some q) : (told F S O).d i a = O.idxOf q := by
  have e : (told F S O).row i = rowOf F S O p := by simp [Mach.row, told_row h]
  unfold Mach.d
  rw [e]
  exact at_get (by simp [rowOf, hq])
theorem closed_all (h : k = (ord F S k).length) {p q : Nat × Nat} (hp : p ∈ ord F S k) (hq : q ∈ nexts F S p) : q ∈ ord F S k := by
  obtain ⟨i, hi, e⟩ := List.getElem_of_mem hp
  exact ord_closed k i p (by omega) (by rw [List.getElem?_eq_getElem hi, e]) q hq
theorem out_lt (WF : F.WF) (WS : S.WF) {p : Nat × Nat} (g : Good F S p) : outOf F S p < F.ou * S.ou := by
  have h1 := WF.o_lt g.l1
  have h2 := WS.o_lt g.l2
  have h3 : (F.o p.1 + 1) * S.ou ≤ F.ou * S.ou := Nat.mul_le_mul_right _ h1
  rw [Nat.add_mul, Nat.one_mul] at h3
  unfold outOf
  omega
theorem told_wf (WF : F.WF) (WS : S.WF) (h : k = (ord F S k).length) : (told F S (ord F S k)).WF where
  len := by simp [told, Mach.n]
  pos := by rw [told_n]; exact ord_pos k
  row := fun r hr => by
    obtain ⟨p, _, rfl⟩ := List.mem_map.mp hr
    simp [rowOf, nexts_len, told]
  st := fun r hr s hs => by
    obtain ⟨p, hp, rfl⟩ := List.mem_map.mp hr
    obtain ⟨q, hq, rfl⟩ := List.mem_map.mp hs
    rw [told_n]
    exact idxOf_lt (closed_all h hp hq)
  out := fun x hx => by
    obtain ⟨p, hp, rfl⟩ := List.mem_map.mp hx
    exact out_lt WF WS (ord_good WF WS k p hp)

/-! the word's own parts -/
def mine (l : Nat) (w : List Nat) : List Nat := w.filter fun a => decide (a < l)
def other (l : Nat) (w : List Nat) : List Nat := (w.filter fun a => decide (l ≤ a)).map fun a => a - l
theorem told_run (WF : F.WF) (WS : S.WF) (h : k = (ord F S k).length) : ∀ (w : List Nat) (x y : Nat), x < F.n → y < S.n → (gr F x, gr S y) ∈ ord F S k → (∀ a ∈ w, a < F.lt + S.lt) →
    (told F S (ord F S k)).run ((ord F S k).idxOf (gr F x, gr S y)) w = (ord F S k).idxOf (gr F (F.run x (mine F.lt w)), gr S (S.run y (other F.lt w))) ∧
      (gr F (F.run x (mine F.lt w)), gr S (S.run y (other F.lt w))) ∈ ord F S k
  | [], x, y, _, _, hm, _ => ⟨rfl, hm⟩
  | a :: w, x, y, hx, hy, hm, hw => by
    have ha := hw a List.mem_cons_self
    have hw' : ∀ b ∈ w, b < F.lt + S.lt := fun b hb => hw b (List.mem_cons_of_mem _ hb)
    by_cases hl : a < F.lt
    · have e1 : mine F.lt (a :: w) = a :: mine F.lt w := by simp [mine, hl]
      have e2 : other F.lt (a :: w) = other F.lt w := by simp [other, Nat.not_le.mpr hl]
      rw [e1, e2]
      have hn := nexts_fst (F := F) (S := S) (p := (gr F x, gr S y)) hl
      have hq := closed_all h hm (List.mem_of_getElem? hn)
      have ed := told_d (F := F) (S := S) (idxOf_get hm) hn
      have eg : gr F (F.d (gr F x) a) = gr F (F.d x a) := gr_d WF hx hl
      rw [eg] at ed hq
      show (told F S (ord F S k)).run ((told F S (ord F S k)).d _ a) w = _ ∧ _
      rw [ed]
      exact told_run WF WS h w (F.d x a) y (WF.d_lt hx hl) hy hq hw'
    · have e1 : mine F.lt (a :: w) = mine F.lt w := by simp [mine, hl]
      have e2 : other F.lt (a :: w) = (a - F.lt) :: other F.lt w := by simp [other, Nat.not_lt.mp hl]
      rw [e1, e2]
      have hb : a - F.lt < S.lt := by omega
      have hn := nexts_snd (F := F) (S := S) (p := (gr F x, gr S y)) (Nat.not_lt.mp hl) ha
      have hq := closed_all h hm (List.mem_of_getElem? hn)
      have ed := told_d (F := F) (S := S) (idxOf_get hm) hn
      have eg : gr S (S.d (gr S y) (a - F.lt)) = gr S (S.d y (a - F.lt)) := gr_d WS hy hb
      rw [eg] at ed hq
      show (told F S (ord F S k)).run ((told F S (ord F S k)).d _ a) w = _ ∧ _
      rw [ed]
      exact told_run WF WS h w x (S.d y (a - F.lt)) hx (WS.d_lt hy hb) hq hw'
theorem mine_lt {l : Nat} {w : List Nat} : ∀ a ∈ mine l w, a < l := fun a ha => by simpa using (List.mem_filter.mp ha).2
theorem other_lt {l m : Nat} {w : List Nat} (h : ∀ a ∈ w, a < l + m) : ∀ a ∈ other l w, a < m := fun a ha => by
  obtain ⟨b, hb, rfl⟩ := List.mem_map.mp ha
  have h1 := h b (List.mem_filter.mp hb).1
  have h2 : l ≤ b := by simpa using (List.mem_filter.mp hb).2
  omega
/-- the output behind each word -/
theorem told_both (WF : F.WF) (WS : S.WF) (h : k = (ord F S k).length) (w : List Nat) (hw : ∀ a ∈ w, a < F.lt + S.lt) :
    (told F S (ord F S k)).o ((told F S (ord F S k)).run 0 w) = F.o (F.run 0 (mine F.lt w)) * S.ou + S.o (S.run 0 (other F.lt w)) := by
  have h0 := ord_first (F := F) (S := S) k
  have hm := List.mem_of_getElem? h0
  have e0 : (ord F S k).idxOf (gr F 0, gr S 0) = 0 := idxOf_nd (ord_nd k) h0
  obtain ⟨e, hq⟩ := told_run WF WS h w 0 0 WF.pos WS.pos hm hw
  rw [e0] at e
  rw [e, told_out (idxOf_get hq)]
  unfold outOf
  rw [gr_o (WF.run_lt _ WF.pos mine_lt), gr_o (WS.run_lt _ WS.pos (other_lt hw))]

/-! the numbers -/
/-- growing the numbers by the places of what the order grows by -/
theorem grow_nums {O : List (Nat × Nat)} : ∀ (l cur : List (Nat × Nat)), grow cur l <+: O → grow (List.range cur.length) (l.map fun q => O.idxOf q) = List.range (grow cur l).length
  | [], cur, _ => rfl
  | q :: l, cur, hp => by
    rw [List.map_cons, grow_cons, grow_cons]
    have h1 : grow1 cur q <+: O := (grow_pre l _).trans hp
    have key : grow1 (List.range cur.length) (O.idxOf q) = List.range (grow1 cur q).length := by
      unfold grow1
      by_cases hq : q ∈ cur
      · have h2 : cur <+: O := (grow1_pre cur q).trans h1
        have e := idxOf_pre h2 hq
        rw [if_pos hq, if_pos (List.mem_range.mpr (by rw [e]; exact idxOf_lt hq))]
      · have e0 : grow1 cur q = cur ++ [q] := if_neg hq
        have e : O.idxOf q = cur.length := by
          rw [e0] at h1
          obtain ⟨t, ht⟩ := h1
          rw [← ht, List.append_assoc]
          exact idxOf_new hq
        rw [if_neg hq, if_neg (by rw [List.mem_range, e]; exact Nat.lt_irrefl _), e, List.length_append, List.length_singleton, List.range_succ]
    rw [key]
    exact grow_nums l _ hp
theorem nums_step (h : k = (ord F S k).length) {i : Nat} (hi : i < k) : ∃ p, (ord F S k)[i]? = some p ∧ i < (ord F S i).length ∧
    ∀ l m, l ++ m = nexts F S p → grow (List.range (ord F S i).length) (l.map fun q => (ord F S k).idxOf q) = List.range (grow (ord F S i) l).length := by
  have hil : i < (ord F S i).length := by
    refine Nat.lt_of_not_le fun q => ?_
    have := ord_fix q (Nat.le_of_lt hi)
    rw [this] at h
    omega
  have hp := List.getElem?_eq_getElem hil
  refine ⟨(ord F S i)[i], get_pre (ord_pre (Nat.le_of_lt hi)) hp, hil, fun l m e => grow_nums l _ ?_⟩
  have : grow (ord F S i) l <+: ord F S (i + 1) := by
    rw [ord_some hp, ← e, grow_append]
    exact grow_pre _ _
  exact this.trans (ord_pre hi)
theorem nums_turn (h : k = (ord F S k).length) {i : Nat} (hi : i < k) {r : List Nat} (hr : (told F S (ord F S k)).mv[i]? = some r) : i < (ord F S i).length ∧ grow (List.range (ord F S i).length) r = List.range (ord F S (i + 1)).length := by
  obtain ⟨p, hp, hil, st⟩ := nums_step h hi
  refine ⟨hil, ?_⟩
  rw [told_row hp] at hr
  have e : rowOf F S (ord F S k) p = r := Option.some.inj hr
  rw [← e]
  have := st (nexts F S p) [] (by simp)
  have e2 := List.getElem?_eq_getElem hil
  have e3 := get_pre (ord_pre (F := F) (S := S) (Nat.le_of_lt hi)) e2
  rw [hp] at e3
  rw [← Option.some.inj e3] at e2
  rw [ord_some e2]
  exact this
end
end

/-! ### the rings -/
def ring (m : Nat) : Mach := ⟨1, 2, (List.range m).map fun k => [(k + 1) % m], (List.range m).map fun k => if k = 0 then 1 else 0⟩
theorem ring67 : ∀ k, k ≤ 30 → k ≠ (ord (ring 6) (ring 7) k).length := by decide +kernel
theorem ring56a : (ord (ring 5) (ring 6) 30).length = 30 := by decide +kernel
theorem ring56b : ∀ k, k ≤ 30 → k = (ord (ring 5) (ring 6) k).length → k = 30 := by decide +kernel
theorem ring56c (k : Nat) : (ord (ring 5) (ring 6) k).length ≤ 30 := by
  by_cases h : k ≤ 30
  · have := ord_len_mono (F := ring 5) (S := ring 6) h
    rw [ring56a] at this
    exact this
  · rw [ord_fix (k := 30) (by rw [ring56a]; exact Nat.le_refl _) (by omega), ring56a]
    exact Nat.le_refl _
end K04

set_option Elab.async false
set_option linter.all false
set_option maxRecDepth 100000
set_option maxHeartbeats 2000000
/-! K04RulesA: rules over the hand layer that the layer lacks: tuple.index of whole numbers, enumerate of a tuple, a dict whose keys are (int, tuple of ints). -/
namespace K04R
open PySem PySem.Spec PyProof.Rows L2

/-! ### t.index(x) of whole numbers -/
section
variable {X : Cx}
def rTupIx (K : PySem.W.Frag) : V → List V → Hp → VK → Prop := fun x xs H Q =>
  ∃ (p : Addr) (ys : List Int) (z : Int) (j : Nat), x = V.ref p ∧ xs = [V.int z] ∧ SqT K H p (ys.map V.int) ∧ ys[j]? = some z ∧ (∀ m, m < j → ys[m]? ≠ some z) ∧ Q (.int (j : Nat)) H
theorem flat_ints (ys : List Int) : (ys.map V.int).all flatV = true := by
  rw [List.all_eq_true]
  intro v hv
  obtain ⟨i, _, rfl⟩ := List.mem_map.mp hv
  rfl
theorem mt_tupIx : MtR X "tuple.index" (rTupIx X.K) := by
  intro pins s σ H x xs v us Q I rx rs ⟨p, ys, z, j, ex, exs, hq, hy, hno, q⟩
  subst ex; subst exs
  cases rx
  obtain ⟨u, rfl, ru⟩ := vals1 rs
  obtain ⟨its, rv, ⟨⟨cls, dd, dt, sl⟩, ho, hc, n, hd⟩, _⟩ := I.tuple hq
  simp only at hc hd
  subst hc; subst hd
  have hlen : its.length = ys.length := by rw [← rv.length, List.length_map]
  have look : ∀ (m : Nat) (hm : m < its.toArray.size), ∃ y : Int, ys[m]? = some y ∧ RelV (.int y) its.toArray[m] := fun m hm => by
    have hm1 : m < its.length := by simpa using hm
    have hm2 : m < ys.length := by omega
    obtain ⟨w, hw, rw'⟩ := rv.get (i := m) (x := V.int ys[m]) (by simp [hm2])
    obtain ⟨_, he⟩ := List.getElem?_eq_some_iff.mp hw
    refine ⟨ys[m], List.getElem?_eq_getElem hm2, ?_⟩
    have e1 : its.toArray[m] = w := by simpa using he
    rw [e1]; exact rw'
  have hj : j < its.toArray.size := by
    have := (List.getElem?_eq_some_iff.mp hy).1
    simp only [List.size_toArray]; omega
  refine call_meets PySem.F.slot_tuple_index ⟨_, ho, rfl⟩ PySem.F.entry_tuple_index (PySem.F.args_tuple_index_2 _ _)
    (TI.tuple_indexAt p its.toArray n dd sl u (eqU (.int z)) j hj ?_ ?_) ⟨ho, fun w hw => mem_eqAt ru rfl rv (flat_ints ys) w (by simpa using hw), ?_⟩
  · obtain ⟨y, e1, r1⟩ := look j hj
    rw [hy] at e1
    cases e1
    rw [eqU_of r1 rfl]
    exact beq_self_eq_true z
  · intro m hm hmj
    obtain ⟨y, e1, r1⟩ := look m hm
    rw [eqU_of r1 rfl]
    exact beq_eq_false_iff_ne.mpr fun e => hno m hmj (by rw [e1, e])
  · exact ⟨.int (j : Nat), H, I.tok _, ⟨_, rfl⟩, q⟩
end

/-! ### tuples whose object is known: made by tuple(a list), their methods -/
/-- at p a tuple whose object bears no dict -/
def Tp (H : Hp) (p : Addr) (xs : List V) : Prop := ∃ ob : Obj, H p = some (.frz ob (.tup xs)) ∧ ob.dict = none
theorem Tp.sq {K : PySem.W.Frag} {H : Hp} {p : Addr} {xs : List V} (h : Tp H p xs) : SqT K H p xs := let ⟨ob, e, _⟩ := h; .inl (.inr ⟨ob, e⟩)
section
variable {X : Cx}
theorem call_tupleF : CallR X (.type "tuple") (fun xs H Q => ∃ p ys, xs = [.ref p] ∧ SqL X.K H p ys ∧ ∀ l o, H l = none → o.dict = none → Q (.ref l) (upd H l (.frz o (.tup ys)))) := by
  intro pins s σ H xs us Q I r ⟨p, ys, e, hq, q⟩
  subst e
  rw [Vals.ref1 r]
  obtain ⟨its, rv, pl, hz⟩ := I.list hq
  have hlen := rv.length
  refine call_tuple_list pl.isList (fun h' kp => ?_) (by simp only [List.size_toArray] <;> omega)
  have J : Inv X pins σ H { s with heap := h' } := I.kept (t' := s.toks) kp
  have new : ObjOk X.prog X.w (upd H h'.objs.size (.frz { cls := .type "tuple", data := .seq its.toArray } (.tup ys))) (h'.push { cls := .type "tuple", data := .seq its.toArray }) h'.objs.size (.frz { cls := .type "tuple", data := .seq its.toArray } (.tup ys)) :=
    ⟨Heap.get?_push_size _ rfl, hz, its, rv, IsTup.new _ _⟩
  exact ⟨.ref h'.objs.size, _, J.laid (t' := s.toks) (fun b o e => Heap.get?_push_of_some _ e) (Nat.le_refl _) new, rfl, q _ _ (J.hok.fresh (Nat.le_refl _)) rfl⟩
def tTM (r : V → List V → Hp → VK → Prop) (to : TE) (t : TA) : TE := fun σ H Q => to σ H fun x H1 => (∃ p ys, x = .ref p ∧ Tp H1 p ys) ∧ t σ H1 fun xs H2 => r x xs H2 Q
theorem pe_tupM {o e : Expr} {es : List Expr} {to : TE} {t : TA} {name : Str} {apos cpos : Pos} {id : String} {r : V → List V → Hp → VK → Prop}
    (slot : Slot "tuple" name id) (hty : typeOf (.builtin id) = pure (.type "method_descriptor")) (hm : MtR X id r) (ho : PE X o to) (ha : PA X (e :: es) t)
    (hbase : attributeBase o name X.env (eval o X.env) = eval o X.env := by rfl)
    (hfew : ((backTo cpos (starEach (e :: es) X.env)).all (fun x => !x.1) && (backToKw cpos (keywordEach [] X.env)).all (fun x => x.1.isSome)
      && decide ((e :: es).length + ([] : List Keyword).length + (if ([] : List Keyword).isEmpty then 0 else 1) < 30)) = true := by rfl)
    (hline : (apos.endLine == cpos.line) = true := by rfl) (hs : starEach (e :: es) X.env = (false, eval e X.env) :: starEach es X.env := by rfl) (hplain : (backTo cpos (starEach es X.env)).any (·.1) = false := by rfl) :
    PE X (.Call (.Attribute o name apos) (e :: es) [] cpos) (tTM r to t) := by
  refine ⟨fun pins s σ H Q I h => ?_⟩
  refine wpAny_Call_method_late hbase hfew hline rfl (thn (ho.run pins s σ H _ I h) fun v s1 hh => ?_)
  obtain ⟨x, H1, I1, r1, ⟨p, ys, ex, ob, hp, hd⟩, q1⟩ := hh
  subst ex
  cases r1
  obtain ⟨g1, _, its, _, o5, g5, c5, _⟩ := (show ObjOk X.prog X.w H1 s1.heap p (.frz ob (.tup ys)) from I1.hok p _ hp)
  refine ⟨"tuple", id, PySem.F.plainAttrs_tuple, slot, hty, ⟨o5, g5, c5⟩, fun a e => ?_, ?_⟩
  · cases e
    exact ⟨ob, g1, hd⟩
  · have hA := ha.run cpos pins s1 σ H1 _ I1 q1
    rw [hs] at hA ⊢
    refine Calls.callWith_builtin (by show (false || (backTo cpos (starEach es X.env)).any (·.1)) = false; rw [hplain] <;> rfl) (Calls.evalArgs_plain (thn hA fun us s2 hh => ?_))
    obtain ⟨vs, H2, I2, r2, q2⟩ := hh
    exact hm pins s2 σ H2 (.ref p) vs (.ref p) us Q I2 rfl r2 q2
end

/-! ### enumerate(t), t a tuple -/
section
theorem meets_enumT (t : Addr) (items : Array Value) :
    Meets (Builtin.«enumerate.__new__» ⟨[.type "enumerate", .ref t], []⟩) (fun _ R s => s.heap.IsTuple t items ∧
      R (.ok (.ret (.ref (s.heap.push { cls := .type "tuple_iterator", data := .fields #[.ref t, .int 0 0] }).objs.size)))
        { s with heap := (s.heap.push { cls := .type "tuple_iterator", data := .fields #[.ref t, .int 0 0] }).push { cls := .type "enumerate", data := .fields #[.none, .bool false, .ref s.heap.objs.size, rawInt 0, .none, .none] } }) :=
  .of_wp fun prog w A R s hs => by
    obtain ⟨hp, g, d, tk, os⟩ := s
    obtain ⟨ht, hR⟩ := hs
    have hsub := sub_enumerate
    have hiter : ∀ {A' : Around} {E : Value → Shared → Prop} {Q : Value → Shared → Prop}, Q (.ref hp.objs.size) ⟨hp.push { cls := .type "tuple_iterator", data := .fields #[.ref t, .int 0 0] }, g, d, tk, os⟩ →
        wpAny (model prog w) A' (pyIter (.ref t)) Q E ⟨hp, g, d, tk, os⟩ := fun q => wpAny_pyIter_tuple (s := ⟨hp, g, d, tk, os⟩) ht q
    wp_walk using hiter
    refine wpAny_stack_any fun st => wpAny_pure ?_
    split
    · rename_i c _ _ _ _ _
      cases (c == Value.type "enumerate") <;> (wp_walk using hiter; exact ⟨_, rfl, hR⟩)
    · wp_walk using hiter
      exact ⟨_, rfl, hR⟩
variable {prog : Program} {w : World} {A : Around} {E : Value → Shared → Prop} {s : Shared}
theorem call_enumT {t : Addr} {items : Array Value} {Q : Value → Shared → Prop} (ht : s.heap.IsTuple t items)
    (h : ∀ h', IsEnum h' (s.heap.objs.size + 1) s.heap.objs.size 0 .none → h'.IsTupleIter s.heap.objs.size t 0 →
      (∀ b o, s.heap.get? b = some o → h'.get? b = some o) → Q (.ref (s.heap.objs.size + 1)) { s with heap := h' }) :
    wpAny (model prog w) A (call (.type "enumerate") [.ref t]) Q E s := by
  refine callType_new PySem.F.called_enumerate (by decide) (PySem.F.typeCall_enumerate_1 _) (PySem.F.newCall_enumerate_1 _) (fun obj => PySem.F.args_object_init_2 obj _) PySem.F.entry_enumerate_new (meets_enumT t items) ⟨ht, ?_⟩
  generalize hO : ({ cls := .type "tuple_iterator", data := .fields #[.ref t, .int 0 0] } : Obj) = o1
  have hz : (s.heap.push o1).objs.size = s.heap.objs.size + 1 := Heap.size_push ..
  have g1 : (s.heap.push o1).get? s.heap.objs.size = some o1 := Heap.get?_push_size _ (by rw [← hO]; rfl)
  have he : IsEnum ((s.heap.push o1).push { cls := .type "enumerate", data := .fields #[.none, .bool false, .ref s.heap.objs.size, rawInt 0, .none, .none] }) (s.heap.objs.size + 1) s.heap.objs.size 0 .none := by
    rw [← hz]
    exact Heap.get?_push_size (s.heap.push o1) rfl
  show _ ∧ _
  rw [hz]
  refine ⟨⟨_, he, rfl⟩, h _ he ⟨o1, Heap.get?_push_of_some _ g1, by rw [← hO], by rw [← hO] <;> rfl⟩ fun b o q => Heap.get?_push_of_some _ (Heap.get?_push_of_some _ q)⟩
end
/-- the tuple at a as it stands at each turn, each item in a new pair with its place -/
def Itet (K : PySem.W.Frag) (a : Addr) : It :=
  ⟨fun i H => ∃ (xs : List V) (x : V), SqT K H a xs ∧ xs[i]? = some x,
   fun i H v H' => ∃ T x, v = .ref T ∧ H T = none ∧ H' = upd H T (.tup [.int (i : Nat), x]) ∧ ∀ xs, SqT K H a xs → xs[i]? = some x,
   fun i H => ∃ xs : List V, SqT K H a xs ∧ xs.length = i⟩
theorem tup_ne {h : Heap} {a b : Addr} {items : Array Value} {o : Obj} (ht : h.IsTuple a items) (hb : h.get? b = some o) (hc : o.cls ≠ .type "tuple") : a ≠ b := fun e => by
  obtain ⟨o', ho, hc', _⟩ := ht
  rw [e, hb] at ho
  cases ho
  exact hc hc'
theorem turn_enumT {P : Program} {w : World} {K : PySem.W.Frag} {elts : List Expr} {kk : Nat} {tpos : Pos} (a e it : Addr) :
    Turn P w K (.Tuple elts kk tpos) (Itet K a) [e, it] e (fun i h => (∃ old, IsEnum h e it ((i : Nat) : Int) old) ∧ h.IsTupleIter it a i ∧ e ≠ it) where
  mem := List.mem_cons_self
  obj := by
    rintro i h ⟨⟨old, he⟩, ⟨o, ho, _, hd⟩, _⟩ b hb
    rcases List.mem_cons.mp hb with z | z
    · rw [z]; exact ⟨_, he, fun v q => nomatch q⟩
    · rw [List.mem_singleton.mp z]; exact ⟨o, ho, fun v q => by rw [hd] at q; cases q⟩
  keep := by
    rintro i h h' ⟨⟨old, he⟩, ⟨o, ho, hr⟩, ne⟩ k
    exact ⟨⟨old, k e (by simp) _ he⟩, ⟨o, k it (by simp) _ ho, hr⟩, ne⟩
  item := by
    rintro X rfl rfl rfl hc i pins s σ H E I hf ⟨⟨old, he⟩, hit, ne⟩ ⟨xs, x, hq, hx⟩
    obtain ⟨its, rv, ht, _⟩ := I.tuple hq
    have ht : s.heap.IsTuple a its.toArray := ht
    obtain ⟨oi, hoi, hci, hdi⟩ := id hit
    have nai : a ≠ it := tup_ne ht hoi (by rw [hci]; decide +kernel)
    have nae : a ≠ e := tup_ne ht he (show Value.type "enumerate" ≠ Value.type "tuple" from by decide +kernel)
    obtain ⟨hi, hxe⟩ := List.getElem?_eq_some_iff.mp hx
    have hil : i < its.toArray.size := by have := rv.length; simp only [List.size_toArray]; omega
    have lte : e < s.heap.objs.size := Heap.lt_size he
    have lti : it < s.heap.objs.size := Heap.lt_size hoi
    have D := Draws.tuple (prog := X.prog) (w := X.w) (A := X.A.in1) (I.ok.hd hc) it a nai its.toArray
    refine wpAny_pyNext_enum_itemD D he ⟨hit, ht⟩ hil ne (by simp [ne, Ne.symm nae]) fun u h1 tk hu ho1 st1 hT hz hk => ?_
    refine ⟨_, rfl, wpAny_letOwnedTupleGo_enum (s := { s with heap := h1, toks := tk + 1 }) ho1 fun h2 he2 sb => ?_⟩
    obtain ⟨u', hu', ru⟩ := rv.get hx
    have hu : its.toArray[i]? = some u := hu
    have eu : u = u' := by
      have h3 : its[i]? = some u := by simpa using hu
      rw [hu'] at h3
      exact (Option.some.inj h3).symm
    subst eu
    have hT2 := (sb.2 _ (Nat.ne_of_gt lte)).trans hT
    have new : ObjOk X.prog X.w (upd H s.heap.objs.size (.tup [.int (i : Nat), x])) h2 s.heap.objs.size (.tup [.int (i : Nat), x]) :=
      ⟨by show 2 ≤ sizeLine; decide, [.int i tk, u], .cons ⟨_, rfl⟩ (.cons ru .nil), ⟨_, hT2, rfl, _, rfl⟩⟩
    have J : Inv X pins σ (upd H s.heap.objs.size (.tup [.int (i : Nat), x])) { s with heap := h2, toks := tk + 1 } := by
      refine I.turnedNew (ch := [e, it]) (fun b ob hb q => ?_) hf (Nat.le_refl _) new
      have n1 : b ≠ e := fun z => hb (by simp [z])
      have n2 : b ≠ it := fun z => hb (by simp [z])
      exact (sb.2 b n1).trans (hk b ob n1 n2 q)
    obtain ⟨⟨o5, ho5, hr5⟩, _⟩ := st1
    refine ⟨.ref s.heap.objs.size, _, J, rfl, ⟨_, x, rfl, I.hok.fresh (Nat.le_refl _), rfl, fun ys hy => by rw [I.tuple_inj hy hq]; exact hx⟩, ⟨⟨u, ?_⟩, ⟨o5, (sb.2 it (Ne.symm ne)).trans ho5, hr5⟩, ne⟩, fun b hb => ?_⟩
    · have e1 : ((i + 1 : Nat) : Int) = (i : Int) + 1 := by omega
      rw [e1]; exact he2
    · have hlt : b < s.heap.objs.size := by
        rcases List.mem_cons.mp hb with z | z
        · rw [z]; exact lte
        · rw [List.mem_singleton.mp z]; exact lti
      rw [upd_ne (Nat.ne_of_lt hlt)]
      exact (hf b hb).1
  done := by
    rintro X rfl rfl rfl hc i pins s σ H E I hf ⟨⟨old, he⟩, hit, ne⟩ ⟨xs, hq, hx⟩
    obtain ⟨its, rv, ht, _⟩ := I.tuple hq
    have ht : s.heap.IsTuple a its.toArray := ht
    obtain ⟨oi, hoi, hci, hdi⟩ := id hit
    obtain ⟨f0, f1, f2, f3, f4, f5⟩ := hf it (by simp)
    have hend := rv.length
    have hT : s.TypeIs (.ref e) "enumerate" := ⟨_, he, rfl⟩
    have nai : a ≠ it := tup_ne ht hoi (by rw [hci]; decide +kernel)
    have D := Draws.tuple (prog := X.prog) (w := X.w) (A := X.A.in1) (I.ok.hd hc) it a nai its.toArray
    have hi : i = its.toArray.size := by simp only [List.size_toArray]; omega
    subst hi
    exact wpAny_pyNext_enum_endD D he ⟨hit, ht⟩ fun h' eb => ⟨rfl, I.turned (t' := s.toks) (fun b o hb q => eb b o hb q) f0 f1 f3 f4 f5⟩
  self := fun A i s Q E st h => let ⟨⟨_, he⟩, _⟩ := st; wpAny_pyIter_enum he h
def iEnumT (K : PySem.W.Frag) (ta : TA) : TI := fun σ H R => ta σ H fun vs H1 => ∃ a xs, vs = [.ref a] ∧ SqT K H1 a xs ∧ R (Itet K a) H1
theorem pi_enumT {X : Cx} {e : Expr} {ta : TA} {p pos tpos : Pos} {elts : List Expr} {kk : Nat} (hg : Gl X "enumerate") (hm : X.mg "enumerate" = none) (ha : PA X [e] ta) (hs : starEach [e] X.env = [(false, eval e X.env)] := by rfl) :
    PI X (.Tuple elts kk tpos) (.Call (.Name "enumerate" p) [e] [] pos) (iEnumT X.K ta) := by
  refine ⟨fun pins s σ H R I h => ?_⟩
  refine Call_ (ld_blt I hg hm boot_enumerate (PyProof.Rows.callWith_type1 (thn (ha.run pos pins s σ H _ I h) fun us s1 hh => ?_) hs rfl))
  obtain ⟨vs, H1, I1, r1, a, xs, ex, hq, q⟩ := hh
  subst ex
  rw [Vals.ref1 r1]
  obtain ⟨its, rv, ht, _⟩ := I1.tuple hq
  refine call_enumT (items := its.toArray) ht fun h' he hit hk => wpAny_pyIter_enum he ?_
  have I2 : Inv X pins σ H1 { s1 with heap := h' } := I1.kept (t' := s1.toks) hk
  refine ⟨s1.heap.objs.size + 1, [s1.heap.objs.size + 1, s1.heap.objs.size], _, _, H1, rfl, I2, turn_enumT a _ s1.heap.objs.size, ⟨⟨.none, he⟩, hit, Nat.succ_ne_self _⟩, fun b hb => ?_, q⟩
  have hle : s1.heap.objs.size ≤ b := by
    rcases List.mem_cons.mp hb with z | z
    · rw [z]; exact Nat.le_succ _
    · rw [List.mem_singleton.mp z]; exact Nat.le_refl _
  exact I1.fpOk hle (I1.hok.fresh hle)
theorem walk_enumT {K : PySem.W.Frag} {a : Addr} {xs : List V} : Walk (Itet K a) xs.length (fun H => SqT K H a xs) (YPair (fun i => some (.int (i : Nat))) (fun i => xs[i]?)) where
  goes := fun i _ hi q => ⟨xs, xs[i], q, List.getElem?_eq_getElem hi⟩
  stops := fun _ q => ⟨xs, q, rfl⟩
  yields := by
    rintro i H v H' _ q ⟨T, x, e1, e2, e3, e4⟩
    exact ⟨T, .int (i : Nat), x, e1, e2, e3, rfl, e4 xs q⟩

/-! ### dicts whose keys are a whole number and a tuple of whole numbers -/
/-- the key (g, (n, ..)) -/
def sKey (k : Nat × List Nat) : NestedKey := .tup [.num k.1, .tup (k.2.map fun (n : Nat) => .num (n : Int))]
theorem nums_inj : ∀ {a b : List Nat}, (a.map fun (n : Nat) => NestedKey.num (n : Int)) = (b.map fun (n : Nat) => NestedKey.num (n : Int)) → a = b
  | [], [], _ => rfl
  | x :: a, y :: b, h => by
    rw [List.map_cons, List.map_cons] at h
    obtain ⟨h1, h2⟩ := List.cons.inj h
    have h3 : (x : Int) = (y : Int) := NestedKey.num.inj h1
    rw [nums_inj h2, Int.ofNat.inj h3]
theorem sKey_inj {a b : Nat × List Nat} (h : sKey a = sKey b) : a = b := by
  obtain ⟨a1, a2⟩ := a
  obtain ⟨b1, b2⟩ := b
  have h1 := NestedKey.tup.inj h
  obtain ⟨h2, h3⟩ := List.cons.inj h1
  obtain ⟨h4, _⟩ := List.cons.inj h3
  have h5 : (a1 : Int) = (b1 : Int) := NestedKey.num.inj h2
  have h6 : a2 = b2 := nums_inj (NestedKey.tup.inj h4)
  rw [Int.ofNat.inj h5, h6]
theorem nums_depth : ∀ l : List Nat, NestedKey.depthAll (l.map fun (n : Nat) => NestedKey.num (n : Int)) = 0
  | [] => rfl
  | x :: l => by
    rw [List.map_cons]
    show max 0 (NestedKey.depthAll _) = 0
    rw [nums_depth l]
    rfl
theorem sKey_depth (k : Nat × List Nat) : (sKey k).depth ≤ 8 := by
  unfold sKey
  simp only [NestedKey.depth, NestedKey.depthAll, nums_depth]
  decide
/-- where a key's own tuples stand -/
def KeyAt (H : Hp) (a : Addr) (k : Nat × List Nat) : Prop := ∃ b, H a = some (.tup [.int (k.1 : Nat), .ref b]) ∧ H b = some (.tup (k.2.map fun (n : Nat) => V.int (n : Int)))
theorem nested_nums {h : Heap} : ∀ {ns : List Nat} {us : List Value}, Vals (ns.map fun (n : Nat) => V.int (n : Int)) us → NestedAll h (ns.map fun (n : Nat) => NestedKey.num (n : Int)) us
  | [], _, r => by cases r; exact .nil
  | n :: ns, _, r => by
    cases r with
    | cons r1 r2 =>
      obtain ⟨t, rfl⟩ := r1
      exact .cons (.int _ _) (nested_nums r2)
theorem key_is {P : Program} {w : World} {H : Hp} {h : Heap} {a : Addr} {k : Nat × List Nat} (ok : HOk P w H h) (x : KeyAt H a k) : (nestedKind P w).is h (sKey k) a := by
  obtain ⟨b, ha, hb⟩ := x
  obtain ⟨_, us, r1, o1, e1, c1, n1, d1⟩ := (show ObjOk P w H h a (.tup _) from ok a _ ha)
  obtain ⟨_, vs, r2, o2, e2, c2, n2, d2⟩ := (show ObjOk P w H h b (.tup _) from ok b _ hb)
  obtain ⟨u1, u2, rfl, q1, q2⟩ := vals2 r1
  obtain ⟨t, rfl⟩ := q1
  cases q2
  refine ⟨?_, sKey_depth k⟩
  refine .tup e1 c1 d1 ?_
  show NestedAll h [.num k.1, .tup (k.2.map fun (n : Nat) => .num (n : Int))] [.int (k.1 : Nat) t, .ref b]
  exact .cons (.int _ _) (.cons (.tup e2 c2 d2 (by simpa using nested_nums r2)) .nil)

/-- the dict's object: kvs its keys, the keys' own tuples, its values, in the order of insertion -/
def nd (P : Program) (w : World) (d : Addr) (kvs : List ((Nat × List Nat) × Addr × Nat)) : Heap → Prop := fun h =>
  (d == sysModules) = false ∧ kvs.length ≤ sizeLine ∧ ∃ xs : List (NestedKey × Addr × Value), Paired (fun p q => q.1 = sKey p.1 ∧ q.2.1 = p.2.1 ∧ ∃ t, q.2.2 = .int (p.2.2 : Int) t) kvs xs ∧
    ∃ o es ep, h.get? d = some o ∧ o.ExactDict ∧ o.data = .dict es ep ∧ es.toList = xs.map (entryOfKey (nestedKind P w)) ∧ (xs.map (·.1)).Nodup
structure SDict (P : Program) (w : World) (H : Hp) (d : Addr) (kvs : List ((Nat × List Nat) × Addr × Nat)) : Prop where
  at_ : H d = some (.ext (nd P w d kvs))
  keys : ∀ p ∈ kvs, KeyAt H p.2.1 p.1
def look (kvs : List ((Nat × List Nat) × Addr × Nat)) (k : Nat × List Nat) : Option Nat := (kvs.find? fun p => decide (p.1 = k)).map (·.2.2)
theorem ext_ok {P : Program} {w : World} {H : Hp} {h : Heap} {d : Addr} {kvs : List ((Nat × List Nat) × Addr × Nat)} (x : nd P w d kvs h) : ObjOk P w H h d (.ext (nd P w d kvs)) := by
  refine ⟨x, ?_, fun h1 h2 y k => ?_⟩
  · obtain ⟨_, _, _, _, o, _, _, ho, _⟩ := x
    exact ⟨o, ho⟩
  · obtain ⟨a, z, xs, r, o, es, ep, ho, hr⟩ := y
    exact ⟨a, z, xs, r, o, es, ep, k o ho, hr⟩
theorem look_at : ∀ {kvs : List ((Nat × List Nat) × Addr × Nat)} {xs : List (NestedKey × Addr × Value)} (k : Nat × List Nat),
    Paired (fun p q => q.1 = sKey p.1 ∧ q.2.1 = p.2.1 ∧ ∃ t, q.2.2 = .int (p.2.2 : Int) t) kvs xs →
    (look kvs k = none ∧ atKey xs (sKey k) = none) ∨ ∃ v b t, look kvs k = some v ∧ atKey xs (sKey k) = some (b, .int (v : Int) t)
  | [], _, k, .nil => .inl ⟨rfl, rfl⟩
  | p :: kvs, q :: xs, k, .cons r t => by
    obtain ⟨r1, r2, tk, r3⟩ := r
    by_cases e : p.1 = k
    · refine .inr ⟨p.2.2, q.2.1, tk, ?_, ?_⟩
      · simp [look, e]
      · have : q.1 = sKey k := by rw [r1, e]
        simp [atKey, this, ← r3]
    · have e' : ¬ q.1 = sKey k := fun z => e (sKey_inj (by rw [← r1, z]))
      have h1 : look (p :: kvs) k = look kvs k := by simp [look, e]
      have h2 : atKey (q :: xs) (sKey k) = atKey xs (sKey k) := by simp [atKey, e']
      rw [h1, h2]
      exact look_at k t
theorem mem_pair {α β : Type} {F : α → β → Prop} : ∀ {l : List α} {m : List β}, Paired F l m → ∀ y ∈ m, ∃ x ∈ l, F x y
  | _, _, .nil, _, h => by cases h
  | _, _, .cons r t, y, h => by
    rcases List.mem_cons.mp h with e | h
    · exact ⟨_, List.mem_cons_self, e ▸ r⟩
    · obtain ⟨x, hx, z⟩ := mem_pair t y h
      exact ⟨x, List.mem_cons_of_mem _ hx, z⟩
theorem pair_append {α β : Type} {F : α → β → Prop} : ∀ {l l' : List α} {m m' : List β}, Paired F l m → Paired F l' m' → Paired F (l ++ l') (m ++ m')
  | _, _, _, _, .nil, s => s
  | _, _, _, _, .cons r t, s => .cons r (pair_append t s)
section
variable {X : Cx} {pins : List (Addr × Obj)} {σ : L2.St} {H : Hp} {s : Shared} {d b : Addr} {k : Nat × List Nat} {kvs : List ((Nat × List Nat) × Addr × Nat)}
theorem SDict.raw (I : Inv X pins σ H s) (x : SDict X.prog X.w H d kvs) : (d == sysModules) = false ∧ kvs.length ≤ sizeLine ∧ ∃ xs : List (NestedKey × Addr × Value),
    Paired (fun p q => q.1 = sKey p.1 ∧ q.2.1 = p.2.1 ∧ ∃ t, q.2.2 = .int (p.2.2 : Int) t) kvs xs ∧ s.heap.DictOfH (nestedKind X.prog X.w) d xs := by
  obtain ⟨⟨a, z, xs, r, o, es, ep, h1, h2, h3, h4, h5⟩, _⟩ := (show ObjOk X.prog X.w H s.heap d (.ext (nd X.prog X.w d kvs)) from I.hok d _ x.at_)
  refine ⟨a, z, xs, r, o, es, ep, h1, h2, h3, h4, fun y hy => ?_, h5⟩
  obtain ⟨p, hp, e1, e2, _⟩ := mem_pair r y hy
  rw [e1, e2]
  exact key_is I.hok (x.keys p hp)
/-- sign not in found -/
def tNotInS (P : Program) (w : World) (ty td : TE) : TE := fun σ H Q => ty σ H fun y H1 => td σ H1 fun x H2 => ∃ d b k kvs, x = .ref d ∧ y = .ref b ∧ SDict P w H2 d kvs ∧ KeyAt H2 b k ∧ Q (.bl (!(look kvs k).isSome)) H2
theorem pc_notInS {i o : Expr} {ty td : TE} (hu : X.A.units + 64 < cLine) (hi : PE X i ty) (ho : PE X o td) : PC X .NotIn i o (tNotInS X.prog X.w ty td) := by
  refine ⟨fun pins s σ H Q I h => ?_⟩
  refine thn (hi.run pins s σ H _ I h) fun iv s1 hh => ?_
  obtain ⟨y, H1, I1, ry, q1⟩ := hh
  refine thn (ho.run pins s1 σ H1 _ I1 q1) fun u s2 hh => ?_
  obtain ⟨x, H2, I2, rx, d, b, k, kvs, ex, ey, sd, ka, q2⟩ := hh
  subst ex; subst ey
  cases rx; cases ry
  obtain ⟨hd, _, xs, r, dd⟩ := sd.raw I2
  refine wpAny_notIn_heap (knd := nestedKind X.prog X.w) (show X.A.units + 1 + 8 < cLine by omega) (key_is I2.hok ka) hd dd ?_
  rcases look_at k r with ⟨e1, e2⟩ | ⟨v, b', t, e1, e2⟩
  · rw [e2]
    rw [e1] at q2
    exact ⟨.bl true, H2, I2.tok _, rfl, q2⟩
  · rw [e2]
    rw [e1] at q2
    exact ⟨.bl false, H2, I2.tok _, rfl, q2⟩
/-- found[sign] -/
def tGetS (P : Program) (w : World) (td ty : TE) : TE := fun σ H Q => td σ H fun x H1 => ty σ H1 fun y H2 => ∃ d b k kvs v, x = .ref d ∧ y = .ref b ∧ SDict P w H2 d kvs ∧ KeyAt H2 b k ∧ look kvs k = some v ∧ Q (.int (v : Nat)) H2
theorem pe_getS {i o : Expr} {pos : Pos} {ty td : TE} (hu : X.A.units + 64 < cLine) (ho : PE X o td) (hi : PE X i ty) (hs : NoSl i) : PE X (.Subscript o i pos) (tGetS X.prog X.w td ty) := by
  refine ⟨fun pins s σ H Q I h => ?_⟩
  refine subD_of PySem.F.slot_dict_getitem.lookup hs (thn (ho.run pins s σ H _ I h) fun u s1 hh => ?_)
  obtain ⟨x, H1, I1, rx, q1⟩ := hh
  refine thn (hi.run pins s1 σ H1 _ I1 q1) fun iv s2 hh => ?_
  obtain ⟨y, H2, I2, ry, d, b, k, kvs, v, ex, ey, sd, ka, lk, q2⟩ := hh
  subst ex; subst ey
  cases rx; cases ry
  obtain ⟨hd, _, xs, r, dd⟩ := sd.raw I2
  refine ⟨dd.typeIs, ?_⟩
  rcases look_at k r with ⟨e1, e2⟩ | ⟨v', b', t, e1, e2⟩
  · rw [lk] at e1
    cases e1
  · rw [lk] at e1
    cases e1
    exact wpAny_getItem_heap (knd := nestedKind X.prog X.w) (show X.A.units + 1 + 8 < cLine by omega) (key_is I2.hok ka) dd e2 ⟨.int (v : Nat), H2, I2.tok _, ⟨t, rfl⟩, q2⟩
/-- found[sign] = state, a key that is not there yet -/
def sPutS (P : Program) (w : World) (td ty tv : TE) : TS := fun D σ H => tv σ H fun v H1 => td σ H1 fun x H2 => ty σ H2 fun y H3 => ∃ d b k kvs n, x = .ref d ∧ y = .ref b ∧ v = .int ((n : Nat) : Int) ∧ SDict P w H3 d kvs ∧ KeyAt H3 b k ∧
  look kvs k = none ∧ kvs.length < sizeLine ∧ D.nx σ (upd H3 d (.ext (nd P w d (kvs ++ [(k, b, n)]))))
theorem ps_putS {i o value : Expr} {pos pos' : Pos} {ty td tv : TE} (hu : X.A.units + 64 < cLine) (ho : PE X o td) (hi : PE X i ty) (hv : PE X value tv) (hs : swapsWith value (some (.Subscript o i pos')) pos.line X.env = pure false) :
    PS X (.Assign [.Subscript o i pos'] value pos) (sPutS X.prog X.w td ty tv) := by
  refine ⟨fun pins s σ H D I h => ?_⟩
  refine wpAny_Assign_Subscript (thn (hv.run pins s σ H _ I h) fun r0 s1 hh => ?_) hs
  obtain ⟨v, H1, I1, rv, q1⟩ := hh
  refine thn (ho.run pins s1 σ H1 _ I1 q1) fun u s2 hh => ?_
  obtain ⟨x, H2, I2, rx, q2⟩ := hh
  refine thn (hi.run pins s2 σ H2 _ I2 q2) fun iv s3 hh => ?_
  obtain ⟨y, H3, I3, ry, d, b, k, kvs, n, ex, ey, ev, sd, ka, lk, hlt, q3⟩ := hh
  subst ex; subst ey; subst ev
  cases rx; cases ry
  obtain ⟨t, rfl⟩ := rv
  obtain ⟨hd, hz, xs, r, dd⟩ := sd.raw I3
  have hn : atKey xs (sKey k) = none := by
    rcases look_at k r with ⟨_, e2⟩ | ⟨v', _, _, e1, _⟩
    · exact e2
    · rw [lk] at e1
      cases e1
  refine wpAny_setItem_heap (knd := nestedKind X.prog X.w) (hsz := by rw [← Paired.length r]; exact hz) (show X.A.units + 1 + 8 < cLine by omega) (key_is I3.hok ka) dd fun h' dd' hs' => ?_
  have es : storedH xs (sKey k) b (.int (n : Int) t) = xs ++ [(sKey k, b, .int (n : Int) t)] := storedH_new hn _ _
  rw [es] at dd'
  obtain ⟨o5, es5, ep5, g1, g2, g3, g4, _, g6⟩ := dd'
  refine ⟨σ, _, I3.write (x := d) (e := d) (by rw [sd.at_]; exact True.intro) (.inl rfl) (fun c q hc z => (hs'.2 c hc).trans z) ⟨o5, g1⟩ (ext_ok ⟨hd, ?_, _, pair_append r (.cons ⟨rfl, rfl, t, rfl⟩ .nil), o5, es5, ep5, g1, g2, g3, g4, g6⟩), q3⟩
  rw [List.length_append]
  exact hlt
/-- found = {} -/
def tNewS (P : Program) (w : World) : TE := fun _ H Q => ∀ p, H p = none → Q (.ref p) (upd H p (.ext (nd P w p [])))
theorem pe_newS {pos : Pos} : PE X (.Dict [] [] pos) (tNewS X.prog X.w) := by
  refine ⟨fun pins s σ H Q I h => wpAny_Dict_empty ?_⟩
  have g1 : (s.heap.push { cls := .type "dict", data := .dict #[] }).get? s.heap.objs.size = some { cls := .type "dict", data := .dict #[] } := Heap.get?_push_size _ rfl
  refine ⟨.ref s.heap.objs.size, _, I.laid (a := s.heap.objs.size) (t' := s.toks) (fun _ _ q => Heap.get?_push_of_some _ q) (Nat.le_refl _) (ext_ok ⟨?_, Nat.zero_le _, [], .nil, _, #[], 0, g1, ⟨rfl, rfl, rfl⟩, rfl, rfl, List.nodup_nil⟩), rfl, h _ (I.hok.fresh (Nat.le_refl _))⟩
  exact beq_eq_false_iff_ne.mpr (Ne.symm (Nat.ne_of_lt I.big))
end
end K04R

set_option Elab.async false
set_option linter.all false
set_option maxRecDepth 100000
set_option maxHeartbeats 2000000
/-! K04RulesB: rules for defs that run where an exception is handled, and where none is, at once. -/
namespace K04H
open PySem PySem.Spec PyProof.Rows L2 L2H

/-! ### iterators that end while an exception is handled -/
section
variable {prog : Program} {w : World} {A : Around} {E : Value → Shared → Prop} {s : Shared}
/-- StopIteration, made and raised by an iterator -/
theorem stop_hot {α : Type} {x1 : Addr} {Q : α → Shared → Prop} (hot : HotX.HotAt A x1 s.heap)
    (hE : ∀ h' e, (∀ b o, s.heap.get? b = some o → h'.get? b = some o) → (∃ o, h'.get? e = some o ∧ o.cls = .type "StopIteration") → E (.ref e) { s with heap := h' }) :
    wpAny (model prog w) A (newExc (.type "StopIteration") [] >>= fun e => (raiseNew e : Sem α)) Q E s := by
  obtain ⟨hh, o1, vs1, h1, d1, c1⟩ := hot
  refine wpAny_bind ?_
  simp only [newExc, newTuple]
  refine wpAny_bind (wpAny_newObj_type ?_ (by size_fits))
  refine wpAny_bind (m := firstArgMember _ _) (wpAny_of_eq (a := Value.none) (by first | rfl | (simp only [firstArgMember]; rfl)) ?_)
  refine wpAny_newObj_type ?_ (by size_fits)
  have g1 := Heap.get?_push_of_some (h := s.heap) { cls := .type "tuple", data := .seq ([] : List Value).toArray } h1
  have lt1 := Heap.lt_size g1
  refine HotX.raiseNew_hot ⟨hh, o1, vs1, Heap.get?_push_of_some _ g1, d1, c1⟩ (Nat.ne_of_lt lt1) (Heap.get?_push_size _ rfl) rfl (by first | (simp; done) | (simp; omega) | (simp only [Array.size_append]; simp; omega)) ?_
  refine hE _ _ (fun b o q => ?_) ⟨_, Heap.get?_update_self _ (Heap.get?_push_size _ rfl) rfl, rfl⟩
  have g2 := Heap.get?_push_of_some (h := s.heap) { cls := .type "tuple", data := .seq ([] : List Value).toArray } q
  rw [Heap.get?_update_other _ _ (Nat.ne_of_gt (Heap.lt_size g2))]
  exact Heap.get?_push_of_some _ g2
theorem tuple_end_hot {it t x1 : Addr} {i : Nat} {items : Array Value} {Q : Option Value → Shared → Prop} (hot : HotX.HotAt A x1 s.heap) (hne : x1 ≠ it) (hit : s.heap.IsTupleIter it t i) (ht : s.heap.IsTuple t items) (hx : items[i]? = none)
    (hQ : ∀ h', (∀ b o, b ≠ it → s.heap.get? b = some o → h'.get? b = some o) → Q none { s with heap := h' }) : wpAny (model prog w) A (pyNext (.ref it)) Q E s := by
  obtain ⟨o, ho, hc, hd⟩ := id hit
  obtain ⟨ol, hol, _, nl, hdl⟩ := ht
  obtain ⟨hh, o1, vs1, h1, d1, c1⟩ := hot
  unfold pyNext
  refine wpAny_bind (wpAny_attempt (wpAny_callSpecial?_slot (name := Str.ofString "__next__") hit.typeIs F.slot_tuple_iterator_next
    (wpAny_call_entry F.slot_tuple_iterator_next hit.typeIs F.entry_tuple_iterator_next ?_ (F.args_tuple_iterator_next_1 _))))
  show wpAny _ _ (field (.ref it) 0 >>= _) _ _ s
  refine wpAny_bind (wpAny_field ho hd (x := .ref t) rfl ?_)
  show wpAny _ _ (if (Value.ref t == Value.none) = true then _ else _) _ _ s
  rw [if_neg (show ¬ ((Value.ref t == Value.none) = true) from Bool.false_ne_true)]
  show wpAny _ _ (field (.ref it) 1 >>= _) _ _ s
  refine wpAny_bind (wpAny_field ho hd (x := .int i 0) rfl ?_)
  show wpAny _ _ (seqItems? (.ref t) >>= _) _ _ s
  refine wpAny_bind (wpAny_seqItems hol hdl ?_)
  simp only [Int.toNat_natCast, hx]
  refine wpAny_bind (wpAny_rule (wpAny_bind (wpAny_setField ho hd (by simp) ?_)))
  refine stop_hot (x1 := x1) ⟨hh, o1, vs1, (Heap.get?_update_other _ _ (Ne.symm hne)).trans h1, d1, c1⟩ fun h' e k hs => ?_
  obtain ⟨os, hos, hcs⟩ := hs
  refine wpAny_bind (wpAny_isInstance (T := "StopIteration") (b := true) ⟨os, hos, hcs⟩ isSubtype_stop ?_)
  exact wpAny_pure (hQ _ fun b ob hb q => k b ob ((Heap.get?_update_other _ _ (Ne.symm hb)).trans q))
theorem list_end_hot {it l x1 : Addr} {i : Nat} {items : Array Value} {Q : Option Value → Shared → Prop} (hot : HotX.HotAt A x1 s.heap) (hne : x1 ≠ it) (hit : s.heap.IsListIter it l i) (hl : s.heap.IsList l items) (hx : items[i]? = none)
    (hQ : ∀ h', (∀ b o, b ≠ it → s.heap.get? b = some o → h'.get? b = some o) → Q none { s with heap := h' }) : wpAny (model prog w) A (pyNext (.ref it)) Q E s := by
  obtain ⟨o, ho, hc, hd⟩ := id hit
  obtain ⟨ol, hol, _, nl, hdl⟩ := hl
  obtain ⟨hh, o1, vs1, h1, d1, c1⟩ := hot
  unfold pyNext
  refine wpAny_bind (wpAny_attempt (wpAny_callSpecial?_slot (name := Str.ofString "__next__") hit.typeIs slot_listiter_next
    (wpAny_call_entry slot_listiter_next hit.typeIs entry_listiter_next ?_ (args_listiter_next _))))
  show wpAny _ _ (field (.ref it) 0 >>= _) _ _ s
  refine wpAny_bind (wpAny_field ho hd (x := .ref l) rfl ?_)
  show wpAny _ _ (if (Value.ref l == Value.none) = true then _ else _) _ _ s
  rw [if_neg (show ¬ ((Value.ref l == Value.none) = true) from Bool.false_ne_true)]
  show wpAny _ _ (field (.ref it) 1 >>= _) _ _ s
  refine wpAny_bind (wpAny_field ho hd (x := .int i 0) rfl ?_)
  show wpAny _ _ (seqItems? (.ref l) >>= _) _ _ s
  refine wpAny_bind (wpAny_seqItems hol hdl ?_)
  simp only [Int.toNat_natCast, hx]
  refine wpAny_bind (wpAny_rule (wpAny_bind (wpAny_setField ho hd (by simp) ?_)))
  refine stop_hot (x1 := x1) ⟨hh, o1, vs1, (Heap.get?_update_other _ _ (Ne.symm hne)).trans h1, d1, c1⟩ fun h' e k hs => ?_
  obtain ⟨os, hos, hcs⟩ := hs
  refine wpAny_bind (wpAny_isInstance (T := "StopIteration") (b := true) ⟨os, hos, hcs⟩ isSubtype_stop ?_)
  exact wpAny_pure (hQ _ fun b ob hb q => k b ob ((Heap.get?_update_other _ _ (Ne.symm hb)).trans q))
/-- a list walked there; the handled exception's record stands with it -/
theorem walks_list_hot (x1 I ax : Addr) (hne : ax ≠ I) (hxI : x1 ≠ I) (hh : A.handled = some (.ref x1)) (items : Array Value) :
    Walks prog w A I [I, ax, x1] [I] items.size (fun i v => items[i]? = some v) (fun i h => h.IsListIter I ax i ∧ h.IsList ax items ∧ HotX.HotAt A x1 h) where
  sub := fun b hb => by
    rw [List.mem_singleton.mp hb]
    exact List.mem_cons_self
  frame := by
    rintro i h h' ⟨st1, st2, ⟨_, o, vs, e1, e2, e3⟩⟩ hk
    exact ⟨st1.at fun o e => hk I (by simp) o e, st2.at fun o e => hk ax (by simp) o e, hh, o, vs, hk x1 (by simp) o e1, e2, e3⟩
  item := by
    rintro i s Q E hi ⟨st1, st2, ⟨_, o, vs, e1, e2, e3⟩⟩ hQ
    refine wpAny_pyNext_list_item st1 st2 (x := items[i]) (by simp [hi]) fun h' hit' sb => ?_
    exact hQ _ h' s.toks (by simp [hi]) ⟨hit', st2.extBut sb.extBut hne, hh, o, vs, (sb.2 x1 hxI).trans e1, e2, e3⟩ fun b o hb e => sb.extBut b o (fun z => hb (by simp [z])) e
  done := by
    rintro s Q E ⟨st1, st2, hot⟩ hQ
    exact list_end_hot hot hxI st1 st2 (by simp) fun h' k => hQ h' s.toks fun b o hb e => k b o (fun z => hb (by simp [z])) e
  self := fun _ _ _ _ st q => wpAny_pyIter_listiter st.1 q
end

/-! ### min of a list of whole numbers there -/
section
variable {prog : Program} {w : World} {A : Around} {E : Value → Shared → Prop} {s : Shared} {l x1 : Addr} {its : List Value} {ns : List Int} {Q : Value → Shared → Prop}
theorem min_hot (hot : HotX.HotAt A x1 s.heap) (hl : s.heap.IsList l its.toArray) (hi : IntsAre its ns) (hne : 0 < ns.length)
    (h : ∀ h' tk m t', (∀ b o, s.heap.get? b = some o → h'.get? b = some o) → m ∈ ns → (∀ a, a ∈ ns → m ≤ a) → Q (.int m t') { s with heap := h', toks := tk }) : wpAny (model prog w) A (call (.builtin "min") [.ref l]) Q E s := by
  obtain ⟨xs, e⟩ := hi.allInts.items
  have hn : numsOf (intItems xs).toList = ns := by
    rw [← e]
    exact hi.numsOf
  rw [nums_intItems] at hn
  subst hn
  rw [e] at hl
  have hsz : 0 < xs.size := by simpa using hne
  have hot' := hot
  obtain ⟨hh, o1, vs1, g1, g2, g3⟩ := hot
  have hlt : x1 < s.heap.objs.size := Heap.lt_size g1
  refine call_min_walk (iter_intList hl fun s2 es st hfp hlI => ?_)
  subst es
  have g1' := Heap.get?_push_of_some (h := s.heap) { cls := .type "list_iterator", data := .fields #[.ref l, .int 0 0] } g1
  refine ⟨_, _, _, _, _, _, _, rfl, walks_list_hot (A := A.in1) x1 _ l hlI (Nat.ne_of_lt hlt) hh (intItems xs), ⟨st.1, st.2, hh, o1, vs1, g1', g2, g3⟩, fun b hb => ?_, by simpa [intItems] using hsz, CmpOf.ints_lt (numAt xs) (fun _ _ => intItems_at), fun v h' tk hP hk => ?_⟩
  · by_cases hb1 : b = x1
    · rw [hb1]
      exact Heap.lt_size g1'
    · refine hfp b ?_
      simp only [List.mem_cons, List.not_mem_nil, or_false] at hb ⊢
      rcases hb with z | z | z
      · exact .inl z
      · exact .inr z
      · exact absurd z hb1
  · have hP' : (intItems xs)[argBest (fun i j => decide (numAt xs i < numAt xs j)) (xs.size - 1)]? = some v := by simpa [intItems] using hP
    obtain ⟨t, rfl⟩ := intItems_at hP'
    obtain ⟨b1, b2⟩ := argBest_lt (numAt xs) (xs.size - 1)
    refine h h' tk _ t (old_kept hk) ?_ fun a ha => ?_
    · rw [numAt_eq]
      exact PySem.getD_mem (by rw [List.length_map, Array.length_toList]; omega)
    · obtain ⟨j, hj, rfl⟩ := mem_getD ha
      rw [List.length_map, Array.length_toList] at hj
      rw [← numAt_eq]
      exact b2 j (by omega)
end
theorem cr_minH {X : Cx} (hc : HotC X) : CallR X (.builtin "min") (rMin X.K) := by
  intro pins s σ H vs us Q I r h
  obtain ⟨a, ns, rfl, hs, hne, q⟩ := h
  obtain ⟨its, rv, hl, _⟩ := I.list hs
  obtain ⟨x1, hot⟩ := hc.at I
  rw [Vals.ref1 r]
  exact min_hot hot hl.isList rv.ints hne fun h' tk m t' hk h1 h2 => ⟨.int _, H, I.kept hk, ⟨_, rfl⟩, q m h1 h2⟩

/-! ### for over a tuple there -/
theorem turn_tupleH {P : Program} {w : World} {K : PySem.W.Frag} {tg : Expr} (a it : Addr) : TurnH P w K tg (Itt K a) [it] it (fun i h => h.IsTupleIter it a i) where
  mem := List.mem_cons_self
  obj := by
    rintro i h ⟨o, e, c, d⟩ b hb
    rw [List.mem_singleton.mp hb]
    exact ⟨o, e, fun v z => by rw [d] at z; cases z⟩
  keep := fun i h h' st k => st.at fun o e => k it (by simp) o e
  item := by
    rintro X rfl rfl rfl hc i pins s σ H E I hf st ⟨xs, x, hq, hx⟩
    obtain ⟨its, rv, p, hz⟩ := I.tuple hq
    obtain ⟨u, hu, ru⟩ := rv.get hx
    obtain ⟨f0, f1, f2, f3, f4, f5⟩ := hf it (by simp)
    refine wpAny_pyNext_tuple_item st (show s.heap.IsTuple a its.toArray from p) (x := u) (by simpa using hu) fun h' st' sb => ?_
    have J : Inv X pins σ H { s with heap := h' } := I.turned (t' := s.toks) (fun b o hb e => (sb.2 b hb).trans e) f0 f1 f3 f4 f5
    obtain ⟨o, e, c, d⟩ := id st'
    refine ⟨u, rfl, go_of (s := { s with heap := h' }) e c d (by decide) ⟨x, H, J, ru, ⟨rfl, fun ys hy => ?_⟩, st', fun b hb => (hf b hb).1⟩⟩
    rw [I.tuple_inj hy hq]
    exact hx
  done := by
    rintro X rfl rfl rfl ⟨p, ⟨hh, v1, e1, c1⟩, hp⟩ i pins s σ H E I hf st ⟨xs, hq, hx⟩
    obtain ⟨its, rv, pt, hz⟩ := I.tuple hq
    obtain ⟨f0, f1, f2, f3, f4, f5⟩ := hf it (by simp)
    have hl := rv.length
    have hot : HotX.HotAt X.A p.1 s.heap := ⟨hh, p.2, v1, (I.pin p (List.mem_append_left _ hp)).1, e1, c1⟩
    exact tuple_end_hot hot (f5 p (List.mem_append_left _ hp)) st (show s.heap.IsTuple a its.toArray from pt) (by simp; omega) fun h' k => ⟨rfl, I.turned (t' := s.toks) k f0 f1 f3 f4 f5⟩
  self := fun _ _ _ _ _ st h => wpAny_pyIter_tupleiter st h
theorem pi_tupH {X : Cx} {tg l : Expr} {tl : TE} (hl : PE X l tl) : PIH X tg l (iTup X.K tl) := by
  refine ⟨fun pins s σ H R I h => ?_⟩
  refine thn (hl.run pins s σ H _ I h) fun v s1 hh => ?_
  obtain ⟨x, H1, I1, r1, a, e, ⟨xs, hq⟩, q⟩ := hh
  subst e
  cases r1
  obtain ⟨its, rv, p, hz⟩ := I1.tuple hq
  refine wpAny_pyIter_tuple (show s1.heap.IsTuple a its.toArray from p) ?_
  refine ⟨s1.heap.objs.size, [s1.heap.objs.size], _, _, H1, rfl, I1.kept (t' := s1.toks) fun b o e => Heap.get?_push_of_some _ e, turn_tupleH a _, ⟨_, Heap.get?_push_size _ rfl, rfl, rfl⟩, fun b hb => ?_, q⟩
  rw [List.mem_singleton.mp hb]
  exact I1.fpOk (Nat.le_refl _) (I1.hok.fresh (Nat.le_refl _))

/-! ### a comprehension there -/
/-- a block's context that bears what the context around bears -/
abbrev blkP (X : Cx) (s : Shared) (H : Hp) (scope : Scope) (cenv : Env) (fp : List Addr) : Cx := { X.blk s H scope cenv fp with pn := X.pn }
theorem blk_start {X : Cx} {pins : List (Addr × Obj)} {σ : L2.St} {H : Hp} {s : Shared} {scope : Scope} {own : List (Str × Nat)} {fp : List Addr} (I : Inv X pins σ H s) (ok : BlkOk X.N X.env.scope scope own) (hN : X.N.Nodup) (hfp : ∀ b ∈ fp, FpOk X pins H b ∧ b < s.heap.objs.size) :
    Inv (blkP X s H scope (compEnvC scope (cellsFrom (s.heap.objs.size + 1) scope.names (cloFrom X.env.cells scope.names [])) s.heap.objs.size X.env) fp) [] (wipe σ (own.map (·.2))) H { s with heap := pushCells (s.heap.push { cls := .type "dict", data := .dict #[] }) scope.names } := by
  have J := block_start I ok hN hfp
  have K := J.ok
  refine ⟨⟨K.mod, K.kind, K.glob, K.blt, K.above, K.inj, K.has, K.cab, K.hd, K.frames, K.stk, K.exf, K.bs, K.bsz, K.noex, K.exfs, K.funs, K.frf⟩, J.os, J.bare, J.base, J.loc, J.cell, J.free, J.freeC, fun p hp => ?_, J.hok, J.len⟩
  have hp' : p ∈ X.pn := by simpa using hp
  obtain ⟨e, n, nl, nf, nc⟩ := I.pin p (List.mem_append_left _ hp')
  refine ⟨pushCells_keeps _ _ _ _ (Heap.get?_push_of_some _ e), n, Nat.ne_of_lt (Heap.lt_size e), fun z => ?_, nc⟩
  rcases List.mem_cons.mp (I.stkSub p.1 z) with z | z
  · exact nl z
  · exact nf z

theorem lcH_core {X : Cx} {pins : List (Addr × Obj)} {s : Shared} {σ : L2.St} {H : Hp} {Q : VK} {elt tg iter : Expr} {ifs : List Expr} {scope : Scope} {own : List (Str × Nat)} {pos pos' : Pos} {wi : TI} {g : TG} {tt : TT} {te : TE} {use : Option (Value → Sem Unit)} {Qf : Value → Shared → Prop}
    (hc : HotC X) (hN : X.N.Nodup) (I : Inv X pins σ H s) (hi : PIH X tg iter wi) (ok : BlkOk X.N X.env.scope scope own)
    (hg : ∀ s H C cl fp, PG (blkP X s H scope (compEnvC scope cl C X.env) fp) tg g) (ht : ∀ s H C cl fp, PTs (blkP X s H scope (compEnvC scope cl C X.env) fp) ifs tt)
    (he : ∀ s H C cl fp, PE (blkP X s H scope (compEnvC scope cl C X.env) fp) elt te) (hs : ∀ x, foldedSetIterable iter X.env x = pure x)
    (h : tLc wi g tt te (own.map (·.2)) σ H Q)
    (hRR : ∀ D C s' m H', Inv X pins σ H' s' → Q (.ref D) H' → s'.heap.Ns C m → FpOk X pins H' C → compPost (model X.prog X.w) X.A X.xe use Qf (.ref D) C (.ok .next) s') :
    wpAny (model X.prog X.w) X.A (comprehension (.ListComp elt [⟨tg, iter, ifs, 0⟩] scope pos) scope X.env pos' (newList []) false (eval iter X.env) use) Qf X.xe s := by
  have cells : ∀ y ∈ scope.names, y.2 = .free → ∃ c, X.env.cells.lookup y.1 = some c := fun y hy e =>
    (ok.free y hy e).elim (fun k => I.ok.has _ (.inl k)) fun k => I.ok.has _ (.inr k)
  refine wpAny_comprehension_free (use := use) rfl hs (closure_ok cells) ok.kind (fun y hy e => by rw [ok.uniq y hy, e]) (thn (hi.run pins s σ H _ I h) fun xv s1 hx => thn hx fun itv s2 h2 => ?_)
  obtain ⟨it, fp, tn, J, H2, ei, I2, T, st2, f2, q⟩ := h2
  subst ei
  refine wpAny_newObj_type (newEnv_comp ?_) (by show 0 ≤ sizeLine; decide)
  generalize hD : s2.heap.objs.size = D
  have freeD : H2 D = none := I2.hok.fresh (Nat.le_of_eq hD)
  obtain ⟨W, ⟨m0, w0⟩, turn⟩ := q D freeD
  generalize hs3 : ({ s2 with heap := s2.heap.push { cls := .type "list", data := .seq ([] : List Value).toArray } } : Shared) = s3
  have h3 : s3.heap = s2.heap.push { cls := .type "list", data := .seq ([] : List Value).toArray } := by rw [← hs3]
  have I3 : Inv X pins σ (upd H2 D (.lst [])) s3 := by
    rw [← hs3]
    refine I2.laid (t' := s2.toks) (fun b o e => Heap.get?_push_of_some _ e) (Nat.le_of_eq hD) ⟨Nat.zero_le _, [], 0, .nil, ?_⟩
    rw [← hD]
    exact Heap.get?_push_size _ rfl
  have low : ∀ b ∈ fp, b < s2.heap.objs.size := fun b hb => let ⟨_, e, _⟩ := T.obj _ _ st2 b hb; Heap.lt_size e
  have f3 : ∀ b ∈ fp, FpOk X pins (upd H2 D (.lst [])) b ∧ b < s3.heap.objs.size := fun b hb => by
    have hlt := low b hb
    refine ⟨⟨?_, (f2 b hb).2⟩, by rw [h3, Heap.size_push]; exact Nat.lt_succ_of_lt hlt⟩
    rw [upd_ne (by rw [← hD]; exact Nat.ne_of_lt hlt)]
    exact (f2 b hb).1
  have st3 : tn 0 s3.heap := T.keep _ _ _ st2 fun b _ o e => by rw [h3]; exact Heap.get?_push_of_some _ e
  have I4 := blk_start I3 ok hN f3
  have pg := hg s3 (upd H2 D (.lst [])) s3.heap.objs.size (cellsFrom (s3.heap.objs.size + 1) scope.names (cloFrom X.env.cells scope.names [])) fp
  have pt := ht s3 (upd H2 D (.lst [])) s3.heap.objs.size (cellsFrom (s3.heap.objs.size + 1) scope.names (cloFrom X.env.cells scope.names [])) fp
  have pe := he s3 (upd H2 D (.lst [])) s3.heap.objs.size (cellsFrom (s3.heap.objs.size + 1) scope.names (cloFrom X.env.cells scope.names [])) fp
  show codeAny _ _ (.compStart (.ListComp elt [⟨tg, iter, ifs, 0⟩] scope pos) 0 (.ref it) (.ref D) (compEnvC scope (cellsFrom (s3.heap.objs.size + 1) scope.names (cloFrom X.env.cells scope.names [])) s3.heap.objs.size X.env)) (compPost (model X.prog X.w) X.A X.xe use Qf (.ref D) s3.heap.objs.size) { s3 with heap := pushCells (s3.heap.push { cls := .type "dict", data := .dict #[] }) scope.names }
  generalize hce : compEnvC scope (cellsFrom (s3.heap.objs.size + 1) scope.names (cloFrom X.env.cells scope.names [])) s3.heap.objs.size X.env = ce at I4 pg pt pe ⊢
  have cL : ce.locals = s3.heap.objs.size := by subst hce; rfl
  have none3 : ∀ b ∈ fp, (upd H2 D (.lst [])) b = none := fun b hb => (f3 b hb).1.1
  generalize hH3 : upd H2 D (.lst []) = H3 at I3 I4 pg pt pe w0 none3 f3
  generalize hs4 : ({ s3 with heap := pushCells (s3.heap.push { cls := .type "dict", data := .dict #[] }) scope.names } : Shared) = s4 at I4 ⊢
  have st4 : tn 0 s4.heap := T.keep _ _ _ st3 fun b _ o e => by rw [← hs4]; exact pushCells_keeps _ _ _ _ (Heap.get?_push_of_some _ e)
  have hcB : HotC (blkP X s3 H3 scope ce fp) := hc
  have ownfp : ∀ {σ' : L2.St} {H' : Hp} {s' : Shared}, Inv (blkP X s3 H3 scope ce fp) [] σ' H' s' → (∀ b ∈ fp, H' b = none) → ∀ b ∈ fp, FpOk (blkP X s3 H3 scope ce fp) [] H' b := fun {σ' H' s'} I' hn b hb =>
    ⟨hn b hb, (I'.ok.exf b hb).1, I'.ok.exfs b hb, .inl hb, fun x c e => (I'.ok.exf b hb).2 x c e, fun p hp => (f3 b hb).1.2.2.2.2.2 p (List.mem_append_left _ (by simpa using hp))⟩
  have loop : codeAny (model X.prog X.w) X.A (.compLoop (.ListComp elt [⟨tg, iter, ifs, 0⟩] scope pos) 0 (.ref it) (.ref D) ce) (compPost (model X.prog X.w) X.A X.xe use Qf (.ref D) s3.heap.objs.size) s4 := by
    refine compLoop_any (fun n s' => ∃ i H', Inv (blkP X s3 H3 scope ce fp) [] (wipe σ (own.map (·.2))) H' s' ∧ tn i s'.heap ∧ (∀ b ∈ fp, H' b = none) ∧ W i n H') ?_ m0 ⟨0, H3, I4, st4, none3, w0⟩
    rintro n s5 ⟨i, H5, I5, st5, n5, w5⟩
    rcases turn i n H5 w5 with ⟨stop, qq⟩ | ⟨go, Nx, hNx, step⟩
    · refine thnF (T.done (blkP X s3 H3 scope ce fp) rfl rfl rfl hcB i [] s5 _ H5 (fun _ _ => False) I5 (ownfp I5 n5) st5 stop) fun r s6 hh => ?_
      obtain ⟨hr, I6⟩ := hh
      subst hr
      have I7 : Inv X pins σ H5 s6 := I3.call' (ch := fp) I6.os I6.base I6.hok I6.bare fun b hb => ⟨(f3 b hb).1.2.2.2.1, (f3 b hb).1.2.1, (f3 b hb).1.2.2.2.2.1, (f3 b hb).1.2.2.2.2.2⟩
      have nC : H5 s3.heap.objs.size = none := by
        have z : H5 ce.locals = none := I6.free
        rwa [cL] at z
      obtain ⟨m, hn, _⟩ := I6.loc
      have hn : s6.heap.Ns ce.locals m := hn
      rw [cL] at hn
      exact hRR D s3.heap.objs.size s6 m H5 I7 qq hn (I3.fpOk (Nat.le_refl _) nC)
    · refine thnF (T.item (blkP X s3 H3 scope ce fp) rfl rfl rfl hcB i [] s5 _ H5 (fun _ _ => False) I5 (ownfp I5 n5) st5 go) fun r s6 hh => ?_
      obtain ⟨u, hr, h6⟩ := hh
      subst hr
      refine thnF h6 fun _ s7 hh => ?_
      obtain ⟨x, H7, I7, r7, y7, st7, n7⟩ := hh
      have I7p := I7.pinned (ownfp I7 n7) (T.obj _ _ st7)
      refine thnF (pg.run _ s7 _ H7 x u _ I7p r7 (step x H7 y7)) fun _ s8 hh => ?_
      obtain ⟨σ8, H8, I8, hw8, q8⟩ := hh
      refine thnF (pt.run _ s8 σ8 H8 _ I8 q8) fun b s9 hh => ?_
      obtain ⟨H9, I9, q9⟩ := hh
      have fin : ∀ {s' : Shared} {H' : Hp}, Inv (blkP X s3 H3 scope ce fp) ([] ++ pinsAt fp s7.heap) σ8 H' s' → Nx H' → ∃ m, m < n ∧ ∃ i H', Inv (blkP X s3 H3 scope ce fp) [] (wipe σ (own.map (·.2))) H' s' ∧ tn i s'.heap ∧ (∀ b ∈ fp, H' b = none) ∧ W i m H' := fun {s' H'} I' nx => by
        obtain ⟨m', hm, w'⟩ := hNx H' nx
        have pinned : ∀ b ∈ fp, ∀ o, s7.heap.get? b = some o → s'.heap.get? b = some o ∧ H' b = none := fun b hb o e =>
          let z := I'.pin (b, o) (List.mem_append_right _ (List.mem_append_right _ (mem_pinsAt hb e)))
          ⟨z.1, z.2.1⟩
        refine ⟨m', hm, i + 1, H', (I'.unpinned (pins := [])).weak (by rw [← hw8, wipe_length]) (fun j v e => ?_), T.keep _ _ _ st7 fun b hb o e => (pinned b hb o e).1, fun b hb => ?_, w'⟩
        · rw [← hw8] at e
          exact (wipe_some e).1
        · obtain ⟨o, e, _⟩ := T.obj _ _ st7 b hb
          exact (pinned b hb o e).2
      cases b with
      | false =>
        simp only [Bool.false_eq_true, if_false] at q9 ⊢
        exact fin I9 q9
      | true =>
        simp only [if_true] at q9 ⊢
        refine thnF (pe.run _ s9 σ8 H9 _ I9 q9) fun z s10 hh => ?_
        obtain ⟨yv, H10, I10, r10, acc, hD10, hz10, nx⟩ := hh
        exact app_ok (X := blkP X s3 H3 scope ce fp) I10 hD10 hz10 r10 fun s11 I11 => fin I11 nx
  exact codeAny_compStart_list loop (T.self X.A 0 _ _ _ st4 loop)
theorem pe_lcH {X : Cx} {elt tg iter : Expr} {ifs : List Expr} {scope : Scope} {own : List (Str × Nat)} {pos : Pos} {wi : TI} {g : TG} {tt : TT} {te : TE} (hc : HotC X) (hN : X.N.Nodup) (hi : PIH X tg iter wi) (ok : BlkOk X.N X.env.scope scope own)
    (hg : ∀ s H C cl fp, PG (blkP X s H scope (compEnvC scope cl C X.env) fp) tg g) (ht : ∀ s H C cl fp, PTs (blkP X s H scope (compEnvC scope cl C X.env) fp) ifs tt)
    (he : ∀ s H C cl fp, PE (blkP X s H scope (compEnvC scope cl C X.env) fp) elt te) (hs : ∀ x, foldedSetIterable iter X.env x = pure x := by intro _; rfl) :
    PE X (.ListComp elt [⟨tg, iter, ifs, 0⟩] scope pos) (tLc wi g tt te (own.map (·.2))) := by
  refine ⟨fun pins s σ H Q I h => ?_⟩
  rw [eval_ListComp]
  refine lcH_core hc hN I hi ok hg ht he hs h fun D C s' m H' I' q hn f => ⟨m, hn, fun h2 sb => ?_⟩
  obtain ⟨f0, f1, f2, f3, f4, f5⟩ := f
  exact ⟨.ref D, H', I'.turned (t' := s'.toks) (fun b o hb e => (sb.2 b hb).trans e) f0 f1 f3 f4 f5, rfl, q⟩

/-! ### both at once: nothing is handled, or an exception is whose record the context bears -/
def Hush (X : Cx) : Prop := (X.calm = true ∧ X.pn = []) ∨ HotC X
theorem Hush.blk {X : Cx} (h : Hush X) {s : Shared} {H : Hp} {scope : Scope} {cenv : Env} {fp : List Addr} : Hush (blkP X s H scope cenv fp) := h
structure PIG (X : Cx) (tg iter : Expr) (wi : TI) : Prop where
  calm : X.calm = true → PI X tg iter wi
  hot : HotC X → PIH X tg iter wi
section
variable {X : Cx} {tg : Expr}
theorem pi_rangeG {a : Expr} {ta : TA} {p pos : Pos} (hg : Gl X "range") (hm : X.mg "range" = none) (ha : PA X [a] ta) (hs : starEach [a] X.env = [(false, eval a X.env)] := by rfl) : PIG X tg (.Call (.Name "range" p) [a] [] pos) (iRng1 ta) :=
  ⟨fun _ => pi_range1 hg hm ha hs, fun _ => pi_range1H hg hm ha hs⟩
theorem pi_tupG {l : Expr} {tl : TE} (hl : PE X l tl) : PIG X tg l (iTup X.K tl) := ⟨fun _ => pi_tup hl, fun _ => pi_tupH hl⟩
theorem ps_forG {iter : Expr} {body : List Stmt} {wi : TI} {g : TG} {tb : TS} {pos : Pos} (hp : PassesOwn (model X.prog X.w) X.A X.env X.xe) (hc : Hush X) (hi : PIG X tg iter wi) (hg : PG X tg g) (hb : PSs X body tb)
    (hs : ∀ x, foldedSetIterable iter X.env x = pure x := by intro _; rfl) : PS X (.For tg iter body [] pos) (tFor wi g tb) := by
  rcases hc with hc | hc
  · exact ps_for hp hc.1 (hi.calm hc.1) hg hb hs
  · exact ps_forH hp hc (hi.hot hc) hg hb hs
theorem pe_lcG {elt iter : Expr} {ifs : List Expr} {scope : Scope} {own : List (Str × Nat)} {pos : Pos} {wi : TI} {g : TG} {tt : TT} {te : TE} (hc : Hush X) (hN : X.N.Nodup) (hi : PIG X tg iter wi) (ok : BlkOk X.N X.env.scope scope own)
    (hg : ∀ s H C cl fp, PG (blkP X s H scope (compEnvC scope cl C X.env) fp) tg g) (ht : ∀ s H C cl fp, PTs (blkP X s H scope (compEnvC scope cl C X.env) fp) ifs tt)
    (he : ∀ s H C cl fp, PE (blkP X s H scope (compEnvC scope cl C X.env) fp) elt te) (hs : ∀ x, foldedSetIterable iter X.env x = pure x := by intro _; rfl) :
    PE X (.ListComp elt [⟨tg, iter, ifs, 0⟩] scope pos) (tLc wi g tt te (own.map (·.2))) := by
  rcases hc with ⟨hc, hp⟩ | hc
  · have e : ∀ (s : Shared) (H : Hp) (ce : Env) (fp : List Addr), blkP X s H scope ce fp = X.blk s H scope ce fp := fun s H ce fp => by
      unfold blkP
      rw [hp]
    exact pe_lc hc hN (hi.calm hc) ok (fun s H C cl fp => by rw [← e]; exact hg s H C cl fp) (fun s H C cl fp => by rw [← e]; exact ht s H C cl fp) (fun s H C cl fp => by rw [← e]; exact he s H C cl fp) hs
  · exact pe_lcH hc hN (hi.hot hc) ok hg ht he hs
theorem cr_minG (hc : Hush X) : CallR X (.builtin "min") (rMin X.K) := hc.elim (fun h => cr_min h.1) cr_minH
end
/-- a def that runs there as well -/
structure FnG (P : Program) (w : World) (K : PySem.W.Frag) (mg : Str → Option Value) (base : Heap) (k : Nat) (f : Addr) (fd : FuncData) (ps : List Str) (sp : Sp) : Prop where
  calm : FnOk P w K mg base CX0 k f fd ps sp
  hot : FnH P w K mg base CX0 k f fd ps sp
/-- room there or here -/
structure RoomG (k : Nat) (X : Cx) : Prop where
  hd : X.calm = true → Room k X.A
  hot : RoomH k X.A
theorem RoomG.mono {j k : Nat} {X : Cx} (r : RoomG k X) (h : j ≤ k) : RoomG j X := ⟨fun c => (r.hd c).mono h, r.hot.mono h⟩
section
variable {X : Cx} {k : Nat} {f : Addr} {fd : FuncData} {ps : List Str} {sp : Sp} {x : Str} {p pos : Pos} {e : Expr} {es : List Expr} {t : TA}
theorem pe_callG (F : FnG X.prog X.w X.K X.mg X.base k f fd ps sp) (hc : Hush X) (hr : RoomG k X) (hg : Gl X x) (hm : X.mg x = some (.ref f)) (hk : PySem.W.keepIn X.K (.ref f) = true) (hb : Binds X.K fd ps [])
    (ha : PA X (e :: es) t) (hdb : (x == ("__debug__" : Str)) = false := by decide) (he : starEach (e :: es) X.env = (false, eval e X.env) :: starEach es X.env := by rfl) (hpl : (backTo pos (starEach es X.env)).any (·.1) = false := by rfl) :
    PE X (.Call (.Name x p) (e :: es) [] pos) (tCallS sp (fun _ => E0) t) := by
  rcases hc with ⟨hc, _⟩ | hc
  · exact pe_callS F.calm (hr.hd hc) hg hm hk hb (fun σ pins H s e s' _ z => z.elim) ha hdb he hpl
  · exact pe_callH F.hot hr.hot hc hg hm hk hb (fun σ pins H s e s' _ z => z.elim) ha hdb he hpl
end
/-- the context of a def's body: calm, or with the handled exception p -/
abbrev cxG (P : Program) (w : World) (K : PySem.W.Frag) (mg : Str → Option Value) (base : Heap) (N : List Str) (qual : Str) (scope : Scope) (f : Addr) (cd : Value) (A : Around) (outer : List Env) (s : Shared) (H : Hp) (E : XK) (c : Bool) (pn : List (Addr × Obj)) : Cx :=
  { (cxOf CX0 P w K mg base N qual scope f cd A outer s H E).nox with calm := c, pn := pn }
theorem Fun.okG {P : Program} {w : World} {K : PySem.W.Frag} {mg : Str → Option Value} {base : Heap} {x qual : Str} {st : Stmt} {f : Addr} {fd : FuncData} {N ps : List Str} {k : Nat} {sp : Sp} (F : Fun K x qual st f fd) (S : FnScope N ps (defScope st)) (len : ∀ vs H Q E, sp vs H Q E → vs.length = ps.length)
    (hbody : ∀ (cdv : Value) (A : Around) (outer : List Env) (s : Shared) (H : Hp) (vs : List V) (Q : VK) (E : XK) (c : Bool) (pn : List (Addr × Obj)), Hush (cxG P w K mg base N qual (defScope st) f cdv A outer s H E c pn) → RoomG k (cxG P w K mg base N qual (defScope st) f cdv A outer s H E c pn) → sp vs H Q E →
      ∃ t, PSs (cxG P w K mg base N qual (defScope st) f cdv A outer s H E c pn) (defBody st) t ∧ t { nx := fun _ H' => Q .non H', rt := Q } (start N vs) H) : FnG P w K mg base (k + 1) f fd ps sp := by
  obtain ⟨oc, od, kV, doc, pm, an, cdv, ct, osl, rfl, lk, hcd⟩ := F.ex
  constructor
  · refine fn_of lk hcd S len fun A outer s H vs Q E hr hsp => ?_
    obtain ⟨t, h, q⟩ := hbody cdv A outer s H vs Q E true [] (.inl ⟨rfl, rfl⟩) ⟨fun _ => hr, roomH_of hr⟩ hsp
    exact ⟨t, PSs.nox h, q⟩
  · refine fn_ofH lk hcd S len fun A outer s H vs Q E p hot hr hsp => ?_
    obtain ⟨t, h, q⟩ := hbody cdv A outer s H vs Q E false [p] (.inr ⟨p, hot, List.mem_singleton.mpr rfl⟩) ⟨fun z => (nomatch z), hr⟩ hsp
    exact ⟨t, PSs.nox h, q⟩
end K04H

set_option Elab.async false
set_option linter.all false
set_option maxRecDepth 100000
set_option maxHeartbeats 2000000
/-! K04Base: the text by places, what stands where, small lemmas. -/
namespace K04W
open PySem PySem.Spec PyProof.Rows L2 K04 K04R K04H

/-! ### the text -/
def top (i : Nat) : Stmt := PySem.Challenge.pw_maieutic_k04_whole_side_by_side.main.body.getD i (.Pass ⟨0, 0, 0, 0⟩)
abbrev sRefined : Stmt := top 4
abbrev sClasses : Stmt := top 5
abbrev sOwn : Stmt := top 10
abbrev sNext : Stmt := top 11
abbrev sBeside : Stmt := top 12
abbrev sStream : Stmt := top 14
abbrev sPick : Stmt := top 15
abbrev sMachine : Stmt := top 17
abbrev sRun : Stmt := top 18
abbrev sWord : Stmt := top 19
abbrev sSmall : Stmt := top 20
abbrev sAlike : Stmt := top 21
abbrev sGroups : Stmt := top 22
abbrev sCount : Stmt := top 23
abbrev sNumbered : Stmt := top 24
abbrev sLOwn : Stmt := top 25
abbrev sBoth : Stmt := top 26
abbrev sIsM : Stmt := top 27
abbrev sRing : Stmt := top 28
abbrev sRefused : Stmt := top 29
abbrev sLaw : Stmt := top 30
/-- where the defs and classes stand -/
structure Ad where
  refined : Addr
  classes : Addr
  own : Addr
  next : Addr
  beside : Addr
  stream : Addr
  pick : Addr
  machine : Addr
  run : Addr
  word : Addr
  small : Addr
  alike : Addr
  groups : Addr
  count : Addr
  numbered : Addr
  lown : Addr
  both : Addr
  isM : Addr
  ring : Addr
  refused : Addr
  M : Addr
  N : Addr
/-- a def of the module: it stands at f under the name x -/
structure At (K : PySem.W.Frag) (mg : Str → Option Value) (x : Str) (f : Addr) : Prop where
  g : mg x = some (.ref f)
  k : PySem.W.keepIn K (.ref f) = true
structure Txt (K : PySem.W.Frag) (mg : Str → Option Value) (a : Ad) : Prop where
  refined : At K mg "refined" a.refined
  classes : At K mg "classes" a.classes
  own : At K mg "own_parts" a.own
  next : At K mg "next_pair" a.next
  beside : At K mg "beside" a.beside
  stream : At K mg "_law_stream" a.stream
  pick : At K mg "_law_pick" a.pick
  machine : At K mg "_law_machine" a.machine
  run : At K mg "_law_run" a.run
  word : At K mg "_law_word" a.word
  small : At K mg "_law_small" a.small
  alike : At K mg "_law_alike" a.alike
  groups : At K mg "_law_groups" a.groups
  count : At K mg "_law_count" a.count
  numbered : At K mg "_law_numbered" a.numbered
  lown : At K mg "_law_own" a.lown
  both : At K mg "_law_both" a.both
  isM : At K mg "_law_is_machine" a.isM
  ring : At K mg "_law_ring" a.ring
  refused : At K mg "_law_refused" a.refused
  maxL : ∃ t, mg "MAX_LETTERS" = some (.int 4 t)
  maxO : ∃ t, mg "MAX_OUTS" = some (.int 6 t)
  maxS : ∃ t, mg "MAX_STATES" = some (.int 30 t)
  len : mg "len" = none
  range : mg "range" = none
  tuple : mg "tuple" = none
  enum : mg "enumerate" = none
  int : mg "int" = none
  list : mg "list" = none
  isi : mg "isinstance" = none
  min : mg "min" = none

/-! ### what stands in the heap -/
/-- a number -/
abbrev vn (n : Nat) : V := .int (n : Int)
abbrev vns (l : List Nat) : List V := l.map vn
theorem vns_len (l : List Nat) : (vns l).length = l.length := List.length_map _
theorem vns_get {l : List Nat} {i n : Nat} (h : l[i]? = some n) : (vns l)[i]? = some (vn n) := by
  simp [vns, h]
theorem vns_get_inv {l : List Nat} {i : Nat} {v : V} (h : (vns l)[i]? = some v) : ∃ n, l[i]? = some n ∧ v = vn n := by
  unfold vns at h
  rw [List.getElem?_map] at h
  obtain ⟨n, h1, h2⟩ := Option.map_eq_some_iff.mp h
  exact ⟨n, h1, h2.symm⟩
theorem vns_snoc (l : List Nat) (n : Nat) : vns (l ++ [n]) = vns l ++ [vn n] := by simp [vns]

section
variable {K : PySem.W.Frag} {H H0 H' : Hp} {a p l : Addr} {o : HO} {xs : List V}
theorem _root_.L2.Same.up (s : Same H0 H) (n : H0 l = none) : Same H0 (upd H l o) := fun b q e => by
  rw [upd_ne (ne_of_none e n)]
  exact s b q e
theorem _root_.L2.Same.new (n : H p = none) : Same H (upd H p o) := Same.up (Same.refl H) n
theorem _root_.L2.Same.tup (s : Same H H') (h : SqT K H a xs) : SqT K H' a xs := by
  rcases h with (h | ⟨q, h⟩) | h
  · exact .inl (.inl (s _ _ h))
  · exact .inl (.inr ⟨q, s _ _ h⟩)
  · exact .inr h
theorem _root_.L2.Same.tp (s : Same H H') (h : Tp H a xs) : Tp H' a xs := let ⟨ob, e, d⟩ := h; ⟨ob, s _ _ e, d⟩
theorem _root_.L2.Same.key {k : Nat × List Nat} (s : Same H H') (h : KeyAt H a k) : KeyAt H' a k := let ⟨b, h1, h2⟩ := h; ⟨b, s _ _ h1, s _ _ h2⟩
end
/-- a machine's tuples -/
structure MachAt (K : PySem.W.Frag) (H : Hp) (a : Addr) (M : Mach) (m o : Addr) (rows : List Addr) : Prop where
  top : SqT K H a [vn M.lt, vn M.ou, .ref m, .ref o]
  mvs : SqT K H m (rows.map V.ref)
  ops : Tp H o (vns M.op)
  len : rows.length = M.mv.length
  row : ∀ (i : Nat) (b : Addr) (r : List Nat), rows[i]? = some b → M.mv[i]? = some r → SqT K H b (vns r)
theorem MachAt.keep {K : PySem.W.Frag} {H H' : Hp} {a m o : Addr} {M : Mach} {rows : List Addr} (s : Same H H') (x : MachAt K H a M m o rows) : MachAt K H' a M m o rows :=
  ⟨Same.tup s x.top, Same.tup s x.mvs, Same.tp s x.ops, x.len, fun i b r h1 h2 => Same.tup s (x.row i b r h1 h2)⟩
theorem MachAt.row_at {K : PySem.W.Frag} {H : Hp} {a m o : Addr} {M : Mach} {rows : List Addr} (x : MachAt K H a M m o rows) {i : Nat} (h : i < M.mv.length) : ∃ b, rows[i]? = some b ∧ SqT K H b (vns (M.row i)) := by
  have hr : i < rows.length := by rw [x.len]; exact h
  have e : M.mv[i]? = some (M.row i) := by simp [Mach.row, h]
  exact ⟨rows[i], List.getElem?_eq_getElem hr, x.row i _ _ (List.getElem?_eq_getElem hr) e⟩
theorem refs_get {rows : List Addr} {i : Nat} {b : Addr} (h : rows[i]? = some b) : (rows.map V.ref)[i]? = some (V.ref b) := by simp [h]

/-! ### indices -/
theorem ix {xs : List V} {i : Nat} {v : V} (h : xs[i]? = some v) : atI xs (i : Int) = some v := atI_nat h
theorem ixz {xs : List V} {z : Int} {v : V} (i : Nat) (e : z = (i : Int)) (h : xs[i]? = some v) : atI xs z = some v := at_of e h

/-! ### pairs -/
/-- the tuples at as are the pairs ps -/
abbrev PairsOf (H : Hp) : List Addr → List (Nat × Nat) → Prop := Paired fun a p => H a = some (.tup [vn p.1, vn p.2])
/-- a list of pairs -/
def PairsAt (H : Hp) (l : Addr) (ps : List (Nat × Nat)) : Prop := ∃ as : List Addr, H l = some (.lst (as.map V.ref)) ∧ PairsOf H as ps
theorem PairsOf.keep {H H' : Hp} : ∀ {as : List Addr} {ps : List (Nat × Nat)}, (∀ b xs, H b = some (.tup xs) → H' b = some (.tup xs)) → PairsOf H as ps → PairsOf H' as ps
  | _, _, _, .nil => .nil
  | _, _, s, .cons r t => .cons (s _ _ r) (PairsOf.keep s t)
theorem PairsOf.get {H : Hp} : ∀ {as : List Addr} {ps : List (Nat × Nat)} {i : Nat} {p : Nat × Nat}, PairsOf H as ps → ps[i]? = some p → ∃ a, as[i]? = some a ∧ H a = some (.tup [vn p.1, vn p.2])
  | _, _, _, _, .nil, h => by simp at h
  | _, _, 0, _, .cons r _, h => by
    have e := Option.some.inj (show some _ = some _ from h)
    subst e
    exact ⟨_, rfl, r⟩
  | _, _, i + 1, _, .cons _ t, h => by
    obtain ⟨a, h1, h2⟩ := PairsOf.get (i := i) t (by simpa using h)
    exact ⟨a, by simpa using h1, h2⟩
theorem PairsOf.snoc {H : Hp} {as : List Addr} {ps : List (Nat × Nat)} {a : Addr} {p : Nat × Nat} (r : PairsOf H as ps) (h : H a = some (.tup [vn p.1, vn p.2])) : PairsOf H (as ++ [a]) (ps ++ [p]) := pair_append r (.cons h .nil)
theorem PairsOf.len {H : Hp} {as : List Addr} {ps : List (Nat × Nat)} (r : PairsOf H as ps) : as.length = ps.length := Paired.length r
/-- a pair as data -/
def pd (p : Nat × Nat) : PyData := .tuple [.int p.1, .int p.2]
theorem pd_lay (p : Nat × Nat) : (pd p).canLay0 = true := by simp [pd, PyData.canLay0, PyData.canLayAll0]
theorem pd_depth (p : Nat × Nat) : (pd p).depth = 1 := by simp [pd, PyData.depth, PyData.depthAll]
theorem pds_lay : ∀ ps : List (Nat × Nat), PyData.canLayAll0 (ps.map pd) = true
  | [] => by simp [PyData.canLayAll0]
  | p :: ps => by simp [PyData.canLayAll0, pd_lay p, pds_lay ps]
theorem pds_depth : ∀ ps : List (Nat × Nat), PyData.depthAll (ps.map pd) ≤ 1
  | [] => by simp [PyData.depthAll]
  | p :: ps => by
    have h1 := pds_depth ps
    have h2 := pd_depth p
    rw [List.map_cons, PyData.depthAll]
    omega
theorem pd_shaped (p : Nat × Nat) : SeqAt.shaped (pd p) = true := by
  show ((pd p).canLay0 && decide ((pd p).depth ≤ 64)) = true
  rw [pd_lay, pd_depth]
  rfl
theorem pds_shaped (ps : List (Nat × Nat)) : SeqAt.shaped (.list (ps.map pd)) = true := by
  have h2 : PyData.depth (.list (ps.map pd)) ≤ 64 := by
    have := pds_depth ps
    rw [PyData.depth]
    omega
  show (PyData.canLay0 (.list (ps.map pd)) && decide (PyData.depth (.list (ps.map pd)) ≤ 64)) = true
  rw [PyData.canLay0, pds_lay, decide_eq_true h2]
  rfl
theorem pd_eqv (p q : Nat × Nat) : PyData.eqv (pd p) (pd q) = decide (p = q) := by
  obtain ⟨a, b⟩ := p
  obtain ⟨c, d⟩ := q
  have e : PyData.eqv (pd (a, b)) (pd (c, d)) = (((a : Int) == (c : Int)) && (((b : Int) == (d : Int)) && true)) := by simp only [pd, PyData.eqv, PyData.eqvAll]
  rw [e, Bool.and_true, Bool.eq_iff_iff]
  simp only [Bool.and_eq_true, beq_iff_eq, decide_eq_true_eq, Prod.mk.injEq]
  omega
theorem pds_any (ps : List (Nat × Nat)) (p : Nat × Nat) : ((ps.map pd).any fun z => PyData.eqv z (pd p)) = decide (p ∈ ps) := by
  rw [List.any_map, Bool.eq_iff_iff]
  simp only [List.any_eq_true, Function.comp, pd_eqv, decide_eq_true_eq]
  exact ⟨fun ⟨x, hx, e⟩ => e ▸ hx, fun h => ⟨p, h, rfl⟩⟩
theorem dp_pair {K : PySem.W.Frag} {H : Hp} {a : Addr} {p : Nat × Nat} (h : H a = some (.tup [vn p.1, vn p.2])) : Dp K H (.ref a) (pd p) := .tup (SqT.of h) (.cons (.int _) (.cons (.int _) .nil))
theorem dp_pairs {K : PySem.W.Frag} {H : Hp} : ∀ {as : List Addr} {ps : List (Nat × Nat)}, PairsOf H as ps → DpAll K H (as.map V.ref) (ps.map pd)
  | _, _, .nil => .nil
  | _, _, .cons r t => .cons (dp_pair r) (dp_pairs t)
theorem dp_list {K : PySem.W.Frag} {H : Hp} {l : Addr} {as : List Addr} {ps : List (Nat × Nat)} (h : H l = some (.lst (as.map V.ref))) (r : PairsOf H as ps) : Dp K H (.ref l) (.list (ps.map pd)) := .lst (SqL.of h) (dp_pairs r)
/-! lists of numbers as data -/
def nds (l : List Nat) : List PyData := l.map fun (n : Nat) => .int (n : Int)
theorem nds_lay : ∀ l : List Nat, PyData.canLayAll0 (nds l) = true
  | [] => by simp [nds, PyData.canLayAll0]
  | n :: l => by
    have := nds_lay l
    simp only [nds, List.map_cons, PyData.canLayAll0, PyData.canLay0] at this ⊢
    simpa using this
theorem nds_depth : ∀ l : List Nat, PyData.depthAll (nds l) = 0
  | [] => by simp [nds, PyData.depthAll]
  | n :: l => by
    have := nds_depth l
    simp only [nds, List.map_cons, PyData.depthAll, PyData.depth] at this ⊢
    rw [this]
    rfl
theorem nds_shaped (l : List Nat) : SeqAt.shaped (.list (nds l)) = true := by
  have h2 : PyData.depth (.list (nds l)) ≤ 64 := by
    rw [PyData.depth, nds_depth]
    decide
  show (PyData.canLay0 (.list (nds l)) && decide (PyData.depth (.list (nds l)) ≤ 64)) = true
  rw [PyData.canLay0, nds_lay, decide_eq_true h2]
  rfl
theorem dp_nums {K : PySem.W.Frag} {H : Hp} : ∀ l : List Nat, DpAll K H (vns l) (nds l)
  | [] => .nil
  | n :: l => .cons (.int _) (dp_nums l)
theorem nds_eqv (l : List Nat) : PyData.eqv (.list (nds l)) (.list (nds l)) = true := SeqAt.eqv_refl _ (by simp only [PyData.canLay0]; exact nds_lay l)
end K04W

set_option Elab.async false
set_option linter.all false
set_option maxRecDepth 100000
set_option maxHeartbeats 4000000
/-! K04D1: own_parts, next_pair, _law_pick, _law_run. -/
namespace K04W
open PySem PySem.Spec PyProof.Rows L2 K04 K04R K04H

/-! ### the filtering comprehension over a list of numbers -/
theorem lc_sieve {K : PySem.W.Frag} {a : Addr} {w : List Nat} (f : Nat → Option Nat) {g : TG} {tt : TT} {te : TE} {vs : List Nat} {σ : L2.St} {H1 : Hp} {D : Addr} {Qd : Hp → Prop} (hD : H1 D = none) (hw : SqL K H1 a (vns w)) (hlen : w.length ≤ 1000)
    (hs : ∀ x H (Yes : V → Hp → Prop) (No : Hp → Prop), x ∈ w → Same H1 H → (∀ n, f x = some n → Yes (vn n) H) → (f x = none → No H) →
      g (vn x) (wipe σ vs) H fun σ2 H2 => wipe σ2 vs = wipe σ vs ∧ tt σ2 H2 fun b H3 => if b = true then te σ2 H3 Yes else No H3)
    (hd : ∀ H, Same H1 H → H D = some (.lst (vns (w.filterMap f))) → Qd H) :
    ∃ W : Nat → Nat → Hp → Prop, (∃ m, W 0 m (upd H1 D (.lst []))) ∧ ∀ i m H, W i m H →
      ((Itl K a).stop i H ∧ Qd H) ∨ ((Itl K a).go i H ∧ ∃ Nx : Hp → Prop, (∀ H', Nx H' → ∃ m', m' < m ∧ W (i + 1) m' H') ∧ ∀ x H', (Itl K a).yld i H x H' → g x (wipe σ vs) H' fun σ2 H2 => wipe σ2 vs = wipe σ vs ∧ tt σ2 H2 fun b H3 =>
        if b = true then te σ2 H3 fun y H4 => ∃ acc, H4 D = some (.lst acc) ∧ acc.length < sizeLine ∧ Nx (upd H4 D (.lst (acc ++ [y]))) else Nx H3) := by
  refine lc_list (K := K) (a := a) (xs := vns w) (fun i H => Same H1 H ∧ H D = some (.lst (vns ((w.take i).filterMap f)))) ⟨Same.new hD, by rw [upd_same]; rfl⟩ (fun i H _ ⟨s, _⟩ => s.seq hw) ?_ ?_
  · rintro i x H hx ⟨s, hH⟩
    obtain ⟨n, hn, rfl⟩ := vns_get_inv hx
    have hi := (List.getElem?_eq_some_iff.mp hn).1
    have et : w.take (i + 1) = w.take i ++ [n] := by rw [List.take_add_one, hn]; rfl
    have small : (vns ((w.take i).filterMap f)).length < sizeLine := by
      rw [vns_len]
      have h1 := List.length_filterMap_le f (w.take i)
      rw [List.length_take] at h1
      exact small1000 (by omega)
    refine hs n H _ _ (List.mem_of_getElem? hn) s (fun m hm => ?_) fun hm => ?_
    · refine ⟨_, hH, small, s.up hD, ?_⟩
      rw [upd_same, et, List.filterMap_append]
      simp [hm, vns]
    · refine ⟨s, ?_⟩
      rw [et, List.filterMap_append, hH]
      simp [hm]
  · rintro H ⟨s, hH⟩
    rw [vns_len, List.take_length] at hH
    exact hd H s hH
def keepL (l : Nat) (x : Nat) : Option Nat := if x < l then some x else none
def keepR (l : Nat) (x : Nat) : Option Nat := if l ≤ x then some (x - l) else none
theorem keepL_eq (l : Nat) (w : List Nat) : w.filterMap (keepL l) = mine l w := by
  induction w with
  | nil => rfl
  | cons x w ih =>
    unfold mine at *
    by_cases h : x < l
    · simp [keepL, h, ← ih]
    · simp [keepL, h, ← ih]
theorem keepR_eq (l : Nat) (w : List Nat) : w.filterMap (keepR l) = other l w := by
  induction w with
  | nil => rfl
  | cons x w ih =>
    unfold other at *
    by_cases h : l ≤ x
    · simp [keepR, h, ← ih]
    · simp [keepR, h, ← ih]

section
variable {P : Program} {w : World} {K : PySem.W.Frag} {mg : Str → Option Value} {base : Heap}
/-! ### own_parts -/
def spOwn (K : PySem.W.Frag) : Sp := fun vs H Q _ => ∃ (a : Addr) (l : Nat) (w : List Nat), vs = [.ref a, vn l] ∧ SqL K H a (vns w) ∧ w.length ≤ 1000 ∧
  ∀ H' t p q, Same H H' → H' t = some (.tup [.ref p, .ref q]) → H' p = some (.lst (vns (mine l w))) → H' q = some (.lst (vns (other l w))) → Q (.ref t) H'
theorem scOwn : FnScope ["word", "letters", "mine", "other", "letter"] ["word", "letters"] (defScope sOwn) := ⟨rfl, rfl, rfl, by decide +kernel, rfl, by decide +kernel, by decide +kernel⟩
theorem ok_own {f : Addr} {fd : FuncData} (F : Fun K "own_parts" "own_parts" sOwn f fd) : FnOk P w K mg base CX0 1 f fd ["word", "letters"] (spOwn K) := by
  refine F.ok scOwn (fun vs H Q E h => ?_) (fun cdv A outer s H vs Q E hr h => ?_)
  · obtain ⟨a, l, w, rfl, _⟩ := h
    rfl
  · obtain ⟨a, l, w, rfl, hw, hlen, k⟩ := h
    refine ⟨_, pss_cons (ps_setLc (i := 2) (own := [("letter", 4)]) (g := gName 4) rfl scOwn.nd rfl rfl (sw_true rfl rfl rfl (by decide +kernel)) (pi_list (pv 0)) (blkOk_by (N := ["word", "letters", "mine", "other", "letter"]) (sc := defScope sOwn) (by decide +kernel)) (fun _ _ _ _ _ => pg_name (i := 4) scOwn.nd rfl (Or.inl rfl)) (fun _ _ _ _ _ => pts_one (pt_cmpR op_lt (pv 4) (pv 1) (nomark _))) (fun _ _ _ _ _ => pv 4))
      (pss_cons (ps_setLc (i := 3) (own := [("letter", 4)]) (g := gName 4) rfl scOwn.nd rfl rfl (sw_true rfl rfl rfl (by decide +kernel)) (pi_list (pv 0)) (blkOk_by (N := ["word", "letters", "mine", "other", "letter"]) (sc := defScope sOwn) (by decide +kernel)) (fun _ _ _ _ _ => pg_name (i := 4) scOwn.nd rfl (Or.inl rfl)) (fun _ _ _ _ _ => pts_one (pt_cmpR op_ge (pv 4) (pv 1) (nomark _))) (fun _ _ _ _ _ => pe_op op_sub (pv 4) (pv 1)))
      (pss_one (ps_ret (pe_tup (pa_cons (pv 2) (pa_cons (pv 3) pa_nil)))))), ?_⟩
    refine ⟨_, rfl, a, rfl, ⟨_, hw⟩, fun D hD => lc_sieve (keepL l) hD hw hlen (fun x H1 Yes No _ _ hy hn => ?_) fun H1 s1 h1 => ?_⟩
    · refine ⟨rfl, _, rfl, _, rfl, _, _, rfl, rfl, _, rfl, ite2 (fun hc => ?_) fun hc => ?_⟩
      · have hc : (x : Int) < (l : Int) := by simpa using hc
        exact ⟨_, rfl, hy x (by simp [keepL, show x < l by omega])⟩
      · have hc : ¬ (x : Int) < (l : Int) := by simpa using hc
        exact hn (by simp [keepL, show ¬ x < l by omega])
    · refine ⟨_, rfl, a, rfl, ⟨_, s1.seq hw⟩, fun D2 hD2 => lc_sieve (keepR l) hD2 (s1.seq hw) hlen (fun x H2 Yes No _ _ hy hn => ?_) fun H2 s2 h2 => ?_⟩
      · refine ⟨rfl, _, rfl, _, rfl, _, _, rfl, rfl, _, rfl, ite2 (fun hc => ?_) fun hc => ?_⟩
        · have hc : (l : Int) ≤ (x : Int) := by simpa using hc
          refine ⟨_, rfl, _, rfl, _, _, rfl, rfl, ?_⟩
          have e : ((x : Int) - (l : Int)) = ((x - l : Nat) : Int) := by omega
          show Yes (V.int ((x : Int) - (l : Int))) _
          rw [e]
          exact hy (x - l) (by simp [keepR, show l ≤ x by omega])
        · have hc : ¬ (l : Int) ≤ (x : Int) := by simpa using hc
          exact hn (by simp [keepR, show ¬ l ≤ x by omega])
      · refine ⟨_, rfl, _, rfl, (by show 2 ≤ sizeLine; decide), fun t ht => ?_⟩
        have s3 : Same H2 (upd H2 t (.tup [.ref D, .ref D2])) := Same.new ht
        refine k _ t D D2 (s1.trans (s2.trans s3)) upd_same ?_ ?_
        · rw [← keepL_eq]
          exact s3 _ _ (s2 _ _ h1)
        · rw [← keepR_eq]
          exact s3 _ _ h2

/-! ### next_pair -/
def nextP (F S : Mach) (p : Nat × Nat) (c : Nat) : Nat × Nat := if c < F.lt then (F.d p.1 c, p.2) else (p.1, S.d p.2 (c - F.lt))
def spNext (K : PySem.W.Frag) : Sp := fun vs H Q _ => ∃ (a b t ma oa mb ob : Addr) (ra rb : List Addr) (F S : Mach) (p : Nat × Nat) (c : Nat), vs = [.ref a, .ref b, .ref t, vn c] ∧ MachAt K H a F ma oa ra ∧ MachAt K H b S mb ob rb ∧ F.WF ∧ S.WF ∧
  SqT K H t [vn p.1, vn p.2] ∧ p.1 < F.n ∧ p.2 < S.n ∧ c < F.lt + S.lt ∧ ∀ H' q, Same H H' → H' q = some (.tup [vn (nextP F S p c).1, vn (nextP F S p c).2]) → Q (.ref q) H'
theorem scNext : FnScope ["first", "second", "pair", "letter"] ["first", "second", "pair", "letter"] (defScope sNext) := ⟨rfl, rfl, rfl, by decide +kernel, rfl, by decide +kernel, by decide +kernel⟩
theorem ok_next {f : Addr} {fd : FuncData} (F : Fun K "next_pair" "next_pair" sNext f fd) : FnOk P w K mg base CX0 1 f fd ["first", "second", "pair", "letter"] (spNext K) := by
  refine F.ok scNext (fun vs H Q E h => ?_) (fun cdv A outer s H vs Q E hr h => ?_)
  · obtain ⟨a, b, t, ma, oa, mb, ob, ra, rb, F, S, p, c, rfl, _⟩ := h
    rfl
  · obtain ⟨a, b, t, ma, oa, mb, ob, ra, rb, F, S, p, c, rfl, hF, hS, wF, wS, ht, hp1, hp2, hc, k⟩ := h
    refine ⟨_, pss_cons (ps_if (pt_cmpR op_lt (pv 3) (pe_ix ix_tup (pv 0) pe_int (fun _ _ => rfl)) (nomark _))
        (pss_one (ps_ret (pe_tup (pa_cons (pe_ix ix_tup (pe_ix ix_tup (pe_ix ix_tup (pv 0) pe_int (fun _ _ => rfl)) (pe_ix ix_tup (pv 2) pe_int (fun _ _ => rfl)) (fun _ _ => rfl)) (pv 3) (fun _ _ => rfl))
          (pa_cons (pe_ix ix_tup (pv 2) pe_int (fun _ _ => rfl)) pa_nil))))) pss_nil)
      (pss_one (ps_ret (pe_tup (pa_cons (pe_ix ix_tup (pv 2) pe_int (fun _ _ => rfl))
        (pa_cons (pe_ix ix_tup (pe_ix ix_tup (pe_ix ix_tup (pv 1) pe_int (fun _ _ => rfl)) (pe_ix ix_tup (pv 2) pe_int (fun _ _ => rfl)) (fun _ _ => rfl)) (pe_op op_sub (pv 3) (pe_ix ix_tup (pv 0) pe_int (fun _ _ => rfl))) (fun _ _ => rfl)) pa_nil))))), ?_⟩
    refine ⟨_, rfl, _, rfl, a, _, _, _, rfl, rfl, hF.top, ixz 0 rfl rfl, _, _, rfl, rfl, _, rfl, ite2 (fun hl => ?_) fun hl => ?_⟩
    · have hl : c < F.lt := by simpa using hl
      obtain ⟨r, hr1, hr2⟩ := hF.row_at (i := p.1) (by rw [wF.len]; exact hp1)
      have e : nextP F S p c = (F.d p.1 c, p.2) := if_pos hl
      rw [e] at k
      refine ⟨_, rfl, a, _, _, _, rfl, rfl, hF.top, ixz 2 rfl rfl, _, rfl, t, _, _, _, rfl, rfl, ht, ixz 0 rfl rfl, ma, _, _, _, rfl, rfl, hF.mvs, ix (refs_get hr1), _, rfl, r, _, _, _, rfl, rfl, hr2, ix (vns_get (wF.d_get hp1 hl)), _, rfl, t, _, _, _, rfl, rfl, ht, ixz 1 rfl rfl, (by show 2 ≤ sizeLine; decide), fun q hq => ?_⟩
      exact k _ q (Same.new hq) upd_same
    · have hl : ¬ c < F.lt := by simpa using hl
      obtain ⟨r, hr1, hr2⟩ := hS.row_at (i := p.2) (by rw [wS.len]; exact hp2)
      have e : nextP F S p c = (p.1, S.d p.2 (c - F.lt)) := if_neg hl
      rw [e] at k
      refine ⟨_, rfl, t, _, _, _, rfl, rfl, ht, ixz 0 rfl rfl, _, rfl, b, _, _, _, rfl, rfl, hS.top, ixz 2 rfl rfl, _, rfl, t, _, _, _, rfl, rfl, ht, ixz 1 rfl rfl, mb, _, _, _, rfl, rfl, hS.mvs, ix (refs_get hr1), _, rfl, _, rfl, a, _, _, _, rfl, rfl, hF.top, ixz 0 rfl rfl, _, _, rfl, rfl,
        r, _, _, _, rfl, rfl, hr2, ixz (c - F.lt) (by omega) (vns_get (wS.d_get hp2 (by omega))), (by show 2 ≤ sizeLine; decide), fun q hq => ?_⟩
      exact k _ q (Same.new hq) upd_same

/-! ### _law_pick -/
def spPick (K : PySem.W.Frag) : Sp := fun vs H Q _ => ∃ (a : Addr) (ns : List Nat) (at' : Int) (many : Nat), vs = [.ref a, .int at', vn many] ∧ SqL K H a (vns ns) ∧ 0 < ns.length ∧ 0 < many ∧ ∀ r : Nat, r < many → Q (vn r) H
theorem scPick : FnScope ["_law_numbers", "_law_at", "_law_many"] ["_law_numbers", "_law_at", "_law_many"] (defScope sPick) := ⟨rfl, rfl, rfl, by decide +kernel, rfl, by decide +kernel, by decide +kernel⟩
theorem ok_pick {a : Ad} {f : Addr} {fd : FuncData} (F : Fun K "_law_pick" "_law_pick" sPick f fd) (T : Txt K mg a) : FnOk P w K mg base CX0 1 f fd ["_law_numbers", "_law_at", "_law_many"] (spPick K) := by
  refine F.ok scPick (fun vs H Q E h => ?_) (fun cdv A outer s H vs Q E hr h => ?_)
  · obtain ⟨a, ns, at', many, rfl, _⟩ := h
    rfl
  · obtain ⟨b, ns, at', many, rfl, hs, h0, hm, k⟩ := h
    refine ⟨_, pss_one (ps_ret (pe_op op_mod (pe_callTy call_int1 (by rfl) T.int boot_int (pa_cons (pe_ix ix_list (pv 0) (pe_op op_mod (pv 1) (pe_callB call_len_seq (by rfl) T.len boot_len (pa_cons (pv 0) pa_nil))) (fun _ _ => rfl)) pa_nil)) (pv 2))), ?_⟩
    have hl : (vns ns).length = ns.length := vns_len ns
    have hpos : (0 : Int) < ((vns ns).length : Int) := by omega
    have h1 := Int.emod_nonneg at' (show ((vns ns).length : Int) ≠ 0 by omega)
    have h2 := Int.emod_lt_of_pos at' hpos
    obtain ⟨i, hi⟩ : ∃ i : Nat, at' % ((vns ns).length : Int) = (i : Int) := ⟨(at' % ((vns ns).length : Int)).toNat, by omega⟩
    have hi' : i < ns.length := by omega
    have hx : ns[i]? = some ns[i] := List.getElem?_eq_getElem hi'
    refine ⟨_, rfl, _, rfl, _, rfl, b, _, rfl, .inl hs, _, _, rfl, rfl, hpos, b, _, _, _, rfl, rfl, hs, ixz i hi (vns_get hx), .inl ⟨_, rfl, _, rfl, _, _, rfl, rfl, (by show (0 : Int) < (many : Int); omega), ?_⟩⟩
    have e : ((ns[i] : Nat) : Int) % (many : Int) = ((ns[i] % many : Nat) : Int) := (Int.natCast_emod _ _).symm
    show Q (V.int (((ns[i] : Nat) : Int) % (many : Int))) H
    rw [e]
    exact k _ (Nat.mod_lt _ hm)

/-! ### _law_run -/
def spRun (K : PySem.W.Frag) : Sp := fun vs H Q _ => ∃ (a b m o : Addr) (rows : List Addr) (M : Mach) (w : List Nat), vs = [.ref a, .ref b] ∧ MachAt K H a M m o rows ∧ M.WF ∧ SqL K H b (vns w) ∧ (∀ c ∈ w, c < M.lt) ∧ Q (vn (M.run 0 w)) H
theorem scRun : FnScope ["_law_machine_here", "_law_word_here", "_law_state", "_law_letter"] ["_law_machine_here", "_law_word_here"] (defScope sRun) := ⟨rfl, rfl, rfl, by decide +kernel, rfl, by decide +kernel, by decide +kernel⟩
theorem run_take {M : Mach} {w : List Nat} {i c : Nat} (h : w[i]? = some c) : M.run 0 (w.take (i + 1)) = M.d (M.run 0 (w.take i)) c := by
  rw [List.take_add_one, h]
  exact Mach.run_snoc M c _ 0
theorem ok_run {f : Addr} {fd : FuncData} (F : Fun K "_law_run" "_law_run" sRun f fd) : FnOk P w K mg base CX0 1 f fd ["_law_machine_here", "_law_word_here"] (spRun K) := by
  refine F.ok scRun (fun vs H Q E h => ?_) (fun cdv A outer s H vs Q E hr h => ?_)
  · obtain ⟨a, b, m, o, rows, M, w, rfl, _⟩ := h
    rfl
  · obtain ⟨a, b, m, o, rows, M, u, rfl, hM, wM, hw, hlt, k⟩ := h
    refine ⟨_, pss_cons (ps_set (i := 2) scRun.nd rfl (Or.inl rfl) pe_int) (pss_cons (ps_for PassesOwn.never rfl (pi_list (pv 1)) (pg_name (i := 3) scRun.nd rfl (Or.inl rfl))
      (pss_one (ps_set (i := 2) scRun.nd rfl (Or.inl rfl) (pe_ix ix_tup (pe_ix ix_tup (pe_ix ix_tup (pv 0) pe_int (fun _ _ => rfl)) (pv 2) (fun _ _ => rfl)) (pv 3) (fun _ _ => rfl))))) (pss_one (ps_ret (pv 2)))), ?_⟩
    refine ⟨_, rfl, b, rfl, ⟨_, hw⟩, for_list (K := K) (a := b) (xs := vns u) (fun i σ H' => H' = H ∧ ∃ v : Option V, σ = [some (.ref a), some (.ref b), some (vn (M.run 0 (u.take i))), v]) ⟨rfl, none, rfl⟩ (fun i σ H' _ ⟨e, _⟩ => e ▸ hw) ?_ ?_⟩
    · rintro i x σ H' hx ⟨rfl, v, rfl⟩
      obtain ⟨c, hc, rfl⟩ := vns_get_inv hx
      have hst : M.run 0 (u.take i) < M.n := wM.run_lt _ wM.pos fun z hz => hlt z (List.mem_of_mem_take hz)
      have hcl := hlt c (List.mem_of_getElem? hc)
      obtain ⟨r, hr1, hr2⟩ := hM.row_at (i := M.run 0 (u.take i)) (by rw [wM.len]; exact hst)
      refine ⟨_, rfl, a, _, _, _, rfl, rfl, hM.top, ixz 2 rfl rfl, _, rfl, m, _, _, _, rfl, rfl, hM.mvs, ix (refs_get hr1), _, rfl, r, _, _, _, rfl, rfl, hr2, ix (vns_get (wM.d_get hst hcl)), rfl, some (vn c), ?_⟩
      rw [run_take hc]
      rfl
    · rintro σ H' ⟨rfl, v, rfl⟩
      rw [vns_len, List.take_length]
      exact ⟨_, rfl, k⟩
end
end K04W

set_option Elab.async false
set_option linter.all false
set_option maxRecDepth 100000
set_option maxHeartbeats 4000000
/-! K04D2: refined, classes. -/
namespace K04W
open PySem PySem.Spec PyProof.Rows L2 K04 K04.Mach K04R K04H

/-- the tuples stay -/
abbrev Tups (H H' : Hp) : Prop := ∀ b xs, H b = some (.tup xs) → H' b = some (.tup xs)
theorem Tups.same {H H' : Hp} (s : Same H H') : Tups H H' := fun b xs e => s b _ e
theorem Tups.upd {H : Hp} {l : Addr} {o : HO} (n : ∀ xs, H l ≠ some (.tup xs)) : Tups H (L2.upd H l o) := fun b xs e => by
  have hb : b ≠ l := fun z => n xs (by rw [← z]; exact e)
  rw [upd_ne hb]
  exact e
theorem Tups.key {H H' : Hp} (t : Tups H H') {a : Addr} {k : Nat × List Nat} (h : KeyAt H a k) : KeyAt H' a k := let ⟨b, h1, h2⟩ := h; ⟨b, t _ _ h1, t _ _ h2⟩
theorem no_tup {H : Hp} {l : Addr} {o : HO} (h : H l = some o) (n : ∀ xs, o ≠ .tup xs) : ∀ xs, H l ≠ some (.tup xs) := fun xs e => by
  rw [h] at e
  exact n xs (Option.some.inj e)

/-- subscripts within a block: the written part is the def's -/
theorem ixl {X : Cx} (K : PySem.W.Frag) (e : X.K = K := by rfl) : IxR X (rIxL K) := by
  subst e
  exact ix_list
theorem tix {X : Cx} (K : PySem.W.Frag) (e : X.K = K := by rfl) : MtR X "tuple.index" (rTupIx K) := by
  subst e
  exact mt_tupIx
theorem ixt {X : Cx} (K : PySem.W.Frag) (e : X.K = K := by rfl) : IxR X (rIxT K) := by
  subst e
  exact ix_tup

section
variable {X : Cx} {i o value : Expr} {pos pos' : Pos} {ty td tv : TE}
theorem notInS (P : Program) (w : World) (hu : X.A.units + 64 < cLine) (hi : PE X i ty) (ho : PE X o td) (e1 : X.prog = P := by rfl) (e2 : X.w = w := by rfl) : PC X .NotIn i o (tNotInS P w ty td) := by
  subst e1 e2
  exact pc_notInS hu hi ho
theorem getS (P : Program) (w : World) (hu : X.A.units + 64 < cLine) (ho : PE X o td) (hi : PE X i ty) (hs : NoSl i) (e1 : X.prog = P := by rfl) (e2 : X.w = w := by rfl) : PE X (.Subscript o i pos) (tGetS P w td ty) := by
  subst e1 e2
  exact pe_getS hu ho hi hs
theorem putS (P : Program) (w : World) (hu : X.A.units + 64 < cLine) (ho : PE X o td) (hi : PE X i ty) (hv : PE X value tv) (hs : swapsWith value (some (.Subscript o i pos')) pos.line X.env = pure false) (e1 : X.prog = P := by rfl) (e2 : X.w = w := by rfl) :
    PS X (.Assign [.Subscript o i pos'] value pos) (sPutS P w td ty tv) := by
  subst e1 e2
  exact ps_putS hu ho hi hv hs
theorem newS (P : Program) (w : World) (e1 : X.prog = P := by rfl) (e2 : X.w = w := by rfl) : PE X (.Dict [] [] pos) (tNewS P w) := by
  subst e1 e2
  exact pe_newS
end

/-! ### the dict of signs, by turns -/
theorem look_snoc {kvs : List ((Nat × List Nat) × Addr × Nat)} {k k' : Nat × List Nat} {b : Addr} {n : Nat} (h : look kvs k = none) : look (kvs ++ [(k, b, n)]) k' = if k' = k then some n else look kvs k' := by
  by_cases e : k' = k
  · subst e
    rw [if_pos rfl]
    have h1 : kvs.find? (fun p => decide (p.1 = k')) = none := by
      unfold look at h
      exact Option.map_eq_none_iff.mp h
    unfold look
    rw [List.find?_append, h1]
    simp
  · rw [if_neg e]
    unfold look
    rw [List.find?_append]
    have e2 : ¬ k = k' := fun z => e z.symm
    simp [e2]
structure Seen (S : List (Nat × List Nat)) (i : Nat) (kvs : List ((Nat × List Nat) × Addr × Nat)) : Prop where
  len : kvs.length ≤ i
  look : ∀ k, look kvs k = if k ∈ S.take i then some (S.idxOf k) else none
theorem Seen.zero (S : List (Nat × List Nat)) : Seen S 0 [] := ⟨Nat.le_refl _, fun k => by simp [K04R.look]⟩
theorem Seen.old {S : List (Nat × List Nat)} {i : Nat} {kvs : List ((Nat × List Nat) × Addr × Nat)} (h : Seen S i kvs) {k : Nat × List Nat} (hk : S[i]? = some k) (hm : k ∈ S.take i) : Seen S (i + 1) kvs := by
  refine ⟨Nat.le_succ_of_le h.len, fun k' => ?_⟩
  rw [h.look, List.take_add_one, hk]
  have : k' ∈ S.take i ↔ k' ∈ S.take i ++ (some k).toList := by
    simp only [Option.toList_some, List.mem_append, List.mem_singleton]
    exact ⟨.inl, fun z => z.elim id fun e => e ▸ hm⟩
  by_cases c : k' ∈ S.take i
  · rw [if_pos c, if_pos (this.mp c)]
  · rw [if_neg c, if_neg fun z => c (this.mpr z)]
theorem idx_new {S : List (Nat × List Nat)} {i : Nat} {k : Nat × List Nat} (hk : S[i]? = some k) (hm : k ∉ S.take i) : S.idxOf k = i := by
  have hi := (List.getElem?_eq_some_iff.mp hk).1
  have e : S = S.take i ++ k :: S.drop (i + 1) := by
    have := List.take_append_drop i S
    rw [List.drop_eq_getElem_cons hi] at this
    rw [(List.getElem?_eq_some_iff.mp hk).2] at this
    exact this.symm
  rw [e, idxOf_new hm, List.length_take]
  omega
theorem Seen.new {S : List (Nat × List Nat)} {i : Nat} {kvs : List ((Nat × List Nat) × Addr × Nat)} (h : Seen S i kvs) {k : Nat × List Nat} (hk : S[i]? = some k) (hm : k ∉ S.take i) (b : Addr) : Seen S (i + 1) (kvs ++ [(k, b, i)]) := by
  have hn : K04R.look kvs k = none := by rw [h.look, if_neg hm]
  refine ⟨by rw [List.length_append]; have := h.len; simp; omega, fun k' => ?_⟩
  rw [look_snoc hn, h.look, List.take_add_one, hk]
  by_cases e : k' = k
  · subst e
    rw [if_pos rfl, if_pos (by simp), idx_new hk hm]
  · rw [if_neg e]
    have : k' ∈ S.take i ↔ k' ∈ S.take i ++ (some k).toList := by simp [e]
    by_cases c : k' ∈ S.take i
    · rw [if_pos c, if_pos (this.mp c)]
    · rw [if_neg c, if_neg fun z => c (this.mpr z)]

section
variable {P : Program} {w : World} {K : PySem.W.Frag} {mg : Str → Option Value} {base : Heap}
/-! ### refined -/
def spRefined (K : PySem.W.Frag) : Sp := fun vs H Q _ => ∃ (a g m o : Addr) (rows : List Addr) (M : Mach) (gs : List Nat), vs = [.ref a, .ref g] ∧ MachAt K H a M m o rows ∧ M.WF ∧ SqL K H g (vns gs) ∧ gs.length = M.n ∧ M.n ≤ 100 ∧ M.lt ≤ 100 ∧
  ∀ H' p, Same H H' → H' p = some (.lst (vns (refined M gs))) → Q (.ref p) H'
theorem scRefined : FnScope ["machine", "groups", "letters", "found", "result", "state", "row", "sign", "letter"] ["machine", "groups"] (defScope sRefined) := ⟨rfl, rfl, rfl, by decide +kernel, rfl, by decide +kernel, by decide +kernel⟩
theorem ok_refined {a : Ad} {f : Addr} {fd : FuncData} (F : Fun K "refined" "refined" sRefined f fd) (T : Txt K mg a) : FnOk P w K mg base CX0 1 f fd ["machine", "groups"] (spRefined K) := by
  refine F.ok scRefined (fun vs H Q E h => ?_) (fun cdv A outer s H vs Q E hr h => ?_)
  · obtain ⟨b, g, m, o, rows, M, gs, rfl, _⟩ := h
    rfl
  · obtain ⟨b, g, m, o, rows, M, gs, rfl, hM, wM, hg, hgl, hn, hlt, k⟩ := h
    have hu := hr.units
    refine ⟨_, pss_cons (ps_set (i := 2) scRefined.nd rfl (Or.inl rfl) (pe_ix ix_tup (pv 0) pe_int (fun _ _ => rfl)))
      (pss_cons (ps_set (i := 3) scRefined.nd rfl (Or.inl rfl) (newS P w))
      (pss_cons (ps_set (i := 4) scRefined.nd rfl (Or.inl rfl) (pe_lst pa_nil))
      (pss_cons (ps_for PassesOwn.never rfl (pi_enumT (by rfl) T.enum (pa_cons (pe_ix ix_tup (pv 0) pe_int (fun _ _ => rfl)) pa_nil)) (pg_tup rfl (pgs_cons (pg_name (i := 5) scRefined.nd rfl (Or.inl rfl)) (pgs_cons (pg_name (i := 6) scRefined.nd rfl (Or.inr rfl)) pgs_nil)))
        (pss_cons (ps_set (i := 7) scRefined.nd rfl (Or.inl rfl) (pe_tup (pa_cons (pe_ix ix_list (pv 1) (pv 5) (fun _ _ => rfl)) (pa_cons (pe_callTy call_tuple_of (by rfl) T.tuple (by decide +kernel) (pa_cons
            (pe_lc (own := [("letter", 8)]) (g := gName 8) (tt := tYes) rfl scRefined.nd (pi_range1 (by rfl) T.range (pa_cons (pv 2) pa_nil)) (blkOk_by (N := ["machine", "groups", "letters", "found", "result", "state", "row", "sign", "letter"]) (sc := defScope sRefined) (by decide +kernel)) (fun _ _ _ _ _ => pg_name (i := 8) scRefined.nd rfl (Or.inl rfl)) (fun _ _ _ _ _ => pts_nil)
              (fun _ _ _ _ _ => pe_ix (ixl K) (pv 1) (pe_ix (ixt K) (pv 6) (pv 8) (fun _ _ => rfl)) (fun _ _ => rfl))) pa_nil)) pa_nil))))
        (pss_cons (ps_if (pt_cmp (notInS P w hu (pv 7) (pv 3))) (pss_one (putS P w hu (pv 3) (pv 7) (pv 5) rfl)) pss_nil)
        (pss_one (ps_expr (pe_bm PySem.F.plainAttrs_list PySem.F.slot_list_append PySem.F.type_list_append mt_append (pv 4) (pa_cons (getS P w hu (pv 3) (pv 7) (fun _ _ => rfl)) pa_nil)))))))
      (pss_one (ps_ret (pv 4)))))), ?_⟩
    generalize hS : signs M gs = S
    have sget : ∀ i, i < M.n → S[i]? = some (sign M gs i) := fun i hi => by rw [← hS]; exact signs_get gs hi
    have slen : S.length = M.n := by rw [← hS]; exact signs_len gs
    have rget : ∀ i, i < M.n → (refined M gs).take (i + 1) = (refined M gs).take i ++ [S.idxOf (sign M gs i)] := fun i hi => by
      rw [List.take_add_one, show (refined M gs)[i]? = some (S.idxOf (sign M gs i)) from by rw [refined, hS]; exact firsts_get (sget i hi)]
      rfl
    refine ⟨_, rfl, b, _, _, _, rfl, rfl, hM.top, ixz 0 rfl rfl, fun d hd => ⟨Nat.zero_le _, fun R hR => ?_⟩⟩
    have ndR : d ≠ R := fun e => by
      rw [← e, upd_same] at hR
      cases hR
    have hR0 : H R = none := by
      rw [upd_ne (Ne.symm ndR)] at hR
      exact hR
    refine ⟨_, rfl, b, _, _, _, rfl, rfl, Same.tup ((Same.new hd).trans (Same.new hR)) hM.top, ixz 2 rfl rfl, m, _, rfl, Same.tup ((Same.new hd).trans (Same.new hR)) hM.mvs, ?_⟩
    refine for_it (walk_enumT (xs := rows.map V.ref)) (fun i σ H' => ∃ (kvs : List ((Nat × List Nat) × Addr × Nat)) (x y z : Option V), σ = [some (.ref b), some (.ref g), some (vn M.lt), some (.ref d), some (.ref R), x, y, z, none] ∧ Same H H' ∧
      SDict P w H' d kvs ∧ Seen S i kvs ∧ H' R = some (.lst (vns ((refined M gs).take i)))) ⟨[], none, none, none, rfl, (Same.new hd).trans (Same.new hR), ⟨by rw [upd_ne ndR, upd_same] <;> rfl, fun _ z => (nomatch z)⟩, Seen.zero S, upd_same⟩ (fun i σ H' _ ⟨_, _, _, _, _, s, _⟩ => Same.tup s hM.mvs) ?_ ?_
    · rintro i x σ H1 H2 hi ⟨kvs, x1, y1, z1, rfl, s1, hD, hSn, hRl⟩ ⟨Tp, u, v, rfl, hTp, rfl, hu', hv'⟩
      have eu : u = .int (i : Nat) := (Option.some.inj hu').symm
      subst eu
      have hi1 : i < rows.length := by simpa using hi
      have hin : i < M.n := by rw [← wM.len, ← hM.len]; exact hi1
      obtain ⟨r, hr1, hr2⟩ := hM.row_at (i := i) (by rw [wM.len]; exact hin)
      have ev : v = .ref r := by
        have hv' : (rows.map V.ref)[i]? = some v := hv'
        rw [refs_get hr1] at hv'
        exact (Option.some.inj hv').symm
      subst ev
      have sT : Same H1 (upd H1 Tp (.tup [.int (i : Nat), .ref r])) := Same.new hTp
      have s2 := s1.trans sT
      refine ⟨Tp, _, rfl, SqT.of upd_same, rfl, _, _, rfl, _, _, rfl, rfl, ?_⟩
      -- the sign
      have hgi : gs[i]? = some (at_ gs i) := get_at (by rw [hgl]; exact hin)
      refine ⟨_, rfl, _, rfl, g, _, _, _, rfl, rfl, s2.seq hg, ix (vns_get hgi), _, rfl, (M.lt : Int), rfl, by omega, by omega, fun D hDn => ?_⟩
      generalize hH3 : upd H1 Tp (.tup [.int (i : Nat), .ref r]) = H3 at s2 hDn sT ⊢
      refine lc_range (lo := 0) (n := ((M.lt : Int)).toNat) (fun j H' => Same H3 H' ∧ H' D = some (.lst (vns ((List.range j).map fun c => at_ gs (M.d i c))))) ⟨Same.new hDn, upd_same⟩ ?_ ?_
      · rintro j H4 hj ⟨s4, hL⟩
        have hj : j < M.lt := by simpa using hj
        have hdl := wM.d_lt hin hj
        refine ⟨rfl, ?_⟩
        refine ⟨_, rfl, _, rfl, _, rfl, r, _, _, _, rfl, rfl, Same.tup (s2.trans s4) hr2, ixz j (by omega) (vns_get (wM.d_get hin hj)), g, _, _, _, rfl, rfl, (s2.trans s4).seq hg, ix (vns_get (get_at (by rw [hgl]; exact hdl))), _, hL, ?_, s4.up hDn, ?_⟩
        · simp only [vns_len, List.length_map, List.length_range]
          exact small1000 (by omega)
        · rw [upd_same, List.range_succ, List.map_append, ← vns_snoc]
          rfl
      · rintro H4 ⟨s4, hL⟩
        have eL : (List.range ((M.lt : Int)).toNat) = List.range M.lt := by simp
        rw [eL] at hL
        refine ⟨D, _, rfl, .inl ⟨SqL.of hL, fun tp htp => ⟨by show 2 ≤ sizeLine; decide, fun sg hsg => ?_⟩⟩⟩
        -- sign not in found
        have s5 : Same H4 (upd H4 tp (.tup (vns ((List.range M.lt).map fun c => at_ gs (M.d i c))))) := Same.new htp
        generalize hH5 : upd H4 tp (.tup (vns ((List.range M.lt).map fun c => at_ gs (M.d i c)))) = H5 at s5 hsg ⊢
        have s6 : Same H5 (upd H5 sg (.tup [vn (at_ gs i), .ref tp])) := Same.new hsg
        have hkey : KeyAt (upd H5 sg (.tup [vn (at_ gs i), .ref tp])) sg (sign M gs i) := ⟨tp, upd_same, s6 _ _ (by rw [← hH5]; exact upd_same)⟩
        generalize hH6 : upd H5 sg (.tup [vn (at_ gs i), .ref tp]) = H6 at s6 hkey ⊢
        have s16 : Same H1 H6 := sT.trans (s4.trans (s5.trans s6))
        have hD6 : SDict P w H6 d kvs := ⟨s16 _ _ hD.at_, fun p hp => Same.key s16 (hD.keys p hp)⟩
        have hR6 : H6 R = some (.lst (vns ((refined M gs).take i))) := s16 _ _ hRl
        have sz : kvs.length < sizeLine := small1000 (by have := hSn.len; omega)
        have szR : (vns ((refined M gs).take i)).length < sizeLine := by
          rw [vns_len, List.length_take]
          exact small1000 (by omega)
        refine ⟨_, rfl, _, rfl, d, sg, sign M gs i, kvs, rfl, rfl, hD6, hkey, _, rfl, ?_⟩
        rw [hSn.look]
        by_cases hm : sign M gs i ∈ S.take i
        · rw [if_pos hm]
          refine iteF ?_
          refine ⟨_, rfl, .inl ⟨rfl, _, SqL.of hR6⟩, _, rfl, _, rfl, d, sg, sign M gs i, kvs, S.idxOf (sign M gs i), rfl, rfl, hD6, hkey, by rw [hSn.look, if_pos hm], R, _, _, rfl, rfl, hR6, szR, ?_⟩
          have nt : ∀ xs, H6 R ≠ some (.tup xs) := no_tup hR6 fun _ z => by cases z
          refine ⟨kvs, _, _, _, rfl, (s1.trans s16).up hR0, ⟨by rw [upd_ne ndR]; exact hD6.at_, fun p hp => (Tups.upd nt).key (hD6.keys p hp)⟩, hSn.old (sget i hin) hm, ?_⟩
          rw [upd_same, rget i hin, vns_snoc]
        · rw [if_neg hm]
          refine iteT ?_
          have nt : ∀ xs, H6 d ≠ some (.tup xs) := no_tup hD6.at_ fun _ z => by cases z
          refine ⟨_, rfl, _, rfl, _, rfl, d, sg, sign M gs i, kvs, i, rfl, rfl, rfl, hD6, hkey, by rw [hSn.look, if_neg hm], sz, ?_⟩
          have tk : Tups H6 (upd H6 d (.ext (nd P w d (kvs ++ [(sign M gs i, sg, i)])))) := Tups.upd nt
          have hD7 : SDict P w (upd H6 d (.ext (nd P w d (kvs ++ [(sign M gs i, sg, i)])))) d (kvs ++ [(sign M gs i, sg, i)]) := ⟨upd_same, fun p hp => by
            rcases List.mem_append.mp hp with hp | hp
            · exact tk.key (hD6.keys p hp)
            · rw [List.mem_singleton.mp hp]
              exact tk.key hkey⟩
          have hR7 : (upd H6 d (.ext (nd P w d (kvs ++ [(sign M gs i, sg, i)])))) R = some (.lst (vns ((refined M gs).take i))) := by
            rw [upd_ne (Ne.symm ndR)]
            exact hR6
          have hS7 := hSn.new (sget i hin) hm sg
          have sd7 := (s1.trans s16).up (o := .ext (nd P w d (kvs ++ [(sign M gs i, sg, i)]))) hd
          have hk7 := tk.key hkey
          have lk7 : look (kvs ++ [(sign M gs i, sg, i)]) (sign M gs i) = some (S.idxOf (sign M gs i)) := by
            rw [hS7.look, if_pos]
            rw [List.take_add_one, sget i hin]
            simp
          generalize (upd H6 d (.ext (nd P w d (kvs ++ [(sign M gs i, sg, i)])))) = H7 at hD7 hR7 sd7 hk7 ⊢
          refine ⟨_, rfl, .inl ⟨rfl, _, SqL.of hR7⟩, _, rfl, _, rfl, d, sg, sign M gs i, _, S.idxOf (sign M gs i), rfl, rfl, hD7, hk7, lk7, R, _, _, rfl, rfl, hR7, szR, ?_⟩
          have nt7 : ∀ xs, H7 R ≠ some (.tup xs) := no_tup hR7 fun _ z => by cases z
          refine ⟨_, _, _, _, rfl, sd7.up hR0, ⟨by rw [upd_ne ndR]; exact hD7.at_, fun p hp => (Tups.upd nt7).key (hD7.keys p hp)⟩, hS7, ?_⟩
          rw [upd_same, rget i hin, vns_snoc]
    · rintro σ H1 ⟨kvs, x1, y1, z1, rfl, s1, hD, hSn, hRl⟩
      refine ⟨_, rfl, k _ R s1 ?_⟩
      rw [hRl, List.take_of_length_le]
      rw [refined, firsts_len, hS, slen, List.length_map, hM.len, wM.len]
      exact Nat.le_refl _

/-! ### classes -/
def spClasses (K : PySem.W.Frag) : Sp := fun vs H Q _ => ∃ (a m o : Addr) (rows : List Addr) (M : Mach), vs = [.ref a] ∧ MachAt K H a M m o rows ∧ M.WF ∧ M.n ≤ 100 ∧ M.lt ≤ 100 ∧
  ∀ H' p, Same H H' → H' p = some (.lst (vns (classes M))) → Q (.ref p) H'
theorem scClasses : FnScope ["machine", "outputs", "groups", "_", "output"] ["machine"] (defScope sClasses) := ⟨rfl, rfl, rfl, by decide +kernel, rfl, by decide +kernel, by decide +kernel⟩
theorem ok_classes {a : Ad} {f fR : Addr} {fd fdR : FuncData} (F : Fun K "classes" "classes" sClasses f fd) (T : Txt K mg a) (G : FnOk P w K mg base CX0 1 a.refined fdR ["machine", "groups"] (spRefined K)) (bR : Binds K fdR ["machine", "groups"] []) :
    FnOk P w K mg base CX0 2 f fd ["machine"] (spClasses K) := by
  refine F.ok scClasses (fun vs H Q E h => ?_) (fun cdv A outer s H vs Q E hr h => ?_)
  · obtain ⟨b, m, o, rows, M, rfl, _⟩ := h
    rfl
  · obtain ⟨b, m, o, rows, M, rfl, hM, wM, hn, hlt, k⟩ := h
    refine ⟨_, pss_cons (ps_set (i := 1) scClasses.nd rfl (Or.inr rfl) (pe_ix ix_tup (pv 0) pe_int (fun _ _ => rfl)))
      (pss_cons (ps_setLc (i := 2) (own := [("output", 4)]) (g := gName 4) (tt := tYes) rfl scClasses.nd rfl rfl (sw_true rfl rfl rfl (by decide +kernel)) (pi_tup (pv 1)) (blkOk_by (N := ["machine", "outputs", "groups", "_", "output"]) (sc := defScope sClasses) (by decide +kernel)) (fun _ _ _ _ _ => pg_name (i := 4) scClasses.nd rfl (Or.inl rfl)) (fun _ _ _ _ _ => pts_nil)
        (fun _ _ _ _ _ => pe_tupM (r := rTupIx K) PySem.F.slot_tuple_index PySem.F.type_tuple_index (tix K) (pv 1) (pa_cons (pv 4) pa_nil)))
      (pss_cons (ps_for PassesOwn.never rfl (pi_range1 (by rfl) T.range (pa_cons (pe_callB call_len_seq (by rfl) T.len PySem.boot_len (pa_cons (pv 1) pa_nil)) pa_nil)) (pg_name (i := 3) scClasses.nd rfl (Or.inl rfl))
        (pss_one (ps_set (i := 2) scClasses.nd rfl (Or.inl rfl) (pe_call G hr rfl T.refined.g T.refined.k bR .nil pass0 (pa_cons (pv 0) (pa_cons (pv 2) pa_nil))))))
      (pss_one (ps_ret (pv 2))))), ?_⟩
    refine ⟨_, rfl, b, _, _, _, rfl, rfl, hM.top, ixz 3 rfl rfl, _, rfl, o, rfl, ⟨_, hM.ops.sq⟩, fun D hD => ?_⟩
    refine lc_tup (K := K) (a := o) (xs := vns M.op) (fun i H' => Same H H' ∧ H' D = some (.lst (vns ((firsts M.op).take i)))) ⟨Same.new hD, upd_same⟩ (fun i H' _ ⟨s1, _⟩ => (Same.tp s1 hM.ops).sq) ?_ ?_
    · rintro i x H1 hx ⟨s1, hL⟩
      obtain ⟨n, hn1, rfl⟩ := vns_get_inv hx
      refine ⟨rfl, ?_⟩
      have hi : i < M.n := (List.getElem?_eq_some_iff.mp hn1).1
      have hmem := List.mem_of_getElem? hn1
      have hj := idxOf_get hmem
      have e0 : vns M.op = (M.op.map fun (z : Nat) => (z : Int)).map V.int := by simp [vns]
      refine ⟨_, rfl, ⟨o, _, rfl, Same.tp s1 hM.ops⟩, _, rfl, o, M.op.map fun (z : Nat) => (z : Int), (n : Int), M.op.idxOf n, rfl, rfl, by rw [← e0]; exact (Same.tp s1 hM.ops).sq, by simp [hj], ?_, _, hL, ?_, s1.up hD, ?_⟩
      · intro j hjl e
        rw [List.getElem?_map] at e
        obtain ⟨z, hz, ez⟩ := Option.map_eq_some_iff.mp e
        have : z = n := by omega
        subst this
        have := idxOf_le hz
        omega
      · rw [vns_len, List.length_take]
        exact small1000 (by omega)
      · rw [upd_same, List.take_add_one, firsts_get hn1, ← vns_snoc]
        rfl
    · rintro H1 ⟨s1, hL⟩
      have e1 : (firsts M.op).take (vns M.op).length = clsT M 0 := by
        rw [List.take_of_length_le (by rw [vns_len, firsts_len]; exact Nat.le_refl _)]
        rfl
      rw [e1] at hL
      -- the turns
      refine ⟨_, rfl, o, _, rfl, .inr (Same.tp s1 hM.ops).sq, ((vns M.op).length : Int), rfl, by omega, by rw [vns_len]; have : M.op.length ≤ 100 := hn; omega, ?_⟩
      refine for_range (lo := 0) (n := (((vns M.op).length : Nat) : Int).toNat) (fun i σ H' => ∃ (g : Addr) (v : Option V), σ = [some (.ref b), some (.ref o), some (.ref g), v, none] ∧ Same H H' ∧ H' g = some (.lst (vns (clsT M i)))) ⟨D, none, rfl, s1, hL⟩ ?_ ?_
      · rintro i σ H2 hi ⟨g, v, rfl, s2, hg⟩
        refine ⟨_, rfl, _, rfl, b, g, m, o, rows, M, clsT M i, rfl, hM.keep s2, wM, SqL.of hg, clsT_len i, hn, hlt, fun H3 p s3 hp => ?_⟩
        exact ⟨p, _, rfl, s2.trans s3, hp⟩
      · rintro σ H2 ⟨g, v, rfl, s2, hg⟩
        have e2 : (((vns M.op).length : Nat) : Int).toNat = M.n := by
          rw [vns_len]
          simp [Mach.n]
        rw [e2] at hg
        exact ⟨_, rfl, k _ g s2 hg⟩
end
end K04W

set_option Elab.async false
set_option linter.all false
set_option maxRecDepth 100000
set_option maxHeartbeats 4000000
/-! K04D3: beside. -/
namespace K04W
open PySem PySem.Spec PyProof.Rows L2 K04 K04.Mach K04R K04H

/-- what the classes of errors say -/
structure ErrTxt (K : PySem.W.Frag) (mg : Str → Option Value) (a : Ad) : Prop where
  gN : mg "NotAllowed" = some (.ref a.N)
  gM : mg "MaieuticError" = some (.ref a.M)
  xN : PySem.W.excIn K a.N [.type "ValueError", .type "Exception", .type "BaseException", .type "object"] "ValueError.__new__" = true
  kN : PySem.W.keepIn K (.ref a.N) = true
  bN : PySem.W.subIn K (.ref a.N) (.type "BaseException") = some true
  tN : PySem.W.typeIn K (.ref a.N) = some (.type "type")
  eN : PySem.W.exmOne K (.ref a.N) (.ref a.N) = some true
  cN : ExcC K a.N
  iM : PySem.W.kitOne K (.ref a.N) (.ref a.M) = some true
/-- a def that may raise where nothing is handled -/
theorem Fun.okN {P : Program} {w : World} {K : PySem.W.Frag} {mg : Str → Option Value} {base : Heap} {x qual : Str} {st : Stmt} {f : Addr} {fd : FuncData} {N ps : List Str} {k : Nat} {sp : Sp} (F : Fun K x qual st f fd) (S : FnScope N ps (defScope st)) (len : ∀ vs H Q E, sp vs H Q E → vs.length = ps.length)
    (hbody : ∀ (cdv : Value) (A : Around) (outer : List Env) (s : Shared) (H : Hp) (vs : List V) (Q : VK) (E : XK), Room k (A.deeper (envOfC qual (defScope st) s.heap.objs.size f cdv)) → sp vs H Q E →
      ∃ t, PSs (cxOf (L2N.CX P w) P w K mg base N qual (defScope st) f cdv A outer s H E) (defBody st) t ∧ t { nx := fun _ H' => Q .non H', rt := Q } (start N vs) H) : FnOk P w K mg base (L2N.CX P w) (k + 1) f fd ps sp := by
  obtain ⟨oc, od, kV, doc, pm, an, cdv, ct, osl, rfl, lk, hcd⟩ := F.ex
  exact fn_of lk hcd S len fun A outer s H vs Q E hr hsp => hbody cdv A outer s H vs Q E hr hsp

/-! ### rows of numbers -/
abbrev RowsOf (H : Hp) : List Addr → List (List Nat) → Prop := Paired fun a r => H a = some (.tup (vns r))
theorem RowsOf.keep {H H' : Hp} : ∀ {as : List Addr} {rs : List (List Nat)}, Tups H H' → RowsOf H as rs → RowsOf H' as rs
  | _, _, _, .nil => .nil
  | _, _, s, .cons r t => .cons (s _ _ r) (RowsOf.keep s t)
theorem RowsOf.snoc {H : Hp} {as : List Addr} {rs : List (List Nat)} {a : Addr} {r : List Nat} (x : RowsOf H as rs) (h : H a = some (.tup (vns r))) : RowsOf H (as ++ [a]) (rs ++ [r]) := pair_append x (.cons h .nil)
theorem RowsOf.len {H : Hp} {as : List Addr} {rs : List (List Nat)} (x : RowsOf H as rs) : as.length = rs.length := Paired.length x
theorem RowsOf.get {H : Hp} : ∀ {as : List Addr} {rs : List (List Nat)} {i : Nat} {b : Addr} {r : List Nat}, RowsOf H as rs → as[i]? = some b → rs[i]? = some r → H b = some (.tup (vns r))
  | _, _, _, _, _, .nil, h, _ => by simp at h
  | _, _, 0, _, _, .cons x _, h1, h2 => by
    have e1 := Option.some.inj (show some _ = some _ from h1)
    have e2 := Option.some.inj (show some _ = some _ from h2)
    subst e1; subst e2
    exact x
  | _, _, i + 1, _, _, .cons _ t, h1, h2 => RowsOf.get (i := i) t (by simpa using h1) (by simpa using h2)

/-! ### plain facts -/
theorem next_eq {F S : Mach} {p q : Nat × Nat} {c : Nat} (g : Good F S p) (hc : c < F.lt + S.lt) (h : (nexts F S p)[c]? = some q) : (gr F (nextP F S p c).1, gr S (nextP F S p c).2) = q := by
  by_cases hl : c < F.lt
  · rw [nexts_fst hl] at h
    have e : nextP F S p c = (F.d p.1 c, p.2) := if_pos hl
    rw [e]
    show (gr F (F.d p.1 c), gr S p.2) = q
    rw [g.g2]
    exact Option.some.inj h
  · rw [nexts_snd (Nat.not_lt.mp hl) hc] at h
    have e : nextP F S p c = (p.1, S.d p.2 (c - F.lt)) := if_neg hl
    rw [e]
    show (gr F p.1, gr S (S.d p.2 (c - F.lt))) = q
    rw [g.g1]
    exact Option.some.inj h
theorem nextP_lt {F S : Mach} (wF : F.WF) (wS : S.WF) {p : Nat × Nat} {c : Nat} (h1 : p.1 < F.n) (h2 : p.2 < S.n) (hc : c < F.lt + S.lt) : (nextP F S p c).1 < F.n ∧ (nextP F S p c).2 < S.n := by
  by_cases hl : c < F.lt
  · have e : nextP F S p c = (F.d p.1 c, p.2) := if_pos hl
    rw [e]
    exact ⟨wF.d_lt h1 hl, h2⟩
  · have e : nextP F S p c = (p.1, S.d p.2 (c - F.lt)) := if_neg hl
    rw [e]
    exact ⟨h1, wS.d_lt h2 (by omega)⟩
theorem nexts_take {F S : Mach} {p q : Nat × Nat} {c : Nat} (h : (nexts F S p)[c]? = some q) : (nexts F S p).take (c + 1) = (nexts F S p).take c ++ [q] := by
  rw [List.take_add_one, h]
  rfl
theorem idx_pds {ps : List (Nat × Nat)} {q : Nat × Nat} (h : q ∈ ps) : (ps.map pd)[ps.idxOf q]? = some (pd q) := by simp [idxOf_get h]
theorem idx_before {ps : List (Nat × Nat)} {q : Nat × Nat} (m : Nat) (z : PyData) (hm : m < ps.idxOf q) (hz : (ps.map pd)[m]? = some z) : PyData.eqv z (pd q) = false := by
  rw [List.getElem?_map] at hz
  obtain ⟨x, hx, rfl⟩ := Option.map_eq_some_iff.mp hz
  rw [pd_eqv]
  refine decide_eq_false fun e => ?_
  subst e
  have := idxOf_le hx
  omega
/-- the row as far as a letter, told by the order as far as that letter -/
def rowTo (F S : Mach) (o : List (Nat × Nat)) (p : Nat × Nat) (c : Nat) : List Nat := ((nexts F S p).take c).map fun q => (grow o ((nexts F S p).take c)).idxOf q
theorem rowTo_succ {F S : Mach} {o : List (Nat × Nat)} {p q : Nat × Nat} {c : Nat} (h : (nexts F S p)[c]? = some q) :
    rowTo F S o p (c + 1) = rowTo F S o p c ++ [(grow1 (grow o ((nexts F S p).take c)) q).idxOf q] := by
  unfold rowTo
  rw [nexts_take h, grow_snoc, List.map_append]
  congr 1
  refine List.map_congr_left fun z hz => idxOf_pre (grow1_pre _ _) (mem_grow.mpr (.inr hz))

section
variable {P : Program} {w : World} {K : PySem.W.Frag} {mg : Str → Option Value} {base : Heap}
def Small (M : Mach) : Prop := M.n ≤ 100 ∧ M.lt ≤ 100 ∧ M.ou ≤ 100
def TooMany (F S : Mach) : Prop := 4 < F.lt + S.lt ∨ 6 < F.ou * S.ou ∨ ∃ k, k < (ord F S k).length ∧ 30 < (ord F S (k + 1)).length
def spBeside (K : PySem.W.Frag) (C : Addr) : Sp := fun vs H Q E => ∃ (a b ma oa mb ob : Addr) (ra rb : List Addr) (F S : Mach), vs = [.ref a, .ref b] ∧ MachAt K H a F ma oa ra ∧ MachAt K H b S mb ob rb ∧ F.WF ∧ S.WF ∧ Small F ∧ Small S ∧
  (∀ H', Same H H' → TooMany F S → E (.ref C) none H') ∧
  ∀ H' p m o rows k, Same H H' → F.lt + S.lt ≤ 4 → F.ou * S.ou ≤ 6 → k = (ord F S k).length → k ≤ 30 → H' p = some (.tup [vn (F.lt + S.lt), vn (F.ou * S.ou), .ref m, .ref o]) →
    MachAt K H' p (told F S (ord F S k)) m o rows → Q (.ref p) H'
/-- the slots while the rows are made -/
abbrev sgB (b c gt ol ml : Addr) (F S : Mach) (x y z : Option V) : L2.St := [some (.ref b), some (.ref c), some (.int ((F.lt : Int) + S.lt)), some (.int ((F.ou : Int) * S.ou)), some (.ref gt), some (.ref ol), some (.ref ml), x, y, z, none]
/-- behind k rows -/
def WB (Hg : Hp) (b c gt ol ml : Addr) (F S : Mach) (m : Nat) (σ : L2.St) (H' : Hp) : Prop := ∃ (k : Nat) (as mr : List Addr) (x y z : Option V), m + k = 31 ∧ σ = sgB b c gt ol ml F S x y z ∧ Same Hg H' ∧
  H' ol = some (.lst (as.map V.ref)) ∧ PairsOf H' as (ord F S k) ∧ H' ml = some (.lst (mr.map V.ref)) ∧ RowsOf H' mr (rowsOf F S (ord F S k) k) ∧ (ord F S k).length ≤ 30 ∧ k ≤ (ord F S k).length
/-- in the row of the pair p, behind j letters -/
def PB (Hg : Hp) (b c gt ol ml rl : Addr) (F S : Mach) (k : Nat) (p : Nat × Nat) (mr : List Addr) (j : Nat) (σ : L2.St) (H' : Hp) : Prop := ∃ (as : List Addr) (y z : Option V), σ = sgB b c gt ol ml F S (some (.ref rl)) y z ∧ Same Hg H' ∧
  H' ol = some (.lst (as.map V.ref)) ∧ PairsOf H' as (grow (ord F S k) ((nexts F S p).take j)) ∧ H' ml = some (.lst (mr.map V.ref)) ∧ RowsOf H' mr (rowsOf F S (ord F S k) k) ∧ H' rl = some (.lst (vns (rowTo F S (ord F S k) p j)))
/-- row.append(order.index(pair)) -/
theorem turnB {Hg H4 : Hp} {b c gt ol ml rl pt : Addr} {F S : Mach} {k j : Nat} {p q : Nat × Nat} {as mr : List Addr} {y : Option V} (hq : (nexts F S p)[j]? = some q) (small : j ≤ 200)
    (f1 : Hg rl = none) (d1 : rl ≠ ol) (d2 : rl ≠ ml) (s4 : Same Hg H4) (ho : H4 ol = some (.lst (as.map V.ref))) (hp : PairsOf H4 as (grow1 (grow (ord F S k) ((nexts F S p).take j)) q)) (hm : H4 ml = some (.lst (mr.map V.ref)))
    (hr : RowsOf H4 mr (rowsOf F S (ord F S k) k)) (hl : H4 rl = some (.lst (vns (rowTo F S (ord F S k) p j)))) (ht : H4 pt = some (.tup [vn q.1, vn q.2])) :
    tBM K "list" rAppend (tVar 7) (tCons (tBM K "list" (rIndexD K) (tVar 5) (tCons (tVar 9) tNil)) tNil) (sgB b c gt ol ml F S (some (.ref rl)) y (some (.ref pt))) H4 (fun _ H5 => PB Hg b c gt ol ml rl F S k p mr (j + 1) (sgB b c gt ol ml F S (some (.ref rl)) y (some (.ref pt))) H5) := by
  have hmem : q ∈ grow1 (grow (ord F S k) ((nexts F S p).take j)) q := mem_grow1.mpr (.inr rfl)
  refine ⟨_, rfl, .inl ⟨rfl, _, SqL.of hl⟩, _, rfl, .inl ⟨rfl, _, SqL.of ho⟩, _, rfl, ol, .ref pt, pd q, (grow1 (grow (ord F S k) ((nexts F S p).take j)) q).map pd, (grow1 (grow (ord F S k) ((nexts F S p).take j)) q).idxOf q, pd q, rfl, rfl, dp_list ho hp, dp_pair ht, pds_shaped _, pd_shaped _, idx_pds hmem, by rw [pd_eqv]; exact decide_eq_true rfl, idx_before, rl, _, _, rfl, rfl, hl, ?_, ?_⟩
  · rw [vns_len]
    unfold rowTo
    rw [List.length_map, List.length_take]
    exact small1000 (by omega)
  · have nt : ∀ xs, H4 rl ≠ some (.tup xs) := no_tup hl fun _ z => by cases z
    refine ⟨as, y, some (.ref pt), rfl, s4.up f1, by rw [upd_ne (Ne.symm d1)]; exact ho, ?_, by rw [upd_ne (Ne.symm d2)]; exact hm, hr.keep (Tups.upd nt), ?_⟩
    · rw [nexts_take hq, grow_snoc]
      exact hp.keep (Tups.upd nt)
    · rw [upd_same, rowTo_succ hq, vns_snoc]
abbrev nBeside : List Str := ["first", "second", "letters", "outs", "groups", "order", "moves", "row", "letter", "pair", "outputs"]
theorem scBeside : FnScope nBeside ["first", "second"] (defScope sBeside) := ⟨rfl, rfl, rfl, by decide +kernel, rfl, by decide +kernel, by decide +kernel⟩
theorem ok_beside {a : Ad} {f : Addr} {fd fdC fdN : FuncData} (F0 : Fun K "beside" "beside" sBeside f fd) (T : Txt K mg a) (ET : ErrTxt K mg a)
    (GC : FnOk P w K mg base CX0 2 a.classes fdC ["machine"] (spClasses K)) (bC : Binds K fdC ["machine"] [])
    (GN : FnOk P w K mg base CX0 1 a.next fdN ["first", "second", "pair", "letter"] (spNext K)) (bN : Binds K fdN ["first", "second", "pair", "letter"] []) :
    FnOk P w K mg base (L2N.CX P w) 3 f fd ["first", "second"] (spBeside K a.N) := by
  refine Fun.okN F0 scBeside (fun vs H Q E h => ?_) (fun cdv A outer s H vs Q E hr h => ?_)
  · obtain ⟨b, c, ma, oa, mb, ob, ra, rb, F, S, rfl, _⟩ := h
    rfl
  · obtain ⟨b, c, ma, oa, mb, ob, ra, rb, F, S, rfl, hF, hS, wF, wS, ⟨sF1, sF2, sF3⟩, ⟨sS1, sS2, sS3⟩, kE, k⟩ := h
    have hr1 : Room 1 _ := hr.mono (by decide)
    have hu : (A.deeper (envOfC "beside" (defScope sBeside) s.heap.objs.size f cdv)).units + 65 < cLine := by have := hr.un; omega
    obtain ⟨tL, gL⟩ := T.maxL
    obtain ⟨tO, gO⟩ := T.maxO
    obtain ⟨tS, gS⟩ := T.maxS
    refine ⟨_, pss_cons (ps_set (i := 2) scBeside.nd rfl (Or.inl rfl) (pe_op op_add (pe_ix ix_tup (pv 0) pe_int (fun _ _ => rfl)) (pe_ix ix_tup (pv 1) pe_int (fun _ _ => rfl))))
      (pss_cons (ps_set (i := 3) scBeside.nd rfl (Or.inl rfl) (pe_op op_mul (pe_ix ix_tup (pv 0) pe_int (fun _ _ => rfl)) (pe_ix ix_tup (pv 1) pe_int (fun _ _ => rfl))))
      (pss_cons (ps_if (PW.pt (pw_or (pt_cmpR op_gt (pv 2) (pe_glob (v := .int 4) (by rfl) gL ⟨_, rfl⟩) (nomark _)) (pw_or1 (pt_cmpR op_gt (pv 3) (pe_glob (v := .int 6) (by rfl) gO ⟨_, rfl⟩) (nomark _)))))
        (pss_one (L2N.ps_raise rfl (L2N.takes_of rfl rfl rfl rfl) (L2N.pmk_own PySem.F.excBase_ValueError ET.xN ET.gN ET.kN (raises_own ET.bN ET.tN) (by rfl)))) pss_nil)
      (pss_cons (ps_set (i := 4) scBeside.nd rfl (Or.inl rfl) (pe_tup (pa_cons (pe_call GC hr rfl T.classes.g T.classes.k bC .nil pass0 (pa_cons (pv 0) pa_nil)) (pa_cons (pe_call GC hr rfl T.classes.g T.classes.k bC .nil pass0 (pa_cons (pv 1) pa_nil)) pa_nil))))
      (pss_cons (ps_set (i := 5) scBeside.nd rfl (Or.inl rfl) (pe_lst (pa_cons (pe_tup (pa_cons (pe_ix ix_list (pe_ix ix_tup (pv 4) pe_int (fun _ _ => rfl)) pe_int (fun _ _ => rfl)) (pa_cons (pe_ix ix_list (pe_ix ix_tup (pv 4) pe_int (fun _ _ => rfl)) pe_int (fun _ _ => rfl)) pa_nil))) pa_nil)))
      (pss_cons (ps_set (i := 6) scBeside.nd rfl (Or.inl rfl) (pe_lst pa_nil))
      (pss_cons (ps_while (passes_of rfl) (pt_cmpR op_lt (pe_callB call_len_seq (by rfl) T.len PySem.boot_len (pa_cons (pv 6) pa_nil)) (pe_callB call_len_seq (by rfl) T.len PySem.boot_len (pa_cons (pv 5) pa_nil)) (nomark _))
        (pss_cons (ps_set (i := 7) scBeside.nd rfl (Or.inl rfl) (pe_lst pa_nil))
        (pss_cons (ps_for (passes_of rfl) rfl (pi_range1 (by rfl) T.range (pa_cons (pv 2) pa_nil)) (pg_name (i := 8) scBeside.nd rfl (Or.inl rfl))
          (pss_cons (ps_set (i := 9) scBeside.nd rfl (Or.inl rfl) (pe_call GN hr1 rfl T.next.g T.next.k bN .nil pass0 (pa_cons (pv 0) (pa_cons (pv 1) (pa_cons (pe_ix ix_list (pv 5) (pe_callB call_len_seq (by rfl) T.len PySem.boot_len (pa_cons (pv 6) pa_nil)) (fun _ _ => rfl)) (pa_cons (pv 8) pa_nil))))))
          (pss_cons (ps_set (i := 9) scBeside.nd rfl (Or.inl rfl) (pe_tup (pa_cons (pe_ix ix_list (pe_ix ix_tup (pv 4) pe_int (fun _ _ => rfl)) (pe_ix ix_tup (pv 9) pe_int (fun _ _ => rfl)) (fun _ _ => rfl)) (pa_cons (pe_ix ix_list (pe_ix ix_tup (pv 4) pe_int (fun _ _ => rfl)) (pe_ix ix_tup (pv 9) pe_int (fun _ _ => rfl)) (fun _ _ => rfl)) pa_nil))))
          (pss_cons (ps_if (pt_cmpR (op_notInD hu) (pv 9) (pv 5) (by rfl)) (pss_one (ps_expr (pe_bm PySem.F.plainAttrs_list PySem.F.slot_list_append PySem.F.type_list_append mt_append (pv 5) (pa_cons (pv 9) pa_nil)))) pss_nil)
          (pss_one (ps_expr (pe_bm PySem.F.plainAttrs_list PySem.F.slot_list_append PySem.F.type_list_append mt_append (pv 7) (pa_cons (pe_bm PySem.F.plainAttrs_list PySem.F.slot_list_index PySem.F.type_list_index (mt_indexD hu) (pv 5) (pa_cons (pv 9) pa_nil)) pa_nil))))))))
        (pss_cons (ps_if (pt_cmpR op_gt (pe_callB call_len_seq (by rfl) T.len PySem.boot_len (pa_cons (pv 5) pa_nil)) (pe_glob (v := .int 30) (by rfl) gS ⟨_, rfl⟩) (nomark _))
          (pss_one (L2N.ps_raise rfl (L2N.takes_of rfl rfl rfl rfl) (L2N.pmk_own PySem.F.excBase_ValueError ET.xN ET.gN ET.kN (raises_own ET.bN ET.tN) (by rfl)))) pss_nil)
        (pss_one (ps_expr (pe_bm PySem.F.plainAttrs_list PySem.F.slot_list_append PySem.F.type_list_append mt_append (pv 6) (pa_cons (pe_callTy call_tuple_of (by rfl) T.tuple PyProof.Rows.boot_tuple (pa_cons (pv 7) pa_nil)) pa_nil))))))))
      (pss_cons (ps_setLc (i := 10) (own := [("pair", 9)]) (g := gName 9) (tt := tYes) rfl scBeside.nd rfl rfl (sw_true rfl rfl rfl (by decide +kernel)) (pi_list (pv 5)) (blkOk_by (N := nBeside) (sc := defScope sBeside) (by decide +kernel)) (fun _ _ _ _ _ => pg_name (i := 9) scBeside.nd rfl (Or.inl rfl)) (fun _ _ _ _ _ => pts_nil)
        (fun _ _ _ _ _ => pe_op op_add (pe_op op_mul (pe_ix (ixt K) (pe_ix (ixt K) (pv 0) pe_int (fun _ _ => rfl)) (pe_ix (ixt K) (pv 9) pe_int (fun _ _ => rfl)) (fun _ _ => rfl)) (pe_ix (ixt K) (pv 1) pe_int (fun _ _ => rfl)))
          (pe_ix (ixt K) (pe_ix (ixt K) (pv 1) pe_int (fun _ _ => rfl)) (pe_ix (ixt K) (pv 9) pe_int (fun _ _ => rfl)) (fun _ _ => rfl))))
      (pss_one (ps_ret (pe_tup (pa_cons (pv 2) (pa_cons (pv 3) (pa_cons (pe_callTy call_tuple_of (by rfl) T.tuple PyProof.Rows.boot_tuple (pa_cons (pv 6) pa_nil)) (pa_cons (pe_callTy call_tupleF (by rfl) T.tuple PyProof.Rows.boot_tuple (pa_cons (pv 10) pa_nil)) pa_nil)))))))))))))), ?_⟩
    refine ⟨_, rfl, b, _, _, _, rfl, rfl, hF.top, ixz 0 rfl rfl, _, rfl, c, _, _, _, rfl, rfl, hS.top, ixz 0 rfl rfl, _, _, rfl, rfl, ?_⟩
    refine ⟨_, rfl, b, _, _, _, rfl, rfl, hF.top, ixz 1 rfl rfl, _, rfl, c, _, _, _, rfl, rfl, hS.top, ixz 1 rfl rfl, _, _, rfl, rfl, .inl ⟨by omega, by omega⟩, ?_⟩
    refine ⟨_, rfl, _, _, rfl, rfl, _, rfl, ite2 (fun h1 => ?_) fun h1 => ?_⟩
    · have h1 : (4 : Int) < (F.lt : Int) + (S.lt : Int) := by simpa using h1
      exact kE H (Same.refl H) (.inl (by omega))
    have h1 : ¬ (4 : Int) < (F.lt : Int) + (S.lt : Int) := by simpa using h1
    refine ⟨_, rfl, _, _, rfl, rfl, _, rfl, ite2 (fun h2 => ?_) fun h2 => ?_⟩
    · have h2 : (6 : Int) < (F.ou : Int) * (S.ou : Int) := by simpa using h2
      have e : (F.ou : Int) * (S.ou : Int) = ((F.ou * S.ou : Nat) : Int) := rfl
      exact kE H (Same.refl H) (.inr (.inl (by omega)))
    have h2 : ¬ (6 : Int) < (F.ou : Int) * (S.ou : Int) := by simpa using h2
    have e6 : (F.ou : Int) * (S.ou : Int) = ((F.ou * S.ou : Nat) : Int) := rfl
    have hl4 : F.lt + S.lt ≤ 4 := by omega
    have ho6 : F.ou * S.ou ≤ 6 := by omega
    -- groups
    refine ⟨_, rfl, b, ma, oa, ra, F, rfl, hF, wF, sF1, sF2, fun Ha g0 sa hg0 => ?_⟩
    refine ⟨_, rfl, c, mb, ob, rb, S, rfl, hS.keep sa, wS, sS1, sS2, fun Hb g1 sb hg1 => ⟨by show 2 ≤ sizeLine; decide, fun gt hgt => ?_⟩⟩
    have sg : Same Hb (upd Hb gt (.tup [.ref g0, .ref g1])) := Same.new hgt
    have hGt : (upd Hb gt (.tup [.ref g0, .ref g1])) gt = some (.tup [.ref g0, .ref g1]) := upd_same
    have hG0 := sg _ _ (sb _ _ hg0)
    have hG1 := sg _ _ hg1
    have sHg : Same H (upd Hb gt (.tup [.ref g0, .ref g1])) := sa.trans (sb.trans sg)
    generalize upd Hb gt (.tup [.ref g0, .ref g1]) = Hg at hGt hG0 hG1 sHg ⊢
    have hFg := hF.keep sHg
    have hSg := hS.keep sHg
    -- order, moves
    refine ⟨_, rfl, gt, _, _, _, rfl, rfl, SqT.of hGt, ixz 0 rfl rfl, g0, _, _, _, rfl, rfl, SqL.of hG0, ixz 0 rfl (vns_get (gr_get wF.pos)), _, rfl, gt, _, _, _, rfl, rfl, SqT.of hGt, ixz 1 rfl rfl, g1, _, _, _, rfl, rfl, SqL.of hG1, ixz 0 rfl (vns_get (gr_get wS.pos)), by show 2 ≤ sizeLine; decide, fun t0 ht0 => ⟨by show 1 ≤ sizeLine; decide, fun ol hol => ⟨Nat.zero_le _, fun ml hml => ?_⟩⟩⟩
    have s1 : Same Hg (upd Hg t0 (.tup [vn (gr F 0), vn (gr S 0)])) := Same.new ht0
    have hT0 : (upd Hg t0 (.tup [vn (gr F 0), vn (gr S 0)])) t0 = some (.tup [vn (gr F 0), vn (gr S 0)]) := upd_same
    generalize upd Hg t0 (.tup [vn (gr F 0), vn (gr S 0)]) = H1 at s1 hT0 hol hml ⊢
    have nol : Hg ol = none := s1.free hol
    have dml : ml ≠ ol := fun e => by
      rw [e, upd_same] at hml
      cases hml
    have nml : Hg ml = none := s1.free (by rw [upd_ne dml] at hml; exact hml)
    refine ⟨WB Hg b c gt ol ml F S, ⟨31, 0, [t0], [], none, none, none, rfl, rfl, (s1.up nol).up nml, by rw [upd_ne (Ne.symm dml), upd_same] <;> rfl, .cons ?_ .nil, upd_same, .nil, by show 1 ≤ 30; decide, Nat.zero_le _⟩, ?_⟩
    · have dt1 : t0 ≠ ol := ne_of_none hT0 hol
      have dt2 : t0 ≠ ml := fun e => by
        rw [← e, upd_ne dt1, hT0] at hml
        cases hml
      rw [upd_ne dt2, upd_ne dt1]
      exact hT0
    · rintro m σ H2 ⟨k0, as, mr, x, y, z, hmk, rfl, s2, hO, hPs, hM, hRs, h30, hk0⟩
      have las := hPs.len
      have lmr : mr.length = k0 := by
        rw [hRs.len]
        unfold rowsOf
        rw [List.length_map, List.length_take]
        omega
      refine ⟨_, rfl, ml, _, rfl, .inl (SqL.of hM), _, rfl, ol, _, rfl, .inl (SqL.of hO), _, _, rfl, rfl, _, rfl, ite2 (fun hlt => ?_) fun hlt => ?_⟩
      · have hlt : k0 < (ord F S k0).length := by
          simp only [List.length_map, decide_eq_true_eq] at hlt
          omega
        obtain ⟨p, hp⟩ : ∃ p, (ord F S k0)[k0]? = some p := ⟨_, List.getElem?_eq_getElem hlt⟩
        have gp := ord_good wF wS k0 p (List.mem_of_getElem? hp)
        refine ⟨fun σ' H' => ∃ m', m' < m ∧ WB Hg b c gt ol ml F S m' σ' H', fun _ _ h => h, Nat.zero_le _, fun rl hrl => ?_⟩
        have d1 : rl ≠ ol := fun e => by rw [e, hO] at hrl; cases hrl
        have d2 : rl ≠ ml := fun e => by rw [e, hM] at hrl; cases hrl
        have nrl : Hg rl = none := s2.free hrl
        have nt2 : ∀ xs, H2 rl ≠ some (.tup xs) := fun xs e => by rw [hrl] at e; cases e
        refine ⟨_, rfl, ((F.lt : Int) + (S.lt : Int)), rfl, by omega, by omega, for_range (lo := 0) (n := ((F.lt : Int) + (S.lt : Int)).toNat) (PB Hg b c gt ol ml rl F S k0 p mr) ⟨as, y, z, rfl, s2.up nrl, by rw [upd_ne (Ne.symm d1)]; exact hO, hPs.keep (Tups.upd nt2), by rw [upd_ne (Ne.symm d2)]; exact hM, hRs.keep (Tups.upd nt2), upd_same⟩ ?_ ?_⟩
        · rintro j σ H3 hj ⟨as3, y3, z3, rfl, s3, hO3, hP3, hM3, hR3, hL3⟩
          have hj : j < F.lt + S.lt := by omega
          obtain ⟨q, hq⟩ : ∃ q, (nexts F S p)[j]? = some q := ⟨_, List.getElem?_eq_getElem (by rw [nexts_len]; exact hj)⟩
          have hp3 : (grow (ord F S k0) ((nexts F S p).take j))[k0]? = some p := get_pre (grow_pre _ _) hp
          obtain ⟨ta, hta, hTa⟩ := hP3.get hp3
          refine ⟨_, rfl, _, rfl, _, rfl, _, rfl, ml, _, rfl, .inl (SqL.of hM3), ol, _, _, _, rfl, rfl, SqL.of hO3, ixz k0 (by rw [List.length_map, lmr]) (refs_get hta), _, rfl, b, c, ta, ma, oa, mb, ob, ra, rb, F, S, p, j, by rw [Int.zero_add] <;> rfl, hFg.keep s3, hSg.keep s3, wF, wS, SqT.of hTa, gp.l1, gp.l2, hj, fun H4 qt s4 hqt => ?_⟩
          obtain ⟨b1, b2⟩ := nextP_lt wF wS gp.l1 gp.l2 hj
          have s34 := s3.trans s4
          refine ⟨_, rfl, gt, _, _, _, rfl, rfl, SqT.of (s34 _ _ hGt), ixz 0 rfl rfl, _, rfl, qt, _, _, _, rfl, rfl, SqT.of hqt, ixz 0 rfl rfl, g0, _, _, _, rfl, rfl, SqL.of (s34 _ _ hG0), ix (vns_get (gr_get b1)),
            _, rfl, gt, _, _, _, rfl, rfl, SqT.of (s34 _ _ hGt), ixz 1 rfl rfl, _, rfl, qt, _, _, _, rfl, rfl, SqT.of hqt, ixz 1 rfl rfl, g1, _, _, _, rfl, rfl, SqL.of (s34 _ _ hG1), ix (vns_get (gr_get b2)), by show 2 ≤ sizeLine; decide, fun pt hpt => ?_⟩
          have eq1 := next_eq gp hj hq
          have s45 : Same H4 (upd H4 pt (.tup [vn (gr F (nextP F S p j).1), vn (gr S (nextP F S p j).2)])) := Same.new hpt
          have hPt : (upd H4 pt (.tup [vn (gr F (nextP F S p j).1), vn (gr S (nextP F S p j).2)])) pt = some (.tup [vn q.1, vn q.2]) := by
            rw [upd_same, ← eq1]
          generalize upd H4 pt (.tup [vn (gr F (nextP F S p j).1), vn (gr S (nextP F S p j).2)]) = H5 at s45 hPt ⊢
          have s35 := s4.trans s45
          have hO5 := s35 _ _ hO3
          have hP5 := hP3.keep (Tups.same s35)
          refine ⟨_, rfl, _, rfl, pd q, _, dp_pair hPt, dp_list hO5 hP5, pd_shaped _, pds_shaped _, _, rfl, ?_⟩
          rw [pds_any]
          by_cases hin : q ∈ grow (ord F S k0) ((nexts F S p).take j)
          · rw [decide_eq_true hin]
            refine iteF ?_
            have eg : grow1 (grow (ord F S k0) ((nexts F S p).take j)) q = grow (ord F S k0) ((nexts F S p).take j) := if_pos hin
            exact turnB hq (by omega) nrl d1 d2 (s3.trans s35) hO5 (by rw [eg]; exact hP5) (s35 _ _ hM3) (hR3.keep (Tups.same s35)) (s35 _ _ hL3) hPt
          · rw [decide_eq_false hin]
            refine iteT ?_
            have eg : grow1 (grow (ord F S k0) ((nexts F S p).take j)) q = grow (ord F S k0) ((nexts F S p).take j) ++ [q] := if_neg hin
            have la3 := hP3.len
            have lg : (grow (ord F S k0) ((nexts F S p).take j)).length ≤ 200 := by
              have h1 := grow_len (ord F S k0) ((nexts F S p).take j)
              rw [List.length_take] at h1
              omega
            have nt5 : ∀ xs, H5 ol ≠ some (.tup xs) := no_tup hO5 fun _ z => by cases z
            refine ⟨_, rfl, .inl ⟨rfl, _, SqL.of hO5⟩, _, rfl, ol, _, _, rfl, rfl, hO5, by rw [List.length_map]; exact small1000 (by omega), ?_⟩
            refine turnB (as := as3 ++ [pt]) hq (by omega) nrl d1 d2 ((s3.trans s35).up nol) (by rw [upd_same, List.map_append] <;> rfl) ?_ (by rw [upd_ne dml]; exact s35 _ _ hM3) ((hR3.keep (Tups.same s35)).keep (Tups.upd nt5)) (by rw [upd_ne d1]; exact s35 _ _ hL3) (Tups.upd nt5 _ _ hPt)
            rw [eg]
            exact (hP5.keep (Tups.upd nt5)).snoc (Tups.upd nt5 _ _ hPt)
        · rintro σ H3 ⟨as3, y3, z3, rfl, s3, hO3, hP3, hM3, hR3, hL3⟩
          have en : ((F.lt : Int) + (S.lt : Int)).toNat = F.lt + S.lt := by omega
          have et : (nexts F S p).take ((F.lt : Int) + (S.lt : Int)).toNat = nexts F S p := by
            rw [en]
            exact List.take_of_length_le (Nat.le_of_eq (nexts_len p))
          have er : rowTo F S (ord F S k0) p ((F.lt : Int) + (S.lt : Int)).toNat = rowOf F S (ord F S (k0 + 1)) p := by
            unfold rowTo rowOf
            rw [et, ord_some hp]
          rw [et, ← ord_some hp] at hP3
          rw [er] at hL3
          have la3 := hP3.len
          refine ⟨_, rfl, ol, _, rfl, .inl (SqL.of hO3), _, _, rfl, rfl, _, rfl, ite2 (fun h30' => ?_) fun h30' => ?_⟩
          · have h30' : 30 < (ord F S (k0 + 1)).length := by
              simp only [List.length_map, decide_eq_true_eq] at h30'
              omega
            exact kE H3 (sHg.trans s3) (.inr (.inr ⟨k0, hlt, h30'⟩))
          · have h30' : (ord F S (k0 + 1)).length ≤ 30 := by
              simp only [List.length_map, decide_eq_true_eq] at h30'
              omega
            refine ⟨_, rfl, .inl ⟨rfl, _, SqL.of hM3⟩, _, rfl, rl, _, rfl, .inl ⟨SqL.of hL3, fun tp htp => ?_⟩⟩
            have s4 : Same H3 (upd H3 tp (.tup (vns (rowOf F S (ord F S (k0 + 1)) p)))) := Same.new htp
            have hTp : (upd H3 tp (.tup (vns (rowOf F S (ord F S (k0 + 1)) p)))) tp = some (.tup (vns (rowOf F S (ord F S (k0 + 1)) p))) := upd_same
            generalize upd H3 tp (.tup (vns (rowOf F S (ord F S (k0 + 1)) p))) = H4 at s4 hTp ⊢
            have hM4 := s4 _ _ hM3
            have nt4 : ∀ xs, H4 ml ≠ some (.tup xs) := no_tup hM4 fun _ z => by cases z
            have hR4 : RowsOf H4 (mr ++ [tp]) (rowsOf F S (ord F S (k0 + 1)) (k0 + 1)) := by
              rw [rows_step hp]
              exact (hR3.keep (Tups.same s4)).snoc hTp
            refine ⟨ml, _, _, rfl, rfl, hM4, by rw [List.length_map, lmr]; exact small1000 (by omega), m - 1, by omega, k0 + 1, as3, mr ++ [tp], _, _, _, by omega, rfl, (s3.trans s4).up nml, by rw [upd_ne (Ne.symm dml)]; exact s4 _ _ hO3, (hP3.keep (Tups.same s4)).keep (Tups.upd nt4), by rw [upd_same, List.map_append] <;> rfl, hR4.keep (Tups.upd nt4), h30', ?_⟩
            have := ord_len_mono (F := F) (S := S) (k := k0) (m := k0 + 1) (by omega)
            omega
      · have hlt : k0 = (ord F S k0).length := by
          simp only [List.length_map, decide_eq_true_eq] at hlt
          omega
        -- outputs
        refine ⟨_, rfl, ol, rfl, ⟨_, SqL.of hO⟩, fun D hD => ?_⟩
        refine lc_list (K := K) (a := ol) (xs := as.map V.ref) (fun i H' => Same H2 H' ∧ H' D = some (.lst (vns (((ord F S k0).take i).map (outOf F S))))) ⟨Same.new hD, upd_same⟩ (fun i H' _ ⟨s', _⟩ => s'.seq (SqL.of hO)) ?_ ?_
        · rintro i v H3 hv ⟨s3, hL⟩
          have hi : i < (ord F S k0).length := by
            have := (List.getElem?_eq_some_iff.mp hv).1
            rw [List.length_map] at this
            omega
          have hpi : (ord F S k0)[i]? = some (ord F S k0)[i] := List.getElem?_eq_getElem hi
          generalize (ord F S k0)[i] = p at hpi
          obtain ⟨ta, hta, hTa⟩ := hPs.get hpi
          have ev : v = .ref ta := by
            rw [refs_get hta] at hv
            exact (Option.some.inj hv).symm
          subst ev
          have gp := ord_good wF wS k0 p (List.mem_of_getElem? hpi)
          have s23 := s2.trans s3
          have hTa3 := s3 _ _ hTa
          have oF := (wF.o_lt gp.l1)
          refine ⟨rfl, ?_⟩
          refine ⟨_, rfl, b, _, _, _, rfl, rfl, (hFg.keep s23).top, ixz 3 rfl rfl, _, rfl, ta, _, _, _, rfl, rfl, SqT.of hTa3, ixz 0 rfl rfl, oa, _, _, _, rfl, rfl, (hFg.keep s23).ops.sq, ix (vns_get (Mach.WF.o_get gp.l1)), _, rfl, c, _, _, _, rfl, rfl, (hSg.keep s23).top, ixz 1 rfl rfl, _, _, rfl, rfl, .inl ⟨by omega, by omega⟩,
            _, rfl, c, _, _, _, rfl, rfl, (hSg.keep s23).top, ixz 3 rfl rfl, _, rfl, ta, _, _, _, rfl, rfl, SqT.of hTa3, ixz 1 rfl rfl, ob, _, _, _, rfl, rfl, (hSg.keep s23).ops.sq, ix (vns_get (Mach.WF.o_get gp.l2)), _, _, rfl, rfl, _, hL, ?_, s3.up hD, ?_⟩
          · rw [vns_len, List.length_map, List.length_take]
            exact small1000 (by omega)
          · rw [upd_same, List.take_add_one, hpi, List.map_append, Option.toList_some, List.map_singleton, vns_snoc]
            rfl
        · rintro H3 ⟨s3, hL⟩
          have e1 : (ord F S k0).take (as.map V.ref).length = ord F S k0 := List.take_of_length_le (by rw [List.length_map]; omega)
          rw [e1] at hL
          have hM3 := s3 _ _ hM
          refine ⟨_, rfl, _, rfl, _, rfl, ml, _, rfl, .inl ⟨SqL.of hM3, fun mt hmt => ?_⟩⟩
          have s4 : Same H3 (upd H3 mt (.tup (mr.map V.ref))) := Same.new hmt
          have hMt : (upd H3 mt (.tup (mr.map V.ref))) mt = some (.tup (mr.map V.ref)) := upd_same
          generalize upd H3 mt (.tup (mr.map V.ref)) = H4 at s4 hMt ⊢
          refine ⟨_, rfl, D, _, rfl, SqL.of (s4 _ _ hL), fun ot ob' hot hdn => ⟨by show 4 ≤ sizeLine; decide, fun tt htt => ?_⟩⟩
          have s5 : Same H4 (upd H4 ot (.frz ob' (.tup (vns ((ord F S k0).map (outOf F S)))))) := Same.new hot
          have hOt : Tp (upd H4 ot (.frz ob' (.tup (vns ((ord F S k0).map (outOf F S)))))) ot (vns ((ord F S k0).map (outOf F S))) := ⟨ob', upd_same, hdn⟩
          generalize upd H4 ot (.frz ob' (.tup (vns ((ord F S k0).map (outOf F S))))) = H5 at s5 hOt htt ⊢
          have s6 : Same H5 (upd H5 tt (.tup [.int ((F.lt : Int) + S.lt), .int ((F.ou : Int) * S.ou), .ref mt, .ref ot])) := Same.new htt
          have s36 := s4.trans (s5.trans s6)
          refine k _ tt mt ot mr k0 (sHg.trans (s2.trans (s3.trans s36))) hl4 ho6 hlt (by omega) upd_same ?_
          have hRe : RowsOf H2 mr ((ord F S k0).map (rowOf F S (ord F S k0))) := by
            rw [← rows_end hlt]
            exact hRs
          have hR6 := hRe.keep (Tups.same (s3.trans s36))
          exact ⟨SqT.of upd_same, SqT.of (s6 _ _ (s5 _ _ hMt)), Same.tp s6 hOt, hR6.len, fun i q r e1 e2 => SqT.of (hR6.get e1 e2)⟩
end
end K04W

set_option Elab.async false
set_option linter.all false
set_option maxRecDepth 100000
set_option maxHeartbeats 4000000
/-! K04D4: _law_stream. -/
namespace K04W
open PySem PySem.Spec PyProof.Rows L2 K04 K04.Mach K04R K04H

theorem q1 : (0 : Int) < 1009 := by decide
theorem q2 : (0 : Int) < 2147483647 := by decide
theorem q3 : (0 : Int) < 2147483629 := by decide
section
variable {P : Program} {w : World} {K : PySem.W.Frag} {mg : Str → Option Value} {base : Heap}
/-! ### _law_stream -/
def spStream (K : PySem.W.Frag) : Sp := fun vs H Q _ => ∃ (a : Addr) (ns : List Int), vs = [.ref a] ∧ SqL K H a (ns.map V.int) ∧ ns.length ≤ 63 ∧
  ∀ H' p out, Same H H' → H' p = some (.lst (vns out)) → 0 < out.length → Q (.ref p) H'
abbrev nStream : List Str := ["_law_script", "_law_numbers", "_law_cell", "_law_rest", "_law_k", "_law_mixed"]
theorem scStream : FnScope nStream ["_law_script"] (defScope sStream) := ⟨rfl, rfl, rfl, by decide +kernel, rfl, by decide +kernel, by decide +kernel⟩
/-- behind at most m numbers -/
def NumB (H : Hp) (p l : Addr) (cut : List V) (m : Nat) (σ : L2.St) (H' : Hp) : Prop := ∃ (b : Addr) (out : List Nat) (x y z u : Option V), σ = [some (.ref b), some (.ref p), x, y, z, u] ∧ Same H H' ∧ H' l = some (.lst cut) ∧ H' p = some (.lst (vns out)) ∧ out.length ≤ m
/-- within a cell -/
def NumC (H : Hp) (p l : Addr) (cut : List V) (m : Nat) (σ : L2.St) (H' : Hp) : Prop := ∃ (b : Addr) (out : List Nat) (x z u : Option V) (r : Int), σ = [some (.ref b), some (.ref p), x, some (.int r), z, u] ∧ Same H H' ∧ H' l = some (.lst cut) ∧ H' p = some (.lst (vns out)) ∧ out.length ≤ m
def NumD (H : Hp) (p l : Addr) (cut : List V) (m : Nat) (σ : L2.St) (H' : Hp) : Prop := ∃ (b : Addr) (out : List Nat) (x y z : Option V) (r : Int), σ = [some (.ref b), some (.ref p), x, y, z, some (.int r)] ∧ Same H H' ∧ H' l = some (.lst cut) ∧ H' p = some (.lst (vns out)) ∧ out.length ≤ m
theorem nat_mod (z : Int) (m : Nat) (h : 0 < m) : ∃ n : Nat, z % (m : Int) = (n : Int) := ⟨(z % (m : Int)).toNat, by have := Int.emod_nonneg z (show (m : Int) ≠ 0 by omega); omega⟩
theorem ok_stream {a : Ad} {f : Addr} {fd : FuncData} (F : Fun K "_law_stream" "_law_stream" sStream f fd) (T : Txt K mg a) : FnOk P w K mg base CX0 1 f fd ["_law_script"] (spStream K) := by
  refine F.ok scStream (fun vs H Q E h => ?_) (fun cdv A outer s H vs Q E hr h => ?_)
  · obtain ⟨a, ns, rfl, _⟩ := h
    rfl
  · obtain ⟨b, ns, rfl, hs, hlen, k⟩ := h
    refine ⟨_, pss_cons (ps_set (i := 1) scStream.nd rfl (Or.inl rfl) (pe_lst pa_nil))
      (pss_cons (ps_for PassesOwn.never rfl (pi_list (pe_slice sl_list (pv 0) po_none (po_some pe_int))) (pg_name (i := 2) scStream.nd rfl (Or.inl rfl))
        (pss_cons (ps_set (i := 3) scStream.nd rfl (Or.inl rfl) (pe_callTy call_int1 (by rfl) T.int boot_int (pa_cons (pv 2) pa_nil)))
        (pss_one (ps_if (pt_cmpR op_ge (pv 3) (pe_op op_pow pe_int pe_int) (nomark _))
          (pss_one (ps_for PassesOwn.never rfl (pi_range1 (by rfl) T.range (pa_cons pe_int pa_nil)) (pg_name (i := 4) scStream.nd rfl (Or.inl rfl))
            (pss_cons (ps_expr (pe_bm PySem.F.plainAttrs_list PySem.F.slot_list_append PySem.F.type_list_append mt_append (pv 1) (pa_cons (pe_op op_mod (pe_callTy call_int1 (by rfl) T.int boot_int (pa_cons (pv 3) pa_nil)) pe_int) pa_nil)))
            (pss_cons (ps_set (i := 3) scStream.nd rfl (Or.inl rfl) (pe_op op_fdiv (pv 3) pe_int))
            (pss_one (ps_if (pt_cmpR op_eq (pv 3) pe_int (nomark _)) (pss_one ps_break) pss_nil))))))
          (pss_cons (ps_set (i := 5) scStream.nd rfl (Or.inl rfl) (pe_op op_mod (pe_callTy call_int1 (by rfl) T.int boot_int (pa_cons (pv 3) pa_nil)) pe_int))
          (pss_one (ps_for PassesOwn.never rfl (pi_range1 (by rfl) T.range (pa_cons pe_int pa_nil)) (pg_name (i := 4) scStream.nd rfl (Or.inl rfl))
            (pss_cons (ps_set (i := 5) scStream.nd rfl (Or.inl rfl) (pe_op op_mod (pe_callTy call_int1 (by rfl) T.int boot_int (pa_cons (pe_op op_add (pe_op op_add (pe_op op_mul (pv 5) pe_int) (pe_op op_mul pe_int (pv 4))) pe_int) pa_nil)) pe_int))
            (pss_one (ps_expr (pe_bm PySem.F.plainAttrs_list PySem.F.slot_list_append PySem.F.type_list_append mt_append (pv 1) (pa_cons (pe_op op_mod (pe_op op_mod (pe_callTy call_int1 (by rfl) T.int boot_int (pa_cons (pe_op op_add (pe_op op_mul (pv 5) pe_int) (pv 4)) pa_nil)) pe_int) pe_int) pa_nil))))))))))))
      (pss_cons (ps_if (pt_cmpR op_eq (pe_callB call_len_seq (by rfl) T.len PySem.boot_len (pa_cons (pv 1) pa_nil)) pe_int (nomark _))
        (pss_one (ps_expr (pe_bm PySem.F.plainAttrs_list PySem.F.slot_list_append PySem.F.type_list_append mt_append (pv 1) (pa_cons pe_int pa_nil)))) pss_nil)
      (pss_one (ps_ret (pv 1))))), ?_⟩
    refine ⟨Nat.zero_le _, fun p hp => ⟨_, rfl, 63, rfl, b, _, rfl, (Same.new hp).seq hs, fun l hl => ?_⟩⟩
    have ndl : p ≠ l := fun e => by
      rw [← e, upd_same] at hl
      cases hl
    have hl0 : H l = none := by
      rw [upd_ne (Ne.symm ndl)] at hl
      exact hl
    refine ⟨l, rfl, ⟨_, SqL.of upd_same⟩, ?_⟩
    generalize hcut : cutV (ns.map V.int) none (some 63) = cut
    have hc1 : cut.length ≤ 63 := by
      rw [← hcut]
      refine Nat.le_trans (cutV_length _ _ _) ?_
      rw [List.length_map]
      exact hlen
    have hc2 : ∀ v ∈ cut, ∃ z : Int, v = .int z := fun v hv => by
      rw [← hcut] at hv
      obtain ⟨z, _, e⟩ := List.mem_map.mp (List.mem_of_mem_drop (List.mem_of_mem_take hv))
      exact ⟨z, e.symm⟩
    refine for_list (K := K) (a := l) (xs := cut) (fun i => NumB H p l cut (60 * i)) ⟨b, [], none, none, none, none, rfl, ((Same.new hp).up hl0), upd_same, by rw [upd_ne ndl, upd_same] <;> rfl, Nat.zero_le _⟩ (fun i σ H' _ ⟨_, _, _, _, _, _, _, _, q, _⟩ => SqL.of q) ?_ ?_
    · rintro i x σ H1 hx ⟨b1, out, x1, y1, z1, u1, rfl, s1, hL, hP, hlen1⟩
      obtain ⟨z, rfl⟩ := hc2 x (List.mem_of_getElem? hx)
      have hi := (List.getElem?_eq_some_iff.mp hx).1
      refine ⟨_, rfl, .inl ⟨z, rfl, ?_⟩⟩
      refine ⟨_, rfl, _, _, rfl, rfl, ⟨by decide, by decide, by decide⟩, _, _, rfl, rfl, _, rfl, ite2 (fun _ => ?_) fun _ => ?_⟩
      · refine ⟨60, rfl, by decide, by decide, for_range (lo := 0) (n := 60) (fun j => NumC H p l cut (60 * i + j)) ⟨b1, out, _, _, _, z, rfl, s1, hL, hP, hlen1⟩ ?_ ?_⟩
        · rintro j σ H2 hj ⟨b2, out2, x2, z2, u2, r, rfl, s2, hL2, hP2, hn2⟩
          obtain ⟨n, hn⟩ := nat_mod r 1009 (by decide)
          have ep : vns out2 ++ [V.int (r % 1009)] = vns (out2 ++ [n]) := by rw [vns_snoc]; exact congrArg (fun z => vns out2 ++ [V.int z]) hn
          have s3 : Same H (upd H2 p (.lst (vns (out2 ++ [n])))) := s2.up hp
          have l3 : (upd H2 p (.lst (vns (out2 ++ [n])))) l = some (.lst cut) := by rw [upd_ne (Ne.symm ndl)]; exact hL2
          have len3 : (out2 ++ [n]).length ≤ 60 * i + (j + 1) := by rw [List.length_append, List.length_singleton]; omega
          refine ⟨_, rfl, .inl ⟨rfl, _, SqL.of hP2⟩, _, rfl, .inl ⟨r, rfl, _, _, rfl, rfl, q1, p, _, _, rfl, rfl, hP2, ?_, ?_⟩⟩
          · rw [vns_len]
            exact Nat.lt_of_lt_of_le (show out2.length < 4000 by omega) (by decide)
          · rw [ep]
            refine ⟨_, rfl, _, _, rfl, rfl, ⟨by decide, by decide⟩, _, rfl, rfl, _, rfl, ite2 (fun _ => ?_) fun _ => ?_⟩
            · exact ⟨b2, out2 ++ [n], _, _, _, _, rfl, s3, l3, upd_same, by omega⟩
            · exact ⟨b2, out2 ++ [n], _, _, _, _, rfl, s3, l3, upd_same, len3⟩
        · rintro σ H2 ⟨b2, out2, x2, z2, u2, r, rfl, s2, hL2, hP2, hn2⟩
          exact ⟨b2, out2, _, _, _, _, rfl, s2, hL2, hP2, by omega⟩
      · refine ⟨_, rfl, .inl ⟨z, rfl, _, _, rfl, rfl, q2, ?_⟩⟩
        refine ⟨10, rfl, by decide, by decide, for_range (lo := 0) (n := 10) (fun j => NumD H p l cut (60 * i + j)) ⟨b1, out, _, _, _, _, rfl, s1, hL, hP, hlen1⟩ ?_ ?_⟩
        · rintro j σ H2 hj ⟨b2, out2, x2, y2, z2, r, rfl, s2, hL2, hP2, hn2⟩
          refine ⟨_, rfl, _, _, rfl, rfl, .inr ⟨by decide, by decide⟩, _, rfl, _, _, rfl, rfl, .inl ⟨by decide, by decide⟩, _, _, rfl, rfl, _, _, rfl, rfl, .inl ⟨_, rfl, _, _, rfl, rfl, q2, ?_⟩⟩
          refine ⟨_, rfl, .inl ⟨rfl, _, SqL.of hP2⟩, _, rfl, _, _, rfl, rfl, .inr ⟨by decide, by decide⟩, _, rfl, _, _, rfl, rfl, .inl ⟨_, rfl, _, _, rfl, rfl, q3, _, _, rfl, rfl, q1, p, _, _, rfl, rfl, hP2, ?_, ?_⟩⟩
          · rw [vns_len]
            exact Nat.lt_of_lt_of_le (show out2.length < 4000 by omega) (by decide)
          · generalize hq : ((r * 48271 + 7 * (0 + (j : Int)) + 11) % 2147483647 * 69621 + (0 + (j : Int))) % 2147483629 = q
            obtain ⟨n, hn⟩ := nat_mod q 1009 (by decide)
            have ep : vns out2 ++ [V.int (q % 1009)] = vns (out2 ++ [n]) := by rw [vns_snoc]; exact congrArg (fun z => vns out2 ++ [V.int z]) hn
            rw [ep]
            refine ⟨b2, out2 ++ [n], _, _, _, _, rfl, s2.up hp, by rw [upd_ne (Ne.symm ndl)]; exact hL2, upd_same, by rw [List.length_append, List.length_singleton]; omega⟩
        · rintro σ H2 ⟨b2, out2, x2, y2, z2, r, rfl, s2, hL2, hP2, hn2⟩
          exact ⟨b2, out2, _, _, _, _, rfl, s2, hL2, hP2, by omega⟩
    · rintro σ H1 ⟨b1, out, x1, y1, z1, u1, rfl, s1, hL, hP, hlen1⟩
      refine ⟨_, rfl, p, _, rfl, .inl (SqL.of hP), rfl, _, rfl, ite2 (fun hc => ?_) fun hc => ?_⟩
      · have e : out = [] := by simpa [vns] using hc
        subst e
        refine ⟨_, rfl, .inl ⟨rfl, _, SqL.of hP⟩, p, _, _, rfl, rfl, hP, by decide, _, rfl, k _ p [0] (s1.up hp) upd_same (by decide)⟩
      · have e : ¬ out = [] := by simpa [vns] using hc
        exact ⟨_, rfl, k H1 p out s1 hP (by have := List.length_pos_iff.mpr e; omega)⟩
end
end K04W

set_option Elab.async false
set_option linter.all false
set_option maxRecDepth 100000
set_option maxHeartbeats 4000000
/-! K04D5: _law_word, _law_machine, _law_small, _law_ring. -/
namespace K04W
open PySem PySem.Spec PyProof.Rows L2 K04 K04.Mach K04R K04H

section
variable {P : Program} {w : World} {K : PySem.W.Frag} {mg : Str → Option Value} {base : Heap}
abbrev pPick : List Str := ["_law_numbers", "_law_at", "_law_many"]
/-! ### _law_word -/
def spWord (K : PySem.W.Frag) : Sp := fun vs H Q _ => ∃ (a : Addr) (ns : List Nat) (z : Int) (size lt : Nat), vs = [.ref a, .int z, vn size, vn lt] ∧ SqL K H a (vns ns) ∧ 0 < ns.length ∧ 0 < lt ∧ size ≤ 900 ∧
  ∀ H' p wd, Same H H' → H' p = some (.lst (vns wd)) → wd.length = size → (∀ c ∈ wd, c < lt) → Q (.ref p) H'
abbrev nWord : List Str := ["_law_numbers", "_law_at", "_law_size", "_law_letters", "_law_k"]
theorem scWord : FnScope nWord ["_law_numbers", "_law_at", "_law_size", "_law_letters"] (defScope sWord) := ⟨rfl, rfl, rfl, by decide +kernel, rfl, by decide +kernel, by decide +kernel⟩
theorem ok_word {a : Ad} {f : Addr} {fd fdP : FuncData} (F : Fun K "_law_word" "_law_word" sWord f fd) (T : Txt K mg a) (G : FnOk P w K mg base CX0 1 a.pick fdP pPick (spPick K)) (bP : Binds K fdP pPick []) :
    FnOk P w K mg base CX0 2 f fd ["_law_numbers", "_law_at", "_law_size", "_law_letters"] (spWord K) := by
  refine F.ok scWord (fun vs H Q E h => ?_) (fun cdv A outer s H vs Q E hr h => ?_)
  · obtain ⟨a, ns, z, size, lt, rfl, _⟩ := h
    rfl
  · obtain ⟨b, ns, z, size, lt, rfl, hs, h0, hl, hz, k⟩ := h
    refine ⟨_, pss_one (ps_ret (pe_lc (own := [("_law_k", 4)]) (g := gName 4) (tt := tYes) rfl scWord.nd (pi_range1 (by rfl) T.range (pa_cons (pv 2) pa_nil)) (blkOk_by (N := nWord) (sc := defScope sWord) (by decide +kernel)) (fun _ _ _ _ _ => pg_name (i := 4) scWord.nd rfl (Or.inl rfl)) (fun _ _ _ _ _ => pts_nil)
      (fun _ _ _ _ _ => pe_call G hr rfl T.pick.g T.pick.k bP .nil pass0 (pa_cons (pv 0) (pa_cons (pe_op op_add (pv 1) (pv 4)) (pa_cons (pv 3) pa_nil)))))), ?_⟩
    refine ⟨_, rfl, (size : Int), rfl, by omega, by omega, fun D hD => ?_⟩
    refine lc_range (lo := 0) (n := ((size : Int)).toNat) (fun j H' => ∃ wd : List Nat, Same H H' ∧ H' D = some (.lst (vns wd)) ∧ wd.length = j ∧ ∀ c ∈ wd, c < lt) ⟨[], Same.new hD, upd_same, rfl, fun _ h => nomatch h⟩ ?_ ?_
    · rintro j H1 hj ⟨wd, s1, hL, hn, hc⟩
      refine ⟨rfl, ?_⟩
      refine ⟨_, rfl, _, rfl, _, rfl, _, _, rfl, rfl, _, rfl, b, ns, _, lt, rfl, s1.seq hs, h0, hl, fun r hr' => ?_⟩
      refine ⟨_, hL, ?_, wd ++ [r], s1.up hD, ?_, ?_, ?_⟩
      · rw [vns_len]
        exact small1000 (by omega)
      · rw [upd_same, vns_snoc]
      · rw [List.length_append, List.length_singleton, hn]
      · intro c hc'
        rcases List.mem_append.mp hc' with q | q
        · exact hc c q
        · rw [List.mem_singleton.mp q]
          exact hr'
    · rintro H1 ⟨wd, s1, hL, hn, hc⟩
      exact k H1 D wd s1 hL (by omega) hc

/-! ### _law_machine -/
def spMachine (K : PySem.W.Frag) : Sp := fun vs H Q _ => ∃ (a t : Addr) (ns : List Nat) (z : Int) (n lt ou : Nat), vs = [.ref a, .int z, .ref t] ∧ SqL K H a (vns ns) ∧ 0 < ns.length ∧ SqT K H t [vn n, vn lt, vn ou] ∧ 0 < n ∧ 0 < ou ∧ n ≤ 100 ∧ lt ≤ 100 ∧
  ∀ H' p m o rows M, Same H H' → MachAt K H' p M m o rows → M.WF → M.n = n → M.lt = lt → M.ou = ou → Q (.ref p) H'
abbrev nMachine : List Str := ["_law_numbers", "_law_at", "_law_sizes_here", "_law_moves", "_law_outputs", "_law_k", "_law_j"]
theorem scMachine : FnScope nMachine ["_law_numbers", "_law_at", "_law_sizes_here"] (defScope sMachine) := ⟨rfl, rfl, rfl, by decide +kernel, rfl, by decide +kernel, by decide +kernel⟩
theorem ok_machine {a : Ad} {f : Addr} {fd fdP : FuncData} (F : Fun K "_law_machine" "_law_machine" sMachine f fd) (T : Txt K mg a) (G : FnOk P w K mg base CX0 1 a.pick fdP pPick (spPick K)) (bP : Binds K fdP pPick []) :
    FnOk P w K mg base CX0 2 f fd ["_law_numbers", "_law_at", "_law_sizes_here"] (spMachine K) := by
  refine F.ok scMachine (fun vs H Q E h => ?_) (fun cdv A outer s H vs Q E hr h => ?_)
  · obtain ⟨a, t, ns, z, n, lt, ou, rfl, _⟩ := h
    rfl
  · obtain ⟨b, t, ns, z, n, lt, ou, rfl, hs, h0, ht, hn, ho, hn1, hlt, k⟩ := h
    refine ⟨_, pss_cons (ps_set (i := 3) scMachine.nd rfl (Or.inl rfl) (pe_lst pa_nil)) (pss_cons (ps_set (i := 4) scMachine.nd rfl (Or.inl rfl) (pe_lst pa_nil))
      (pss_cons (ps_for PassesOwn.never rfl (pi_range1 (by rfl) T.range (pa_cons (pe_ix ix_tup (pv 2) pe_int (fun _ _ => rfl)) pa_nil)) (pg_name (i := 5) scMachine.nd rfl (Or.inr rfl))
        (pss_cons (ps_expr (pe_bm PySem.F.plainAttrs_list PySem.F.slot_list_append PySem.F.type_list_append mt_append (pv 3) (pa_cons (pe_callTy call_tuple_of (by rfl) T.tuple PyProof.Rows.boot_tuple (pa_cons
          (pe_lc (own := [("_law_j", 6)]) (g := gName 6) (tt := tYes) rfl scMachine.nd (pi_range1 (by rfl) T.range (pa_cons (pe_ix ix_tup (pv 2) pe_int (fun _ _ => rfl)) pa_nil)) (blkOk_by (N := nMachine) (sc := defScope sMachine) (by decide +kernel)) (fun _ _ _ _ _ => pg_name (i := 6) scMachine.nd rfl (Or.inl rfl)) (fun _ _ _ _ _ => pts_nil)
            (fun _ _ _ _ _ => pe_call G hr rfl T.pick.g T.pick.k bP .nil pass0 (pa_cons (pv 0) (pa_cons (pe_op op_add (pe_op op_add (pv 1) (pe_op op_mul pe_int (pv 5))) (pv 6)) (pa_cons (pe_ix (ixt K) (pv 2) pe_int (fun _ _ => rfl)) pa_nil))))) pa_nil)) pa_nil)))
        (pss_one (ps_expr (pe_bm PySem.F.plainAttrs_list PySem.F.slot_list_append PySem.F.type_list_append mt_append (pv 4) (pa_cons (pe_call G hr rfl T.pick.g T.pick.k bP .nil pass0 (pa_cons (pv 0) (pa_cons (pe_op op_add (pe_op op_add (pv 1) (pe_op op_mul pe_int (pv 5))) pe_int) (pa_cons (pe_ix ix_tup (pv 2) pe_int (fun _ _ => rfl)) pa_nil)))) pa_nil))))))
      (pss_one (ps_ret (pe_tup (pa_cons (pe_ix ix_tup (pv 2) pe_int (fun _ _ => rfl)) (pa_cons (pe_ix ix_tup (pv 2) pe_int (fun _ _ => rfl)) (pa_cons (pe_callTy call_tuple_of (by rfl) T.tuple PyProof.Rows.boot_tuple (pa_cons (pv 3) pa_nil)) (pa_cons (pe_callTy call_tupleF (by rfl) T.tuple PyProof.Rows.boot_tuple (pa_cons (pv 4) pa_nil)) pa_nil))))))))), ?_⟩
    refine ⟨Nat.zero_le _, fun ml hml => ⟨Nat.zero_le _, fun ol hol => ?_⟩⟩
    have dml : ml ≠ ol := fun e => by
      rw [← e, upd_same] at hol
      cases hol
    have hol0 : H ol = none := by
      rw [upd_ne (Ne.symm dml)] at hol
      exact hol
    refine ⟨_, rfl, t, _, _, _, rfl, rfl, Same.tup ((Same.new hml).up hol0) ht, ixz 0 rfl rfl, (n : Int), rfl, by omega, by omega, ?_⟩
    refine for_range (lo := 0) (n := ((n : Int)).toNat) (fun i σ H' => ∃ (mr : List Addr) (rs : List (List Nat)) (os : List Nat) (x : Option V), σ = [some (.ref b), some (.int z), some (.ref t), some (.ref ml), some (.ref ol), x, none] ∧ Same H H' ∧
      H' ml = some (.lst (mr.map V.ref)) ∧ RowsOf H' mr rs ∧ H' ol = some (.lst (vns os)) ∧ rs.length = i ∧ os.length = i ∧ (∀ r ∈ rs, r.length = lt ∧ ∀ s ∈ r, s < n) ∧ ∀ x ∈ os, x < ou) ⟨[], [], [], none, rfl, (Same.new hml).up hol0, by rw [upd_ne dml, upd_same] <;> rfl, .nil, upd_same, rfl, rfl, (fun _ h => nomatch h), fun _ h => nomatch h⟩ ?_ ?_
    · rintro i σ H1 hi ⟨mr, rs, os, x, rfl, s1, hM, hR, hO, lr, lo, hrs, hos⟩
      refine ⟨_, rfl, .inl ⟨rfl, _, SqL.of hM⟩, _, rfl, t, _, _, _, rfl, rfl, s1.tup ht, ixz 1 rfl rfl, (lt : Int), rfl, by omega, by omega, fun D hD => ?_⟩
      refine lc_range (lo := 0) (n := ((lt : Int)).toNat) (fun j H' => ∃ wd : List Nat, Same H1 H' ∧ H' D = some (.lst (vns wd)) ∧ wd.length = j ∧ ∀ c ∈ wd, c < n) ⟨[], Same.new hD, upd_same, rfl, fun _ h => nomatch h⟩ ?_ ?_
      · rintro j H2 hj ⟨wd, s2, hL, hwn, hc⟩
        refine ⟨rfl, ?_⟩
        refine ⟨_, rfl, _, rfl, _, rfl, _, _, rfl, rfl, .inl ⟨by decide, by decide⟩, _, _, rfl, rfl, _, rfl, _, _, rfl, rfl, _, rfl, t, _, _, _, rfl, rfl, (s1.trans s2).tup ht, ixz 0 rfl rfl, b, ns, _, n, rfl, (s1.trans s2).seq hs, h0, hn, fun r hr' => ?_⟩
        refine ⟨_, hL, ?_, wd ++ [r], s2.up hD, ?_, ?_, ?_⟩
        · rw [vns_len]
          exact small1000 (by omega)
        · rw [upd_same, vns_snoc]
        · rw [List.length_append, List.length_singleton, hwn]
        · intro c hc'
          rcases List.mem_append.mp hc' with q | q
          · exact hc c q
          · rw [List.mem_singleton.mp q]
            exact hr'
      · rintro H2 ⟨wd, s2, hL, hwn, hc⟩
        refine ⟨D, _, rfl, .inl ⟨SqL.of hL, fun tp htp => ?_⟩⟩
        have s3 : Same H2 (upd H2 tp (.tup (vns wd))) := Same.new htp
        have hTp : (upd H2 tp (.tup (vns wd))) tp = some (.tup (vns wd)) := upd_same
        generalize upd H2 tp (.tup (vns wd)) = H3 at s3 hTp ⊢
        have s13 := s2.trans s3
        have hM3 := s13 _ _ hM
        have lmr : mr.length = i := by rw [hR.len, lr]
        refine ⟨ml, _, _, rfl, rfl, hM3, by rw [List.length_map, lmr]; exact small1000 (by omega), ?_⟩
        have nt3 : ∀ xs, H3 ml ≠ some (.tup xs) := no_tup hM3 fun _ z => by cases z
        have hR4 : RowsOf (upd H3 ml (.lst (mr.map V.ref ++ [V.ref tp]))) (mr ++ [tp]) (rs ++ [wd]) := ((hR.keep (Tups.same s13)).snoc hTp).keep (Tups.upd nt3)
        have s4 : Same H (upd H3 ml (.lst (mr.map V.ref ++ [V.ref tp]))) := (s1.trans s13).up hml
        have hM4 : (upd H3 ml (.lst (mr.map V.ref ++ [V.ref tp]))) ml = some (.lst ((mr ++ [tp]).map V.ref)) := by rw [upd_same, List.map_append] <;> rfl
        have hO4 : (upd H3 ml (.lst (mr.map V.ref ++ [V.ref tp]))) ol = some (.lst (vns os)) := by rw [upd_ne (Ne.symm dml)]; exact s13 _ _ hO
        generalize upd H3 ml (.lst (mr.map V.ref ++ [V.ref tp])) = H4 at hR4 s4 hM4 hO4 ⊢
        refine ⟨_, rfl, .inl ⟨rfl, _, SqL.of hO4⟩, _, rfl, _, rfl, _, rfl, _, _, rfl, rfl, .inl ⟨by decide, by decide⟩, _, _, rfl, rfl, _, _, rfl, rfl, _, rfl, t, _, _, _, rfl, rfl, s4.tup ht, ixz 2 rfl rfl, b, ns, _, ou, rfl, s4.seq hs, h0, ho, fun r hr' => ?_⟩
        refine ⟨ol, _, _, rfl, rfl, hO4, by rw [vns_len, lo]; exact small1000 (by omega), ?_⟩
        have nt4 : ∀ xs, H4 ol ≠ some (.tup xs) := no_tup hO4 fun _ z => by cases z
        refine ⟨mr ++ [tp], rs ++ [wd], os ++ [r], _, rfl, s4.up hol0, by rw [upd_ne dml]; exact hM4, hR4.keep (Tups.upd nt4), by rw [upd_same, vns_snoc], by rw [List.length_append, lr] <;> rfl, by rw [List.length_append, lo] <;> rfl, fun q hq => ?_, fun q hq => ?_⟩
        · rcases List.mem_append.mp hq with q | q
          · exact hrs _ q
          · rw [List.mem_singleton.mp q]
            exact ⟨by omega, hc⟩
        · rcases List.mem_append.mp hq with q | q
          · exact hos _ q
          · rw [List.mem_singleton.mp q]
            exact hr'
    · rintro σ H1 ⟨mr, rs, os, x, rfl, s1, hM, hR, hO, lr, lo, hrs, hos⟩
      refine ⟨_, rfl, t, _, _, _, rfl, rfl, s1.tup ht, ixz 1 rfl rfl, _, rfl, t, _, _, _, rfl, rfl, s1.tup ht, ixz 2 rfl rfl, _, rfl, ml, _, rfl, .inl ⟨SqL.of hM, fun mt hmt => ?_⟩⟩
      have s2 : Same H1 (upd H1 mt (.tup (mr.map V.ref))) := Same.new hmt
      have hMt : (upd H1 mt (.tup (mr.map V.ref))) mt = some (.tup (mr.map V.ref)) := upd_same
      generalize upd H1 mt (.tup (mr.map V.ref)) = H2 at s2 hMt ⊢
      refine ⟨_, rfl, ol, _, rfl, SqL.of (s2 _ _ hO), fun ot ob' hot hdn => ⟨by show 4 ≤ sizeLine; decide, fun tt htt => ?_⟩⟩
      have s3 : Same H2 (upd H2 ot (.frz ob' (.tup (vns os)))) := Same.new hot
      have hOt : Tp (upd H2 ot (.frz ob' (.tup (vns os)))) ot (vns os) := ⟨ob', upd_same, hdn⟩
      generalize upd H2 ot (.frz ob' (.tup (vns os))) = H3 at s3 hOt htt ⊢
      have s4 : Same H3 (upd H3 tt (.tup [vn lt, vn ou, .ref mt, .ref ot])) := Same.new htt
      have en : ((n : Int)).toNat = n := by omega
      rw [en] at lr lo
      have hR4 := hR.keep (Tups.same (s2.trans (s3.trans s4)))
      refine k _ tt mt ot mr ⟨lt, ou, rs, os⟩ (s1.trans (s2.trans (s3.trans s4))) ⟨SqT.of upd_same, SqT.of (s4 _ _ (s3 _ _ hMt)), Same.tp s4 hOt, hR4.len, fun i q r e1 e2 => SqT.of (hR4.get e1 e2)⟩ ⟨?_, ?_, fun r hr' => (hrs r hr').1, fun r hr' s hs' => ?_, hos⟩ lo rfl rfl
      · show rs.length = os.length
        omega
      · show 0 < os.length
        omega
      · show s < os.length
        rw [lo]
        exact (hrs r hr').2 s hs'

/-! ### _law_small -/
def spSmall (K : PySem.W.Frag) : Sp := fun vs H Q _ => ∃ (a : Addr) (ns : List Nat) (z : Int) (lt ou : Nat), vs = [.ref a, .int z, vn lt, vn ou] ∧ SqL K H a (vns ns) ∧ 0 < ns.length ∧ 0 < ou ∧ lt ≤ 100 ∧
  ∀ H' p m o rows M, Same H H' → MachAt K H' p M m o rows → M.WF → M.n ≤ 6 → M.lt = lt → M.ou = ou → Q (.ref p) H'
abbrev pMachine : List Str := ["_law_numbers", "_law_at", "_law_sizes_here"]
theorem scSmall : FnScope ["_law_numbers", "_law_at", "_law_letters", "_law_outs", "_law_sizes_here"] ["_law_numbers", "_law_at", "_law_letters", "_law_outs"] (defScope sSmall) := ⟨rfl, rfl, rfl, by decide +kernel, rfl, by decide +kernel, by decide +kernel⟩
theorem ok_small {a : Ad} {f : Addr} {fd fdP fdM : FuncData} (F : Fun K "_law_small" "_law_small" sSmall f fd) (T : Txt K mg a) (G : FnOk P w K mg base CX0 1 a.pick fdP pPick (spPick K)) (bP : Binds K fdP pPick [])
    (GM : FnOk P w K mg base CX0 2 a.machine fdM pMachine (spMachine K)) (bM : Binds K fdM pMachine []) : FnOk P w K mg base CX0 3 f fd ["_law_numbers", "_law_at", "_law_letters", "_law_outs"] (spSmall K) := by
  refine F.ok scSmall (fun vs H Q E h => ?_) (fun cdv A outer s H vs Q E hr h => ?_)
  · obtain ⟨a, ns, z, lt, ou, rfl, _⟩ := h
    rfl
  · obtain ⟨b, ns, z, lt, ou, rfl, hs, h0, ho, hlt, k⟩ := h
    refine ⟨_, pss_cons (ps_set (i := 4) scSmall.nd rfl (Or.inl rfl) (pe_tup (pa_cons (pe_op op_add pe_int (pe_call G (hr.mono (by decide)) rfl T.pick.g T.pick.k bP .nil pass0 (pa_cons (pv 0) (pa_cons (pv 1) (pa_cons pe_int pa_nil))))) (pa_cons (pv 2) (pa_cons (pv 3) pa_nil)))))
      (pss_one (ps_ret (pe_call GM hr rfl T.machine.g T.machine.k bM .nil pass0 (pa_cons (pv 0) (pa_cons (pe_op op_add (pv 1) pe_int) (pa_cons (pv 4) pa_nil)))))), ?_⟩
    refine ⟨_, rfl, _, rfl, b, ns, z, 6, rfl, hs, h0, by decide, fun r hr' => ?_⟩
    refine ⟨_, _, rfl, rfl, _, rfl, _, rfl, (by show 3 ≤ sizeLine; decide), fun t ht => ?_⟩
    have s1 : Same H (upd H t (.tup [.int (1 + (r : Int)), vn lt, vn ou])) := Same.new ht
    have hT : (upd H t (.tup [.int (1 + (r : Int)), vn lt, vn ou])) t = some (.tup [vn (1 + r), vn lt, vn ou]) := upd_same
    generalize upd H t (.tup [.int (1 + (r : Int)), vn lt, vn ou]) = H1 at s1 hT ⊢
    refine ⟨_, rfl, _, rfl, _, _, rfl, rfl, _, rfl, b, t, ns, _, 1 + r, lt, ou, rfl, s1.seq hs, h0, SqT.of hT, by omega, ho, by omega, hlt, fun H' p m o rows M s2 hM hW e1 e2 e3 => ?_⟩
    exact k H' p m o rows M (s1.trans s2) hM hW (by omega) e2 e3

/-! ### _law_ring -/
theorem ring_n (m : Nat) : (ring m).n = m := by simp [ring, Mach.n]
theorem ring_wf {m : Nat} (h : 0 < m) : (ring m).WF where
  len := by simp [ring, Mach.n]
  pos := by rw [ring_n]; exact h
  row := fun r hr => by
    obtain ⟨k, _, rfl⟩ := List.mem_map.mp hr
    rfl
  st := fun r hr s hs => by
    obtain ⟨k, _, rfl⟩ := List.mem_map.mp hr
    rw [List.mem_singleton.mp hs, ring_n]
    exact Nat.mod_lt _ h
  out := fun x hx => by
    obtain ⟨k, _, rfl⟩ := List.mem_map.mp hx
    show (if k = 0 then 1 else 0) < 2
    split <;> decide
def spRing (K : PySem.W.Frag) : Sp := fun vs H Q _ => ∃ (n : Nat), vs = [vn n] ∧ 0 < n ∧ n ≤ 100 ∧ ∀ H' p m o rows, Same H H' → MachAt K H' p (ring n) m o rows → Q (.ref p) H'
abbrev nRing : List Str := ["_law_states", "_law_k"]
theorem scRing : FnScope nRing ["_law_states"] (defScope sRing) := ⟨rfl, rfl, rfl, by decide +kernel, rfl, by decide +kernel, by decide +kernel⟩
theorem ok_ring {a : Ad} {f : Addr} {fd : FuncData} (F : Fun K "_law_ring" "_law_ring" sRing f fd) (T : Txt K mg a) : FnOk P w K mg base CX0 1 f fd ["_law_states"] (spRing K) := by
  refine F.ok scRing (fun vs H Q E h => ?_) (fun cdv A outer s H vs Q E hr h => ?_)
  · obtain ⟨n, rfl, _⟩ := h
    rfl
  · obtain ⟨n, rfl, hn, hn1, k⟩ := h
    refine ⟨_, pss_one (ps_ret (pe_tup (pa_cons pe_int (pa_cons pe_int (pa_cons
      (pe_callTy call_tuple_of (by rfl) T.tuple PyProof.Rows.boot_tuple (pa_cons (pe_lc (own := [("_law_k", 1)]) (g := gName 1) (tt := tYes) rfl scRing.nd (pi_range1 (by rfl) T.range (pa_cons (pv 0) pa_nil)) (blkOk_by (N := nRing) (sc := defScope sRing) (by decide +kernel)) (fun _ _ _ _ _ => pg_name (i := 1) scRing.nd rfl (Or.inl rfl)) (fun _ _ _ _ _ => pts_nil)
        (fun _ _ _ _ _ => pe_tup (pa_cons (pe_op op_mod (pe_op op_add (pv 1) pe_int) (pv 0)) pa_nil))) pa_nil)) (pa_cons
      (pe_callTy call_tupleF (by rfl) T.tuple PyProof.Rows.boot_tuple (pa_cons (pe_lc (own := [("_law_k", 1)]) (g := gName 1) (tt := tYes) rfl scRing.nd (pi_range1 (by rfl) T.range (pa_cons (pv 0) pa_nil)) (blkOk_by (N := nRing) (sc := defScope sRing) (by decide +kernel)) (fun _ _ _ _ _ => pg_name (i := 1) scRing.nd rfl (Or.inl rfl)) (fun _ _ _ _ _ => pts_nil)
        (fun _ _ _ _ _ => pe_callTy call_int1 (by rfl) T.int boot_int (pa_cons (pe_cmpR op_eq (pv 1) pe_int (nomark _)) pa_nil))) pa_nil)) pa_nil)))))), ?_⟩
    refine ⟨_, rfl, (n : Int), rfl, by omega, by omega, fun D hD => ?_⟩
    refine lc_range (lo := 0) (n := ((n : Int)).toNat) (fun j H' => ∃ as : List Addr, Same H H' ∧ H' D = some (.lst (as.map V.ref)) ∧ RowsOf H' as ((List.range j).map fun k => [(k + 1) % n])) ⟨[], Same.new hD, upd_same, .nil⟩ ?_ ?_
    · rintro j H1 hj ⟨as, s1, hL, hR⟩
      refine ⟨rfl, ?_⟩
      have e : (0 + (j : Int) + 1) % (n : Int) = (((j + 1) % n : Nat) : Int) := by
        rw [Int.natCast_emod]
        congr 1
        omega
      refine ⟨_, rfl, _, _, rfl, rfl, _, rfl, _, _, rfl, rfl, (by show (0 : Int) < (n : Int); omega), (by show 1 ≤ sizeLine; decide), fun t ht => ?_⟩
      have la := hR.len
      rw [List.length_map, List.length_range] at la
      dsimp only
      rw [e]
      have s2 : Same H1 (upd H1 t (.tup [vn ((j + 1) % n)])) := Same.new ht
      have hT : (upd H1 t (.tup [vn ((j + 1) % n)])) t = some (.tup (vns [(j + 1) % n])) := upd_same
      generalize upd H1 t (.tup [vn ((j + 1) % n)]) = H2 at s2 hT ⊢
      have hL2 := s2 _ _ hL
      have nt : ∀ xs, H2 D ≠ some (.tup xs) := no_tup hL2 fun _ z => by cases z
      refine ⟨_, hL2, by rw [List.length_map, la]; exact small1000 (by omega), as ++ [t], (s1.trans s2).up hD, by rw [upd_same, List.map_append] <;> rfl, ?_⟩
      rw [List.range_succ, List.map_append]
      exact ((hR.keep (Tups.same s2)).snoc hT).keep (Tups.upd nt)
    · rintro H1 ⟨as, s1, hL, hR⟩
      have en : ((n : Int)).toNat = n := by omega
      rw [en] at hR
      refine ⟨D, _, rfl, .inl ⟨SqL.of hL, fun mt hmt => ?_⟩⟩
      have s2 : Same H1 (upd H1 mt (.tup (as.map V.ref))) := Same.new hmt
      have hMt : (upd H1 mt (.tup (as.map V.ref))) mt = some (.tup (as.map V.ref)) := upd_same
      generalize upd H1 mt (.tup (as.map V.ref)) = H2 at s2 hMt ⊢
      refine ⟨_, rfl, (n : Int), rfl, by omega, by omega, fun D2 hD2 => ?_⟩
      refine lc_range (lo := 0) (n := ((n : Int)).toNat) (fun j H' => Same H2 H' ∧ H' D2 = some (.lst (vns ((List.range j).map fun k => if k = 0 then 1 else 0)))) ⟨Same.new hD2, upd_same⟩ ?_ ?_
      · rintro j H3 hj ⟨s3, hL3⟩
        refine ⟨rfl, ?_⟩
        refine ⟨_, rfl, rfl, .inr ⟨_, rfl, _, hL3, ?_, s3.up hD2, ?_⟩⟩
        · rw [vns_len, List.length_map, List.length_range]
          exact small1000 (by omega)
        · rw [upd_same, List.range_succ, List.map_append, List.map_singleton, vns_snoc]
          congr 4
          by_cases hz : j = 0
          · subst hz
            rfl
          · have hz2 : ¬ (V.int (0 + (j : Int)) = V.int 0) := fun z => hz (by have := V.int.inj z; omega)
            rw [decide_eq_false hz2, if_neg hz]
            rfl
      · rintro H3 ⟨s3, hL3⟩
        rw [en] at hL3
        refine ⟨D2, _, rfl, SqL.of hL3, fun ot ob' hot hdn => ⟨by show 4 ≤ sizeLine; decide, fun tt htt => ?_⟩⟩
        have s4 : Same H3 (upd H3 ot (.frz ob' (.tup (vns ((List.range n).map fun k => if k = 0 then 1 else 0))))) := Same.new hot
        have hOt : Tp (upd H3 ot (.frz ob' (.tup (vns ((List.range n).map fun k => if k = 0 then 1 else 0))))) ot (vns ((List.range n).map fun k => if k = 0 then 1 else 0)) := ⟨ob', upd_same, hdn⟩
        generalize upd H3 ot (.frz ob' (.tup (vns ((List.range n).map fun k => if k = 0 then 1 else 0)))) = H4 at s4 hOt htt ⊢
        have s5 : Same H4 (upd H4 tt (.tup [.int 1, .int 2, .ref mt, .ref ot])) := Same.new htt
        have hR5 := hR.keep (Tups.same (s2.trans (s3.trans (s4.trans s5))))
        refine k _ tt mt ot as (s1.trans (s2.trans (s3.trans (s4.trans s5)))) ⟨SqT.of upd_same, SqT.of (s5 _ _ (s4 _ _ (s3 _ _ hMt))), Same.tp s5 hOt, ?_, fun i q r e1 e2 => SqT.of (hR5.get e1 e2)⟩
        rw [hR5.len]
        rfl
end
end K04W

set_option Elab.async false
set_option linter.all false
set_option maxRecDepth 100000
set_option maxHeartbeats 4000000
/-! K04D6: _law_alike, _law_groups. -/
namespace K04W
open PySem PySem.Spec PyProof.Rows L2 K04 K04.Mach K04R K04H

section
variable {P : Program} {w : World} {K : PySem.W.Frag} {mg : Str → Option Value} {base : Heap}
/-! ### _law_alike -/
def spAlike (K : PySem.W.Frag) : Sp := fun vs H Q _ => ∃ (a m o : Addr) (rows : List Addr) (M : Mach) (k j : Nat), vs = [.ref a, vn k, vn j] ∧ MachAt K H a M m o rows ∧ M.WF ∧ M.n ≤ 20 ∧ M.lt ≤ 100 ∧ k < M.n ∧ j < M.n ∧
  ∀ H' b, Same H H' → (b = true ↔ Alike M k j) → Q (.bl b) H'
abbrev nAlike : List Str := ["_law_machine_here", "_law_k", "_law_j", "_law_pairs", "_law_at", "_law_letter", "_law_pair"]
abbrev pAlike : List Str := ["_law_machine_here", "_law_k", "_law_j"]
theorem scAlike : FnScope nAlike pAlike (defScope sAlike) := ⟨rfl, rfl, rfl, by decide +kernel, rfl, by decide +kernel, by decide +kernel⟩
/-- behind t pairs -/
def AlB (H : Hp) (b pl : Addr) (M : Mach) (k j t : Nat) (σ : L2.St) (H' : Hp) : Prop := ∃ (as : List Addr) (R : List (Nat × Nat)) (x y z : Option V), σ = [some (.ref b), some (vn k), some (vn j), some (.ref pl), x, y, z] ∧ Same H H' ∧ H' pl = some (.lst (as.map V.ref)) ∧ PairsOf H' as R ∧ APairs M k j R t ∧ t ≤ R.length
/-- behind c letters of the pair p at t -/
def AlC (H : Hp) (b pl : Addr) (M : Mach) (k j t : Nat) (R : List (Nat × Nat)) (p : Nat × Nat) (c : Nat) (σ : L2.St) (H' : Hp) : Prop := ∃ (as : List Addr) (y z : Option V), σ = [some (.ref b), some (vn k), some (vn j), some (.ref pl), some (vn t), y, z] ∧ Same H H' ∧ H' pl = some (.lst (as.map V.ref)) ∧ PairsOf H' as (grow R (aNext M p c))
theorem Fun.hu {X : Cx} {k : Nat} (hr : RoomG k X) : X.A.units + 65 < cLine := by have := hr.hot.un; omega
theorem ok_alike {a : Ad} {f : Addr} {fd : FuncData} (F : Fun K "_law_alike" "_law_alike" sAlike f fd) (T : Txt K mg a) : FnG P w K mg base 1 f fd pAlike (spAlike K) := by
  refine K04H.Fun.okG F scAlike (fun vs H Q E h => ?_) (fun cdv A outer s H vs Q E c pn hc hr h => ?_)
  · obtain ⟨a, m, o, rows, M, k, j, rfl, _⟩ := h
    rfl
  · obtain ⟨b, m, o, rows, M, k, j, rfl, hM, wM, hn, hlt, hk, hj, q⟩ := h
    have hu := Fun.hu hr
    refine ⟨_, pss_cons (ps_set (i := 3) scAlike.nd rfl (Or.inl rfl) (pe_lst (pa_cons (pe_tup (pa_cons (pv 1) (pa_cons (pv 2) pa_nil))) pa_nil)))
      (pss_cons (ps_forG PassesOwn.never hc (pi_rangeG (by rfl) T.range (pa_cons (pe_op op_mul (pe_callB call_len_seq (by rfl) T.len PySem.boot_len (pa_cons (pe_ix ix_tup (pv 0) pe_int (fun _ _ => rfl)) pa_nil)) (pe_callB call_len_seq (by rfl) T.len PySem.boot_len (pa_cons (pe_ix ix_tup (pv 0) pe_int (fun _ _ => rfl)) pa_nil))) pa_nil)) (pg_name (i := 4) scAlike.nd rfl (Or.inl rfl))
        (pss_cons (ps_if (pt_cmpR op_eq (pv 4) (pe_callB call_len_seq (by rfl) T.len PySem.boot_len (pa_cons (pv 3) pa_nil)) (nomark _)) (pss_one (ps_ret pe_bl)) pss_nil)
        (pss_cons (ps_if (pt_cmpR op_ne (pe_ix ix_tup (pe_ix ix_tup (pv 0) pe_int (fun _ _ => rfl)) (pe_ix ix_tup (pe_ix ix_list (pv 3) (pv 4) (fun _ _ => rfl)) pe_int (fun _ _ => rfl)) (fun _ _ => rfl))
            (pe_ix ix_tup (pe_ix ix_tup (pv 0) pe_int (fun _ _ => rfl)) (pe_ix ix_tup (pe_ix ix_list (pv 3) (pv 4) (fun _ _ => rfl)) pe_int (fun _ _ => rfl)) (fun _ _ => rfl)) (nomark _)) (pss_one (ps_ret pe_bl)) pss_nil)
        (pss_one (ps_forG PassesOwn.never hc (pi_rangeG (by rfl) T.range (pa_cons (pe_ix ix_tup (pv 0) pe_int (fun _ _ => rfl)) pa_nil)) (pg_name (i := 5) scAlike.nd rfl (Or.inl rfl))
          (pss_cons (ps_set (i := 6) scAlike.nd rfl (Or.inl rfl) (pe_tup (pa_cons (pe_ix ix_tup (pe_ix ix_tup (pe_ix ix_tup (pv 0) pe_int (fun _ _ => rfl)) (pe_ix ix_tup (pe_ix ix_list (pv 3) (pv 4) (fun _ _ => rfl)) pe_int (fun _ _ => rfl)) (fun _ _ => rfl)) (pv 5) (fun _ _ => rfl))
            (pa_cons (pe_ix ix_tup (pe_ix ix_tup (pe_ix ix_tup (pv 0) pe_int (fun _ _ => rfl)) (pe_ix ix_tup (pe_ix ix_list (pv 3) (pv 4) (fun _ _ => rfl)) pe_int (fun _ _ => rfl)) (fun _ _ => rfl)) (pv 5) (fun _ _ => rfl)) pa_nil))))
          (pss_one (ps_if (pt_cmpR (op_notInD hu) (pv 6) (pv 3) (by rfl)) (pss_one (ps_expr (pe_bm PySem.F.plainAttrs_list PySem.F.slot_list_append PySem.F.type_list_append mt_append (pv 3) (pa_cons (pv 6) pa_nil)))) pss_nil))))))))
      (pss_one (ps_ret pe_bl))), ?_⟩
    have small : ∀ {R : List (Nat × Nat)} {t : Nat}, APairs M k j R t → R.length ≤ 400 := fun A => by
      have h1 := A.len_le
      have h2 : M.n * M.n ≤ 20 * 20 := Nat.mul_le_mul hn hn
      omega
    refine ⟨_, rfl, _, rfl, by show 2 ≤ sizeLine; decide, fun t0 ht0 => ⟨by show 1 ≤ sizeLine; decide, fun pl hpl => ?_⟩⟩
    have s1 : Same H (upd H t0 (.tup [vn k, vn j])) := Same.new ht0
    have hT0 : (upd H t0 (.tup [vn k, vn j])) t0 = some (.tup [vn k, vn j]) := upd_same
    have npl : H pl = none := s1.free hpl
    generalize upd H t0 (.tup [vn k, vn j]) = H1 at s1 hT0 hpl ⊢
    have lm : (rows.map V.ref).length = M.n := by rw [List.length_map, hM.len, wM.len]
    refine ⟨_, rfl, b, _, _, _, rfl, rfl, (s1.up npl).tup hM.top, ixz 2 rfl rfl, m, _, rfl, .inr ((s1.up npl).tup hM.mvs), _, rfl, b, _, _, _, rfl, rfl, (s1.up npl).tup hM.top, ixz 2 rfl rfl, m, _, rfl, .inr ((s1.up npl).tup hM.mvs), _, _, rfl, rfl, .inl ⟨by omega, by omega⟩, ?_⟩
    rw [lm]
    have nn : (M.n : Int) * (M.n : Int) = ((M.n * M.n : Nat) : Int) := rfl
    have nl : M.n * M.n ≤ 20 * 20 := Nat.mul_le_mul hn hn
    refine ⟨((M.n * M.n : Nat) : Int), rfl, by omega, by omega, for_range (lo := 0) (n := (((M.n * M.n : Nat) : Int)).toNat) (AlB H b pl M k j) ⟨[t0], [(k, j)], none, none, none, rfl, s1.up npl, upd_same, .cons ?_ .nil, APairs.start hk hj, Nat.zero_le _⟩ ?_ ?_⟩
    · rw [upd_ne (ne_of_none hT0 hpl)]
      exact hT0
    · rintro t σ H2 ht ⟨as, R, x, y, z, rfl, s2, hP, hPs, hA, htl⟩
      have las := hPs.len
      have e0 : (0 : Int) + (t : Int) = (t : Int) := Int.zero_add _
      refine ⟨_, rfl, _, rfl, pl, _, rfl, .inl (SqL.of hP), rfl, _, rfl, ite2 (fun hc1 => ?_) fun hc1 => ?_⟩
      · have h1 := V.int.inj (of_decide_eq_true hc1)
        rw [List.length_map] at h1
        exact q H2 true s2 ⟨fun _ => hA.alike (by omega), fun _ => rfl⟩
      · have h1 : ¬ t = R.length := fun e => hc1 (decide_eq_true (by rw [List.length_map, las, e0, e] <;> rfl))
        have htR : t < R.length := by omega
        obtain ⟨p, hp⟩ : ∃ p, R[t]? = some p := ⟨_, List.getElem?_eq_getElem htR⟩
        obtain ⟨p1, p2⟩ := hA.lt p (List.mem_of_getElem? hp)
        obtain ⟨ta, hta, hTa⟩ := hPs.get hp
        have hM2 := hM.keep s2
        refine ⟨_, rfl, b, _, _, _, rfl, rfl, hM2.top, ixz 3 rfl rfl, _, rfl, _, rfl, pl, _, _, _, rfl, rfl, SqL.of hP, ixz t e0 (refs_get hta), ta, _, _, _, rfl, rfl, SqT.of hTa, ixz 0 rfl rfl, o, _, _, _, rfl, rfl, hM2.ops.sq, ix (vns_get (Mach.WF.o_get p1)), ?_⟩
        refine ⟨_, rfl, b, _, _, _, rfl, rfl, hM2.top, ixz 3 rfl rfl, _, rfl, _, rfl, pl, _, _, _, rfl, rfl, SqL.of hP, ixz t e0 (refs_get hta), ta, _, _, _, rfl, rfl, SqT.of hTa, ixz 1 rfl rfl, o, _, _, _, rfl, rfl, hM2.ops.sq, ix (vns_get (Mach.WF.o_get p2)), rfl, _, rfl, ite2 (fun hc2 => ?_) fun hc2 => ?_⟩
        · have h2 : M.o p.1 ≠ M.o p.2 := fun e => by
            rw [e] at hc2
            simp at hc2
          exact q H2 false s2 ⟨fun e => (nomatch e), fun e => absurd e (hA.differ (List.mem_of_getElem? hp) h2)⟩
        · have h2 : M.o p.1 = M.o p.2 := by
            refine Classical.byContradiction fun e => hc2 ?_
            have : ¬ (vn (M.o p.1) = vn (M.o p.2)) := fun z => e (Int.ofNat.inj (V.int.inj z))
            rw [decide_eq_false this]
            rfl
          rw [e0]
          refine ⟨_, rfl, b, _, _, _, rfl, rfl, hM2.top, ixz 0 rfl rfl, (M.lt : Int), rfl, by omega, by omega, for_range (lo := 0) (n := ((M.lt : Int)).toNat) (AlC H b pl M k j t R p) ⟨as, y, z, rfl, s2, hP, hPs⟩ ?_ ?_⟩
          · rintro l σ H3 hl ⟨as3, y3, z3, rfl, s3, hP3, hPs3⟩
            have hl : l < M.lt := by omega
            have hp3 : (grow R (aNext M p l))[t]? = some p := get_pre (grow_pre _ _) hp
            obtain ⟨tb, htb, hTb⟩ := hPs3.get hp3
            have hM3 := hM.keep s3
            obtain ⟨r1, hr1, hr1'⟩ := hM3.row_at (i := p.1) (by rw [wM.len]; exact p1)
            obtain ⟨r2, hr2, hr2'⟩ := hM3.row_at (i := p.2) (by rw [wM.len]; exact p2)
            have el : (0 : Int) + (l : Int) = (l : Int) := Int.zero_add _
            refine ⟨_, rfl, b, _, _, _, rfl, rfl, hM3.top, ixz 2 rfl rfl, _, rfl, _, rfl, pl, _, _, _, rfl, rfl, SqL.of hP3, ix (refs_get htb), tb, _, _, _, rfl, rfl, SqT.of hTb, ixz 0 rfl rfl, m, _, _, _, rfl, rfl, hM3.mvs, ix (refs_get hr1), _, rfl, r1, _, _, _, rfl, rfl, hr1', ixz l el (vns_get (wM.d_get p1 hl)), ?_⟩
            refine ⟨_, rfl, b, _, _, _, rfl, rfl, hM3.top, ixz 2 rfl rfl, _, rfl, _, rfl, pl, _, _, _, rfl, rfl, SqL.of hP3, ix (refs_get htb), tb, _, _, _, rfl, rfl, SqT.of hTb, ixz 1 rfl rfl, m, _, _, _, rfl, rfl, hM3.mvs, ix (refs_get hr2), _, rfl, r2, _, _, _, rfl, rfl, hr2', ixz l el (vns_get (wM.d_get p2 hl)), by show 2 ≤ sizeLine; decide, fun pt hpt => ?_⟩
            have s4 : Same H3 (upd H3 pt (.tup [vn (M.d p.1 l), vn (M.d p.2 l)])) := Same.new hpt
            have hPt : (upd H3 pt (.tup [vn (M.d p.1 l), vn (M.d p.2 l)])) pt = some (.tup [vn (M.d p.1 l), vn (M.d p.2 l)]) := upd_same
            generalize upd H3 pt (.tup [vn (M.d p.1 l), vn (M.d p.2 l)]) = H4 at s4 hPt ⊢
            have hP4 := s4 _ _ hP3
            have hPs4 := hPs3.keep (Tups.same s4)
            refine ⟨_, rfl, _, rfl, pd (M.d p.1 l, M.d p.2 l), _, dp_pair (p := (M.d p.1 l, M.d p.2 l)) hPt, dp_list hP4 hPs4, pd_shaped _, pds_shaped _, _, rfl, ?_⟩
            rw [pds_any]
            by_cases hin : (M.d p.1 l, M.d p.2 l) ∈ grow R (aNext M p l)
            · rw [decide_eq_true hin]
              refine iteF ?_
              have eg : grow R (aNext M p (l + 1)) = grow R (aNext M p l) := by
                rw [aNext_succ, grow_snoc]
                exact if_pos hin
              exact ⟨as3, _, _, rfl, s3.trans s4, hP4, by rw [eg]; exact hPs4⟩
            · rw [decide_eq_false hin]
              refine iteT ?_
              have eg : grow R (aNext M p (l + 1)) = grow R (aNext M p l) ++ [(M.d p.1 l, M.d p.2 l)] := by
                rw [aNext_succ, grow_snoc]
                exact if_neg hin
              have la3 := hPs4.len
              have lg := grow_len R (aNext M p l)
              have la : (aNext M p l).length = l := by simp [aNext]
              have sm := small hA
              have nt : ∀ xs, H4 pl ≠ some (.tup xs) := no_tup hP4 fun _ z => by cases z
              refine ⟨_, rfl, .inl ⟨rfl, _, SqL.of hP4⟩, _, rfl, pl, _, _, rfl, rfl, hP4, by rw [List.length_map]; exact small1000 (by omega), as3 ++ [pt], _, _, rfl, (s3.trans s4).up npl, by rw [upd_same, List.map_append] <;> rfl, ?_⟩
              rw [eg]
              exact (hPs4.keep (Tups.upd nt)).snoc (Tups.upd nt _ _ hPt)
          · rintro σ H3 ⟨as3, y3, z3, rfl, s3, hP3, hPs3⟩
            have en : ((M.lt : Int)).toNat = M.lt := by omega
            rw [en] at hPs3
            have hA3 := hA.turn wM hp h2
            refine ⟨as3, _, _, _, _, rfl, s3, hP3, hPs3, hA3, ?_⟩
            have := (grow_pre (aNext M p M.lt) R).length_le
            omega
    · rintro σ H2 ⟨as, R, x, y, z, rfl, s2, hP, hPs, hA, htl⟩
      have en : (((M.n * M.n : Nat) : Int)).toNat = M.n * M.n := by omega
      rw [en] at hA
      exact q H2 true s2 ⟨fun _ => hA.alike hA.len_le, fun _ => rfl⟩
end
end K04W

set_option Elab.async false
set_option linter.all false
set_option maxRecDepth 100000
set_option maxHeartbeats 4000000
/-! K04D7: _law_groups. -/
namespace K04W
open PySem PySem.Spec PyProof.Rows L2 K04 K04.Mach K04R K04H

/-- whether two states answer alike -/
noncomputable def alB (M : Mach) (i j : Nat) : Bool := @decide (Alike M i j) (Classical.propDecidable _)
theorem alB_iff {M : Mach} {i j : Nat} : alB M i j = true ↔ Alike M i j := by
  unfold alB
  exact @decide_eq_true_iff _ (Classical.propDecidable _)
theorem classes_eq (M : Mach) : classes M = (List.range M.n).map (gr M) := by
  refine List.ext_getElem? fun i => ?_
  by_cases h : i < M.n
  · rw [gr_get h]
    simp [h]
  · rw [List.getElem?_eq_none (by rw [classes_len]; omega)]
    simp [h]
theorem cr_minI {X : Cx} (K : PySem.W.Frag) (hc : Hush X) (e : X.K = K := by rfl) : CallR X (.builtin "min") (rMin K) := by
  subst e
  exact cr_minG hc
/-- the outer comprehension's scope -/
abbrev scopeK : Scope := { kind := .function, names := [(".0", .local), ("_law_k", .cell), ("min", .globalImplicit), ("range", .globalImplicit), ("_law_machine_here", .cell), ("_law_states", .cell)], isGenerator := false, isCoroutine := false }
section
variable {P : Program} {w : World} {K : PySem.W.Frag} {mg : Str → Option Value} {base : Heap}
/-! ### _law_groups -/
def spGroups (K : PySem.W.Frag) : Sp := fun vs H Q _ => ∃ (a m o : Addr) (rows : List Addr) (M : Mach), vs = [.ref a] ∧ MachAt K H a M m o rows ∧ M.WF ∧ M.n ≤ 20 ∧ M.lt ≤ 100 ∧
  ∀ H' p, Same H H' → H' p = some (.lst (vns (classes M))) → Q (.ref p) H'
abbrev nGroups : List Str := ["_law_machine_here", "_law_states", "_law_k", "_law_j"]
theorem scGroups : FnScope nGroups ["_law_machine_here"] (defScope sGroups) := ⟨rfl, rfl, rfl, by decide +kernel, rfl, by decide +kernel, by decide +kernel⟩
theorem ok_groups {a : Ad} {f : Addr} {fd fdA : FuncData} (F : Fun K "_law_groups" "_law_groups" sGroups f fd) (T : Txt K mg a) (G : FnG P w K mg base 1 a.alike fdA pAlike (spAlike K)) (bA : Binds K fdA pAlike []) : FnG P w K mg base 2 f fd ["_law_machine_here"] (spGroups K) := by
  refine K04H.Fun.okG F scGroups (fun vs H Q E h => ?_) (fun cdv A outer s H vs Q E c pn hc hr h => ?_)
  · obtain ⟨a, m, o, rows, M, rfl, _⟩ := h
    rfl
  · obtain ⟨b, m, o, rows, M, rfl, hM, wM, hn, hlt, q⟩ := h
    refine ⟨_, pss_cons (ps_set (i := 1) scGroups.nd rfl (Or.inr rfl) (pe_callB call_len_seq (by rfl) T.len PySem.boot_len (pa_cons (pe_ix ix_tup (pv 0) pe_int (fun _ _ => rfl)) pa_nil)))
      (pss_one (ps_ret (pe_lcG (own := [("_law_k", 2)]) (g := gName 2) (tt := tYes) hc scGroups.nd (pi_rangeG (by rfl) T.range (pa_cons (pv 1) pa_nil)) (blkOk_by (N := nGroups) (sc := defScope sGroups) (by decide +kernel)) (fun _ _ _ _ _ => pg_name (i := 2) scGroups.nd rfl (Or.inr rfl)) (fun _ _ _ _ _ => pts_nil)
        (fun _ _ _ _ _ => pe_callB (cr_minI K (Hush.blk hc)) (by rfl) T.min boot_min (pa_cons
          (pe_lcG (own := [("_law_j", 3)]) (g := gName 3) (Hush.blk hc) scGroups.nd (pi_rangeG (by rfl) T.range (pa_cons (pv 1) pa_nil)) (blkOk_by (N := nGroups) (sc := scopeK) (by decide +kernel)) (fun _ _ _ _ _ => pg_name (i := 3) scGroups.nd rfl (Or.inl rfl))
            (fun _ _ _ _ _ => pts_one (pt_val (pe_callG G (Hush.blk (Hush.blk hc)) ⟨hr.hd, hr.hot⟩ rfl T.alike.g T.alike.k bA (pa_cons (pv 0) (pa_cons (pv 2) (pa_cons (pv 3) pa_nil)))))) (fun _ _ _ _ _ => pv 3)) pa_nil))))), ?_⟩
    have lm : (rows.map V.ref).length = M.n := by rw [List.length_map, hM.len, wM.len]
    refine ⟨_, rfl, b, _, _, _, rfl, rfl, hM.top, ixz 2 rfl rfl, m, _, rfl, .inr hM.mvs, ?_⟩
    rw [lm]
    refine ⟨_, rfl, (M.n : Int), rfl, by omega, by omega, fun D hD => ?_⟩
    have en : ((M.n : Int)).toNat = M.n := by omega
    refine lc_range (lo := 0) (n := ((M.n : Int)).toNat) (fun i H' => Same H H' ∧ H' D = some (.lst (vns ((List.range i).map (gr M))))) ⟨Same.new hD, upd_same⟩ ?_ ?_
    · rintro i H1 hi ⟨s1, hL⟩
      have hi : i < M.n := by omega
      refine ⟨rfl, ?_⟩
      refine ⟨_, rfl, (M.n : Int), rfl, by omega, by omega, fun D2 hD2 => ?_⟩
      refine lc_range (lo := 0) (n := ((M.n : Int)).toNat) (fun j H' => Same H1 H' ∧ H' D2 = some (.lst (vns ((List.range j).filter (alB M i))))) ⟨Same.new hD2, upd_same⟩ ?_ ?_
      · rintro j H2 hj ⟨s2, hL2⟩
        have hj : j < M.n := by omega
        have e1 : (0 : Int) + (i : Int) = (i : Int) := Int.zero_add _
        have e2 : (0 : Int) + (j : Int) = (j : Int) := Int.zero_add _
        rw [e1, e2]
        refine ⟨rfl, ?_⟩
        refine ⟨_, rfl, _, rfl, _, rfl, b, m, o, rows, M, i, j, rfl, hM.keep (s1.trans s2), wM, hn, hlt, hi, hj, fun H3 bb s3 hb => ⟨bb, rfl, ?_⟩⟩
        have es : (List.range (j + 1)).filter (alB M i) = (List.range j).filter (alB M i) ++ (if alB M i j = true then [j] else []) := by
          rw [List.range_succ, List.filter_append]
          congr 1
          by_cases z : alB M i j = true
          · simp [z]
          · simp [z]
        cases bb with
        | true =>
          have z : alB M i j = true := alB_iff.mpr (hb.mp rfl)
          rw [if_pos z] at es
          refine iteT ?_
          refine ⟨_, rfl, _, s3 _ _ hL2, ?_, (s2.trans s3).up hD2, ?_⟩
          · rw [vns_len]
            have := List.length_filter_le (alB M i) (List.range j)
            rw [List.length_range] at this
            exact small1000 (by omega)
          · rw [upd_same, es, vns_snoc]
        | false =>
          have z : ¬ alB M i j = true := fun z => (nomatch hb.mpr (alB_iff.mp z))
          rw [if_neg z, List.append_nil] at es
          refine iteF ?_
          exact ⟨s2.trans s3, by rw [es]; exact s3 _ _ hL2⟩
      · rintro H2 ⟨s2, hL2⟩
        rw [en] at hL2
        have e0 : vns ((List.range M.n).filter (alB M i)) = (((List.range M.n).filter (alB M i)).map fun (z : Nat) => (z : Int)).map V.int := by simp [vns]
        rw [e0] at hL2
        have hself : i ∈ (List.range M.n).filter (alB M i) := List.mem_filter.mpr ⟨List.mem_range.mpr hi, alB_iff.mpr fun _ _ => rfl⟩
        refine ⟨D2, _, rfl, SqL.of hL2, ?_, fun mm hmm hle => ?_⟩
        · rw [List.length_map]
          exact List.length_pos_of_mem hself
        · obtain ⟨m', hm', rfl⟩ := List.mem_map.mp hmm
          obtain ⟨h1, h2⟩ := List.mem_filter.mp hm'
          have em : m' = gr M i := gr_min wM hi (List.mem_range.mp h1) (alB_iff.mp h2) fun j hj hA => by
            have := hle (j : Int) (List.mem_map.mpr ⟨j, List.mem_filter.mpr ⟨List.mem_range.mpr hj, alB_iff.mpr hA⟩, rfl⟩)
            omega
          refine ⟨_, s2 _ _ hL, ?_, (s1.trans s2).up hD, ?_⟩
          · rw [vns_len, List.length_map, List.length_range]
            exact small1000 (by omega)
          · rw [upd_same, List.range_succ, List.map_append, List.map_singleton, vns_snoc, em]
    · rintro H1 ⟨s1, hL⟩
      rw [en] at hL
      exact q H1 D s1 (by rw [classes_eq]; exact hL)
end
end K04W

set_option Elab.async false
set_option linter.all false
set_option maxRecDepth 100000
set_option maxHeartbeats 4000000
/-! K04D8: _law_count. -/
namespace K04W
open PySem PySem.Spec PyProof.Rows L2 K04 K04.Mach K04R K04H

section
variable {P : Program} {w : World} {K : PySem.W.Frag} {mg : Str → Option Value} {base : Heap}
/-! ### _law_count -/
def spCount (K : PySem.W.Frag) : Sp := fun vs H Q _ => ∃ (a b ma oa mb ob : Addr) (ra rb : List Addr) (F S : Mach), vs = [.ref a, .ref b] ∧ MachAt K H a F ma oa ra ∧ MachAt K H b S mb ob rb ∧ F.WF ∧ S.WF ∧ F.n ≤ 20 ∧ S.n ≤ 20 ∧ F.lt ≤ 100 ∧ S.lt ≤ 100 ∧
  ∀ H', Same H H' → Q (vn (ord F S (F.n * S.n)).length) H'
abbrev nCount : List Str := ["_law_first", "_law_second", "_law_groups_here", "_law_pairs", "_law_at", "_law_state"]
theorem scCount : FnScope nCount ["_law_first", "_law_second"] (defScope sCount) := ⟨rfl, rfl, rfl, by decide +kernel, rfl, by decide +kernel, by decide +kernel⟩
/-- behind t pairs -/
def CoB (Hg : Hp) (b c gt pl : Addr) (F S : Mach) (t : Nat) (σ : L2.St) (H' : Hp) : Prop := ∃ (as : List Addr) (x y : Option V), σ = [some (.ref b), some (.ref c), some (.ref gt), some (.ref pl), x, y] ∧ Same Hg H' ∧ H' pl = some (.lst (as.map V.ref)) ∧ PairsOf H' as (ord F S t) ∧ t ≤ (ord F S t).length
/-- behind the next pairs L of the pair at t -/
def CoC (Hg : Hp) (b c gt pl : Addr) (F S : Mach) (t : Nat) (L : List (Nat × Nat)) (σ : L2.St) (H' : Hp) : Prop := ∃ (as : List Addr) (y : Option V), σ = [some (.ref b), some (.ref c), some (.ref gt), some (.ref pl), some (vn t), y] ∧ Same Hg H' ∧ H' pl = some (.lst (as.map V.ref)) ∧ PairsOf H' as (grow (ord F S t) L)
theorem ok_count {a : Ad} {f : Addr} {fd fdG : FuncData} (F0 : Fun K "_law_count" "_law_count" sCount f fd) (T : Txt K mg a) (G : FnG P w K mg base 2 a.groups fdG ["_law_machine_here"] (spGroups K)) (bG : Binds K fdG ["_law_machine_here"] []) : FnG P w K mg base 3 f fd ["_law_first", "_law_second"] (spCount K) := by
  refine K04H.Fun.okG F0 scCount (fun vs H Q E h => ?_) (fun cdv A outer s H vs Q E c0 pn hc hr h => ?_)
  · obtain ⟨a, b, ma, oa, mb, ob, ra, rb, F, S, rfl, _⟩ := h
    rfl
  · obtain ⟨b, c, ma, oa, mb, ob, ra, rb, F, S, rfl, hF, hS, wF, wS, nF, nS, lF, lS, q⟩ := h
    have hu := Fun.hu hr
    refine ⟨_, pss_cons (ps_set (i := 2) scCount.nd rfl (Or.inl rfl) (pe_tup (pa_cons (pe_callG G hc hr rfl T.groups.g T.groups.k bG (pa_cons (pv 0) pa_nil)) (pa_cons (pe_callG G hc hr rfl T.groups.g T.groups.k bG (pa_cons (pv 1) pa_nil)) pa_nil))))
      (pss_cons (ps_set (i := 3) scCount.nd rfl (Or.inl rfl) (pe_lst (pa_cons (pe_tup (pa_cons (pe_ix ix_list (pe_ix ix_tup (pv 2) pe_int (fun _ _ => rfl)) pe_int (fun _ _ => rfl)) (pa_cons (pe_ix ix_list (pe_ix ix_tup (pv 2) pe_int (fun _ _ => rfl)) pe_int (fun _ _ => rfl)) pa_nil))) pa_nil)))
      (pss_cons (ps_forG PassesOwn.never hc (pi_rangeG (by rfl) T.range (pa_cons (pe_op op_mul (pe_callB call_len_seq (by rfl) T.len PySem.boot_len (pa_cons (pe_ix ix_tup (pv 0) pe_int (fun _ _ => rfl)) pa_nil)) (pe_callB call_len_seq (by rfl) T.len PySem.boot_len (pa_cons (pe_ix ix_tup (pv 1) pe_int (fun _ _ => rfl)) pa_nil))) pa_nil)) (pg_name (i := 4) scCount.nd rfl (Or.inl rfl))
        (pss_cons (ps_if (pt_cmpR op_eq (pv 4) (pe_callB call_len_seq (by rfl) T.len PySem.boot_len (pa_cons (pv 3) pa_nil)) (nomark _)) (pss_one ps_break) pss_nil)
        (pss_cons (ps_forG PassesOwn.never hc (pi_tupG (pe_ix ix_tup (pe_ix ix_tup (pv 0) pe_int (fun _ _ => rfl)) (pe_ix ix_tup (pe_ix ix_list (pv 3) (pv 4) (fun _ _ => rfl)) pe_int (fun _ _ => rfl)) (fun _ _ => rfl))) (pg_name (i := 5) scCount.nd rfl (Or.inl rfl))
          (pss_one (ps_if (pt_cmpR (op_notInD hu) (pe_tup (pa_cons (pe_ix ix_list (pe_ix ix_tup (pv 2) pe_int (fun _ _ => rfl)) (pv 5) (fun _ _ => rfl)) (pa_cons (pe_ix ix_tup (pe_ix ix_list (pv 3) (pv 4) (fun _ _ => rfl)) pe_int (fun _ _ => rfl)) pa_nil))) (pv 3) (by rfl))
            (pss_one (ps_expr (pe_bm PySem.F.plainAttrs_list PySem.F.slot_list_append PySem.F.type_list_append mt_append (pv 3) (pa_cons (pe_tup (pa_cons (pe_ix ix_list (pe_ix ix_tup (pv 2) pe_int (fun _ _ => rfl)) (pv 5) (fun _ _ => rfl)) (pa_cons (pe_ix ix_tup (pe_ix ix_list (pv 3) (pv 4) (fun _ _ => rfl)) pe_int (fun _ _ => rfl)) pa_nil))) pa_nil)))) pss_nil)))
        (pss_one (ps_forG PassesOwn.never hc (pi_tupG (pe_ix ix_tup (pe_ix ix_tup (pv 1) pe_int (fun _ _ => rfl)) (pe_ix ix_tup (pe_ix ix_list (pv 3) (pv 4) (fun _ _ => rfl)) pe_int (fun _ _ => rfl)) (fun _ _ => rfl))) (pg_name (i := 5) scCount.nd rfl (Or.inl rfl))
          (pss_one (ps_if (pt_cmpR (op_notInD hu) (pe_tup (pa_cons (pe_ix ix_tup (pe_ix ix_list (pv 3) (pv 4) (fun _ _ => rfl)) pe_int (fun _ _ => rfl)) (pa_cons (pe_ix ix_list (pe_ix ix_tup (pv 2) pe_int (fun _ _ => rfl)) (pv 5) (fun _ _ => rfl)) pa_nil))) (pv 3) (by rfl))
            (pss_one (ps_expr (pe_bm PySem.F.plainAttrs_list PySem.F.slot_list_append PySem.F.type_list_append mt_append (pv 3) (pa_cons (pe_tup (pa_cons (pe_ix ix_tup (pe_ix ix_list (pv 3) (pv 4) (fun _ _ => rfl)) pe_int (fun _ _ => rfl)) (pa_cons (pe_ix ix_list (pe_ix ix_tup (pv 2) pe_int (fun _ _ => rfl)) (pv 5) (fun _ _ => rfl)) pa_nil))) pa_nil)))) pss_nil)))))))
      (pss_one (ps_ret (pe_callB call_len_seq (by rfl) T.len PySem.boot_len (pa_cons (pv 3) pa_nil)))))), ?_⟩
    refine ⟨_, rfl, b, ma, oa, ra, F, rfl, hF, wF, nF, lF, fun Ha g0 sa hg0 => ?_⟩
    refine ⟨_, rfl, c, mb, ob, rb, S, rfl, hS.keep sa, wS, nS, lS, fun Hb g1 sb hg1 => ⟨by show 2 ≤ sizeLine; decide, fun gt hgt => ?_⟩⟩
    have sg : Same Hb (upd Hb gt (.tup [.ref g0, .ref g1])) := Same.new hgt
    have hGt : (upd Hb gt (.tup [.ref g0, .ref g1])) gt = some (.tup [.ref g0, .ref g1]) := upd_same
    have hG0 := sg _ _ (sb _ _ hg0)
    have hG1 := sg _ _ hg1
    have sHg : Same H (upd Hb gt (.tup [.ref g0, .ref g1])) := sa.trans (sb.trans sg)
    generalize upd Hb gt (.tup [.ref g0, .ref g1]) = Hg at hGt hG0 hG1 sHg ⊢
    have hFg := hF.keep sHg
    have hSg := hS.keep sHg
    refine ⟨_, rfl, gt, _, _, _, rfl, rfl, SqT.of hGt, ixz 0 rfl rfl, g0, _, _, _, rfl, rfl, SqL.of hG0, ixz 0 rfl (vns_get (gr_get wF.pos)), _, rfl, gt, _, _, _, rfl, rfl, SqT.of hGt, ixz 1 rfl rfl, g1, _, _, _, rfl, rfl, SqL.of hG1, ixz 0 rfl (vns_get (gr_get wS.pos)), by show 2 ≤ sizeLine; decide, fun t0 ht0 => ⟨by show 1 ≤ sizeLine; decide, fun pl hpl => ?_⟩⟩
    have s1 : Same Hg (upd Hg t0 (.tup [vn (gr F 0), vn (gr S 0)])) := Same.new ht0
    have hT0 : (upd Hg t0 (.tup [vn (gr F 0), vn (gr S 0)])) t0 = some (.tup [vn (gr F 0), vn (gr S 0)]) := upd_same
    have npl : Hg pl = none := s1.free hpl
    generalize upd Hg t0 (.tup [vn (gr F 0), vn (gr S 0)]) = H1 at s1 hT0 hpl ⊢
    have lmF : (ra.map V.ref).length = F.n := by rw [List.length_map, hF.len, wF.len]
    have lmS : (rb.map V.ref).length = S.n := by rw [List.length_map, hS.len, wS.len]
    refine ⟨_, rfl, b, _, _, _, rfl, rfl, (s1.up npl).tup hFg.top, ixz 2 rfl rfl, ma, _, rfl, .inr ((s1.up npl).tup hFg.mvs), _, rfl, c, _, _, _, rfl, rfl, (s1.up npl).tup hSg.top, ixz 2 rfl rfl, mb, _, rfl, .inr ((s1.up npl).tup hSg.mvs), _, _, rfl, rfl, .inl ⟨by omega, by omega⟩, ?_⟩
    rw [lmF, lmS]
    have nl : F.n * S.n ≤ 20 * 20 := Nat.mul_le_mul nF nS
    have en : (((F.n * S.n : Nat) : Int)).toNat = F.n * S.n := by omega
    refine ⟨((F.n * S.n : Nat) : Int), rfl, by omega, by omega, for_range (lo := 0) (n := (((F.n * S.n : Nat) : Int)).toNat) (CoB Hg b c gt pl F S) ⟨[t0], none, none, rfl, s1.up npl, upd_same, .cons ?_ .nil, Nat.zero_le _⟩ ?_ ?_⟩
    · rw [upd_ne (ne_of_none hT0 hpl)]
      exact hT0
    · rintro t σ H2 ht ⟨as, x, y, rfl, s2, hP, hPs, htl⟩
      have las := hPs.len
      have e0 : (0 : Int) + (t : Int) = (t : Int) := Int.zero_add _
      refine ⟨_, rfl, _, rfl, pl, _, rfl, .inl (SqL.of hP), rfl, _, rfl, ite2 (fun hc1 => ?_) fun hc1 => ?_⟩
      · have h1 := V.int.inj (of_decide_eq_true hc1)
        rw [List.length_map] at h1
        have h2 : t = (ord F S t).length := by omega
        refine ⟨_, rfl, pl, _, rfl, .inl (SqL.of hP), ?_⟩
        rw [List.length_map, las]
        have h3 : ord F S (F.n * S.n) = ord F S t := ord_fix (by omega) (by omega)
        have h4 := q H2 (sHg.trans s2)
        rw [h3] at h4
        exact h4
      · have h1 : ¬ t = (ord F S t).length := fun e => hc1 (decide_eq_true (by rw [List.length_map, las, e0, ← e] <;> rfl))
        have htR : t < (ord F S t).length := by omega
        obtain ⟨p, hp⟩ : ∃ p, (ord F S t)[t]? = some p := ⟨_, List.getElem?_eq_getElem htR⟩
        have gp := ord_good wF wS t p (List.mem_of_getElem? hp)
        have le400 := ord_le wF wS t
        obtain ⟨ta, hta, hTa⟩ := hPs.get hp
        have hF2 := hFg.keep s2
        obtain ⟨r1, hr1, hr1'⟩ := hFg.row_at (i := p.1) (by rw [wF.len]; exact gp.l1)
        obtain ⟨r2, hr2, hr2'⟩ := hSg.row_at (i := p.2) (by rw [wS.len]; exact gp.l2)
        rw [e0]
        refine ⟨_, rfl, b, _, _, _, rfl, rfl, hF2.top, ixz 2 rfl rfl, _, rfl, _, rfl, pl, _, _, _, rfl, rfl, SqL.of hP, ix (refs_get hta), ta, _, _, _, rfl, rfl, SqT.of hTa, ixz 0 rfl rfl, ma, _, _, _, rfl, rfl, hF2.mvs, ix (refs_get hr1), r1, rfl, ⟨_, s2.tup hr1'⟩, ?_⟩
        refine for_tup (K := K) (a := r1) (xs := vns (F.row p.1)) (fun l => CoC Hg b c gt pl F S t ((nexts F S p).take l)) ⟨as, y, rfl, s2, hP, hPs⟩ (fun l σ H' _ ⟨_, _, _, s', _⟩ => s'.tup hr1') ?_ ?_
        · rintro l v σ H3 hv ⟨as3, y3, rfl, s3, hP3, hPs3⟩
          obtain ⟨n, hn, rfl⟩ := vns_get_inv hv
          have hl : l < F.lt := by
            have := (List.getElem?_eq_some_iff.mp hn).1
            rwa [wF.row_len gp.l1] at this
          have en1 : n = F.d p.1 l := by
            rw [wF.d_get gp.l1 hl] at hn
            exact (Option.some.inj hn).symm
          have hdl : n < F.n := by rw [en1]; exact wF.d_lt gp.l1 hl
          have hq : (nexts F S p)[l]? = some (gr F n, p.2) := by rw [en1]; exact nexts_fst hl
          have hp3 : (grow (ord F S t) ((nexts F S p).take l))[t]? = some p := get_pre (grow_pre _ _) hp
          obtain ⟨tb, htb, hTb⟩ := hPs3.get hp3
          have la3 := hPs3.len
          have lg := grow_len (ord F S t) ((nexts F S p).take l)
          rw [List.length_take, nexts_len] at lg
          generalize hqe : (gr F n, p.2) = q at hq
          have eq1 : gr F n = q.1 := by rw [← hqe]
          have eq2 : p.2 = q.2 := by rw [← hqe]
          refine ⟨_, rfl, gt, _, _, _, rfl, rfl, SqT.of (s3 _ _ hGt), ixz 0 rfl rfl, _, rfl, g0, _, _, _, rfl, rfl, SqL.of (s3 _ _ hG0), ix (vns_get (gr_get hdl)), _, rfl, _, rfl, pl, _, _, _, rfl, rfl, SqL.of hP3, ix (refs_get htb), tb, _, _, _, rfl, rfl, SqT.of hTb, ixz 1 rfl rfl, by show 2 ≤ sizeLine; decide, fun pt hpt => ?_⟩
          rw [eq1, eq2]
          have s4 : Same H3 (upd H3 pt (.tup [vn q.1, vn q.2])) := Same.new hpt
          have hPt : (upd H3 pt (.tup [vn q.1, vn q.2])) pt = some (.tup [vn q.1, vn q.2]) := upd_same
          generalize upd H3 pt (.tup [vn q.1, vn q.2]) = H4 at s4 hPt ⊢
          have hP4 := s4 _ _ hP3
          have hPs4 := hPs3.keep (Tups.same s4)
          have hTb4 := s4 _ _ hTb
          have s34 := s3.trans s4
          refine ⟨_, rfl, pd q, _, dp_pair hPt, dp_list hP4 hPs4, pd_shaped _, pds_shaped _, _, rfl, ?_⟩
          rw [pds_any]
          by_cases hin : q ∈ grow (ord F S t) ((nexts F S p).take l)
          · rw [decide_eq_true hin]
            refine iteF ?_
            have eg : grow (ord F S t) ((nexts F S p).take (l + 1)) = grow (ord F S t) ((nexts F S p).take l) := by
              rw [nexts_take hq, grow_snoc]
              exact if_pos hin
            exact ⟨as3, _, rfl, s34, hP4, by show PairsOf _ _ (grow _ ((nexts F S p).take (l + 1))); rw [eg]; exact hPs4⟩
          · rw [decide_eq_false hin]
            refine iteT ?_
            have eg : grow (ord F S t) ((nexts F S p).take (l + 1)) = grow (ord F S t) ((nexts F S p).take l) ++ [q] := by
              rw [nexts_take hq, grow_snoc]
              exact if_neg hin
            refine ⟨_, rfl, .inl ⟨rfl, _, SqL.of hP4⟩, _, rfl, gt, _, _, _, rfl, rfl, SqT.of (s34 _ _ hGt), ixz 0 rfl rfl, _, rfl, g0, _, _, _, rfl, rfl, SqL.of (s34 _ _ hG0), ix (vns_get (gr_get hdl)), _, rfl, _, rfl, pl, _, _, _, rfl, rfl, SqL.of hP4, ix (refs_get htb), tb, _, _, _, rfl, rfl, SqT.of hTb4, ixz 1 rfl rfl, by show 2 ≤ sizeLine; decide, fun pt2 hpt2 => ?_⟩
            rw [eq1, eq2]
            have s5 : Same H4 (upd H4 pt2 (.tup [vn q.1, vn q.2])) := Same.new hpt2
            have hPt5 : (upd H4 pt2 (.tup [vn q.1, vn q.2])) pt2 = some (.tup [vn q.1, vn q.2]) := upd_same
            generalize upd H4 pt2 (.tup [vn q.1, vn q.2]) = H5 at s5 hPt5 ⊢
            have hP5 := s5 _ _ hP4
            have nt : ∀ xs, H5 pl ≠ some (.tup xs) := no_tup hP5 fun _ z => by cases z
            refine ⟨pl, _, _, rfl, rfl, hP5, by rw [List.length_map]; exact small1000 (by omega), as3 ++ [pt2], _, rfl, (s34.trans s5).up npl, by rw [upd_same, List.map_append] <;> rfl, ?_⟩
            show PairsOf _ _ (grow _ ((nexts F S p).take (l + 1)))
            rw [eg]
            exact ((hPs4.keep (Tups.same s5)).keep (Tups.upd nt)).snoc (Tups.upd nt _ _ hPt5)
        · rintro σ H3 ⟨as3, y3, rfl, s3, hP3, hPs3⟩
          rw [vns_len, wF.row_len gp.l1] at hPs3
          have hF3 := hFg.keep s3
          have hS3 := hSg.keep s3
          have hp4 : (grow (ord F S t) ((nexts F S p).take F.lt))[t]? = some p := get_pre (grow_pre _ _) hp
          obtain ⟨tc, htc, hTc⟩ := hPs3.get hp4
          refine ⟨_, rfl, c, _, _, _, rfl, rfl, hS3.top, ixz 2 rfl rfl, _, rfl, _, rfl, pl, _, _, _, rfl, rfl, SqL.of hP3, ix (refs_get htc), tc, _, _, _, rfl, rfl, SqT.of hTc, ixz 1 rfl rfl, mb, _, _, _, rfl, rfl, hS3.mvs, ix (refs_get hr2), r2, rfl, ⟨_, s3.tup hr2'⟩, ?_⟩
          clear hP hPs hTa hta s2 hF2
          refine for_tup (K := K) (a := r2) (xs := vns (S.row p.2)) (fun l => CoC Hg b c gt pl F S t ((nexts F S p).take (F.lt + l))) ⟨as3, y3, rfl, s3, hP3, hPs3⟩ (fun l σ H' _ ⟨_, _, _, s', _⟩ => s'.tup hr2') ?_ ?_
          · clear hP3 hPs3 s3 hF3 hS3 hTc htc hp4
            rintro l v σ H3 hv ⟨as3, y3, rfl, s3, hP3, hPs3⟩
            obtain ⟨n, hn, rfl⟩ := vns_get_inv hv
            have hl : l < S.lt := by
              have := (List.getElem?_eq_some_iff.mp hn).1
              rwa [wS.row_len gp.l2] at this
            have en1 : n = S.d p.2 l := by
              rw [wS.d_get gp.l2 hl] at hn
              exact (Option.some.inj hn).symm
            have hdl : n < S.n := by rw [en1]; exact wS.d_lt gp.l2 hl
            have hq : (nexts F S p)[F.lt + l]? = some (p.1, gr S n) := by
              rw [en1, nexts_snd (by omega) (by omega), show F.lt + l - F.lt = l by omega]
            have hp3 : (grow (ord F S t) ((nexts F S p).take (F.lt + l)))[t]? = some p := get_pre (grow_pre _ _) hp
            obtain ⟨tb, htb, hTb⟩ := hPs3.get hp3
            have la3 := hPs3.len
            have lg := grow_len (ord F S t) ((nexts F S p).take (F.lt + l))
            rw [List.length_take, nexts_len] at lg
            generalize hqe : (p.1, gr S n) = q at hq
            have eq1 : p.1 = q.1 := by rw [← hqe]
            have eq2 : gr S n = q.2 := by rw [← hqe]
            refine ⟨_, rfl, _, rfl, pl, _, _, _, rfl, rfl, SqL.of hP3, ix (refs_get htb), tb, _, _, _, rfl, rfl, SqT.of hTb, ixz 0 rfl rfl, _, rfl, gt, _, _, _, rfl, rfl, SqT.of (s3 _ _ hGt), ixz 1 rfl rfl, _, rfl, g1, _, _, _, rfl, rfl, SqL.of (s3 _ _ hG1), ix (vns_get (gr_get hdl)), by show 2 ≤ sizeLine; decide, fun pt hpt => ?_⟩
            rw [eq1, eq2]
            have s4 : Same H3 (upd H3 pt (.tup [vn q.1, vn q.2])) := Same.new hpt
            have hPt : (upd H3 pt (.tup [vn q.1, vn q.2])) pt = some (.tup [vn q.1, vn q.2]) := upd_same
            generalize upd H3 pt (.tup [vn q.1, vn q.2]) = H4 at s4 hPt ⊢
            have hP4 := s4 _ _ hP3
            have hPs4 := hPs3.keep (Tups.same s4)
            have hTb4 := s4 _ _ hTb
            have s34 := s3.trans s4
            refine ⟨_, rfl, pd q, _, dp_pair hPt, dp_list hP4 hPs4, pd_shaped _, pds_shaped _, _, rfl, ?_⟩
            rw [pds_any]
            by_cases hin : q ∈ grow (ord F S t) ((nexts F S p).take (F.lt + l))
            · rw [decide_eq_true hin]
              refine iteF ?_
              have eg : grow (ord F S t) ((nexts F S p).take (F.lt + l + 1)) = grow (ord F S t) ((nexts F S p).take (F.lt + l)) := by
                rw [nexts_take hq, grow_snoc]
                exact if_pos hin
              exact ⟨as3, _, rfl, s34, hP4, by show PairsOf _ _ (grow _ ((nexts F S p).take (F.lt + l + 1))); rw [eg]; exact hPs4⟩
            · rw [decide_eq_false hin]
              refine iteT ?_
              have eg : grow (ord F S t) ((nexts F S p).take (F.lt + l + 1)) = grow (ord F S t) ((nexts F S p).take (F.lt + l)) ++ [q] := by
                rw [nexts_take hq, grow_snoc]
                exact if_neg hin
              refine ⟨_, rfl, .inl ⟨rfl, _, SqL.of hP4⟩, _, rfl, _, rfl, pl, _, _, _, rfl, rfl, SqL.of hP4, ix (refs_get htb), tb, _, _, _, rfl, rfl, SqT.of hTb4, ixz 0 rfl rfl, _, rfl, gt, _, _, _, rfl, rfl, SqT.of (s34 _ _ hGt), ixz 1 rfl rfl, _, rfl, g1, _, _, _, rfl, rfl, SqL.of (s34 _ _ hG1), ix (vns_get (gr_get hdl)), by show 2 ≤ sizeLine; decide, fun pt2 hpt2 => ?_⟩
              rw [eq1, eq2]
              have s5 : Same H4 (upd H4 pt2 (.tup [vn q.1, vn q.2])) := Same.new hpt2
              have hPt5 : (upd H4 pt2 (.tup [vn q.1, vn q.2])) pt2 = some (.tup [vn q.1, vn q.2]) := upd_same
              generalize upd H4 pt2 (.tup [vn q.1, vn q.2]) = H5 at s5 hPt5 ⊢
              have hP5 := s5 _ _ hP4
              have nt : ∀ xs, H5 pl ≠ some (.tup xs) := no_tup hP5 fun _ z => by cases z
              refine ⟨pl, _, _, rfl, rfl, hP5, by rw [List.length_map]; exact small1000 (by omega), as3 ++ [pt2], _, rfl, (s34.trans s5).up npl, by rw [upd_same, List.map_append] <;> rfl, ?_⟩
              show PairsOf _ _ (grow _ ((nexts F S p).take (F.lt + l + 1)))
              rw [eg]
              exact ((hPs4.keep (Tups.same s5)).keep (Tups.upd nt)).snoc (Tups.upd nt _ _ hPt5)
          · rintro σ H4 ⟨as4, y4, rfl, s4, hP4, hPs4⟩
            rw [vns_len, wS.row_len gp.l2, List.take_of_length_le (by rw [nexts_len]; exact Nat.le_refl _), ← ord_some hp] at hPs4
            refine ⟨as4, _, _, rfl, s4, hP4, hPs4, ?_⟩
            have := ord_len_mono (F := F) (S := S) (k := t) (m := t + 1) (by omega)
            omega
    · rintro σ H2 ⟨as, x, y, rfl, s2, hP, hPs, htl⟩
      rw [en] at hPs
      refine ⟨_, rfl, pl, _, rfl, .inl (SqL.of hP), ?_⟩
      rw [List.length_map, hPs.len]
      exact q H2 (sHg.trans s2)
end
end K04W

set_option Elab.async false
set_option linter.all false
set_option maxRecDepth 100000
set_option maxHeartbeats 4000000
/-! K04D9: _law_numbered, _law_own, _law_both, _law_is_machine. -/
namespace K04W
open PySem PySem.Spec PyProof.Rows L2 K04 K04.Mach K04R K04H

theorem nds_any (l : List Nat) (n : Nat) : ((nds l).any fun z => PyData.eqv z (.int (n : Int))) = decide (n ∈ l) := by
  unfold nds
  rw [List.any_map, Bool.eq_iff_iff]
  simp only [List.any_eq_true, Function.comp, decide_eq_true_eq]
  constructor
  · rintro ⟨x, hx, e⟩
    have e2 : PyData.eqv (.int (x : Int)) (.int (n : Int)) = ((x : Int) == (n : Int)) := by simp only [PyData.eqv]
    rw [e2, beq_iff_eq] at e
    have : x = n := by omega
    exact this ▸ hx
  · intro h
    refine ⟨n, h, ?_⟩
    simp only [PyData.eqv, beq_self_eq_true]
theorem int_shaped (z : Int) : SeqAt.shaped (.int z) = true := by
  show (PyData.canLay0 (.int z) && decide (PyData.depth (.int z) ≤ 64)) = true
  simp [PyData.canLay0, PyData.depth]
theorem dp_numl {K : PySem.W.Frag} {H : Hp} {p : Addr} {l : List Nat} (h : SqL K H p (vns l)) : Dp K H (.ref p) (.list (nds l)) := .lst h (dp_nums l)
theorem sqt_ty {K : PySem.W.Frag} {H : Hp} {a : Addr} {xs : List V} (h : SqT K H a xs) : TyX K H (.ref a) (.type "tuple") := by
  rcases h with (h | ⟨q, h⟩) | ⟨o, _, _, h, c, _⟩
  · exact .base (.tup h)
  · exact .fTuple h
  · exact .kTuple h c
section
variable {P : Program} {w : World} {K : PySem.W.Frag} {mg : Str → Option Value} {base : Heap}
/-! ### _law_numbered -/
def spNumbered (K : PySem.W.Frag) : Sp := fun vs H Q _ => ∃ (a m o : Addr) (rows : List Addr) (F S : Mach) (k : Nat), vs = [.ref a] ∧ MachAt K H a (told F S (ord F S k)) m o rows ∧ F.WF ∧ S.WF ∧ k = (ord F S k).length ∧ k ≤ 30 ∧ F.lt + S.lt ≤ 100 ∧ ∀ H', Q (.bl true) H'
abbrev nNumbered : List Str := ["_law_machine_here", "_law_order", "_law_k", "_law_state"]
theorem scNumbered : FnScope nNumbered ["_law_machine_here"] (defScope sNumbered) := ⟨rfl, rfl, rfl, by decide +kernel, rfl, by decide +kernel, by decide +kernel⟩
theorem ok_numbered {a : Ad} {f : Addr} {fd : FuncData} (F0 : Fun K "_law_numbered" "_law_numbered" sNumbered f fd) (T : Txt K mg a) : FnOk P w K mg base CX0 1 f fd ["_law_machine_here"] (spNumbered K) := by
  refine F0.ok scNumbered (fun vs H Q E h => ?_) (fun cdv A outer s H vs Q E hr h => ?_)
  · obtain ⟨a, m, o, rows, F, S, k, rfl, _⟩ := h
    rfl
  · obtain ⟨b, m, o, rows, F, S, k, rfl, hM, wF, wS, hk, hk30, hlt, q⟩ := h
    have hu : (A.deeper (envOfC "_law_numbered" (defScope sNumbered) s.heap.objs.size f cdv)).units + 65 < cLine := by have := hr.un; omega
    have hu2 : (A.deeper (envOfC "_law_numbered" (defScope sNumbered) s.heap.objs.size f cdv)).units + 64 < cLine := by omega
    refine ⟨_, pss_cons (ps_set (i := 1) scNumbered.nd rfl (Or.inl rfl) (pe_lst (pa_cons pe_int pa_nil)))
      (pss_cons (ps_for PassesOwn.never rfl (pi_range1 (by rfl) T.range (pa_cons (pe_callB call_len_seq (by rfl) T.len PySem.boot_len (pa_cons (pe_ix ix_tup (pv 0) pe_int (fun _ _ => rfl)) pa_nil)) pa_nil)) (pg_name (i := 2) scNumbered.nd rfl (Or.inl rfl))
        (pss_cons (ps_if (pt_cmpR op_ge (pv 2) (pe_callB call_len_seq (by rfl) T.len PySem.boot_len (pa_cons (pv 1) pa_nil)) (nomark _)) (pss_one (ps_ret pe_bl)) pss_nil)
        (pss_one (ps_for PassesOwn.never rfl (pi_tup (pe_ix ix_tup (pe_ix ix_tup (pv 0) pe_int (fun _ _ => rfl)) (pe_ix ix_list (pv 1) (pv 2) (fun _ _ => rfl)) (fun _ _ => rfl))) (pg_name (i := 3) scNumbered.nd rfl (Or.inl rfl))
          (pss_one (ps_if (pt_cmpR (op_notInD hu) (pv 3) (pv 1) (by rfl)) (pss_one (ps_expr (pe_bm PySem.F.plainAttrs_list PySem.F.slot_list_append PySem.F.type_list_append mt_append (pv 1) (pa_cons (pv 3) pa_nil)))) pss_nil))))))
      (pss_one (ps_ret (pe_cmpR (op_eqD hu2) (pv 1) (pe_lc (own := [("_law_k", 2)]) (g := gName 2) (tt := tYes) rfl scNumbered.nd (pi_range1 (by rfl) T.range (pa_cons (pe_callB call_len_seq (by rfl) T.len PySem.boot_len (pa_cons (pe_ix ix_tup (pv 0) pe_int (fun _ _ => rfl)) pa_nil)) pa_nil)) (blkOk_by (N := nNumbered) (sc := defScope sNumbered) (by decide +kernel)) (fun _ _ _ _ _ => pg_name (i := 2) scNumbered.nd rfl (Or.inl rfl)) (fun _ _ _ _ _ => pts_nil)
        (fun _ _ _ _ _ => pv 2)) (nomark _))))), ?_⟩
    have wT := told_wf wF wS hk
    generalize hTl : told F S (ord F S k) = M at hM wT
    have nk : M.n = k := by rw [← hTl, told_n, ← hk]
    have lM : M.lt = F.lt + S.lt := by rw [← hTl] <;> rfl
    have lm : (rows.map V.ref).length = k := by rw [List.length_map, hM.len, wT.len, nk]
    refine ⟨by show 1 ≤ sizeLine; decide, fun ol hol => ?_⟩
    have s1 : Same H (upd H ol (.lst [.int 0])) := Same.new hol
    refine ⟨_, rfl, b, _, _, _, rfl, rfl, s1.tup hM.top, ixz 2 rfl rfl, m, _, rfl, .inr (s1.tup hM.mvs), ?_⟩
    rw [lm]
    have en : ((k : Int)).toNat = k := by omega
    refine ⟨(k : Int), rfl, by omega, by omega, for_range (lo := 0) (n := ((k : Int)).toNat) (fun i σ H' => ∃ x y : Option V, σ = [some (.ref b), some (.ref ol), x, y] ∧ Same H H' ∧ H' ol = some (.lst (vns (List.range (ord F S i).length)))) ⟨none, none, rfl, s1, upd_same⟩ ?_ ?_⟩
    · rintro i σ H2 hi ⟨x, y, rfl, s2, hO⟩
      have hi : i < k := by omega
      have e0 : (0 : Int) + (i : Int) = (i : Int) := Int.zero_add _
      have hin : i < M.n := by omega
      have hrow : M.mv[i]? = some (M.row i) := wT.row_get hin
      obtain ⟨hil, hturn⟩ := nums_turn (F := F) (S := S) hk hi (r := M.row i) (by rw [hTl]; exact hrow)
      rw [e0]
      refine ⟨_, rfl, _, rfl, ol, _, rfl, .inl (SqL.of hO), _, _, rfl, rfl, _, rfl, ite2 (fun hc => ?_) fun hc => ?_⟩
      · exfalso
        rw [vns_len, List.length_range, decide_eq_true_eq] at hc
        omega
      · obtain ⟨r, hr1, hr2⟩ := hM.row_at (i := i) (by rw [wT.len]; exact hin)
        have hri : (List.range (ord F S i).length)[i]? = some i := by simp [hil]
        have hM2 := hM.keep s2
        refine ⟨_, rfl, b, _, _, _, rfl, rfl, hM2.top, ixz 2 rfl rfl, _, rfl, _, rfl, ol, _, _, _, rfl, rfl, SqL.of hO, ix (vns_get hri), m, _, _, _, rfl, rfl, hM2.mvs, ix (refs_get hr1), r, rfl, ⟨_, s2.tup hr2⟩, ?_⟩
        refine for_tup (K := K) (a := r) (xs := vns (M.row i)) (fun l σ H' => ∃ y : Option V, σ = [some (.ref b), some (.ref ol), some (vn i), y] ∧ Same H H' ∧ H' ol = some (.lst (vns (grow (List.range (ord F S i).length) ((M.row i).take l))))) ⟨y, rfl, s2, hO⟩ (fun l σ H' _ ⟨_, _, s', _⟩ => s'.tup hr2) ?_ ?_
        · rintro l v σ H3 hv ⟨y3, rfl, s3, hO3⟩
          obtain ⟨n, hn, rfl⟩ := vns_get_inv hv
          have ht : (M.row i).take (l + 1) = (M.row i).take l ++ [n] := by rw [List.take_add_one, hn]; rfl
          refine ⟨_, rfl, _, rfl, .int n, _, .int _, dp_numl (SqL.of hO3), int_shaped _, nds_shaped _, _, rfl, ?_⟩
          rw [nds_any]
          by_cases hin2 : n ∈ grow (List.range (ord F S i).length) ((M.row i).take l)
          · rw [decide_eq_true hin2]
            refine iteF ⟨_, rfl, s3, ?_⟩
            rw [ht, grow_snoc]
            show H3 ol = some (.lst (vns (if n ∈ _ then _ else _)))
            rw [if_pos hin2]
            exact hO3
          · rw [decide_eq_false hin2]
            refine iteT ?_
            have lg := grow_len (List.range (ord F S i).length) ((M.row i).take l)
            have l1 : (ord F S i).length ≤ k := by
              have := ord_len_mono (F := F) (S := S) (k := i) (m := k) (by omega)
              omega
            have l2 : ((M.row i).take l).length ≤ 100 := by
              rw [List.length_take, wT.row_len hin]
              omega
            rw [List.length_range] at lg
            refine ⟨_, rfl, .inl ⟨rfl, _, SqL.of hO3⟩, _, rfl, ol, _, _, rfl, rfl, hO3, by rw [vns_len]; exact small1000 (by omega), _, rfl, s3.up hol, ?_⟩
            rw [upd_same, ht, grow_snoc]
            show _ = some (HO.lst (vns (if n ∈ _ then _ else _)))
            rw [if_neg hin2, vns_snoc]
        · rintro σ H3 ⟨y3, rfl, s3, hO3⟩
          rw [vns_len, List.take_length, hturn] at hO3
          exact ⟨_, _, rfl, s3, hO3⟩
    · rintro σ H2 ⟨x, y, rfl, s2, hO⟩
      rw [en, ← hk] at hO
      refine ⟨_, rfl, _, rfl, b, _, _, _, rfl, rfl, s2.tup hM.top, ixz 2 rfl rfl, m, _, rfl, .inr (s2.tup hM.mvs), ?_⟩
      rw [lm]
      refine ⟨(k : Int), rfl, by omega, by omega, fun D hD => lc_range (lo := 0) (n := ((k : Int)).toNat) (fun j H' => Same H2 H' ∧ H' D = some (.lst (vns (List.range j)))) ⟨Same.new hD, upd_same⟩ ?_ ?_⟩
      · rintro j H3 hj ⟨s3, hL⟩
        refine ⟨rfl, _, rfl, _, hL, ?_, s3.up hD, ?_⟩
        · rw [vns_len, List.length_range]
          exact small1000 (by omega)
        · rw [upd_same, List.range_succ, vns_snoc, Int.zero_add]
      · rintro H3 ⟨s3, hL⟩
        rw [en] at hL
        refine ⟨_, _, dp_numl (SqL.of (s3 _ _ hO)), dp_numl (SqL.of hL), nds_shaped _, nds_shaped _, ?_⟩
        rw [nds_eqv]
        exact q H3
/-! ### _law_own -/
def spLOwn (K : PySem.W.Frag) : Sp := fun vs H Q _ => ∃ (a : Addr) (l : Nat) (u : List Nat), vs = [.ref a, vn l] ∧ SqL K H a (vns u) ∧ u.length ≤ 900 ∧ ∀ H', Same H H' → Q (.bl true) H'
abbrev nLOwn : List Str := ["_law_word_here", "_law_letters", "_law_told", "_law_mine", "_law_other", "_law_letter"]
theorem scLOwn : FnScope nLOwn ["_law_word_here", "_law_letters"] (defScope sLOwn) := ⟨rfl, rfl, rfl, by decide +kernel, rfl, by decide +kernel, by decide +kernel⟩
theorem ok_lown {a : Ad} {f : Addr} {fd fdO : FuncData} (F : Fun K "_law_own" "_law_own" sLOwn f fd) (T : Txt K mg a) (G : FnOk P w K mg base CX0 1 a.own fdO ["word", "letters"] (spOwn K)) (bO : Binds K fdO ["word", "letters"] []) : FnOk P w K mg base CX0 2 f fd ["_law_word_here", "_law_letters"] (spLOwn K) := by
  refine F.ok scLOwn (fun vs H Q E h => ?_) (fun cdv A outer s H vs Q E hr h => ?_)
  · obtain ⟨a, l, u, rfl, _⟩ := h
    rfl
  · obtain ⟨b, l, u, rfl, hw, hlen, k⟩ := h
    have hu2 : (A.deeper (envOfC "_law_own" (defScope sLOwn) s.heap.objs.size f cdv)).units + 64 < cLine := by have := hr.un; omega
    refine ⟨_, pss_cons (ps_set (i := 2) scLOwn.nd rfl (Or.inl rfl) (pe_call G hr rfl T.own.g T.own.k bO .nil pass0 (pa_cons (pe_callTy call_list_of (by rfl) T.list PyProof.Rows.boot_list (pa_cons (pv 0) pa_nil)) (pa_cons (pv 1) pa_nil))))
      (pss_cons (ps_setLc (i := 3) (own := [("_law_letter", 5)]) (g := gName 5) rfl scLOwn.nd rfl rfl (sw_true rfl rfl rfl (by decide +kernel)) (pi_list (pv 0)) (blkOk_by (N := nLOwn) (sc := defScope sLOwn) (by decide +kernel)) (fun _ _ _ _ _ => pg_name (i := 5) scLOwn.nd rfl (Or.inl rfl)) (fun _ _ _ _ _ => pts_one (pt_cmpR op_lt (pv 5) (pv 1) (nomark _))) (fun _ _ _ _ _ => pv 5))
      (pss_cons (ps_setLc (i := 4) (own := [("_law_letter", 5)]) (g := gName 5) rfl scLOwn.nd rfl rfl (sw_true rfl rfl rfl (by decide +kernel)) (pi_list (pv 0)) (blkOk_by (N := nLOwn) (sc := defScope sLOwn) (by decide +kernel)) (fun _ _ _ _ _ => pg_name (i := 5) scLOwn.nd rfl (Or.inl rfl)) (fun _ _ _ _ _ => pts_one (pt_cmpR op_ge (pv 5) (pv 1) (nomark _))) (fun _ _ _ _ _ => pe_op op_sub (pv 5) (pv 1)))
      (pss_one (ps_ret (pe_and (pe_callB call_isi (by rfl) T.isi boot_isinstance (pa_cons (pv 2) (pa_cons (pe_bltn (v := .ty "tuple") (by rfl) T.tuple PyProof.Rows.boot_tuple rfl) pa_nil)))
        (pe_and (pe_cmpR op_eq (pe_callB call_len_seq (by rfl) T.len PySem.boot_len (pa_cons (pv 2) pa_nil)) pe_int (nomark _))
        (pe_and (pe_cmpR (op_eqD hu2) (pe_ix ix_tup (pv 2) pe_int (fun _ _ => rfl)) (pv 3) (nomark _))
        (pe_one (pe_cmpR (op_eqD hu2) (pe_ix ix_tup (pv 2) pe_int (fun _ _ => rfl)) (pv 4) (nomark _)))))))))), ?_⟩
    refine ⟨_, rfl, b, _, rfl, .inl hw, fun wl hwl => ⟨_, rfl, ?_⟩⟩
    have s1 : Same H (upd H wl (.lst (vns u))) := Same.new hwl
    refine ⟨wl, l, u, rfl, SqL.of upd_same, by omega, fun H2 t p q s2 ht hp hq => ?_⟩
    have s12 := s1.trans s2
    refine ⟨_, rfl, b, rfl, ⟨_, s12.seq hw⟩, fun D hD => lc_sieve (keepL l) hD (s12.seq hw) (by omega) (fun x H1 Yes No _ _ hy hn => ?_) fun H3 s3 h3 => ?_⟩
    · refine ⟨rfl, _, rfl, _, rfl, _, _, rfl, rfl, _, rfl, ite2 (fun hc => ?_) fun hc => ?_⟩
      · have hc : (x : Int) < (l : Int) := by simpa using hc
        exact ⟨_, rfl, hy x (by simp [keepL, show x < l by omega])⟩
      · have hc : ¬ (x : Int) < (l : Int) := by simpa using hc
        exact hn (by simp [keepL, show ¬ x < l by omega])
    · refine ⟨_, rfl, b, rfl, ⟨_, (s12.trans s3).seq hw⟩, fun D2 hD2 => lc_sieve (keepR l) hD2 ((s12.trans s3).seq hw) (by omega) (fun x H1 Yes No _ _ hy hn => ?_) fun H4 s4 h4 => ?_⟩
      · refine ⟨rfl, _, rfl, _, rfl, _, _, rfl, rfl, _, rfl, ite2 (fun hc => ?_) fun hc => ?_⟩
        · have hc : (l : Int) ≤ (x : Int) := by simpa using hc
          refine ⟨_, rfl, _, rfl, _, _, rfl, rfl, ?_⟩
          have e : ((x : Int) - (l : Int)) = ((x - l : Nat) : Int) := by omega
          show Yes (V.int ((x : Int) - (l : Int))) _
          rw [e]
          exact hy (x - l) (by simp [keepR, show l ≤ x by omega])
        · have hc : ¬ (l : Int) ≤ (x : Int) := by simpa using hc
          exact hn (by simp [keepR, show ¬ l ≤ x by omega])
      · rw [keepL_eq] at h3
        rw [keepR_eq] at h4
        have s34 := s3.trans s4
        have ht4 := s34 _ _ ht
        refine ⟨_, rfl, _, _, _, _, true, rfl, .ty _, sqt_ty (SqT.of ht4), kit_ty (by decide +kernel), true, rfl, iteT ?_⟩
        refine ⟨_, rfl, t, _, rfl, .inr (SqT.of ht4), rfl, _, rfl, iteT ?_⟩
        refine ⟨_, rfl, t, _, _, _, rfl, rfl, SqT.of ht4, ixz 0 rfl rfl, _, rfl, _, _, dp_numl (SqL.of (s34 _ _ hp)), dp_numl (SqL.of (s4 _ _ h3)), nds_shaped _, nds_shaped _, ?_⟩
        rw [nds_eqv]
        refine ⟨true, rfl, iteT ?_⟩
        refine ⟨_, rfl, t, _, _, _, rfl, rfl, SqT.of ht4, ixz 1 rfl rfl, _, rfl, _, _, dp_numl (SqL.of (s34 _ _ hq)), dp_numl (SqL.of h4), nds_shaped _, nds_shaped _, ?_⟩
        rw [nds_eqv]
        exact k _ (s12.trans s34)
/-! ### _law_both -/
def spBoth (K : PySem.W.Frag) : Sp := fun vs H Q _ => ∃ (a b t u ma oa mb ob mt ot : Addr) (ra rb rt : List Addr) (F S : Mach) (k : Nat) (wd : List Nat), vs = [.ref a, .ref b, .ref t, .ref u] ∧ MachAt K H a F ma oa ra ∧ MachAt K H b S mb ob rb ∧
  MachAt K H t (told F S (ord F S k)) mt ot rt ∧ F.WF ∧ S.WF ∧ k = (ord F S k).length ∧ S.ou ≤ 100 ∧ SqL K H u (vns wd) ∧ wd.length ≤ 900 ∧ (∀ c ∈ wd, c < F.lt + S.lt) ∧ ∀ H', Same H H' → Q (.bl true) H'
abbrev nBoth : List Str := ["_law_first", "_law_second", "_law_told", "_law_word_here", "_law_mine", "_law_other", "_law_due", "_law_letter"]
abbrev pBoth : List Str := ["_law_first", "_law_second", "_law_told", "_law_word_here"]
theorem scBoth : FnScope nBoth pBoth (defScope sBoth) := ⟨rfl, rfl, rfl, by decide +kernel, rfl, by decide +kernel, by decide +kernel⟩
abbrev pRun : List Str := ["_law_machine_here", "_law_word_here"]
theorem ok_both {a : Ad} {f : Addr} {fd fdR fdO : FuncData} (F0 : Fun K "_law_both" "_law_both" sBoth f fd) (T : Txt K mg a) (GR : FnOk P w K mg base CX0 1 a.run fdR pRun (spRun K)) (bR : Binds K fdR pRun [])
    (GO : FnOk P w K mg base CX0 2 a.lown fdO ["_law_word_here", "_law_letters"] (spLOwn K)) (bO : Binds K fdO ["_law_word_here", "_law_letters"] []) : FnOk P w K mg base CX0 3 f fd pBoth (spBoth K) := by
  refine F0.ok scBoth (fun vs H Q E h => ?_) (fun cdv A outer s H vs Q E hr h => ?_)
  · obtain ⟨a, b, t, u, ma, oa, mb, ob, mt, ot, ra, rb, rt, F, S, k, wd, rfl, _⟩ := h
    rfl
  · obtain ⟨a1, b, t, u, ma, oa, mb, ob, mt, ot, ra, rb, rt, F, S, k, wd, rfl, hF, hS, hT, wF, wS, hk, ho, hw, hlen, hc, q⟩ := h
    have hr1 := hr.mono (show 1 ≤ 2 by decide)
    refine ⟨_, pss_cons (ps_setLc (i := 4) (own := [("_law_letter", 7)]) (g := gName 7) rfl scBoth.nd rfl rfl (sw_true rfl rfl rfl (by decide +kernel)) (pi_list (pv 3)) (blkOk_by (N := nBoth) (sc := defScope sBoth) (by decide +kernel)) (fun _ _ _ _ _ => pg_name (i := 7) scBoth.nd rfl (Or.inl rfl)) (fun _ _ _ _ _ => pts_one (pt_cmpR op_lt (pv 7) (pe_ix (ixt K) (pv 0) pe_int (fun _ _ => rfl)) (nomark _))) (fun _ _ _ _ _ => pv 7))
      (pss_cons (ps_setLc (i := 5) (own := [("_law_letter", 7)]) (g := gName 7) rfl scBoth.nd rfl rfl (sw_true rfl rfl rfl (by decide +kernel)) (pi_list (pv 3)) (blkOk_by (N := nBoth) (sc := defScope sBoth) (by decide +kernel)) (fun _ _ _ _ _ => pg_name (i := 7) scBoth.nd rfl (Or.inl rfl)) (fun _ _ _ _ _ => pts_one (pt_cmpR op_ge (pv 7) (pe_ix (ixt K) (pv 0) pe_int (fun _ _ => rfl)) (nomark _))) (fun _ _ _ _ _ => pe_op op_sub (pv 7) (pe_ix (ixt K) (pv 0) pe_int (fun _ _ => rfl))))
      (pss_cons (ps_set (i := 6) scBoth.nd rfl (Or.inl rfl) (pe_op op_add (pe_op op_mul (pe_ix ix_tup (pe_ix ix_tup (pv 0) pe_int (fun _ _ => rfl)) (pe_call GR hr1 rfl T.run.g T.run.k bR .nil pass0 (pa_cons (pv 0) (pa_cons (pv 4) pa_nil))) (fun _ _ => rfl)) (pe_ix ix_tup (pv 1) pe_int (fun _ _ => rfl)))
        (pe_ix ix_tup (pe_ix ix_tup (pv 1) pe_int (fun _ _ => rfl)) (pe_call GR hr1 rfl T.run.g T.run.k bR .nil pass0 (pa_cons (pv 1) (pa_cons (pv 5) pa_nil))) (fun _ _ => rfl))))
      (pss_one (ps_ret (pe_and (pe_cmpR op_eq (pe_ix ix_tup (pe_ix ix_tup (pv 2) pe_int (fun _ _ => rfl)) (pe_call GR hr1 rfl T.run.g T.run.k bR .nil pass0 (pa_cons (pv 2) (pa_cons (pv 3) pa_nil))) (fun _ _ => rfl)) (pv 6) (nomark _))
        (pe_one (pe_call GO hr rfl T.lown.g T.lown.k bO .nil pass0 (pa_cons (pv 3) (pa_cons (pe_ix ix_tup (pv 0) pe_int (fun _ _ => rfl)) pa_nil))))))))), ?_⟩
    refine ⟨_, rfl, u, rfl, ⟨_, hw⟩, fun D hD => lc_sieve (keepL F.lt) hD hw (by omega) (fun x H1 Yes No _ s1 hy hn => ?_) fun H3 s3 h3 => ?_⟩
    · refine ⟨rfl, _, rfl, _, rfl, a1, _, _, _, rfl, rfl, s1.tup hF.top, ixz 0 rfl rfl, _, _, rfl, rfl, _, rfl, ite2 (fun hc => ?_) fun hc => ?_⟩
      · have hc : (x : Int) < (F.lt : Int) := by simpa using hc
        exact ⟨_, rfl, hy x (by simp [keepL, show x < F.lt by omega])⟩
      · have hc : ¬ (x : Int) < (F.lt : Int) := by simpa using hc
        exact hn (by simp [keepL, show ¬ x < F.lt by omega])
    · refine ⟨_, rfl, u, rfl, ⟨_, s3.seq hw⟩, fun D2 hD2 => lc_sieve (keepR F.lt) hD2 (s3.seq hw) (by omega) (fun x H1 Yes No _ s1 hy hn => ?_) fun H4 s4 h4 => ?_⟩
      · have st := (s3.trans s1).tup hF.top
        refine ⟨rfl, _, rfl, _, rfl, a1, _, _, _, rfl, rfl, st, ixz 0 rfl rfl, _, _, rfl, rfl, _, rfl, ite2 (fun hc => ?_) fun hc => ?_⟩
        · have hc : (F.lt : Int) ≤ (x : Int) := by simpa using hc
          refine ⟨_, rfl, _, rfl, a1, _, _, _, rfl, rfl, st, ixz 0 rfl rfl, _, _, rfl, rfl, ?_⟩
          have e : ((x : Int) - (F.lt : Int)) = ((x - F.lt : Nat) : Int) := by omega
          show Yes (V.int ((x : Int) - (F.lt : Int))) _
          rw [e]
          exact hy (x - F.lt) (by simp [keepR, show F.lt ≤ x by omega])
        · have hc : ¬ (F.lt : Int) ≤ (x : Int) := by simpa using hc
          exact hn (by simp [keepR, show ¬ F.lt ≤ x by omega])
      · rw [keepL_eq] at h3
        rw [keepR_eq] at h4
        have s34 := s3.trans s4
        have hF4 := hF.keep s34
        have hS4 := hS.keep s34
        have hT4 := hT.keep s34
        have wT := told_wf wF wS hk
        have rF := wF.run_lt (mine F.lt wd) wF.pos mine_lt
        have rS := wS.run_lt (other F.lt wd) wS.pos (other_lt hc)
        have rT : (told F S (ord F S k)).run 0 wd < (told F S (ord F S k)).n := wT.run_lt wd wT.pos hc
        have eB := told_both wF wS hk wd hc
        refine ⟨_, rfl, a1, _, _, _, rfl, rfl, hF4.top, ixz 3 rfl rfl, _, rfl, _, rfl, a1, D, ma, oa, ra, F, mine F.lt wd, rfl, hF4, wF, SqL.of (s4 _ _ h3), mine_lt, oa, _, _, _, rfl, rfl, hF4.ops.sq, ix (vns_get (Mach.WF.o_get rF)), ?_⟩
        refine ⟨_, rfl, b, _, _, _, rfl, rfl, hS4.top, ixz 1 rfl rfl, _, _, rfl, rfl, .inr ⟨by omega, by omega⟩, ?_⟩
        refine ⟨_, rfl, b, _, _, _, rfl, rfl, hS4.top, ixz 3 rfl rfl, _, rfl, _, rfl, b, D2, mb, ob, rb, S, other F.lt wd, rfl, hS4, wS, SqL.of h4, other_lt hc, ob, _, _, _, rfl, rfl, hS4.ops.sq, ix (vns_get (Mach.WF.o_get rS)), _, _, rfl, rfl, ?_⟩
        refine ⟨_, rfl, t, _, _, _, rfl, rfl, hT4.top, ixz 3 rfl rfl, _, rfl, _, rfl, t, u, mt, ot, rt, told F S (ord F S k), wd, rfl, hT4, wT, s34.seq hw, hc, ot, _, _, _, rfl, rfl, hT4.ops.sq, ix (vns_get (Mach.WF.o_get rT)), _, rfl, rfl, ?_⟩
        have eV : (vn ((told F S (ord F S k)).o ((told F S (ord F S k)).run 0 wd)) = V.int ((F.o (F.run 0 (mine F.lt wd)) : Int) * (S.ou : Int) + (S.o (S.run 0 (other F.lt wd)) : Int))) := by
          rw [eB]
          rfl
        refine ⟨true, congrArg V.bl (decide_eq_true eV), iteT ?_⟩
        exact ⟨_, rfl, _, rfl, a1, _, _, _, rfl, rfl, hF4.top, ixz 0 rfl rfl, u, F.lt, wd, rfl, s34.seq hw, hlen, fun H' s' => q H' (s34.trans s')⟩
end
end K04W

set_option Elab.async false
set_option linter.all false
set_option maxRecDepth 100000
set_option maxHeartbeats 4000000
/-! K04D10: _law_is_machine. -/
namespace K04W
open PySem PySem.Spec PyProof.Rows L2 K04 K04.Mach K04R K04H

section
variable {P : Program} {w : World} {K : PySem.W.Frag} {mg : Str → Option Value} {base : Heap}
theorem vne {i j : Int} (h : i = j) : (!decide (V.int i = V.int j)) = false := by simp [h]
theorem iteF' {c : Bool} {A B : Prop} (h : c = false) (b : B) : if c = true then A else B := by
  subst h
  exact b
/-! ### _law_is_machine -/
def spIsM (K : PySem.W.Frag) : Sp := fun vs H Q _ => ∃ (t m o : Addr) (rows : List Addr) (M : Mach), vs = [.ref t, vn M.lt, vn M.ou] ∧ MachAt K H t M m o rows ∧ M.WF ∧ M.n ≤ 30 ∧ Q (.bl true) H
abbrev nIsM : List Str := ["_law_told", "_law_letters", "_law_outs", "_law_states", "_law_k", "_law_state"]
abbrev pIsM : List Str := ["_law_told", "_law_letters", "_law_outs"]
theorem scIsM : FnScope nIsM pIsM (defScope sIsM) := ⟨rfl, rfl, rfl, by decide +kernel, rfl, by decide +kernel, by decide +kernel⟩
theorem ok_isM {a : Ad} {f : Addr} {fd : FuncData} (F0 : Fun K "_law_is_machine" "_law_is_machine" sIsM f fd) (T : Txt K mg a) : FnOk P w K mg base CX0 1 f fd pIsM (spIsM K) := by
  refine F0.ok scIsM (fun vs H Q E h => ?_) (fun cdv A outer s H vs Q E hr h => ?_)
  · obtain ⟨t, m, o, rows, M, rfl, _⟩ := h
    rfl
  · obtain ⟨t, m, o, rows, M, rfl, hM, wM, hn, q⟩ := h
    refine ⟨_, pss_cons (ps_if (PW.pt (pw_or (pt_not (pt_val (pe_callB call_isi (by rfl) T.isi boot_isinstance (pa_cons (pv 0) (pa_cons (pe_bltn (v := .ty "tuple") (by rfl) T.tuple PyProof.Rows.boot_tuple rfl) pa_nil)))))
        (pw_or (pt_cmpR op_ne (pe_callB call_len_seq (by rfl) T.len PySem.boot_len (pa_cons (pv 0) pa_nil)) pe_int (nomark _))
        (pw_or (pt_cmpR op_ne (pe_ix ix_tup (pv 0) pe_int (fun _ _ => rfl)) (pv 1) (nomark _)) (pw_or1 (pt_cmpR op_ne (pe_ix ix_tup (pv 0) pe_int (fun _ _ => rfl)) (pv 2) (nomark _)))))))
        (pss_one (ps_ret pe_bl)) pss_nil)
      (pss_cons (ps_set (i := 3) scIsM.nd rfl (Or.inl rfl) (pe_callB call_len_seq (by rfl) T.len PySem.boot_len (pa_cons (pe_ix ix_tup (pv 0) pe_int (fun _ _ => rfl)) pa_nil)))
      (pss_cons (ps_if (PW.pt (pw_or (pt_cmpR op_lt (pv 3) pe_int (nomark _)) (pw_or (pt_cmpR op_gt (pv 3) pe_int (nomark _)) (pw_or1 (pt_cmpR op_ne (pe_callB call_len_seq (by rfl) T.len PySem.boot_len (pa_cons (pe_ix ix_tup (pv 0) pe_int (fun _ _ => rfl)) pa_nil)) (pv 3) (nomark _))))))
        (pss_one (ps_ret pe_bl)) pss_nil)
      (pss_cons (ps_for PassesOwn.never rfl (pi_range1 (by rfl) T.range (pa_cons (pv 3) pa_nil)) (pg_name (i := 4) scIsM.nd rfl (Or.inl rfl))
        (pss_cons (ps_if (PW.pt (pw_or (pt_cmpR op_ne (pe_callB call_len_seq (by rfl) T.len PySem.boot_len (pa_cons (pe_ix ix_tup (pe_ix ix_tup (pv 0) pe_int (fun _ _ => rfl)) (pv 4) (fun _ _ => rfl)) pa_nil)) (pv 1) (nomark _))
            (pw_or1 (pt_not (pt_chain op_le op_lt pe_int (pe_ix ix_tup (pe_ix ix_tup (pv 0) pe_int (fun _ _ => rfl)) (pv 4) (fun _ _ => rfl)) (pv 2))))))
          (pss_one (ps_ret pe_bl)) pss_nil)
        (pss_one (ps_for PassesOwn.never rfl (pi_tup (pe_ix ix_tup (pe_ix ix_tup (pv 0) pe_int (fun _ _ => rfl)) (pv 4) (fun _ _ => rfl))) (pg_name (i := 5) scIsM.nd rfl (Or.inl rfl))
          (pss_one (ps_if (pt_not (pt_chain op_le op_lt pe_int (pv 5) (pv 3))) (pss_one (ps_ret pe_bl)) pss_nil))))))
      (pss_one (ps_ret pe_bl))))), ?_⟩
    have lm : (rows.map V.ref).length = M.n := by rw [List.length_map, hM.len, wM.len]
    have ht := hM.top
    refine ⟨_, rfl, _, _, _, _, true, rfl, .ty _, sqt_ty ht, kit_ty (by decide +kernel), true, rfl, iteF ?_⟩
    refine ⟨_, rfl, t, _, rfl, .inr ht, rfl, _, rfl, iteF' (vne rfl) ?_⟩
    refine ⟨_, rfl, t, _, _, _, rfl, rfl, ht, ixz 0 rfl rfl, _, rfl, rfl, _, rfl, iteF' (vne rfl) ?_⟩
    refine ⟨_, rfl, t, _, _, _, rfl, rfl, ht, ixz 1 rfl rfl, _, rfl, rfl, _, rfl, iteF' (vne rfl) ?_⟩
    refine ⟨_, rfl, t, _, _, _, rfl, rfl, ht, ixz 2 rfl rfl, m, _, rfl, .inr hM.mvs, ?_⟩
    rw [lm]
    have hpos := wM.pos
    refine ⟨_, rfl, _, _, rfl, rfl, _, rfl, ite2 (fun hc => ?_) fun _ => ?_⟩
    · exfalso
      have hc : (M.n : Int) < 1 := of_decide_eq_true hc
      omega
    refine ⟨_, rfl, _, _, rfl, rfl, _, rfl, ite2 (fun hc => ?_) fun _ => ?_⟩
    · exfalso
      have hc : (30 : Int) < (M.n : Int) := of_decide_eq_true hc
      omega
    refine ⟨_, rfl, t, _, _, _, rfl, rfl, ht, ixz 3 rfl rfl, o, _, rfl, .inr hM.ops.sq, _, rfl, rfl, _, rfl, iteF' (vne (show ((vns M.op).length : Int) = (M.n : Int) by rw [vns_len] <;> rfl)) ?_⟩
    refine ⟨_, rfl, (M.n : Int), rfl, by omega, by omega, for_range (lo := 0) (n := ((M.n : Int)).toNat) (fun i σ H' => H' = H ∧ ∃ x y : Option V, σ = [some (.ref t), some (vn M.lt), some (vn M.ou), some (vn M.n), x, y]) ⟨rfl, none, none, rfl⟩ ?_ ?_⟩
    · rintro i σ H' hi ⟨rfl, x, y, rfl⟩
      have hi : i < M.n := by omega
      obtain ⟨r, hr1, hr2⟩ := hM.row_at (i := i) (by rw [wM.len]; exact hi)
      have e0 : (0 : Int) + (i : Int) = (i : Int) := Int.zero_add _
      have ho := wM.o_lt hi
      refine ⟨_, rfl, t, _, _, _, rfl, rfl, ht, ixz 2 rfl rfl, _, rfl, m, _, _, _, rfl, rfl, hM.mvs, ixz i e0 (refs_get hr1), r, _, rfl, .inr hr2, _, rfl, rfl, _, rfl, iteF' (vne (show ((vns (M.row i)).length : Int) = (M.lt : Int) by rw [vns_len, wM.row_len hi] <;> rfl)) ?_⟩
      refine ⟨_, rfl, t, _, _, _, rfl, rfl, ht, ixz 3 rfl rfl, _, rfl, o, _, _, _, rfl, rfl, hM.ops.sq, ixz i e0 (vns_get (Mach.WF.o_get hi)), _, _, rfl, rfl, _, rfl, ite2 (fun _ => ?_) fun hc => ?_⟩
      · refine ⟨_, rfl, _, _, rfl, rfl, _, rfl, ite2 (fun hc => ?_) fun _ => ?_⟩
        · exfalso
          have hl : ((M.o i : Nat) : Int) < (M.ou : Int) := by omega
          rw [decide_eq_true hl] at hc
          cases hc
        · refine ⟨_, rfl, t, _, _, _, rfl, rfl, ht, ixz 2 rfl rfl, _, rfl, m, _, _, _, rfl, rfl, hM.mvs, ixz i e0 (refs_get hr1), r, rfl, ⟨_, hr2⟩, ?_⟩
          refine for_tup (K := K) (a := r) (xs := vns (M.row i)) (fun l σ H'' => H'' = H' ∧ ∃ x y : Option V, σ = [some (.ref t), some (vn M.lt), some (vn M.ou), some (vn M.n), x, y]) ⟨rfl, _, _, rfl⟩ (fun l σ H'' _ ⟨e, _⟩ => e ▸ hr2) ?_ ?_
          · rintro l v σ H'' hv ⟨rfl, x2, y2, rfl⟩
            obtain ⟨n, hn', rfl⟩ := vns_get_inv hv
            have hnl : n < M.n := wM.st _ (List.mem_of_getElem? (wM.row_get hi)) _ (List.mem_of_getElem? hn')
            refine ⟨_, rfl, _, _, rfl, rfl, _, rfl, ite2 (fun _ => ?_) fun hc => ?_⟩
            · refine ⟨_, rfl, _, _, rfl, rfl, _, rfl, ite2 (fun hc => ?_) fun _ => ?_⟩
              · exfalso
                have hl : ((n : Nat) : Int) < (M.n : Int) := by omega
                rw [decide_eq_true hl] at hc
                cases hc
              · exact ⟨rfl, _, _, rfl⟩
            · exfalso
              exact hc (decide_eq_true (show (0 : Int) ≤ (n : Int) by omega))
          · rintro σ H'' ⟨rfl, x2, y2, rfl⟩
            exact ⟨rfl, _, _, rfl⟩
      · exfalso
        exact hc (decide_eq_true (show (0 : Int) ≤ (M.o i : Int) by omega))
    · rintro σ H' ⟨rfl, x, y, rfl⟩
      exact q
end
end K04W

set_option Elab.async false
set_option linter.all false
set_option maxRecDepth 100000
set_option maxHeartbeats 4000000
/-! K04D11: _law_refused. -/
namespace K04W
open PySem PySem.Spec PyProof.Rows L2 K04 K04.Mach K04R K04H

theorem takesN0 {X : Cx} : L2N.Takes X (fun _ _ _ _ => False) := fun _ _ x => by
  obtain ⟨_, _, _, _, _, _, _, _, _, _, _, _, _, _, _, _, h⟩ := x
  exact h.elim
theorem passN0 {X : Cx} : Passes (L2N.CX X.prog X.w) X E0 := fun _ _ _ _ _ _ _ h => by
  obtain ⟨_, _, _, _, _, _, _, _, _, _, _, _, h⟩ := h
  exact h.elim
theorem hot_suite {X : Cx} {a : Addr} {oe : Obj} {cls : Value} {d : Option Addr} {pn : List (Addr × Obj)} (hz : L2N.Zn cls d oe) (hf : ∃ vs, oe.data = .fields vs) : L2H.HotC (X.suite a ((a, oe) :: pn)) := by
  obtain ⟨vs, hv⟩ := hf
  exact ⟨(a, oe), ⟨rfl, vs, hv, hz.2.2 vs hv⟩, List.mem_cons_self⟩
/-- a joint behind a statement of two ways -/
theorem seq_mid {t u : TS} {D : Ends} {σ : L2.St} {H : Hp} (J : L2.St → Hp → Prop) (h2 : ∀ σ' H', J σ' H' → u D σ' H') (h1 : (∀ σ' H', J σ' H' → u D σ' H') → t { D with nx := u D } σ H) : tSeq t u D σ H := h1 h2
section
variable {P : Program} {w : World} {K : PySem.W.Frag} {mg : Str → Option Value} {base : Heap}
/-! ### _law_refused -/
def spRefused (K : PySem.W.Frag) : Sp := fun vs H Q _ => ∃ (a b ma oa mb ob : Addr) (ra rb : List Addr) (F S : Mach), vs = [.ref a, .ref b] ∧ MachAt K H a F ma oa ra ∧ MachAt K H b S mb ob rb ∧ F.WF ∧ S.WF ∧ Small F ∧ Small S ∧
  (∀ k, F.lt + S.lt ≤ 4 → F.ou * S.ou ≤ 6 → k = (ord F S k).length → k ≤ 30 → False) ∧ ∀ H', Same H H' → Q (.bl true) H'
abbrev nRefused : List Str := ["_law_first", "_law_second", "e"]
theorem scRefused : FnScope nRefused ["_law_first", "_law_second"] (defScope sRefused) := ⟨rfl, rfl, rfl, by decide +kernel, rfl, by decide +kernel, by decide +kernel⟩
/-- the suite's reading: return isinstance(e, MaieuticError) -/
def tsRef (K : PySem.W.Frag) (N M : Addr) : Addr → Value → Option Addr → TS := fun a cls d D σ H => cls = .ref N ∧ d = none ∧ tRet (tCB (rIsE K N a) (tCons (tVar 2) (tCons (tC (.ref M)) tNil))) D σ H
theorem ok_refused {a : Ad} {f : Addr} {fd fdB : FuncData} (F0 : Fun K "_law_refused" "_law_refused" sRefused f fd) (T : Txt K mg a) (ET : ErrTxt K mg a)
    (GB : FnOk P w K mg base (L2N.CX P w) 3 a.beside fdB ["first", "second"] (spBeside K a.N)) (bB : Binds K fdB ["first", "second"] []) : FnOk P w K mg base CX0 4 f fd ["_law_first", "_law_second"] (spRefused K) := by
  refine F0.ok scRefused (fun vs H Q E h => ?_) (fun cdv A outer s H vs Q E hr h => ?_)
  · obtain ⟨a, b, ma, oa, mb, ob, ra, rb, F, S, rfl, _⟩ := h
    rfl
  · obtain ⟨b, c, ma, oa, mb, ob, ra, rb, F, S, rfl, hF, hS, wF, wS, sF, sS, no, q⟩ := h
    refine ⟨_, pss_cons (L2N.ps_try_as (i := 2) (tb := fun W => tDrop (tCallS (spBeside K a.N) (WE W) (tCons (tVar 0) (tCons (tVar 1) tNil)))) (ts := tsRef K a.N a.M) (Wout := fun _ _ _ _ => False) rfl rfl scRefused.nd rfl rfl ⟨rfl, by decide, Or.inl ET.gN⟩ takesN0
        (fun W pn xe tk _ => pss_one (ps_expr (pe_callS GB hr rfl T.beside.g T.beside.k bB (fun σ => L2N.passAt tk σ) (pa_cons (pv 0) (pa_cons (pv 1) pa_nil)))))
        (fun a0 oe cls d pn hz hf => ⟨fun pins s1 σ H1 D I h1 => ?_⟩))
      (pss_one (ps_ret pe_bl)), ?_⟩
    · obtain ⟨rfl, rfl, h2⟩ := h1
      exact (pss_one (ps_ret (pe_callB (call_isE ET.cN hz.zc hf) (by rfl) T.isi boot_isinstance (pa_cons (pv 2) (pa_cons (pe_glob (v := .ref a.M) (by rfl) ET.gM rfl) pa_nil))))).run pins s1 σ H1 D I h2
    · refine ⟨_, rfl, _, rfl, b, c, ma, oa, mb, ob, ra, rb, F, S, rfl, hF, hS, wF, wS, sF, sS, fun H' s1 tm => ?_, fun H' p m o rows k s1 hl ho hk h30 ht hM => ?_⟩
      · refine ⟨true, ET.eN, fun _ a0 _ => ⟨rfl, rfl, ?_⟩, fun z => nomatch z⟩
        exact ⟨_, rfl, .ref a.M, .ref a.M, true, rfl, fun u r => r, ET.iM, q H' s1⟩
      · exact (no k hl ho hk h30).elim
end
end K04W

set_option Elab.async false
set_option linter.all false
set_option maxRecDepth 100000
set_option maxHeartbeats 8000000
/-! K04D12: law. -/
namespace K04W
open PySem PySem.Spec PyProof.Rows L2 K04 K04.Mach K04R K04H

theorem told_mv_len {F S : Mach} (O : List (Nat × Nat)) : (told F S O).mv.length = O.length := by simp [told]
section
variable {P : Program} {w : World} {K : PySem.W.Frag} {mg : Str → Option Value} {base : Heap}
def spLaw (K : PySem.W.Frag) : Sp := fun vs H Q _ => ∃ (a : Addr) (ns : List Int), vs = [.ref a] ∧ SqL K H a (ns.map V.int) ∧ ns.length ≤ 63 ∧ ∀ H', Q (.bl true) H'
abbrev nLaw : List Str := ["_law_script", "_law_numbers", "_law_letters", "_law_outs", "_law_first", "_law_second", "_law_told", "_law_k", "_law_size"]
theorem scLaw : FnScope nLaw ["_law_script"] (defScope sLaw) := ⟨rfl, rfl, rfl, by decide +kernel, rfl, by decide +kernel, by decide +kernel⟩
abbrev pWord : List Str := ["_law_numbers", "_law_at", "_law_size", "_law_letters"]
abbrev pSmall : List Str := ["_law_numbers", "_law_at", "_law_letters", "_law_outs"]
abbrev pFS : List Str := ["_law_first", "_law_second"]
/-- what the law calls -/
structure Callees (P : Program) (w : World) (K : PySem.W.Frag) (mg : Str → Option Value) (base : Heap) (a : Ad) where
  fSt : FuncData
  fP : FuncData
  fSm : FuncData
  fRf : FuncData
  fRi : FuncData
  fB : FuncData
  fC : FuncData
  fIs : FuncData
  fBo : FuncData
  fW : FuncData
  fN : FuncData
  GSt : FnOk P w K mg base CX0 1 a.stream fSt ["_law_script"] (spStream K)
  GP : FnOk P w K mg base CX0 1 a.pick fP pPick (spPick K)
  GSm : FnOk P w K mg base CX0 3 a.small fSm pSmall (spSmall K)
  GRf : FnOk P w K mg base CX0 4 a.refused fRf pFS (spRefused K)
  GRi : FnOk P w K mg base CX0 1 a.ring fRi ["_law_states"] (spRing K)
  GB : FnOk P w K mg base (L2N.CX P w) 3 a.beside fB ["first", "second"] (spBeside K a.N)
  GC : FnG P w K mg base 3 a.count fC pFS (spCount K)
  GIs : FnOk P w K mg base CX0 1 a.isM fIs pIsM (spIsM K)
  GBo : FnOk P w K mg base CX0 3 a.both fBo pBoth (spBoth K)
  GW : FnOk P w K mg base CX0 2 a.word fW pWord (spWord K)
  GN : FnOk P w K mg base CX0 1 a.numbered fN ["_law_machine_here"] (spNumbered K)
  bSt : Binds K fSt ["_law_script"] []
  bP : Binds K fP pPick []
  bSm : Binds K fSm pSmall []
  bRf : Binds K fRf pFS []
  bRi : Binds K fRi ["_law_states"] []
  bB : Binds K fB ["first", "second"] []
  bC : Binds K fC pFS []
  bIs : Binds K fIs pIsM []
  bBo : Binds K fBo pBoth []
  bW : Binds K fW pWord []
  bN : Binds K fN ["_law_machine_here"] []
/-- the suite's reading: return _law_count(first, second) > 30 -/
def tsLaw (K : PySem.W.Frag) : Addr → Value → Option Addr → TS := fun a cls d => tRet (tOp (rI0 fun i j => .bl (decide (j < i))) (tCallS (spCount K) (fun _ => E0) (tCons (tVar 4) (tCons (tVar 5) tNil))) (tC (.int 30)))
theorem ok_law {a : Ad} {f : Addr} {fd : FuncData} (F0 : Fun K "law" "law" sLaw f fd) (T : Txt K mg a) (ET : ErrTxt K mg a) (G : Callees P w K mg base a) : FnOk P w K mg base CX0 5 f fd ["_law_script"] (spLaw K) := by
  refine F0.ok scLaw (fun vs H Q E h => ?_) (fun cdv A outer s H vs Q E hr h => ?_)
  · obtain ⟨a, ns, rfl, _⟩ := h
    rfl
  · obtain ⟨b, ns, rfl, hs, hlen, q⟩ := h
    have hr1 := hr.mono (show 1 ≤ 4 by decide)
    have hr2 := hr.mono (show 2 ≤ 4 by decide)
    have hr3 := hr.mono (show 3 ≤ 4 by decide)
    refine ⟨_, pss_cons (ps_set (i := 1) scLaw.nd rfl (Or.inl rfl) (pe_call G.GSt hr1 rfl T.stream.g T.stream.k G.bSt .nil pass0 (pa_cons (pv 0) pa_nil)))
      (pss_cons (ps_set (i := 2) scLaw.nd rfl (Or.inl rfl) (pe_tup (pa_cons (pe_op op_add pe_int (pe_call G.GP hr1 rfl T.pick.g T.pick.k G.bP .nil pass0 (pa_cons (pv 1) (pa_cons pe_int (pa_cons pe_int pa_nil))))) (pa_cons (pe_op op_add pe_int (pe_call G.GP hr1 rfl T.pick.g T.pick.k G.bP .nil pass0 (pa_cons (pv 1) (pa_cons pe_int (pa_cons pe_int pa_nil))))) pa_nil))))
      (pss_cons (ps_set (i := 3) scLaw.nd rfl (Or.inl rfl) (pe_tup (pa_cons (pe_op op_add pe_int (pe_call G.GP hr1 rfl T.pick.g T.pick.k G.bP .nil pass0 (pa_cons (pv 1) (pa_cons pe_int (pa_cons pe_int pa_nil))))) (pa_cons (pe_op op_add pe_int (pe_call G.GP hr1 rfl T.pick.g T.pick.k G.bP .nil pass0 (pa_cons (pv 1) (pa_cons pe_int (pa_cons pe_int pa_nil))))) pa_nil))))
      (pss_cons (ps_if (pt_cmpR op_gt (pe_call G.GP hr1 rfl T.pick.g T.pick.k G.bP .nil pass0 (pa_cons (pv 1) (pa_cons pe_int (pa_cons pe_int pa_nil)))) pe_int (nomark _))
        (pss_cons (ps_set (i := 2) scLaw.nd rfl (Or.inl rfl) (pe_tup (pa_cons (pe_op op_add (pe_op op_mod (pe_ix ix_tup (pv 2) pe_int (fun _ _ => rfl)) pe_int) pe_int) (pa_cons pe_int pa_nil))))
        (pss_one (ps_set (i := 3) scLaw.nd rfl (Or.inl rfl) (pe_tup (pa_cons (pe_op op_add (pe_op op_mod (pe_ix ix_tup (pv 3) pe_int (fun _ _ => rfl)) pe_int) pe_int) (pa_cons (pe_op op_add (pe_op op_mod (pe_ix ix_tup (pv 3) pe_int (fun _ _ => rfl)) pe_int) pe_int) pa_nil)))))) pss_nil)
      (pss_cons (ps_set (i := 4) scLaw.nd rfl (Or.inl rfl) (pe_call G.GSm hr3 rfl T.small.g T.small.k G.bSm .nil pass0 (pa_cons (pv 1) (pa_cons pe_int (pa_cons (pe_ix ix_tup (pv 2) pe_int (fun _ _ => rfl)) (pa_cons (pe_ix ix_tup (pv 3) pe_int (fun _ _ => rfl)) pa_nil))))))
      (pss_cons (ps_set (i := 5) scLaw.nd rfl (Or.inl rfl) (pe_call G.GSm hr3 rfl T.small.g T.small.k G.bSm .nil pass0 (pa_cons (pv 1) (pa_cons pe_int (pa_cons (pe_ix ix_tup (pv 2) pe_int (fun _ _ => rfl)) (pa_cons (pe_ix ix_tup (pv 3) pe_int (fun _ _ => rfl)) pa_nil))))))
      (pss_cons (ps_if (PW.pt (pw_or (pt_not (pt_val (pe_call G.GRf hr rfl T.refused.g T.refused.k G.bRf .nil pass0 (pa_cons (pe_call G.GRi hr1 rfl T.ring.g T.ring.k G.bRi .nil pass0 (pa_cons pe_int pa_nil)) (pa_cons (pe_call G.GRi hr1 rfl T.ring.g T.ring.k G.bRi .nil pass0 (pa_cons pe_int pa_nil)) pa_nil)))))
          (pw_or1 (pt_cmpR op_ne (pe_callB call_len_seq (by rfl) T.len PySem.boot_len (pa_cons (pe_ix ix_tup (pe_call G.GB hr3 rfl T.beside.g T.beside.k G.bB .nil passN0 (pa_cons (pe_call G.GRi hr1 rfl T.ring.g T.ring.k G.bRi .nil pass0 (pa_cons pe_int pa_nil)) (pa_cons (pe_call G.GRi hr1 rfl T.ring.g T.ring.k G.bRi .nil pass0 (pa_cons pe_int pa_nil)) pa_nil))) pe_int (fun _ _ => rfl)) pa_nil)) pe_int (nomark _)))))
        (pss_one (ps_ret pe_bl)) pss_nil)
      (pss_cons (ps_if (PW.pt (pw_or (pt_cmpR op_gt (pe_op op_add (pe_ix ix_tup (pv 2) pe_int (fun _ _ => rfl)) (pe_ix ix_tup (pv 2) pe_int (fun _ _ => rfl))) pe_int (nomark _)) (pw_or1 (pt_cmpR op_gt (pe_op op_mul (pe_ix ix_tup (pv 3) pe_int (fun _ _ => rfl)) (pe_ix ix_tup (pv 3) pe_int (fun _ _ => rfl))) pe_int (nomark _)))))
        (pss_one (ps_ret (pe_call G.GRf hr rfl T.refused.g T.refused.k G.bRf .nil pass0 (pa_cons (pv 4) (pa_cons (pv 5) pa_nil))))) pss_nil)
      (pss_cons (L2N.ps_try_many (tb := fun W => tAsg (tCallS (spBeside K a.N) (WE W) (tCons (tVar 4) (tCons (tVar 5) tNil))) (gName 6)) (l := [(.ref a.N, tsLaw K)]) (Wout := fun _ _ _ _ => False) rfl rfl takesN0
        (fun W pn xe tk _ => pss_one (ps_set (i := 6) scLaw.nd rfl (Or.inl rfl) (pe_callS G.GB hr3 rfl T.beside.g T.beside.k G.bB (fun σ => L2N.passAt tk σ) (pa_cons (pv 4) (pa_cons (pv 5) pa_nil)))))
        (.cons ⟨rfl, by decide, Or.inl ET.gN⟩ (fun a0 oe cls d pn hz hf => pss_one (ps_ret (pe_cmpR op_gt (L2H.pe_callH G.GC.hot ⟨hr3.dp, hr3.un⟩ (hot_suite hz hf) rfl T.count.g T.count.k G.bC (fun σ pins H s e s' _ z => z.elim) (pa_cons (pv 4) (pa_cons (pv 5) pa_nil))) pe_int (nomark _)))) .nil))
      (pss_cons (ps_if (pt_not (pt_val (pe_call G.GIs hr1 rfl T.isM.g T.isM.k G.bIs .nil pass0 (pa_cons (pv 6) (pa_cons (pe_op op_add (pe_ix ix_tup (pv 2) pe_int (fun _ _ => rfl)) (pe_ix ix_tup (pv 2) pe_int (fun _ _ => rfl))) (pa_cons (pe_op op_mul (pe_ix ix_tup (pv 3) pe_int (fun _ _ => rfl)) (pe_ix ix_tup (pv 3) pe_int (fun _ _ => rfl))) pa_nil))))))
        (pss_one (ps_ret pe_bl)) pss_nil)
      (pss_cons (ps_for PassesOwn.never rfl (pi_range1 (by rfl) T.range (pa_cons pe_int pa_nil)) (pg_name (i := 7) scLaw.nd rfl (Or.inl rfl))
        (pss_cons (ps_set (i := 8) scLaw.nd rfl (Or.inl rfl) (pe_call G.GP hr1 rfl T.pick.g T.pick.k G.bP .nil pass0 (pa_cons (pv 1) (pa_cons (pe_op op_add pe_int (pv 7)) (pa_cons pe_int pa_nil)))))
        (pss_one (ps_if (pt_not (pt_val (pe_call G.GBo hr3 rfl T.both.g T.both.k G.bBo .nil pass0 (pa_cons (pv 4) (pa_cons (pv 5) (pa_cons (pv 6) (pa_cons
            (pe_call G.GW hr2 rfl T.word.g T.word.k G.bW .nil pass0 (pa_cons (pv 1) (pa_cons (pe_op op_mul pe_int (pv 7)) (pa_cons (pv 8) (pa_cons (pe_op op_add (pe_ix ix_tup (pv 2) pe_int (fun _ _ => rfl)) (pe_ix ix_tup (pv 2) pe_int (fun _ _ => rfl))) pa_nil))))) pa_nil)))))))
          (pss_one (ps_ret pe_bl)) pss_nil))))
      (pss_one (ps_ret (pe_and (pe_cmpR op_eq (pe_callB call_len_seq (by rfl) T.len PySem.boot_len (pa_cons (pe_ix ix_tup (pv 6) pe_int (fun _ _ => rfl)) pa_nil)) (pe_call G.GC.calm hr3 rfl T.count.g T.count.k G.bC .nil pass0 (pa_cons (pv 4) (pa_cons (pv 5) pa_nil))) (nomark _))
        (pe_one (pe_call G.GN hr1 rfl T.numbered.g T.numbered.k G.bN .nil pass0 (pa_cons (pv 6) pa_nil)))))))))))))))), ?_⟩
    refine ⟨_, rfl, b, ns, rfl, hs, hlen, fun H1 np out s1 hout hpos => ?_⟩
    -- the letters
    refine ⟨_, rfl, np, out, _, 4, rfl, SqL.of hout, hpos, by decide, fun r1 q1 => ?_⟩
    refine ⟨_, _, rfl, rfl, _, rfl, np, out, _, 4, rfl, SqL.of hout, hpos, by decide, fun r2 q2 => ?_⟩
    refine ⟨_, _, rfl, rfl, by show 2 ≤ sizeLine; decide, fun la hla => ?_⟩
    have s2 : Same H1 (upd H1 la (.tup [.int (1 + (r1 : Int)), .int (1 + (r2 : Int))])) := Same.new hla
    have hLa : (upd H1 la (.tup [.int (1 + (r1 : Int)), .int (1 + (r2 : Int))])) la = some (.tup [vn (1 + r1), vn (1 + r2)]) := upd_same
    generalize upd H1 la (.tup [.int (1 + (r1 : Int)), .int (1 + (r2 : Int))]) = H2 at s2 hLa ⊢
    have hN2 := s2 _ _ hout
    -- the outs
    refine ⟨_, rfl, np, out, _, 6, rfl, SqL.of hN2, hpos, by decide, fun r3 q3 => ?_⟩
    refine ⟨_, _, rfl, rfl, _, rfl, np, out, _, 6, rfl, SqL.of hN2, hpos, by decide, fun r4 q4 => ?_⟩
    refine ⟨_, _, rfl, rfl, by show 2 ≤ sizeLine; decide, fun oa hoa => ?_⟩
    have s3 : Same H2 (upd H2 oa (.tup [.int (1 + (r3 : Int)), .int (1 + (r4 : Int))])) := Same.new hoa
    have hOa : (upd H2 oa (.tup [.int (1 + (r3 : Int)), .int (1 + (r4 : Int))])) oa = some (.tup [vn (1 + r3), vn (1 + r4)]) := upd_same
    generalize upd H2 oa (.tup [.int (1 + (r3 : Int)), .int (1 + (r4 : Int))]) = H3 at s3 hOa ⊢
    have hN3 := s3 _ _ hN2
    have hLa3 := s3 _ _ hLa
    dsimp only [gName]
    refine seq_mid (fun σ H' => ∃ (la oa : Addr) (l1 l2 o1 o2 : Nat), σ = [some (.ref b), some (.ref np), some (.ref la), some (.ref oa), none, none, none, none, none] ∧ H' np = some (.lst (vns out)) ∧ H' la = some (.tup [vn l1, vn l2]) ∧ H' oa = some (.tup [vn o1, vn o2]) ∧
      0 < l1 ∧ l1 ≤ 4 ∧ l2 ≤ 4 ∧ 0 < o1 ∧ o1 ≤ 6 ∧ 0 < o2 ∧ o2 ≤ 6) ?_ fun k => ?_
    · clear hN3 hLa3 hOa s3 hoa hN2 hLa s2 hla hout s1 hs
      rintro σ H3 ⟨la, oa, l1, l2, o1, o2, rfl, hN, hLa, hOa, bl0, bl1, bl2, bo0, bo1, bo2, bo3⟩
      refine ⟨_, rfl, _, rfl, la, _, _, _, rfl, rfl, SqT.of hLa, ixz 0 rfl rfl, _, rfl, oa, _, _, _, rfl, rfl, SqT.of hOa, ixz 0 rfl rfl, np, out, _, l1, o1, rfl, SqL.of hN, hpos, bo0, by omega, fun H4 fa mF oF rF F s4 hF wF nF lF uF => ?_⟩
      have hN4 := s4 _ _ hN
      have hLa4 := s4 _ _ hLa
      have hOa4 := s4 _ _ hOa
      refine ⟨_, rfl, _, rfl, la, _, _, _, rfl, rfl, SqT.of hLa4, ixz 1 rfl rfl, _, rfl, oa, _, _, _, rfl, rfl, SqT.of hOa4, ixz 1 rfl rfl, np, out, _, l2, o2, rfl, SqL.of hN4, hpos, bo2, by omega, fun H5 sa mS oS rS S s5 hS wS nS lS uS => ?_⟩
      have hN5 := s5 _ _ hN4
      have hLa5 := s5 _ _ hLa4
      have hOa5 := s5 _ _ hOa4
      have hF5 := hF.keep s5
      subst lF lS uF uS
      clear hN hLa hOa hN4 hLa4 hOa4 hF s4 s5 H3 H4
      have sF : Small F := ⟨by omega, by omega, by omega⟩
      have sS : Small S := ⟨by omega, by omega, by omega⟩
      -- the rings
      refine ⟨6, rfl, by decide, by decide, fun H6 p6 m6 o6 r6 s6 h6 => ?_⟩
      refine ⟨7, rfl, by decide, by decide, fun H7 p7 m7 o7 r7 s7 h7 => ?_⟩
      refine ⟨p6, p7, m6, o6, m7, o7, r6, r7, ring 6, ring 7, rfl, h6.keep s7, h7, ring_wf (by decide), ring_wf (by decide), ⟨by decide, by decide, by decide⟩, ⟨by decide, by decide, by decide⟩, fun k _ _ e1 e2 => ring67 k e2 e1, fun H8 s8 => ⟨true, rfl, iteF ?_⟩⟩
      refine ⟨5, rfl, by decide, by decide, fun H9 p9 m9 o9 r9 s9 h9 => ?_⟩
      refine ⟨6, rfl, by decide, by decide, fun Ha pa ma oa' ra sa' ha => ?_⟩
      refine ⟨p9, pa, m9, o9, ma, oa', r9, ra, ring 5, ring 6, rfl, h9.keep sa', ha, ring_wf (by decide), ring_wf (by decide), ⟨by decide, by decide, by decide⟩, ⟨by decide, by decide, by decide⟩, fun H' _ tm => ?_, fun Hb p m o rows k sb hl ho hk h30 ht hM => ?_⟩
      · rcases tm with tm | tm | ⟨k, _, tm⟩
        · exact absurd tm (by decide)
        · exact absurd tm (by decide)
        · have := ring56c (k + 1)
          omega
      have ek := ring56b k h30 hk
      have lm : (rows.map V.ref).length = 30 := by rw [List.length_map, hM.len, told_mv_len, ← hk, ek]
      refine ⟨p, _, _, _, rfl, rfl, SqT.of ht, ixz 2 rfl rfl, m, _, rfl, .inr hM.mvs, rfl, _, rfl, iteF' (vne (by rw [lm] <;> rfl)) ?_⟩
      have s5b : Same H5 Hb := s6.trans (s7.trans (s8.trans (s9.trans (sa'.trans sb))))
      have hN := s5b _ _ hN5
      have hLa := s5b _ _ hLa5
      have hOa := s5b _ _ hOa5
      have hF := hF5.keep s5b
      have hS := hS.keep s5b
      clear hN5 hLa5 hOa5 hF5 s5b sb hl ho hk h30 ht hM ek lm s6 s7 s8 s9 sa' h6 h7 h9 ha k rows p m o
      -- too many letters, outs
      refine ⟨_, rfl, la, _, _, _, rfl, rfl, SqT.of hLa, ixz 0 rfl rfl, _, rfl, la, _, _, _, rfl, rfl, SqT.of hLa, ixz 1 rfl rfl, _, _, rfl, rfl, _, _, rfl, rfl, _, rfl, ite2 (fun hc => ?_) fun hc => ?_⟩
      · have hc : (4 : Int) < (F.lt : Int) + (S.lt : Int) := of_decide_eq_true hc
        exact ⟨_, rfl, _, rfl, fa, sa, mF, oF, mS, oS, rF, rS, F, S, rfl, hF, hS, wF, wS, sF, sS, fun k e1 _ _ _ => by omega, fun H' _ => q H'⟩
      have hl4 : ¬ (4 : Int) < (F.lt : Int) + (S.lt : Int) := fun z => hc (decide_eq_true z)
      have e6 : (F.ou : Int) * (S.ou : Int) = ((F.ou * S.ou : Nat) : Int) := rfl
      refine ⟨_, rfl, oa, _, _, _, rfl, rfl, SqT.of hOa, ixz 0 rfl rfl, _, rfl, oa, _, _, _, rfl, rfl, SqT.of hOa, ixz 1 rfl rfl, _, _, rfl, rfl, .inl ⟨by omega, by omega⟩, _, _, rfl, rfl, _, rfl, ite2 (fun hc => ?_) fun hc => ?_⟩
      · have hc : (6 : Int) < (F.ou : Int) * (S.ou : Int) := of_decide_eq_true hc
        exact ⟨_, rfl, _, rfl, fa, sa, mF, oF, mS, oS, rF, rS, F, S, rfl, hF, hS, wF, wS, sF, sS, fun k _ e1 _ _ => by omega, fun H' _ => q H'⟩
      have ho6 : ¬ (6 : Int) < (F.ou : Int) * (S.ou : Int) := fun z => hc (decide_eq_true z)
      -- the try
      refine ⟨_, rfl, _, rfl, fa, sa, mF, oF, mS, oS, rF, rS, F, S, rfl, hF, hS, wF, wS, sF, sS, fun H' s' tm => ⟨true, ET.eN, fun _ a0 _ => ?_, fun z => nomatch z⟩, fun Hc p m o rows k sc hl ho hk h30 ht hM => ?_⟩
      · refine ⟨_, rfl, _, rfl, fa, sa, mF, oF, mS, oS, rF, rS, F, S, rfl, hF.keep s', hS.keep s', wF, wS, by omega, by omega, by omega, by omega, fun H'' _ => ⟨_, _, rfl, rfl, ?_⟩⟩
        have big : 30 < (ord F S (F.n * S.n)).length := by
          rcases tm with tm | tm | ⟨k, e1, e2⟩
          · omega
          · omega
          · exact Nat.lt_of_lt_of_le e2 (many wF wS e1)
        have e : decide ((30 : Int) < (((ord F S (F.n * S.n)).length : Nat) : Int)) = true := decide_eq_true (by omega)
        show Q (.bl (decide ((30 : Int) < (((ord F S (F.n * S.n)).length : Nat) : Int)))) H''
        rw [e]
        exact q H''
      have hN1 := sc _ _ hN
      have hLa1 := sc _ _ hLa
      have hOa1 := sc _ _ hOa
      have hF1 := hF.keep sc
      have hS1 := hS.keep sc
      have wT := told_wf wF wS hk
      -- a machine
      refine ⟨_, rfl, _, rfl, la, _, _, _, rfl, rfl, SqT.of hLa1, ixz 0 rfl rfl, _, rfl, la, _, _, _, rfl, rfl, SqT.of hLa1, ixz 1 rfl rfl, _, _, rfl, rfl, _, rfl, oa, _, _, _, rfl, rfl, SqT.of hOa1, ixz 0 rfl rfl, _, rfl, oa, _, _, _, rfl, rfl, SqT.of hOa1, ixz 1 rfl rfl, _, _, rfl, rfl, .inl ⟨by omega, by omega⟩,
        p, m, o, rows, told F S (ord F S k), rfl, hM, wT, by rw [told_n]; omega, true, rfl, iteF ?_⟩
      -- the words
      refine ⟨8, rfl, by decide, by decide, for_range (lo := 0) (n := 8) (fun i σ H' => ∃ x y : Option V, σ = [some (.ref b), some (.ref np), some (.ref la), some (.ref oa), some (.ref fa), some (.ref sa), some (.ref p), x, y] ∧ Same Hc H') ⟨none, none, rfl, Same.refl Hc⟩ ?_ ?_⟩
      · rintro i σ H' hi ⟨x, y, rfl, s'⟩
        refine ⟨_, rfl, _, rfl, _, _, rfl, rfl, np, out, _, 31, rfl, SqL.of (s' _ _ hN1), hpos, by decide, fun size hsz => ?_⟩
        refine ⟨_, rfl, _, rfl, _, rfl, _, rfl, _, rfl, _, _, rfl, rfl, .inl ⟨by decide, by decide⟩, _, rfl, _, rfl, la, _, _, _, rfl, rfl, SqT.of (s' _ _ hLa1), ixz 0 rfl rfl, _, rfl, la, _, _, _, rfl, rfl, SqT.of (s' _ _ hLa1), ixz 1 rfl rfl, _, _, rfl, rfl,
          np, out, _, size, F.lt + S.lt, rfl, SqL.of (s' _ _ hN1), hpos, by omega, by omega, fun Hd pw wd sd hw lw cw => ?_⟩
        have s'' := s'.trans sd
        refine ⟨fa, sa, p, pw, mF, oF, mS, oS, m, o, rF, rS, rows, F, S, k, wd, rfl, hF1.keep s'', hS1.keep s'', hM.keep s'', wF, wS, hk, by omega, SqL.of hw, by omega, cw, fun He se => ⟨true, rfl, iteF ?_⟩⟩
        exact ⟨_, _, rfl, s''.trans se⟩
      · rintro σ H' ⟨x, y, rfl, s'⟩
        have hM' := hM.keep s'
        have lm : (rows.map V.ref).length = (ord F S (F.n * S.n)).length := by rw [List.length_map, hM.len, told_mv_len, ended wF wS hk]
        refine ⟨_, rfl, p, _, _, _, rfl, rfl, hM'.top, ixz 2 rfl rfl, m, _, rfl, .inr hM'.mvs, _, rfl, _, rfl, fa, sa, mF, oF, mS, oS, rF, rS, F, S, rfl, hF1.keep s', hS1.keep s', wF, wS, by omega, by omega, by omega, by omega, fun Hd sd => ⟨rfl, true, congrArg V.bl (decide_eq_true (by rw [lm])), iteT ?_⟩⟩
        exact ⟨_, rfl, p, m, o, rows, F, S, k, rfl, hM'.keep sd, wF, wS, hk, h30, by omega, q⟩
    · refine ⟨_, rfl, np, out, _, 4, rfl, SqL.of hN3, hpos, by decide, fun r5 _ => ⟨_, _, rfl, rfl, _, rfl, ite2 (fun _ => ?_) fun _ => ?_⟩⟩
      · refine ⟨_, rfl, la, _, _, _, rfl, rfl, SqT.of hLa3, ixz 0 rfl rfl, _, _, rfl, rfl, (show (0 : Int) < 3 by decide), _, _, rfl, rfl, by show 2 ≤ sizeLine; decide, fun la2 hla2 => ?_⟩
        have e1 : (((1 + r1 : Nat) : Int) % 3 + 1) = (((1 + r1) % 3 + 1 : Nat) : Int) := by omega
        have s4 : Same H3 (upd H3 la2 (.tup [.int (((1 + r1 : Nat) : Int) % 3 + 1), .int 1])) := Same.new hla2
        have hLa4 : (upd H3 la2 (.tup [.int (((1 + r1 : Nat) : Int) % 3 + 1), .int 1])) la2 = some (.tup [vn ((1 + r1) % 3 + 1), vn 1]) := by rw [upd_same, e1] <;> rfl
        generalize upd H3 la2 (.tup [.int (((1 + r1 : Nat) : Int) % 3 + 1), .int 1]) = H4 at s4 hLa4 ⊢
        have hOa4 := s4 _ _ hOa
        refine ⟨_, rfl, oa, _, _, _, rfl, rfl, SqT.of hOa4, ixz 0 rfl rfl, _, _, rfl, rfl, (show (0 : Int) < 3 by decide), _, _, rfl, rfl, _, rfl, oa, _, _, _, rfl, rfl, SqT.of hOa4, ixz 1 rfl rfl, _, _, rfl, rfl, (show (0 : Int) < 2 by decide), _, _, rfl, rfl, by show 2 ≤ sizeLine; decide, fun oa2 hoa2 => ?_⟩
        have e2 : (((1 + r3 : Nat) : Int) % 3 + 1) = (((1 + r3) % 3 + 1 : Nat) : Int) := by omega
        have e3 : (((1 + r4 : Nat) : Int) % 2 + 1) = (((1 + r4) % 2 + 1 : Nat) : Int) := by omega
        have s5 : Same H4 (upd H4 oa2 (.tup [.int (((1 + r3 : Nat) : Int) % 3 + 1), .int (((1 + r4 : Nat) : Int) % 2 + 1)])) := Same.new hoa2
        refine k _ _ ⟨la2, oa2, (1 + r1) % 3 + 1, 1, (1 + r3) % 3 + 1, (1 + r4) % 2 + 1, rfl, s5 _ _ (s4 _ _ hN3), s5 _ _ hLa4, ?_, by omega, by omega, by omega, by omega, by omega, by omega, by omega⟩
        show (upd H4 oa2 (.tup [.int (((1 + r3 : Nat) : Int) % 3 + 1), .int (((1 + r4 : Nat) : Int) % 2 + 1)])) oa2 = _
        rw [upd_same, e2, e3]
      · exact k _ _ ⟨la, oa, 1 + r1, 1 + r2, 1 + r3, 1 + r4, rfl, hN3, hLa3, hOa, by omega, by omega, by omega, by omega, by omega, by omega, by omega⟩
end
end K04W

set_option Elab.async false
set_option linter.all false
set_option maxRecDepth 100000
set_option maxHeartbeats 8000000
/-! K04End: what the head owes, and the end. -/
namespace K04W
open PySem PySem.Spec PyProof.Rows L2 K04 K04.Mach K04R K04H

theorem kit_own {K : PySem.W.Frag} {N M : Addr} (h1 : PySem.W.isClsIn K M = true) (h2 : PySem.W.typeIn K (.ref M) = some (.type "type")) (h3 : PySem.W.subIn K (.ref N) (.ref M) = some true) : PySem.W.kitOne K (.ref N) (.ref M) = some true := by
  have e2 : ((PySem.W.clsIn K M).isSome && PySem.W.typeIn K (.ref M) == some (.type "type")) = true := by
    have h1' : (PySem.W.clsIn K M).isSome = true := h1
    rw [h1', h2] <;> rfl
  unfold PySem.W.kitOne
  split
  · rfl
  · show (if ((PySem.W.clsIn K M).isSome && PySem.W.typeIn K (.ref M) == some (.type "type")) = true then PySem.W.subIn K (.ref N) (.ref M) else none) = some true
    rw [if_pos e2]
    exact h3
theorem all_mk {P : Program} {w : World} {K : PySem.W.Frag} {h : Heap} {mg : Str → Option Value} {fa N M f1 f2 f3 f4 f5 f6 f7 f8 f9 f10 f11 f12 f13 f14 f15 f16 f17 f18 f19 f20 f21 : Addr} {t4 t6 t30 : Tok} (X : K.In h) (G : h.Ns mainGlobals mg) (hfa : mg "law" = some (.ref fa))
    {od1 an1 od2 an2 od3 an3 od4 an4 od5 an5 od6 an6 od7 an7 od8 an8 od9 an9 od10 an10 od11 an11 od12 an12 od13 an13 od14 an14 od15 an15 od16 an16 od17 an17 od18 an18 od19 an19 od20 an20 od21 an21 : Option Addr} {sl1 sl2 sl3 sl4 sl5 sl6 sl7 sl8 sl9 sl10 sl11 sl12 sl13 sl14 sl15 sl16 sl17 sl18 sl19 sl20 sl21 : Array (Option Value)} {oc1 kV1 dc1 pm1 cd1 ct1 oc2 kV2 dc2 pm2 cd2 ct2 oc3 kV3 dc3 pm3 cd3 ct3 oc4 kV4 dc4 pm4 cd4 ct4 oc5 kV5 dc5 pm5 cd5 ct5 oc6 kV6 dc6 pm6 cd6 ct6 oc7 kV7 dc7 pm7 cd7 ct7 oc8 kV8 dc8 pm8 cd8 ct8 oc9 kV9 dc9 pm9 cd9 ct9 oc10 kV10 dc10 pm10 cd10 ct10 oc11 kV11 dc11 pm11 cd11 ct11 oc12 kV12 dc12 pm12 cd12 ct12 oc13 kV13 dc13 pm13 cd13 ct13 oc14 kV14 dc14 pm14 cd14 ct14 oc15 kV15 dc15 pm15 cd15 ct15 oc16 kV16 dc16 pm16 cd16 ct16 oc17 kV17 dc17 pm17 cd17 ct17 oc18 kV18 dc18 pm18 cd18 ct18 oc19 kV19 dc19 pm19 cd19 ct19 oc20 kV20 dc20 pm20 cd20 ct20 oc21 kV21 dc21 pm21 cd21 ct21 : Value}
    (a1 : PySem.W.nsIn K mainGlobals "refined" = some (some (.ref f1))) (l1 : K.lookup f1 = some ⟨oc1, od1, .func (PySem.W.fnOf "refined" "refined" (defArgs sRefined) (defBody sRefined) (defScope sRefined) .none kV1 dc1 pm1 an1 cd1 ct1), sl1⟩) (c1 : PySem.W.codeIn K cd1 "refined" = true) (k1 : PySem.W.keepIn K (.ref f1) = true)
    (a2 : PySem.W.nsIn K mainGlobals "classes" = some (some (.ref f2))) (l2 : K.lookup f2 = some ⟨oc2, od2, .func (PySem.W.fnOf "classes" "classes" (defArgs sClasses) (defBody sClasses) (defScope sClasses) .none kV2 dc2 pm2 an2 cd2 ct2), sl2⟩) (c2 : PySem.W.codeIn K cd2 "classes" = true) (k2 : PySem.W.keepIn K (.ref f2) = true)
    (a3 : PySem.W.nsIn K mainGlobals "own_parts" = some (some (.ref f3))) (l3 : K.lookup f3 = some ⟨oc3, od3, .func (PySem.W.fnOf "own_parts" "own_parts" (defArgs sOwn) (defBody sOwn) (defScope sOwn) .none kV3 dc3 pm3 an3 cd3 ct3), sl3⟩) (c3 : PySem.W.codeIn K cd3 "own_parts" = true) (k3 : PySem.W.keepIn K (.ref f3) = true)
    (a4 : PySem.W.nsIn K mainGlobals "next_pair" = some (some (.ref f4))) (l4 : K.lookup f4 = some ⟨oc4, od4, .func (PySem.W.fnOf "next_pair" "next_pair" (defArgs sNext) (defBody sNext) (defScope sNext) .none kV4 dc4 pm4 an4 cd4 ct4), sl4⟩) (c4 : PySem.W.codeIn K cd4 "next_pair" = true) (k4 : PySem.W.keepIn K (.ref f4) = true)
    (a5 : PySem.W.nsIn K mainGlobals "beside" = some (some (.ref f5))) (l5 : K.lookup f5 = some ⟨oc5, od5, .func (PySem.W.fnOf "beside" "beside" (defArgs sBeside) (defBody sBeside) (defScope sBeside) .none kV5 dc5 pm5 an5 cd5 ct5), sl5⟩) (c5 : PySem.W.codeIn K cd5 "beside" = true) (k5 : PySem.W.keepIn K (.ref f5) = true)
    (a6 : PySem.W.nsIn K mainGlobals "_law_stream" = some (some (.ref f6))) (l6 : K.lookup f6 = some ⟨oc6, od6, .func (PySem.W.fnOf "_law_stream" "_law_stream" (defArgs sStream) (defBody sStream) (defScope sStream) .none kV6 dc6 pm6 an6 cd6 ct6), sl6⟩) (c6 : PySem.W.codeIn K cd6 "_law_stream" = true) (k6 : PySem.W.keepIn K (.ref f6) = true)
    (a7 : PySem.W.nsIn K mainGlobals "_law_pick" = some (some (.ref f7))) (l7 : K.lookup f7 = some ⟨oc7, od7, .func (PySem.W.fnOf "_law_pick" "_law_pick" (defArgs sPick) (defBody sPick) (defScope sPick) .none kV7 dc7 pm7 an7 cd7 ct7), sl7⟩) (c7 : PySem.W.codeIn K cd7 "_law_pick" = true) (k7 : PySem.W.keepIn K (.ref f7) = true)
    (a8 : PySem.W.nsIn K mainGlobals "_law_machine" = some (some (.ref f8))) (l8 : K.lookup f8 = some ⟨oc8, od8, .func (PySem.W.fnOf "_law_machine" "_law_machine" (defArgs sMachine) (defBody sMachine) (defScope sMachine) .none kV8 dc8 pm8 an8 cd8 ct8), sl8⟩) (c8 : PySem.W.codeIn K cd8 "_law_machine" = true) (k8 : PySem.W.keepIn K (.ref f8) = true)
    (a9 : PySem.W.nsIn K mainGlobals "_law_run" = some (some (.ref f9))) (l9 : K.lookup f9 = some ⟨oc9, od9, .func (PySem.W.fnOf "_law_run" "_law_run" (defArgs sRun) (defBody sRun) (defScope sRun) .none kV9 dc9 pm9 an9 cd9 ct9), sl9⟩) (c9 : PySem.W.codeIn K cd9 "_law_run" = true) (k9 : PySem.W.keepIn K (.ref f9) = true)
    (a10 : PySem.W.nsIn K mainGlobals "_law_word" = some (some (.ref f10))) (l10 : K.lookup f10 = some ⟨oc10, od10, .func (PySem.W.fnOf "_law_word" "_law_word" (defArgs sWord) (defBody sWord) (defScope sWord) .none kV10 dc10 pm10 an10 cd10 ct10), sl10⟩) (c10 : PySem.W.codeIn K cd10 "_law_word" = true) (k10 : PySem.W.keepIn K (.ref f10) = true)
    (a11 : PySem.W.nsIn K mainGlobals "_law_small" = some (some (.ref f11))) (l11 : K.lookup f11 = some ⟨oc11, od11, .func (PySem.W.fnOf "_law_small" "_law_small" (defArgs sSmall) (defBody sSmall) (defScope sSmall) .none kV11 dc11 pm11 an11 cd11 ct11), sl11⟩) (c11 : PySem.W.codeIn K cd11 "_law_small" = true) (k11 : PySem.W.keepIn K (.ref f11) = true)
    (a12 : PySem.W.nsIn K mainGlobals "_law_alike" = some (some (.ref f12))) (l12 : K.lookup f12 = some ⟨oc12, od12, .func (PySem.W.fnOf "_law_alike" "_law_alike" (defArgs sAlike) (defBody sAlike) (defScope sAlike) .none kV12 dc12 pm12 an12 cd12 ct12), sl12⟩) (c12 : PySem.W.codeIn K cd12 "_law_alike" = true) (k12 : PySem.W.keepIn K (.ref f12) = true)
    (a13 : PySem.W.nsIn K mainGlobals "_law_groups" = some (some (.ref f13))) (l13 : K.lookup f13 = some ⟨oc13, od13, .func (PySem.W.fnOf "_law_groups" "_law_groups" (defArgs sGroups) (defBody sGroups) (defScope sGroups) .none kV13 dc13 pm13 an13 cd13 ct13), sl13⟩) (c13 : PySem.W.codeIn K cd13 "_law_groups" = true) (k13 : PySem.W.keepIn K (.ref f13) = true)
    (a14 : PySem.W.nsIn K mainGlobals "_law_count" = some (some (.ref f14))) (l14 : K.lookup f14 = some ⟨oc14, od14, .func (PySem.W.fnOf "_law_count" "_law_count" (defArgs sCount) (defBody sCount) (defScope sCount) .none kV14 dc14 pm14 an14 cd14 ct14), sl14⟩) (c14 : PySem.W.codeIn K cd14 "_law_count" = true) (k14 : PySem.W.keepIn K (.ref f14) = true)
    (a15 : PySem.W.nsIn K mainGlobals "_law_numbered" = some (some (.ref f15))) (l15 : K.lookup f15 = some ⟨oc15, od15, .func (PySem.W.fnOf "_law_numbered" "_law_numbered" (defArgs sNumbered) (defBody sNumbered) (defScope sNumbered) .none kV15 dc15 pm15 an15 cd15 ct15), sl15⟩) (c15 : PySem.W.codeIn K cd15 "_law_numbered" = true) (k15 : PySem.W.keepIn K (.ref f15) = true)
    (a16 : PySem.W.nsIn K mainGlobals "_law_own" = some (some (.ref f16))) (l16 : K.lookup f16 = some ⟨oc16, od16, .func (PySem.W.fnOf "_law_own" "_law_own" (defArgs sLOwn) (defBody sLOwn) (defScope sLOwn) .none kV16 dc16 pm16 an16 cd16 ct16), sl16⟩) (c16 : PySem.W.codeIn K cd16 "_law_own" = true) (k16 : PySem.W.keepIn K (.ref f16) = true)
    (a17 : PySem.W.nsIn K mainGlobals "_law_both" = some (some (.ref f17))) (l17 : K.lookup f17 = some ⟨oc17, od17, .func (PySem.W.fnOf "_law_both" "_law_both" (defArgs sBoth) (defBody sBoth) (defScope sBoth) .none kV17 dc17 pm17 an17 cd17 ct17), sl17⟩) (c17 : PySem.W.codeIn K cd17 "_law_both" = true) (k17 : PySem.W.keepIn K (.ref f17) = true)
    (a18 : PySem.W.nsIn K mainGlobals "_law_is_machine" = some (some (.ref f18))) (l18 : K.lookup f18 = some ⟨oc18, od18, .func (PySem.W.fnOf "_law_is_machine" "_law_is_machine" (defArgs sIsM) (defBody sIsM) (defScope sIsM) .none kV18 dc18 pm18 an18 cd18 ct18), sl18⟩) (c18 : PySem.W.codeIn K cd18 "_law_is_machine" = true) (k18 : PySem.W.keepIn K (.ref f18) = true)
    (a19 : PySem.W.nsIn K mainGlobals "_law_ring" = some (some (.ref f19))) (l19 : K.lookup f19 = some ⟨oc19, od19, .func (PySem.W.fnOf "_law_ring" "_law_ring" (defArgs sRing) (defBody sRing) (defScope sRing) .none kV19 dc19 pm19 an19 cd19 ct19), sl19⟩) (c19 : PySem.W.codeIn K cd19 "_law_ring" = true) (k19 : PySem.W.keepIn K (.ref f19) = true)
    (a20 : PySem.W.nsIn K mainGlobals "_law_refused" = some (some (.ref f20))) (l20 : K.lookup f20 = some ⟨oc20, od20, .func (PySem.W.fnOf "_law_refused" "_law_refused" (defArgs sRefused) (defBody sRefused) (defScope sRefused) .none kV20 dc20 pm20 an20 cd20 ct20), sl20⟩) (c20 : PySem.W.codeIn K cd20 "_law_refused" = true) (k20 : PySem.W.keepIn K (.ref f20) = true)
    (a21 : PySem.W.nsIn K mainGlobals "law" = some (some (.ref f21))) (l21 : K.lookup f21 = some ⟨oc21, od21, .func (PySem.W.fnOf "law" "law" (defArgs sLaw) (defBody sLaw) (defScope sLaw) .none kV21 dc21 pm21 an21 cd21 ct21), sl21⟩) (c21 : PySem.W.codeIn K cd21 "law" = true) (k21 : PySem.W.keepIn K (.ref f21) = true)
    (aN : PySem.W.nsIn K mainGlobals "NotAllowed" = some (some (.ref N)))
    (aM : PySem.W.nsIn K mainGlobals "MaieuticError" = some (some (.ref M)))
    (x4 : PySem.W.nsIn K mainGlobals "MAX_LETTERS" = some (some (.int 4 t4)))
    (x6 : PySem.W.nsIn K mainGlobals "MAX_OUTS" = some (some (.int 6 t6)))
    (x30 : PySem.W.nsIn K mainGlobals "MAX_STATES" = some (some (.int 30 t30)))
    (xN : PySem.W.excIn K N [.type "ValueError", .type "Exception", .type "BaseException", .type "object"] "ValueError.__new__" = true)
    (kN : PySem.W.keepIn K (.ref N) = true)
    (bN : PySem.W.subIn K (.ref N) (.type "BaseException") = some true)
    (tN : PySem.W.typeIn K (.ref N) = some (.type "type"))
    (sN : PySem.W.subIn K (.ref N) (.ref N) = some true)
    (hg : PySem.W.findIn K (.ref N) "__getattribute__" = some (some (.builtin "BaseException.__getattribute__")))
    (hk : PySem.W.findIn K (.ref N) "__getattr__" = some none)
    (hd : PySem.W.hasDictIn K N = true)
    (ha : PySem.W.findIn K (.ref N) "__class__" = some (some (.builtin "object.__class__")))
    (hn : PySem.W.specialIn K (.builtin "object.__class__") "__get__" = some (some (.builtin "getset_descriptor.__get__")))
    (ht : PySem.W.takesIn K (.builtin "object.__class__") = some true)
    (hm : PySem.W.mroIn K N (.type "object") = some true)
    (m1 : PySem.W.isClsIn K M = true)
    (m2 : PySem.W.typeIn K (.ref M) = some (.type "type"))
    (m3 : PySem.W.subIn K (.ref N) (.ref M) = some true)
    (z_len : PySem.W.nsIn K mainGlobals "len" = some none)
    (z_range : PySem.W.nsIn K mainGlobals "range" = some none)
    (z_tuple : PySem.W.nsIn K mainGlobals "tuple" = some none)
    (z_enum : PySem.W.nsIn K mainGlobals "enumerate" = some none)
    (z_int : PySem.W.nsIn K mainGlobals "int" = some none)
    (z_list : PySem.W.nsIn K mainGlobals "list" = some none)
    (z_isi : PySem.W.nsIn K mainGlobals "isinstance" = some none)
    (z_min : PySem.W.nsIn K mainGlobals "min" = some none)
    : ∃ fd : FuncData, (∀ (s : Shared) (v : Value), BindsTo s fd ⟨[v], []⟩ [("_law_script", v)]) ∧ ∀ base : Heap, K.In base → base.Ns mainGlobals mg → FnOk P w K mg base CX0 5 fa fd ["_law_script"] (spLaw K) := by
  have e := hfa.symm.trans (PySem.W.mg_of X G a21)
  cases e
  have T : Txt K mg ⟨f1, f2, f3, f4, f5, f6, f7, f8, f9, f10, f11, f12, f13, f14, f15, f16, f17, f18, f19, f20, M, N⟩ := ⟨⟨PySem.W.mg_of X G a1, k1⟩, ⟨PySem.W.mg_of X G a2, k2⟩, ⟨PySem.W.mg_of X G a3, k3⟩, ⟨PySem.W.mg_of X G a4, k4⟩, ⟨PySem.W.mg_of X G a5, k5⟩, ⟨PySem.W.mg_of X G a6, k6⟩, ⟨PySem.W.mg_of X G a7, k7⟩, ⟨PySem.W.mg_of X G a8, k8⟩, ⟨PySem.W.mg_of X G a9, k9⟩, ⟨PySem.W.mg_of X G a10, k10⟩, ⟨PySem.W.mg_of X G a11, k11⟩, ⟨PySem.W.mg_of X G a12, k12⟩, ⟨PySem.W.mg_of X G a13, k13⟩, ⟨PySem.W.mg_of X G a14, k14⟩, ⟨PySem.W.mg_of X G a15, k15⟩, ⟨PySem.W.mg_of X G a16, k16⟩, ⟨PySem.W.mg_of X G a17, k17⟩, ⟨PySem.W.mg_of X G a18, k18⟩, ⟨PySem.W.mg_of X G a19, k19⟩, ⟨PySem.W.mg_of X G a20, k20⟩, ⟨t4, PySem.W.mg_of X G x4⟩, ⟨t6, PySem.W.mg_of X G x6⟩, ⟨t30, PySem.W.mg_of X G x30⟩, PySem.W.mg_none_of X G z_len, PySem.W.mg_none_of X G z_range, PySem.W.mg_none_of X G z_tuple, PySem.W.mg_none_of X G z_enum, PySem.W.mg_none_of X G z_int, PySem.W.mg_none_of X G z_list, PySem.W.mg_none_of X G z_isi, PySem.W.mg_none_of X G z_min⟩
  have ET : ErrTxt K mg ⟨f1, f2, f3, f4, f5, f6, f7, f8, f9, f10, f11, f12, f13, f14, f15, f16, f17, f18, f19, f20, M, N⟩ := ⟨PySem.W.mg_of X G aN, PySem.W.mg_of X G aM, xN, kN, bN, tN, PySem.W.exm_ref bN hd tN sN, ⟨hg, hk, bN, hd, ha, hn, ht, hm⟩, kit_own m1 m2 m3⟩
  have F_refined := fun_mk (st := sRefined) l1 c1 k1
  have b_refined := F_refined.binds (ps := ["machine", "groups"]) fun _ _ _ _ _ _ us hl => match us, hl with | [_, _], _ => rfl
  have F_classes := fun_mk (st := sClasses) l2 c2 k2
  have b_classes := F_classes.binds (ps := ["machine"]) fun _ _ _ _ _ _ us hl => match us, hl with | [_], _ => rfl
  have F_own := fun_mk (st := sOwn) l3 c3 k3
  have b_own := F_own.binds (ps := ["word", "letters"]) fun _ _ _ _ _ _ us hl => match us, hl with | [_, _], _ => rfl
  have F_next := fun_mk (st := sNext) l4 c4 k4
  have b_next := F_next.binds (ps := ["first", "second", "pair", "letter"]) fun _ _ _ _ _ _ us hl => match us, hl with | [_, _, _, _], _ => rfl
  have F_beside := fun_mk (st := sBeside) l5 c5 k5
  have b_beside := F_beside.binds (ps := ["first", "second"]) fun _ _ _ _ _ _ us hl => match us, hl with | [_, _], _ => rfl
  have F_stream := fun_mk (st := sStream) l6 c6 k6
  have b_stream := F_stream.binds (ps := ["_law_script"]) fun _ _ _ _ _ _ us hl => match us, hl with | [_], _ => rfl
  have F_pick := fun_mk (st := sPick) l7 c7 k7
  have b_pick := F_pick.binds (ps := ["_law_numbers", "_law_at", "_law_many"]) fun _ _ _ _ _ _ us hl => match us, hl with | [_, _, _], _ => rfl
  have F_machine := fun_mk (st := sMachine) l8 c8 k8
  have b_machine := F_machine.binds (ps := ["_law_numbers", "_law_at", "_law_sizes_here"]) fun _ _ _ _ _ _ us hl => match us, hl with | [_, _, _], _ => rfl
  have F_run := fun_mk (st := sRun) l9 c9 k9
  have b_run := F_run.binds (ps := ["_law_machine_here", "_law_word_here"]) fun _ _ _ _ _ _ us hl => match us, hl with | [_, _], _ => rfl
  have F_word := fun_mk (st := sWord) l10 c10 k10
  have b_word := F_word.binds (ps := ["_law_numbers", "_law_at", "_law_size", "_law_letters"]) fun _ _ _ _ _ _ us hl => match us, hl with | [_, _, _, _], _ => rfl
  have F_small := fun_mk (st := sSmall) l11 c11 k11
  have b_small := F_small.binds (ps := ["_law_numbers", "_law_at", "_law_letters", "_law_outs"]) fun _ _ _ _ _ _ us hl => match us, hl with | [_, _, _, _], _ => rfl
  have F_alike := fun_mk (st := sAlike) l12 c12 k12
  have b_alike := F_alike.binds (ps := ["_law_machine_here", "_law_k", "_law_j"]) fun _ _ _ _ _ _ us hl => match us, hl with | [_, _, _], _ => rfl
  have F_groups := fun_mk (st := sGroups) l13 c13 k13
  have b_groups := F_groups.binds (ps := ["_law_machine_here"]) fun _ _ _ _ _ _ us hl => match us, hl with | [_], _ => rfl
  have F_count := fun_mk (st := sCount) l14 c14 k14
  have b_count := F_count.binds (ps := ["_law_first", "_law_second"]) fun _ _ _ _ _ _ us hl => match us, hl with | [_, _], _ => rfl
  have F_numbered := fun_mk (st := sNumbered) l15 c15 k15
  have b_numbered := F_numbered.binds (ps := ["_law_machine_here"]) fun _ _ _ _ _ _ us hl => match us, hl with | [_], _ => rfl
  have F_lown := fun_mk (st := sLOwn) l16 c16 k16
  have b_lown := F_lown.binds (ps := ["_law_word_here", "_law_letters"]) fun _ _ _ _ _ _ us hl => match us, hl with | [_, _], _ => rfl
  have F_both := fun_mk (st := sBoth) l17 c17 k17
  have b_both := F_both.binds (ps := ["_law_first", "_law_second", "_law_told", "_law_word_here"]) fun _ _ _ _ _ _ us hl => match us, hl with | [_, _, _, _], _ => rfl
  have F_isM := fun_mk (st := sIsM) l18 c18 k18
  have b_isM := F_isM.binds (ps := ["_law_told", "_law_letters", "_law_outs"]) fun _ _ _ _ _ _ us hl => match us, hl with | [_, _, _], _ => rfl
  have F_ring := fun_mk (st := sRing) l19 c19 k19
  have b_ring := F_ring.binds (ps := ["_law_states"]) fun _ _ _ _ _ _ us hl => match us, hl with | [_], _ => rfl
  have F_refused := fun_mk (st := sRefused) l20 c20 k20
  have b_refused := F_refused.binds (ps := ["_law_first", "_law_second"]) fun _ _ _ _ _ _ us hl => match us, hl with | [_, _], _ => rfl
  have F_law := fun_mk (st := sLaw) l21 c21 k21
  refine ⟨PySem.W.fnOf "law" "law" (defArgs sLaw) (defBody sLaw) (defScope sLaw) .none kV21 dc21 pm21 an21 cd21 ct21, fun s v => .of_eq rfl, fun base _ _ => ?_⟩
  have G_refined := ok_refined (P := P) (w := w) (base := base) F_refined T
  have G_classes := ok_classes (P := P) (w := w) (base := base) (fR := f1) F_classes T G_refined b_refined
  have G_own := ok_own (P := P) (w := w) (mg := mg) (base := base) F_own
  have G_next := ok_next (P := P) (w := w) (mg := mg) (base := base) F_next
  have G_beside := ok_beside (P := P) (w := w) (base := base) F_beside T ET G_classes b_classes G_next b_next
  have G_stream := ok_stream (P := P) (w := w) (base := base) F_stream T
  have G_pick := ok_pick (P := P) (w := w) (base := base) F_pick T
  have G_machine := ok_machine (P := P) (w := w) (base := base) F_machine T G_pick b_pick
  have G_run := ok_run (P := P) (w := w) (mg := mg) (base := base) F_run
  have G_word := ok_word (P := P) (w := w) (base := base) F_word T G_pick b_pick
  have G_small := ok_small (P := P) (w := w) (base := base) F_small T G_pick b_pick G_machine b_machine
  have G_alike := ok_alike (P := P) (w := w) (base := base) F_alike T
  have G_groups := ok_groups (P := P) (w := w) (base := base) F_groups T G_alike b_alike
  have G_count := ok_count (P := P) (w := w) (base := base) F_count T G_groups b_groups
  have G_numbered := ok_numbered (P := P) (w := w) (base := base) F_numbered T
  have G_lown := ok_lown (P := P) (w := w) (base := base) F_lown T G_own b_own
  have G_both := ok_both (P := P) (w := w) (base := base) F_both T G_run b_run G_lown b_lown
  have G_isM := ok_isM (P := P) (w := w) (base := base) F_isM T
  have G_ring := ok_ring (P := P) (w := w) (base := base) F_ring T
  have G_refused := ok_refused (P := P) (w := w) (base := base) F_refused T ET G_beside b_beside
  exact ok_law F_law T ET ⟨_, _, _, _, _, _, _, _, _, _, _, G_stream, G_pick, G_small, G_refused, G_ring, G_beside, G_count, G_isM, G_both, G_word, G_numbered, b_stream, b_pick, b_small, b_refused, b_ring, b_beside, b_count, b_isM, b_both, b_word, b_numbered⟩
end K04W

open PySem PySem.W PyProof.Rows in
set_option maxRecDepth 100000 in
set_option maxHeartbeats 0 in
theorem PySem.Challenge.cw_maieutic_k04_whole_side_by_side_holds : PySem.Challenge.rw_maieutic_k04_whole_side_by_side.Holds := by
  w_on; o_law; k_head; (case hw => w_witness2)
  k_fill
  refine L2.walk_ofK (l := PySem.Challenge.rw_maieutic_k04_whole_side_by_side) (n := 63) (k := 5) (x := "_law_script") (CX := L2.CX0) (sp := fun K => K04W.spLaw K) rfl (by decide) rfl ⟨rfl, by decide, by decide⟩ (fun w h Y => PySem.W.kIn_of Y) ?F (fun _ _ a ns hl _ hS => ⟨a, ns, rfl, hS, hl, fun _ => rfl⟩) (fun _ _ _ _ z => z)
  case F =>
    intro w mg fa h KX G hmg
    refine' K04W.all_mk KX G hmg ?a1 ?l1 ?c1 ?k1 ?a2 ?l2 ?c2 ?k2 ?a3 ?l3 ?c3 ?k3 ?a4 ?l4 ?c4 ?k4 ?a5 ?l5 ?c5 ?k5 ?a6 ?l6 ?c6 ?k6 ?a7 ?l7 ?c7 ?k7 ?a8 ?l8 ?c8 ?k8 ?a9 ?l9 ?c9 ?k9 ?a10 ?l10 ?c10 ?k10 ?a11 ?l11 ?c11 ?k11 ?a12 ?l12 ?c12 ?k12 ?a13 ?l13 ?c13 ?k13 ?a14 ?l14 ?c14 ?k14 ?a15 ?l15 ?c15 ?k15 ?a16 ?l16 ?c16 ?k16 ?a17 ?l17 ?c17 ?k17 ?a18 ?l18 ?c18 ?k18 ?a19 ?l19 ?c19 ?k19 ?a20 ?l20 ?c20 ?k20 ?a21 ?l21 ?c21 ?k21 ?aN ?aM ?x4 ?x6 ?x30 ?xN ?kN ?bN ?tN ?sN ?hg ?hk ?hd ?ha ?hn ?ht ?hm ?m1 ?m2 ?m3 ?z_len ?z_range ?z_tuple ?z_enum ?z_int ?z_list ?z_isi ?z_min
    (case a1 => k_is)
    (case l1 => k_is)
    (case c1 => k_is)
    (case k1 => k_is)
    (case a2 => k_is)
    (case l2 => k_is)
    (case c2 => k_is)
    (case k2 => k_is)
    (case a3 => k_is)
    (case l3 => k_is)
    (case c3 => k_is)
    (case k3 => k_is)
    (case a4 => k_is)
    (case l4 => k_is)
    (case c4 => k_is)
    (case k4 => k_is)
    (case a5 => k_is)
    (case l5 => k_is)
    (case c5 => k_is)
    (case k5 => k_is)
    (case a6 => k_is)
    (case l6 => k_is)
    (case c6 => k_is)
    (case k6 => k_is)
    (case a7 => k_is)
    (case l7 => k_is)
    (case c7 => k_is)
    (case k7 => k_is)
    (case a8 => k_is)
    (case l8 => k_is)
    (case c8 => k_is)
    (case k8 => k_is)
    (case a9 => k_is)
    (case l9 => k_is)
    (case c9 => k_is)
    (case k9 => k_is)
    (case a10 => k_is)
    (case l10 => k_is)
    (case c10 => k_is)
    (case k10 => k_is)
    (case a11 => k_is)
    (case l11 => k_is)
    (case c11 => k_is)
    (case k11 => k_is)
    (case a12 => k_is)
    (case l12 => k_is)
    (case c12 => k_is)
    (case k12 => k_is)
    (case a13 => k_is)
    (case l13 => k_is)
    (case c13 => k_is)
    (case k13 => k_is)
    (case a14 => k_is)
    (case l14 => k_is)
    (case c14 => k_is)
    (case k14 => k_is)
    (case a15 => k_is)
    (case l15 => k_is)
    (case c15 => k_is)
    (case k15 => k_is)
    (case a16 => k_is)
    (case l16 => k_is)
    (case c16 => k_is)
    (case k16 => k_is)
    (case a17 => k_is)
    (case l17 => k_is)
    (case c17 => k_is)
    (case k17 => k_is)
    (case a18 => k_is)
    (case l18 => k_is)
    (case c18 => k_is)
    (case k18 => k_is)
    (case a19 => k_is)
    (case l19 => k_is)
    (case c19 => k_is)
    (case k19 => k_is)
    (case a20 => k_is)
    (case l20 => k_is)
    (case c20 => k_is)
    (case k20 => k_is)
    (case a21 => k_is)
    (case l21 => k_is)
    (case c21 => k_is)
    (case k21 => k_is)
    (case aN => k_is)
    (case aM => k_is)
    (case x4 => k_is)
    (case x6 => k_is)
    (case x30 => k_is)
    (case xN => k_exc)
    (case kN => k_is)
    (case bN => k_is)
    (case tN => k_is)
    (case sN => k_is)
    (case hg => k_is)
    (case hk => k_is)
    (case hd => k_is)
    (case ha => k_is)
    (case hn => k_is)
    (case ht => k_is)
    (case hm => k_is)
    (case m1 => k_is)
    (case m2 => k_is)
    (case m3 => k_is)
    (case z_len => k_is)
    (case z_range => k_is)
    (case z_tuple => k_is)
    (case z_enum => k_is)
    (case z_int => k_is)
    (case z_list => k_is)
    (case z_isi => k_is)
    (case z_min => k_is)
#print axioms PySem.Challenge.cw_maieutic_k04_whole_side_by_side_holds

import PyProof.Rows.All
import Wide.All
import OpenK.AllK
import Wide.FinOn
import HandS.ForMost
import HandS.Sort
import HandS.Strs
import HandS.Conv
import HandS.Codes
import HandS.Deep
import HandS.RevRange
import HandS.Rev
import HandS.Flow
import HandS.Exc
import HandS.Style
import HandS.Wide
import KE.SortData
import KE.SortKeyHeap
import PySem.Challenge.RW_knotturn_k48_whole_no_shorter_row
import KE.GoesEnum
import KE.KDictDisplayH
import HandS.IsInst
import HandS.Lambda
import KE.DataMinKey
import HandS.EndTab
set_option Elab.async false
set_option linter.all false
/-! KnA: binary trees, their parents' lists, nodes as intervals of corners. Plain Lean. -/
namespace Kn

inductive B where
  | lf
  | nd (l r : B)
  deriving DecidableEq, Repr

namespace B
def sz : B → Nat
  | lf => 0
  | nd l r => l.sz + 1 + r.sz
end B
open B

/-- the parents' list: knots from o on, the root hangs on a -/
def par : B → Nat → Int → List Int
  | lf, _, _ => []
  | nd l r, o, a => par l o ((o + l.sz : Nat) : Int) ++ a :: par r (o + l.sz + 1) ((o + l.sz : Nat) : Int)
/-- the nodes' intervals of corners, by the knots -/
def nodes : B → Nat → List (Nat × Nat)
  | lf, _ => []
  | nd l r, o => nodes l o ++ (o, o + (nd l r).sz + 1) :: nodes r (o + l.sz + 1)
/-- .. with the corner between -/
def tri : B → Nat → List (Nat × Nat × Nat)
  | lf, _ => []
  | nd l r, o => tri l o ++ (o, o + l.sz + 1, o + (nd l r).sz + 1) :: tri r (o + l.sz + 1)

theorem par_len : ∀ (t : B) (o : Nat) (a : Int), (par t o a).length = t.sz
  | lf, _, _ => rfl
  | nd l r, o, a => by
    simp only [par, List.length_append, List.length_cons, par_len l, par_len r, sz]
    omega
theorem nodes_len : ∀ (t : B) (o : Nat), (nodes t o).length = t.sz
  | lf, _ => rfl
  | nd l r, o => by
    simp only [nodes, List.length_append, List.length_cons, nodes_len l, nodes_len r, sz]
    omega
theorem sz_nd (l r : B) : (nd l r).sz = l.sz + 1 + r.sz := rfl
theorem sz_pos {t : B} (h : t ≠ lf) : 1 ≤ t.sz := by
  cases t with
  | lf => exact absurd rfl h
  | nd l r => rw [sz_nd]; omega
theorem sz_zero {t : B} (h : t.sz = 0) : t = lf := by
  cases t with
  | lf => rfl
  | nd l r => rw [sz_nd] at h; omega

theorem mem_nd {l r : B} {o : Nat} {e : Nat × Nat} : e ∈ nodes (nd l r) o ↔ e ∈ nodes l o ∨ e = (o, o + l.sz + 1 + r.sz + 1) ∨ e ∈ nodes r (o + l.sz + 1) := by
  have h : o + (nd l r).sz + 1 = o + l.sz + 1 + r.sz + 1 := by rw [sz_nd]; omega
  rw [nodes, List.mem_append, List.mem_cons, h]
theorem mem_tri {l r : B} {o : Nat} {e : Nat × Nat × Nat} : e ∈ tri (nd l r) o ↔ e ∈ tri l o ∨ e = (o, o + l.sz + 1, o + l.sz + 1 + r.sz + 1) ∨ e ∈ tri r (o + l.sz + 1) := by
  have h : o + (nd l r).sz + 1 = o + l.sz + 1 + r.sz + 1 := by rw [sz_nd]; omega
  rw [tri, List.mem_append, List.mem_cons, h]
theorem nodes_bd : ∀ {t : B} {o : Nat} {e : Nat × Nat}, e ∈ nodes t o → o ≤ e.1 ∧ e.1 + 2 ≤ e.2 ∧ e.2 ≤ o + t.sz + 1
  | lf, _, _, h => absurd h (by simp [nodes])
  | nd l r, o, e, h => by
    rw [sz_nd]
    rcases mem_nd.mp h with h | h | h
    · have := nodes_bd h; omega
    · subst h; dsimp only; omega
    · have := nodes_bd h; omega
theorem tri_bd : ∀ {t : B} {o : Nat} {e : Nat × Nat × Nat}, e ∈ tri t o → o ≤ e.1 ∧ e.1 < e.2.1 ∧ e.2.1 < e.2.2 ∧ e.2.2 ≤ o + t.sz + 1
  | lf, _, _, h => absurd h (by simp [tri])
  | nd l r, o, e, h => by
    rw [sz_nd]
    rcases mem_tri.mp h with h | h | h
    · have := tri_bd h; omega
    · subst h; dsimp only; omega
    · have := tri_bd h; omega
theorem root_mem {t : B} (h : t ≠ lf) (o : Nat) : (o, o + t.sz + 1) ∈ nodes t o := by
  cases t with
  | lf => exact absurd rfl h
  | nd l r => exact mem_nd.mpr (.inr (.inl (by rw [sz_nd]; exact Prod.ext rfl (by dsimp only; omega))))
theorem tri_node : ∀ {t : B} {o x m y : Nat}, (x, m, y) ∈ tri t o → (x, y) ∈ nodes t o
  | lf, _, _, _, _, h => absurd h (by simp [tri])
  | nd l r, o, x, m, y, h => by
    rcases mem_tri.mp h with h | h | h
    · exact mem_nd.mpr (.inl (tri_node h))
    · cases h; exact mem_nd.mpr (.inr (.inl rfl))
    · exact mem_nd.mpr (.inr (.inr (tri_node h)))
theorem node_tri : ∀ {t : B} {o x y : Nat}, (x, y) ∈ nodes t o → ∃ m, (x, m, y) ∈ tri t o
  | lf, _, _, _, h => absurd h (by simp [nodes])
  | nd l r, o, x, y, h => by
    rcases mem_nd.mp h with h | h | h
    · obtain ⟨m, h⟩ := node_tri h; exact ⟨m, mem_tri.mpr (.inl h)⟩
    · cases h; exact ⟨_, mem_tri.mpr (.inr (.inl rfl))⟩
    · obtain ⟨m, h⟩ := node_tri h; exact ⟨m, mem_tri.mpr (.inr (.inr h))⟩
/-- the halves of a node are sides or nodes -/
theorem tri_half : ∀ {t : B} {o x m y : Nat}, (x, m, y) ∈ tri t o → (m = x + 1 ∨ (x, m) ∈ nodes t o) ∧ (y = m + 1 ∨ (m, y) ∈ nodes t o)
  | lf, _, _, _, _, h => absurd h (by simp [tri])
  | nd l r, o, x, m, y, h => by
    rcases mem_tri.mp h with h | h | h
    · obtain ⟨a, b⟩ := tri_half h
      exact ⟨a.imp_right fun a => mem_nd.mpr (.inl a), b.imp_right fun b => mem_nd.mpr (.inl b)⟩
    · cases h
      refine ⟨?_, ?_⟩
      · cases l with
        | lf => exact .inl rfl
        | nd a b => exact .inr (mem_nd.mpr (.inl (root_mem (by simp) _)))
      · cases r with
        | lf => exact .inl rfl
        | nd a b => exact .inr (mem_nd.mpr (.inr (.inr (root_mem (by simp) _))))
    · obtain ⟨a, b⟩ := tri_half h
      exact ⟨a.imp_right fun a => mem_nd.mpr (.inr (.inr a)), b.imp_right fun b => mem_nd.mpr (.inr (.inr b))⟩
/-- two nodes lie apart or one in the other -/
theorem laminar : ∀ {t : B} {o : Nat} {p q : Nat × Nat}, p ∈ nodes t o → q ∈ nodes t o → p.2 ≤ q.1 ∨ q.2 ≤ p.1 ∨ (p.1 ≤ q.1 ∧ q.2 ≤ p.2) ∨ (q.1 ≤ p.1 ∧ p.2 ≤ q.2)
  | lf, _, _, _, h, _ => absurd h (by simp [nodes])
  | nd l r, o, p, q, hp, hq => by
    rcases mem_nd.mp hp with h | h | h <;> rcases mem_nd.mp hq with k | k | k
    · exact laminar h k
    · have := nodes_bd h; subst k; dsimp only; omega
    · have := nodes_bd h; have := nodes_bd k; omega
    · have := nodes_bd k; subst h; dsimp only; omega
    · subst h k; dsimp only; omega
    · have := nodes_bd k; subst h; dsimp only; omega
    · have := nodes_bd h; have := nodes_bd k; omega
    · have := nodes_bd h; subst k; dsimp only; omega
    · exact laminar h k
/-- a node inside another one lies in one of its halves, or is it -/
theorem tri_lam : ∀ {t : B} {o x m y : Nat} {q : Nat × Nat}, (x, m, y) ∈ tri t o → q ∈ nodes t o → q.2 ≤ x ∨ y ≤ q.1 ∨ (q.1 ≤ x ∧ y ≤ q.2) ∨ (x ≤ q.1 ∧ q.2 ≤ m) ∨ (m ≤ q.1 ∧ q.2 ≤ y)
  | lf, _, _, _, _, _, h, _ => absurd h (by simp [tri])
  | nd l r, o, x, m, y, q, hp, hq => by
    rcases mem_tri.mp hp with h | h | h <;> rcases mem_nd.mp hq with k | k | k
    · exact tri_lam h k
    · have := tri_bd h; subst k; dsimp only at *; omega
    · have := tri_bd h; have := nodes_bd k; dsimp only at *; omega
    · have := nodes_bd k; cases h; omega
    · cases h; subst k; dsimp only; omega
    · have := nodes_bd k; cases h; omega
    · have := tri_bd h; have := nodes_bd k; dsimp only at *; omega
    · have := tri_bd h; subst k; dsimp only at *; omega
    · exact tri_lam h k
theorem nodes_nodup : ∀ (t : B) (o : Nat), (nodes t o).Nodup
  | lf, _ => List.nodup_nil
  | nd l r, o => by
    rw [nodes]
    refine List.nodup_append.mpr ⟨nodes_nodup l o, List.nodup_cons.mpr ⟨fun h => ?_, nodes_nodup r _⟩, fun a ha b hb => ?_⟩
    · have := nodes_bd h; dsimp only at this; omega
    · have h1 := nodes_bd ha
      rcases List.mem_cons.mp hb with rfl | hb
      · rintro rfl; dsimp only at h1; rw [sz_nd] at h1; omega
      · have h2 := nodes_bd hb
        rintro rfl; omega
/-- nodes within the left, the right part -/
theorem mem_left {l r : B} {o : Nat} {e : Nat × Nat} (h : e ∈ nodes (nd l r) o) (hb : e.2 ≤ o + l.sz + 1) : e ∈ nodes l o := by
  rcases mem_nd.mp h with h | h | h
  · exact h
  · subst h; dsimp only at hb; omega
  · have := nodes_bd h; omega
theorem mem_right {l r : B} {o : Nat} {e : Nat × Nat} (h : e ∈ nodes (nd l r) o) (hb : o + l.sz + 1 ≤ e.1) : e ∈ nodes r (o + l.sz + 1) := by
  rcases mem_nd.mp h with h | h | h
  · have := nodes_bd h; omega
  · subst h; dsimp only at hb; omega
  · exact h
/-- the nodes tell the tree -/
theorem incl_eq : ∀ {s t : B} {o : Nat}, s.sz = t.sz → (∀ e ∈ nodes s o, e ∈ nodes t o) → s = t
  | lf, t, _, h, _ => (sz_zero h.symm).symm
  | nd l r, lf, _, h, _ => by rw [sz_nd] at h; simp only [sz] at h; omega
  | nd l r, nd l' r', o, h, k => by
    rw [sz_nd, sz_nd] at h
    have h1 : l.sz ≤ l'.sz := by
      by_cases e : l = lf
      · subst e; exact Nat.zero_le _
      · have m := k _ (mem_nd.mpr (.inl (root_mem e o)))
        rcases mem_nd.mp m with m | m | m
        · have := nodes_bd m; dsimp only at this; omega
        · have q := congrArg Prod.snd m; dsimp only at q; omega
        · have := nodes_bd m; dsimp only at this; omega
    have h2 : r.sz ≤ r'.sz := by
      by_cases e : r = lf
      · subst e; exact Nat.zero_le _
      · have m := k _ (mem_nd.mpr (.inr (.inr (root_mem e _))))
        rcases mem_nd.mp m with m | m | m
        · have := nodes_bd m; dsimp only at this; omega
        · have q := congrArg Prod.fst m; dsimp only at q; omega
        · have := nodes_bd m; dsimp only at this; omega
    have e1 : l.sz = l'.sz := by omega
    have e2 : r.sz = r'.sz := by omega
    have q1 : l = l' := incl_eq (o := o) e1 fun e he => mem_left (k e (mem_nd.mpr (.inl he))) (by have := nodes_bd he; omega)
    have q2 : r = r' := incl_eq (o := o + l.sz + 1) e2 fun e he => by
      have := mem_right (k e (mem_nd.mpr (.inr (.inr he)))) (by have := nodes_bd he; omega)
      rw [← e1] at this
      exact this
    rw [q1, q2]

end Kn

set_option Elab.async false
set_option linter.all false
/-! KnB: rotations, turning a knot, walks, distance. Plain Lean. -/
namespace Kn
open B

inductive Rot : B → B → Prop
  | root (a b c : B) : Rot (nd (nd a b) c) (nd a (nd b c))
  | left {l l' : B} (r : B) : Rot l l' → Rot (nd l r) (nd l' r)
  | right (l : B) {r r' : B} : Rot r r' → Rot (nd l r) (nd l r')
def Adj (s t : B) : Prop := Rot s t ∨ Rot t s
theorem Adj.symm {s t : B} (h : Adj s t) : Adj t s := Or.symm h
theorem Adj.left {l l' : B} (r : B) (h : Adj l l') : Adj (nd l r) (nd l' r) := h.imp (.left r) (.left r)
theorem Adj.right (l : B) {r r' : B} (h : Adj r r') : Adj (nd l r) (nd l r') := h.imp (.right l) (.right l)
theorem Rot.sz {s t : B} (h : Rot s t) : s.sz = t.sz := by
  induction h with
  | root a b c => simp only [B.sz]; omega
  | left r _ ih => simp only [B.sz, ih]
  | right l _ ih => simp only [B.sz, ih]
theorem Adj.sz {s t : B} (h : Adj s t) : s.sz = t.sz := h.elim Rot.sz fun h => (Rot.sz h).symm

/-- a row of k turns -/
inductive Walk : Nat → B → B → Prop
  | nil (t : B) : Walk 0 t t
  | cons {k : Nat} {s t u : B} : Adj s t → Walk k t u → Walk (k + 1) s u
theorem Walk.sz {k : Nat} {s t : B} (h : Walk k s t) : s.sz = t.sz := by
  induction h with
  | nil => rfl
  | cons a _ ih => exact a.sz.trans ih
theorem Walk.trans {j k : Nat} {s t u : B} (h : Walk j s t) (h' : Walk k t u) : Walk (j + k) s u := by
  induction h with
  | nil => rw [Nat.zero_add]; exact h'
  | cons a _ ih => rw [Nat.add_right_comm]; exact .cons a (ih h')
theorem Walk.one {s t : B} (h : Adj s t) : Walk 1 s t := .cons h (.nil t)
theorem Walk.symm {k : Nat} {s t : B} (h : Walk k s t) : Walk k t s := by
  induction h with
  | nil => exact .nil _
  | cons a _ ih => exact ih.trans (.one a.symm)
theorem Walk.right (l : B) {k : Nat} {s t : B} (h : Walk k s t) : Walk k (nd l s) (nd l t) := by
  induction h with
  | nil => exact .nil _
  | cons a _ ih => exact .cons (a.right l) ih

/-- the right row -/
def comb : Nat → B
  | 0 => lf
  | n + 1 => nd lf (comb n)
theorem to_comb : ∀ (n : Nat) (t : B), t.sz = n → ∃ k, Walk k t (comb n) := by
  intro n
  induction n with
  | zero => intro t h; rw [sz_zero h]; exact ⟨0, .nil _⟩
  | succ n ih =>
    have go : ∀ (m : Nat) (l r : B), l.sz ≤ m → (nd l r).sz = n + 1 → ∃ k, Walk k (nd l r) (comb (n + 1)) := by
      intro m
      induction m with
      | zero =>
        intro l r hl h
        obtain rfl : l = lf := sz_zero (by omega)
        obtain ⟨k, w⟩ := ih r (by simp only [sz] at h; omega)
        exact ⟨k, w.right lf⟩
      | succ m ihm =>
        intro l r hl h
        cases l with
        | lf =>
          obtain ⟨k, w⟩ := ih r (by simp only [sz] at h; omega)
          exact ⟨k, w.right lf⟩
        | nd a b =>
          obtain ⟨k, w⟩ := ihm a (nd b r) (by simp only [sz] at hl; omega) (by simp only [sz] at h ⊢; omega)
          exact ⟨k + 1, .cons (.inl (.root a b r)) w⟩
    intro t h
    cases t with
    | lf => simp only [sz] at h; omega
    | nd l r => exact go l.sz l r (Nat.le_refl _) h
theorem connected {s t : B} (h : s.sz = t.sz) : ∃ k, Walk k s t := by
  obtain ⟨j, w⟩ := to_comb _ s h
  obtain ⟨k, v⟩ := to_comb _ t rfl
  exact ⟨j + k, w.trans v.symm⟩

theorem least {P : Nat → Prop} (h : ∃ n, P n) : ∃ n, P n ∧ ∀ m, P m → n ≤ m := by
  obtain ⟨n, hn⟩ := h
  induction n using Nat.strongRecOn with
  | ind n ih =>
    by_cases q : ∃ m, m < n ∧ P m
    · obtain ⟨m, hm, pm⟩ := q
      exact ih m hm pm
    · exact ⟨n, hn, fun m pm => Nat.le_of_not_lt fun l => q ⟨m, l, pm⟩⟩
open Classical in
/-- how far apart -/
noncomputable def dist (s t : B) : Nat := if h : ∃ k, Walk k s t then choose (least h) else 0
theorem dist_spec {s t : B} (h : s.sz = t.sz) : Walk (dist s t) s t ∧ ∀ k, Walk k s t → dist s t ≤ k := by
  have c := connected h
  unfold dist
  rw [dif_pos c]
  exact Classical.choose_spec (least c)
theorem dist_le {k : Nat} {s t : B} (w : Walk k s t) : dist s t ≤ k := (dist_spec w.sz).2 k w
theorem dist_self (t : B) : dist t t = 0 := Nat.le_zero.mp (dist_le (.nil t))
theorem dist_zero {s t : B} (h : s.sz = t.sz) (e : dist s t = 0) : s = t := by
  have w := (dist_spec h).1
  rw [e] at w
  cases w
  rfl
theorem dist_adj {s s' t : B} (h : s.sz = t.sz) (a : Adj s s') : dist s' t ≤ dist s t + 1 ∧ dist s t ≤ dist s' t + 1 := by
  have w := (dist_spec h).1
  have w' := (dist_spec (a.sz.symm.trans h)).1
  have := dist_le (Walk.cons a.symm w)
  have := dist_le (Walk.cons a w')
  omega
theorem dist_tri {s t u : B} (h : s.sz = t.sz) (h' : t.sz = u.sz) : dist s u ≤ dist s t + dist t u := dist_le ((dist_spec h).1.trans (dist_spec h').1)
theorem dist_down {s t : B} (h : s.sz = t.sz) (e : dist s t ≠ 0) : ∃ s', Adj s s' ∧ dist s' t + 1 = dist s t := by
  have w := (dist_spec h).1
  generalize hd : dist s t = d at w e
  cases w with
  | nil => exact absurd rfl e
  | @cons k _ s' _ a w =>
    refine ⟨s', a, ?_⟩
    have h1 := dist_le w
    have h2 := (dist_adj h a).2
    omega
/-- by what a distance is known -/
theorem dist_uniq {t : B} (L : B → Nat) (h0 : L t = 0) (h1 : ∀ s s', s.sz = t.sz → Adj s s' → L s ≤ L s' + 1) (h2 : ∀ s, s.sz = t.sz → L s ≠ 0 → ∃ s', Adj s s' ∧ L s' + 1 = L s) (h3 : ∀ s, s.sz = t.sz → L s = 0 → s = t)
    {s : B} (h : s.sz = t.sz) : L s = dist s t := by
  refine Nat.le_antisymm ?_ ?_
  · have : ∀ (k : Nat) (s u : B), Walk k s u → u = t → L s ≤ k := by
      intro k s u w
      induction w with
      | nil => rintro rfl; rw [h0]; exact Nat.le_refl _
      | cons a w ih =>
        intro e
        subst e
        have := h1 _ _ (a.sz.trans w.sz) a
        have := ih rfl
        omega
    exact this _ _ _ (dist_spec h).1 rfl
  · generalize hn : L s = n
    induction n generalizing s with
    | zero => rw [h3 s h hn, dist_self]; exact Nat.le_refl _
    | succ n ih =>
      obtain ⟨s', a, e⟩ := h2 s h (by omega)
      have := ih (s := s') (a.sz.symm.trans h) (by omega)
      have := (dist_adj h a).2
      omega

/-! ### turning a knot -/
/-- knot k of t (counted from the tree's first one) goes up -/
def up : B → Nat → Option B
  | lf, _ => none
  | nd l r, k =>
    if k < l.sz then
      match l with
      | lf => none
      | nd a b => if k = a.sz then some (nd a (nd b r)) else (up (nd a b) k).map (fun l' => nd l' r)
    else if k = l.sz then none
    else
      match r with
      | lf => none
      | nd b c => if k - l.sz - 1 = b.sz then some (nd (nd l b) c) else (up (nd b c) (k - l.sz - 1)).map (fun r' => nd l r')
/-- what a turn changes, told by corners: (x, m2) goes and (m1, y) comes, or the other way round -/
structure Turn (o : Nat) (s s' : B) (gone come : Nat × Nat) : Prop where
  g1 : gone ∈ nodes s o
  g2 : gone ∉ nodes s' o
  c1 : come ∈ nodes s' o
  c2 : come ∉ nodes s o
  fw : ∀ e ∈ nodes s o, e = gone ∨ e ∈ nodes s' o
  bw : ∀ e ∈ nodes s' o, e = come ∨ e ∈ nodes s o
theorem Turn.symm {o : Nat} {s s' : B} {g c : Nat × Nat} (h : Turn o s s' g c) : Turn o s' s c g := ⟨h.c1, h.c2, h.g1, h.g2, h.bw, h.fw⟩
theorem Turn.left {o : Nat} {l l' r : B} {g c : Nat × Nat} (hz : l.sz = l'.sz) (h : Turn o l l' g c) : Turn o (nd l r) (nd l' r) g c := by
  have bg := nodes_bd h.g1
  have bc := nodes_bd h.c1
  refine ⟨mem_nd.mpr (.inl h.g1), fun z => h.g2 (mem_left z (by omega)), mem_nd.mpr (.inl h.c1), fun z => h.c2 (mem_left z (by omega)), fun e he => ?_, fun e he => ?_⟩
  · rcases mem_nd.mp he with z | z | z
    · exact (h.fw e z).imp_right fun z => mem_nd.mpr (.inl z)
    · exact .inr (mem_nd.mpr (.inr (.inl (by rw [z, hz]))))
    · exact .inr (mem_nd.mpr (.inr (.inr (by rw [← hz]; exact z))))
  · rcases mem_nd.mp he with z | z | z
    · exact (h.bw e z).imp_right fun z => mem_nd.mpr (.inl z)
    · exact .inr (mem_nd.mpr (.inr (.inl (by rw [z, hz]))))
    · exact .inr (mem_nd.mpr (.inr (.inr (by rw [hz]; exact z))))
theorem Turn.right {o : Nat} {l r r' : B} {g c : Nat × Nat} (hz : r.sz = r'.sz) (h : Turn (o + l.sz + 1) r r' g c) : Turn o (nd l r) (nd l r') g c := by
  have bg := nodes_bd h.g1
  have bc := nodes_bd h.c1
  refine ⟨mem_nd.mpr (.inr (.inr h.g1)), fun z => h.g2 (mem_right z (by omega)), mem_nd.mpr (.inr (.inr h.c1)), fun z => h.c2 (mem_right z (by omega)), fun e he => ?_, fun e he => ?_⟩
  · rcases mem_nd.mp he with z | z | z
    · exact .inr (mem_nd.mpr (.inl z))
    · exact .inr (mem_nd.mpr (.inr (.inl (by rw [z, hz]))))
    · exact (h.fw e z).imp_right fun z => mem_nd.mpr (.inr (.inr z))
  · rcases mem_nd.mp he with z | z | z
    · exact .inr (mem_nd.mpr (.inl z))
    · exact .inr (mem_nd.mpr (.inr (.inl (by rw [z, hz]))))
    · exact (h.bw e z).imp_right fun z => mem_nd.mpr (.inr (.inr z))
theorem turn_root (o : Nat) (a b c : B) : Turn o (nd (nd a b) c) (nd a (nd b c)) (o, o + a.sz + 1 + b.sz + 1) (o + a.sz + 1, o + a.sz + 1 + b.sz + 1 + c.sz + 1) := by
  have ea : ∀ e ∈ nodes a o, e.2 ≤ o + a.sz + 1 := fun e h => (nodes_bd h).2.2
  have eb : ∀ e ∈ nodes b (o + a.sz + 1), o + a.sz + 1 ≤ e.1 ∧ e.2 ≤ o + a.sz + 1 + b.sz + 1 := fun e h => ⟨(nodes_bd h).1, (nodes_bd h).2.2⟩
  have ec : ∀ e ∈ nodes c (o + a.sz + 1 + b.sz + 1), o + a.sz + 1 + b.sz + 1 ≤ e.1 := fun e h => (nodes_bd h).1
  have e1 : o + (nd a b).sz + 1 = o + a.sz + 1 + b.sz + 1 := by simp only [sz]; omega
  have s1 : ∀ e, e ∈ nodes (nd (nd a b) c) o ↔ e ∈ nodes a o ∨ e = (o, o + a.sz + 1 + b.sz + 1) ∨ e ∈ nodes b (o + a.sz + 1) ∨ e = (o, o + a.sz + 1 + b.sz + 1 + c.sz + 1) ∨ e ∈ nodes c (o + a.sz + 1 + b.sz + 1) := fun e => by
    rw [mem_nd, mem_nd, e1]
    constructor
    · rintro ((h | h | h) | h | h)
      · exact .inl h
      · exact .inr (.inl h)
      · exact .inr (.inr (.inl h))
      · exact .inr (.inr (.inr (.inl h)))
      · exact .inr (.inr (.inr (.inr h)))
    · rintro (h | h | h | h | h)
      · exact .inl (.inl h)
      · exact .inl (.inr (.inl h))
      · exact .inl (.inr (.inr h))
      · exact .inr (.inl h)
      · exact .inr (.inr h)
  have e2 : ∀ o, o + (nd b c).sz + 1 = o + b.sz + 1 + c.sz + 1 := fun o => by simp only [sz]; omega
  have s2 : ∀ e, e ∈ nodes (nd a (nd b c)) o ↔ e ∈ nodes a o ∨ e = (o + a.sz + 1, o + a.sz + 1 + b.sz + 1 + c.sz + 1) ∨ e ∈ nodes b (o + a.sz + 1) ∨ e = (o, o + a.sz + 1 + b.sz + 1 + c.sz + 1) ∨ e ∈ nodes c (o + a.sz + 1 + b.sz + 1) := fun e => by
    rw [mem_nd, mem_nd, e2]
    constructor
    · rintro (h | h | h | h | h)
      · exact .inl h
      · exact .inr (.inr (.inr (.inl h)))
      · exact .inr (.inr (.inl h))
      · exact .inr (.inl h)
      · exact .inr (.inr (.inr (.inr h)))
    · rintro (h | h | h | h | h)
      · exact .inl h
      · exact .inr (.inr (.inr (.inl h)))
      · exact .inr (.inr (.inl h))
      · exact .inr (.inl h)
      · exact .inr (.inr (.inr (.inr h)))
  refine ⟨(s1 _).mpr (.inr (.inl rfl)), fun z => ?_, (s2 _).mpr (.inr (.inl rfl)), fun z => ?_, fun e he => ?_, fun e he => ?_⟩
  · rcases (s2 _).mp z with h | h | h | h | h
    · have := ea _ h; dsimp only at this; omega
    · have q := congrArg Prod.fst h; dsimp only at q; omega
    · have := eb _ h; dsimp only at this; omega
    · have q := congrArg Prod.snd h; dsimp only at q; omega
    · have := ec _ h; dsimp only at this; omega
  · rcases (s1 _).mp z with h | h | h | h | h
    · have := ea _ h; dsimp only at this; omega
    · have q := congrArg Prod.fst h; dsimp only at q; omega
    · have := eb _ h; dsimp only at this; omega
    · have q := congrArg Prod.fst h; dsimp only at q; omega
    · have := ec _ h; dsimp only at this; omega
  · rcases (s1 e).mp he with h | h | h | h | h
    · exact .inr ((s2 e).mpr (.inl h))
    · exact .inl h
    · exact .inr ((s2 e).mpr (.inr (.inr (.inl h))))
    · exact .inr ((s2 e).mpr (.inr (.inr (.inr (.inl h)))))
    · exact .inr ((s2 e).mpr (.inr (.inr (.inr (.inr h)))))
  · rcases (s2 e).mp he with h | h | h | h | h
    · exact .inr ((s1 e).mpr (.inl h))
    · exact .inl h
    · exact .inr ((s1 e).mpr (.inr (.inr (.inl h))))
    · exact .inr ((s1 e).mpr (.inr (.inr (.inr (.inl h)))))
    · exact .inr ((s1 e).mpr (.inr (.inr (.inr (.inr h)))))

/-- the k-th interval -/
theorem nodes_at_root (l r : B) (o : Nat) : (nodes (nd l r) o)[l.sz]? = some (o, o + (nd l r).sz + 1) := by
  rw [nodes, List.getElem?_append_right (by rw [nodes_len]; exact Nat.le_refl _), nodes_len, Nat.sub_self]
  rfl
theorem nodes_at_left {l r : B} {o k : Nat} (h : k < l.sz) : (nodes (nd l r) o)[k]? = (nodes l o)[k]? := by
  rw [nodes, List.getElem?_append_left (by rw [nodes_len]; exact h)]
theorem nodes_at_right {l r : B} {o k : Nat} (h : l.sz < k) : (nodes (nd l r) o)[k]? = (nodes r (o + l.sz + 1))[k - l.sz - 1]? := by
  rw [nodes, List.getElem?_append_right (by rw [nodes_len]; omega), nodes_len]
  obtain ⟨j, hj⟩ : ∃ j, k - l.sz = j + 1 := ⟨k - l.sz - 1, by omega⟩
  rw [hj, List.getElem?_cons_succ]
  rfl

/-- a knot's turn: one interval, the turned knot's, goes -/
theorem up_turn : ∀ (s : B) (o k : Nat) (s' : B), up s k = some s' → Adj s s' ∧ ∃ g c, Turn o s s' g c ∧ (nodes s o)[k]? = some g
  | lf, _, _, _, h => by simp [up] at h
  | nd l r, o, k, s', h => by
    unfold up at h
    by_cases h1 : k < l.sz
    · rw [if_pos h1] at h
      cases l with
      | lf => simp at h
      | nd a b =>
        dsimp only at h
        by_cases h2 : k = a.sz
        · rw [if_pos h2] at h
          cases h
          refine ⟨.inl (.root a b r), _, _, turn_root o a b r, ?_⟩
          rw [nodes_at_left h1, h2, nodes_at_root]
          congr 2
          simp only [sz]; omega
        · rw [if_neg h2] at h
          obtain ⟨l', hl, rfl⟩ := Option.map_eq_some_iff.mp h
          obtain ⟨ad, g, c, t, e⟩ := up_turn (nd a b) o k l' hl
          exact ⟨ad.left r, g, c, t.left ad.sz, by rw [nodes_at_left h1]; exact e⟩
    · rw [if_neg h1] at h
      by_cases h3 : k = l.sz
      · rw [if_pos h3] at h; cases h
      · rw [if_neg h3] at h
        cases r with
        | lf => simp at h
        | nd b c =>
          dsimp only at h
          by_cases h2 : k - l.sz - 1 = b.sz
          · rw [if_pos h2] at h
            cases h
            refine ⟨.inr (.root l b c), _, _, (turn_root o l b c).symm, ?_⟩
            rw [nodes_at_right (by omega), h2, nodes_at_root]
            congr 2
            simp only [sz]; omega
          · rw [if_neg h2] at h
            obtain ⟨r', hr, rfl⟩ := Option.map_eq_some_iff.mp h
            obtain ⟨ad, g, e, t, q⟩ := up_turn (nd b c) (o + l.sz + 1) (k - l.sz - 1) r' hr
            exact ⟨ad.right l, g, e, t.right ad.sz, by rw [nodes_at_right (by omega)]; exact q⟩
/-- every knot but the root can be turned -/
theorem up_some : ∀ (s : B) (k : Nat), k < s.sz → (∀ l r, s = nd l r → k ≠ l.sz) → ∃ s', up s k = some s'
  | lf, k, h, _ => by simp only [sz] at h; omega
  | nd l r, k, h, hr => by
    unfold up
    by_cases h1 : k < l.sz
    · rw [if_pos h1]
      cases l with
      | lf => simp only [sz] at h1; omega
      | nd a b =>
        dsimp only
        by_cases h2 : k = a.sz
        · rw [if_pos h2]; exact ⟨_, rfl⟩
        · rw [if_neg h2]
          obtain ⟨l', e⟩ := up_some (nd a b) k h1 fun x y e => by cases e; exact h2
          rw [e]; exact ⟨_, rfl⟩
    · rw [if_neg h1, if_neg (hr l r rfl)]
      have := hr l r rfl
      cases r with
      | lf => simp only [sz] at h; omega
      | nd b c =>
        dsimp only
        by_cases h2 : k - l.sz - 1 = b.sz
        · rw [if_pos h2]; exact ⟨_, rfl⟩
        · rw [if_neg h2]
          obtain ⟨r', e⟩ := up_some (nd b c) (k - l.sz - 1) (by simp only [sz] at h ⊢; omega) fun x y e => by cases e; exact h2
          rw [e]; exact ⟨_, rfl⟩
theorem up_lt : ∀ (s : B) (k : Nat) (s' : B), up s k = some s' → k < s.sz
  | lf, _, _, h => by simp [up] at h
  | nd l r, k, s', h => by
    unfold up at h
    rw [sz_nd]
    by_cases h1 : k < l.sz
    · omega
    · rw [if_neg h1] at h
      by_cases h3 : k = l.sz
      · rw [if_pos h3] at h; cases h
      · rw [if_neg h3] at h
        cases r with
        | lf => simp at h
        | nd b c =>
          dsimp only at h
          by_cases h2 : k - l.sz - 1 = b.sz
          · simp only [sz]; omega
          · rw [if_neg h2] at h
            obtain ⟨r', hr, rfl⟩ := Option.map_eq_some_iff.mp h
            have := up_lt (nd b c) _ _ hr
            omega
/-- every rotation is a turn of a knot -/
theorem rot_up {s s' : B} (h : Rot s s') : (∃ k, up s k = some s') ∧ ∃ k, up s' k = some s := by
  induction h with
  | root a b c =>
    refine ⟨⟨a.sz, ?_⟩, ⟨a.sz + 1 + b.sz, ?_⟩⟩
    · unfold up
      rw [if_pos (by simp only [sz]; omega)]
      dsimp only
      rw [if_pos rfl]
    · unfold up
      rw [if_neg (by omega), if_neg (by omega)]
      dsimp only
      rw [if_pos (by omega)]
  | @left l l' r h ih =>
    obtain ⟨⟨j, hj⟩, ⟨k, hk⟩⟩ := ih
    have go : ∀ (x x' : B) (k : Nat), up x k = some x' → ∃ k, up (nd x r) k = some (nd x' r) := fun x x' k e => by
      refine ⟨k, ?_⟩
      have hl := up_lt _ _ _ e
      unfold up
      rw [if_pos hl]
      cases x with
      | lf => simp [up] at e
      | nd a b =>
        dsimp only
        rw [if_neg (fun z => by subst z; unfold up at e; rw [if_neg (Nat.lt_irrefl _), if_pos rfl] at e; cases e), e]
        rfl
    exact ⟨go _ _ _ hj, go _ _ _ hk⟩
  | @right l r r' h ih =>
    obtain ⟨⟨j, hj⟩, ⟨k, hk⟩⟩ := ih
    have go : ∀ (x x' : B) (k : Nat), up x k = some x' → ∃ k, up (nd l x) k = some (nd l x') := fun x x' k e => by
      refine ⟨l.sz + 1 + k, ?_⟩
      unfold up
      rw [if_neg (by omega), if_neg (by omega)]
      have e1 : l.sz + 1 + k - l.sz - 1 = k := by omega
      cases x with
      | lf => simp [up] at e
      | nd a b =>
        dsimp only
        rw [e1, if_neg (fun z => by subst z; unfold up at e; rw [if_neg (Nat.lt_irrefl _), if_pos rfl] at e; cases e), e]
        rfl
    exact ⟨go _ _ _ hj, go _ _ _ hk⟩
theorem adj_up {s s' : B} (h : Adj s s') : ∃ k, up s k = some s' := h.elim (fun h => (rot_up h).1) fun h => (rot_up h).2

end Kn

set_option Elab.async false
set_option linter.all false
/-! KnC: a tree with but some of its leaves kept. Plain Lean. -/
namespace Kn
open B

def jn : Option B → Option B → Option B
  | none, y => y
  | some a, none => some a
  | some a, some b => some (nd a b)
def rs (K : Nat → Bool) : B → Nat → Option B
  | lf, o => if K o = true then some lf else none
  | nd l r, o => jn (rs K l o) (rs K r (o + l.sz + 1))
/-- how many leaves below z are kept -/
def cn (K : Nat → Bool) : Nat → Nat
  | 0 => 0
  | z + 1 => cn K z + if K z = true then 1 else 0

theorem jn_none (x : Option B) : jn x none = x := by cases x <;> rfl
theorem cn_mono (K : Nat → Bool) {x y : Nat} (h : x ≤ y) : cn K x ≤ cn K y := by
  induction h with
  | refl => exact Nat.le_refl _
  | step _ ih => exact Nat.le_trans ih (Nat.le_add_right _ _)
theorem cn_kept {K : Nat → Bool} {x v y : Nat} (h1 : x ≤ v) (h2 : v < y) (h : K v = true) : cn K x < cn K y := by
  have a := cn_mono K h1
  have b := cn_mono K (show v + 1 ≤ y from h2)
  have c : cn K (v + 1) = cn K v + 1 := by rw [cn, if_pos h]
  omega
theorem cn_has {K : Nat → Bool} {x y : Nat} (h : cn K x < cn K y) : ∃ v, x ≤ v ∧ v < y ∧ K v = true := by
  induction y with
  | zero => simp [cn] at h
  | succ y ih =>
    by_cases q : x ≤ y
    · rw [cn] at h
      by_cases k : K y = true
      · exact ⟨y, q, Nat.lt_succ_self _, k⟩
      · rw [if_neg k] at h
        obtain ⟨v, a, b, c⟩ := ih (by omega)
        exact ⟨v, a, by omega, c⟩
    · have := cn_mono K (show y + 1 ≤ x by omega)
      omega
theorem cn_lt {K : Nat → Bool} {x y : Nat} : cn K x < cn K y ↔ ∃ v, x ≤ v ∧ v < y ∧ K v = true := ⟨cn_has, fun ⟨_, a, b, c⟩ => cn_kept a b c⟩

theorem rs_cn {K : Nat → Bool} : ∀ {t : B} {o : Nat}, (rs K t o = none → cn K (o + t.sz + 1) = cn K o) ∧ (∀ p, rs K t o = some p → cn K (o + t.sz + 1) = cn K o + p.sz + 1)
  | lf, o => by
    show ((if K o = true then some lf else none) = none → cn K o + (if K o = true then 1 else 0) = cn K o) ∧ (∀ p, (if K o = true then some lf else none) = some p → cn K o + (if K o = true then 1 else 0) = cn K o + p.sz + 1)
    by_cases h : K o = true
    · rw [if_pos h, if_pos h]
      exact ⟨(fun z => by cases z), fun p z => by cases z; rfl⟩
    · rw [if_neg h, if_neg h]
      exact ⟨fun _ => rfl, (fun p z => by cases z)⟩
  | nd l r, o => by
    have hl := @rs_cn K l o
    have hr := @rs_cn K r (o + l.sz + 1)
    have e : o + (nd l r).sz + 1 = o + l.sz + 1 + r.sz + 1 := by simp only [sz]; omega
    rw [e]
    unfold rs
    cases a : rs K l o with
    | none =>
      have h1 := hl.1 a
      rw [show jn none (rs K r (o + l.sz + 1)) = rs K r (o + l.sz + 1) from rfl, ← h1]
      exact hr
    | some x =>
      have h1 := hl.2 x a
      cases b : rs K r (o + l.sz + 1) with
      | none =>
        rw [jn_none, hr.1 b]
        exact ⟨(fun z => by cases z), fun p z => by cases z; exact h1⟩
      | some y =>
        refine ⟨(fun z => by cases z), fun p z => ?_⟩
        cases z
        rw [hr.2 y b, h1]
        simp only [sz]; omega
theorem rs_none {K : Nat → Bool} {t : B} {o : Nat} : rs K t o = none ↔ cn K (o + t.sz + 1) = cn K o := by
  refine ⟨rs_cn.1, fun h => ?_⟩
  cases e : rs K t o with
  | none => rfl
  | some p => have := rs_cn.2 p e; omega
theorem rs_some {K : Nat → Bool} {t : B} {o : Nat} (h : cn K o < cn K (o + t.sz + 1)) : ∃ p, rs K t o = some p := by
  cases e : rs K t o with
  | none => have := rs_cn.1 e; omega
  | some p => exact ⟨p, rfl⟩

theorem rs_nodes {K : Nat → Bool} : ∀ {t : B} {o : Nat} {p : B}, rs K t o = some p → ∀ e, e ∈ nodes p (cn K o) ↔ ∃ x m y, (x, m, y) ∈ tri t o ∧ cn K x < cn K m ∧ cn K m < cn K y ∧ e = (cn K x, cn K y)
  | lf, o, p, h, e => by
    unfold rs at h
    by_cases k : K o = true
    · rw [if_pos k] at h
      cases h
      simp [nodes, tri]
    · rw [if_neg k] at h; cases h
  | nd l r, o, p, h, e => by
    unfold rs at h
    cases a : rs K l o with
    | none =>
      rw [a] at h
      have h : rs K r (o + l.sz + 1) = some p := h
      have q := rs_cn.1 a
      rw [← q, rs_nodes h]
      constructor
      · rintro ⟨x, m, y, t, r⟩
        exact ⟨x, m, y, mem_tri.mpr (.inr (.inr t)), r⟩
      · rintro ⟨x, m, y, t, h1, h2, h3⟩
        rcases mem_tri.mp t with t | t | t
        · have b := tri_bd t
          dsimp only at b
          have := cn_mono K b.1
          have := cn_mono K (show m ≤ o + l.sz + 1 by omega)
          omega
        · cases t; omega
        · exact ⟨x, m, y, t, h1, h2, h3⟩
    | some u =>
      have qu := rs_cn.2 u a
      cases b : rs K r (o + l.sz + 1) with
      | none =>
        rw [a, b, jn_none] at h
        cases h
        have q := rs_cn.1 b
        rw [rs_nodes a]
        constructor
        · rintro ⟨x, m, y, t, r⟩
          exact ⟨x, m, y, mem_tri.mpr (.inl t), r⟩
        · rintro ⟨x, m, y, t, h1, h2, h3⟩
          rcases mem_tri.mp t with t | t | t
          · exact ⟨x, m, y, t, h1, h2, h3⟩
          · cases t; omega
          · have b := tri_bd t
            dsimp only at b
            have := cn_mono K b.1
            have := cn_mono K b.2.2.2
            have := cn_mono K (show m ≤ o + l.sz + 1 + r.sz + 1 by omega)
            omega
      | some v =>
        rw [a, b] at h
        obtain rfl : nd u v = p := Option.some.inj h
        have qv := rs_cn.2 v b
        have nu := rs_nodes a e
        have nv := rs_nodes b e
        rw [qu] at nv
        rw [mem_nd, nu, nv]
        constructor
        · rintro (⟨x, m, y, t, r⟩ | h | ⟨x, m, y, t, r⟩)
          · exact ⟨x, m, y, mem_tri.mpr (.inl t), r⟩
          · exact ⟨_, _, _, mem_tri.mpr (.inr (.inl rfl)), by omega, by omega, by rw [h, qv, qu]⟩
          · exact ⟨x, m, y, mem_tri.mpr (.inr (.inr t)), r⟩
        · rintro ⟨x, m, y, t, h1, h2, h3⟩
          rcases mem_tri.mp t with t | t | t
          · exact .inl ⟨x, m, y, t, h1, h2, h3⟩
          · cases t; exact .inr (.inl (by rw [h3, qv, qu]))
          · exact .inr (.inr ⟨x, m, y, t, h1, h2, h3⟩)

/-- a rotation, of which the kept part turns or stays -/
structure RotAt (o : Nat) (s s' : B) (x m1 m2 y : Nat) : Prop where
  b0 : o ≤ x
  b1 : x < m1
  b2 : m1 < m2
  b3 : m2 < y
  b4 : y ≤ o + s.sz + 1
  t : Turn o s s' (x, m2) (m1, y)
  yes : ∀ K : Nat → Bool, cn K x < cn K m1 → cn K m1 < cn K m2 → cn K m2 < cn K y → ∃ p p', rs K s o = some p ∧ rs K s' o = some p' ∧ Rot p p'
  no : ∀ K : Nat → Bool, ¬ (cn K x < cn K m1 ∧ cn K m1 < cn K m2 ∧ cn K m2 < cn K y) → rs K s o = rs K s' o
theorem rot_at {s s' : B} (h : Rot s s') : ∀ o, ∃ x m1 m2 y, RotAt o s s' x m1 m2 y := by
  induction h with
  | root a b c =>
    intro o
    have eA : ∀ K, rs K (nd (nd a b) c) o = jn (jn (rs K a o) (rs K b (o + a.sz + 1))) (rs K c (o + a.sz + 1 + b.sz + 1)) := fun K => by
      have e : o + (nd a b).sz + 1 = o + a.sz + 1 + b.sz + 1 := by simp only [sz]; omega
      rw [rs, rs, e]
    have eB : ∀ K, rs K (nd a (nd b c)) o = jn (rs K a o) (jn (rs K b (o + a.sz + 1)) (rs K c (o + a.sz + 1 + b.sz + 1))) := fun K => by rw [rs, rs]
    refine ⟨o, o + a.sz + 1, o + a.sz + 1 + b.sz + 1, o + a.sz + 1 + b.sz + 1 + c.sz + 1, Nat.le_refl _, by omega, by omega, by omega, by simp only [sz]; omega, turn_root o a b c, fun K h1 h2 h3 => ?_, fun K hn => ?_⟩
    · obtain ⟨p, hp⟩ := rs_some h1
      obtain ⟨q, hq⟩ := rs_some h2
      obtain ⟨r, hr⟩ := rs_some h3
      rw [eA, eB, hp, hq, hr]
      exact ⟨_, _, rfl, rfl, .root p q r⟩
    · rw [eA, eB]
      cases ha : rs K a o with
      | none => rfl
      | some p =>
        cases hb : rs K b (o + a.sz + 1) with
        | none => rfl
        | some q =>
          cases hc : rs K c (o + a.sz + 1 + b.sz + 1) with
          | none => rfl
          | some r =>
            exact absurd ⟨by have := rs_cn.2 p ha; omega, by have := rs_cn.2 q hb; omega, by have := rs_cn.2 r hc; omega⟩ hn
  | @left l l' r h ih =>
    intro o
    obtain ⟨x, m1, m2, y, R⟩ := ih o
    have hz := h.sz
    refine ⟨x, m1, m2, y, R.b0, R.b1, R.b2, R.b3, by have := R.b4; simp only [sz]; omega, R.t.left hz, fun K h1 h2 h3 => ?_, fun K hn => ?_⟩
    · obtain ⟨p, p', e, e', q⟩ := R.yes K h1 h2 h3
      rw [rs, rs, e, e', ← hz]
      cases rs K r (o + l.sz + 1) with
      | none => exact ⟨p, p', rfl, rfl, q⟩
      | some u => exact ⟨_, _, rfl, rfl, .left u q⟩
    · rw [rs, rs, R.no K hn, ← hz]
  | @right l r r' h ih =>
    intro o
    obtain ⟨x, m1, m2, y, R⟩ := ih (o + l.sz + 1)
    have hz := h.sz
    refine ⟨x, m1, m2, y, by have := R.b0; omega, R.b1, R.b2, R.b3, by have := R.b4; simp only [sz]; omega, R.t.right hz, fun K h1 h2 h3 => ?_, fun K hn => ?_⟩
    · obtain ⟨p, p', e, e', q⟩ := R.yes K h1 h2 h3
      rw [rs, rs, e, e']
      cases rs K l o with
      | none => exact ⟨p, p', rfl, rfl, q⟩
      | some u => exact ⟨_, _, rfl, rfl, .right u q⟩
    · rw [rs, rs, R.no K hn]
theorem Turn.gone_eq {o : Nat} {s s' : B} {g c g' c' : Nat × Nat} (h : Turn o s s' g c) (h' : Turn o s s' g' c') : g = g' := (h'.fw g h.g1).elim id fun z => absurd z h.g2

/-- lifting a rotation of the kept part: inside [l, h) every node with two kept leaves has some in both halves -/
theorem lift_rot {K : Nat → Bool} {lo hi : Nat} (hK : ∀ v, K v = true → lo ≤ v ∧ v < hi) : ∀ {t : B} {o : Nat}, (∀ x m y, (x, m, y) ∈ tri t o → lo ≤ x → y ≤ hi → cn K x + 2 ≤ cn K y → cn K x < cn K m ∧ cn K m < cn K y) →
    ((lo, hi) ∈ nodes t o ∨ (lo ≤ o ∧ o + t.sz + 1 ≤ hi)) → ∀ {p p' : B}, rs K t o = some p → (Rot p p' → ∃ t', Rot t t' ∧ rs K t' o = some p') ∧ (Rot p' p → ∃ t', Rot t' t ∧ rs K t' o = some p')
  | lf, o, hT, hin, p, p', h => by
    unfold rs at h
    by_cases k : K o = true
    · rw [if_pos k] at h; cases h; exact ⟨(fun z => by cases z), (fun z => by cases z)⟩
    · rw [if_neg k] at h; cases h
  | nd l r, o, hT, hin, p, p', h => by
    have hTl : ∀ x m y, (x, m, y) ∈ tri l o → lo ≤ x → y ≤ hi → cn K x + 2 ≤ cn K y → cn K x < cn K m ∧ cn K m < cn K y := fun x m y t => hT x m y (mem_tri.mpr (.inl t))
    have hTr : ∀ x m y, (x, m, y) ∈ tri r (o + l.sz + 1) → lo ≤ x → y ≤ hi → cn K x + 2 ≤ cn K y → cn K x < cn K m ∧ cn K m < cn K y := fun x m y t => hT x m y (mem_tri.mpr (.inr (.inr t)))
    have goL : ((lo, hi) ∈ nodes l o ∨ (lo ≤ o ∧ o + l.sz + 1 ≤ hi)) → rs K r (o + l.sz + 1) = none → (Rot p p' → ∃ t', Rot (nd l r) t' ∧ rs K t' o = some p') ∧ (Rot p' p → ∃ t', Rot t' (nd l r) ∧ rs K t' o = some p') := fun hl hr => by
      unfold rs at h
      rw [hr, jn_none] at h
      have ih := lift_rot hK hTl hl h (p' := p')
      refine ⟨fun q => ?_, fun q => ?_⟩
      · obtain ⟨t', a, b⟩ := ih.1 q
        exact ⟨nd t' r, .left r a, by rw [rs, ← a.sz, hr, jn_none, b]⟩
      · obtain ⟨t', a, b⟩ := ih.2 q
        exact ⟨nd t' r, .left r a, by rw [rs, a.sz, hr, jn_none, b]⟩
    have goR : ((lo, hi) ∈ nodes r (o + l.sz + 1) ∨ (lo ≤ o + l.sz + 1 ∧ o + l.sz + 1 + r.sz + 1 ≤ hi)) → rs K l o = none → (Rot p p' → ∃ t', Rot (nd l r) t' ∧ rs K t' o = some p') ∧ (Rot p' p → ∃ t', Rot t' (nd l r) ∧ rs K t' o = some p') := fun hr hl => by
      unfold rs at h
      rw [hl] at h
      have ih := lift_rot hK hTr hr (show rs K r (o + l.sz + 1) = some p from h) (p' := p')
      refine ⟨fun q => ?_, fun q => ?_⟩
      · obtain ⟨t', a, b⟩ := ih.1 q
        exact ⟨nd l t', .right l a, by rw [rs, hl, b]; rfl⟩
      · obtain ⟨t', a, b⟩ := ih.2 q
        exact ⟨nd l t', .right l a, by rw [rs, hl, b]; rfl⟩
    have noneL : hi ≤ o ∨ o + l.sz + 1 ≤ lo → rs K l o = none := fun q => rs_none.mpr (by
      refine Nat.le_antisymm (Nat.le_of_not_lt fun z => ?_) (cn_mono K (by omega))
      obtain ⟨v, a, b, c⟩ := cn_has z
      have := hK v c
      omega)
    have noneR : hi ≤ o + l.sz + 1 ∨ o + l.sz + 1 + r.sz + 1 ≤ lo → rs K r (o + l.sz + 1) = none := fun q => rs_none.mpr (by
      refine Nat.le_antisymm (Nat.le_of_not_lt fun z => ?_) (cn_mono K (by omega))
      obtain ⟨v, a, b, c⟩ := cn_has z
      have := hK v c
      omega)
    have ez : o + (nd l r).sz + 1 = o + l.sz + 1 + r.sz + 1 := by simp only [sz]; omega
    have inside : lo ≤ o → o + l.sz + 1 + r.sz + 1 ≤ hi → (Rot p p' → ∃ t', Rot (nd l r) t' ∧ rs K t' o = some p') ∧ (Rot p' p → ∃ t', Rot t' (nd l r) ∧ rs K t' o = some p') := fun h1 h2 => by
      have tw := rs_cn.2 p h
      rw [ez] at tw
      cases a : rs K l o with
      | none => exact goR (.inr ⟨by omega, h2⟩) a
      | some u =>
        cases b : rs K r (o + l.sz + 1) with
        | none => exact goL (.inr ⟨h1, by omega⟩) b
        | some v =>
          have ihl := fun u' => lift_rot hK hTl (.inr ⟨h1, by omega⟩) a (p' := u')
          have ihr := fun v' => lift_rot hK hTr (.inr ⟨by omega, h2⟩) b (p' := v')
          have qu := rs_cn.2 u a
          have qv := rs_cn.2 v b
          have h' := h
          unfold rs at h'
          rw [a, b] at h'
          obtain rfl : nd u v = p := Option.some.inj h'
          refine ⟨fun q => ?_, fun q => ?_⟩
          · cases q with
            | root x y _ =>
              cases l with
              | lf =>
                unfold rs at a
                split at a <;> cases a
              | nd l1 l2 =>
                have e2 : o + (nd l1 l2).sz + 1 = o + l1.sz + 1 + l2.sz + 1 := by simp only [sz]; omega
                rw [e2] at qu
                obtain ⟨k1, k2⟩ := hTl o (o + l1.sz + 1) (o + l1.sz + 1 + l2.sz + 1) (mem_tri.mpr (.inr (.inl rfl))) h1 (by omega) (by rw [qu]; simp only [sz]; omega)
                obtain ⟨x', hx⟩ := rs_some k1
                obtain ⟨y', hy⟩ := rs_some k2
                have a' := a
                unfold rs at a'
                rw [hx, hy] at a'
                cases a'
                refine ⟨_, .root l1 l2 r, ?_⟩
                rw [e2] at b
                rw [rs, rs, hx, hy, b]
                rfl
            | left _ q =>
              obtain ⟨t', c, d⟩ := (ihl _).1 q
              exact ⟨_, .left r c, by rw [rs, d, ← c.sz, b]; rfl⟩
            | right _ q =>
              obtain ⟨t', c, d⟩ := (ihr _).1 q
              exact ⟨_, .right l c, by rw [rs, a, d]; rfl⟩
          · cases q with
            | root _ x y =>
              cases r with
              | lf =>
                unfold rs at b
                split at b <;> cases b
              | nd r1 r2 =>
                have e2 : o + l.sz + 1 + (nd r1 r2).sz + 1 = o + l.sz + 1 + r1.sz + 1 + r2.sz + 1 := by simp only [sz]; omega
                rw [e2] at qv h2
                obtain ⟨k1, k2⟩ := hTr (o + l.sz + 1) (o + l.sz + 1 + r1.sz + 1) (o + l.sz + 1 + r1.sz + 1 + r2.sz + 1) (mem_tri.mpr (.inr (.inl rfl))) (by omega) h2 (by rw [qv]; simp only [sz]; omega)
                obtain ⟨x', hx⟩ := rs_some k1
                obtain ⟨y', hy⟩ := rs_some k2
                have b' := b
                unfold rs at b'
                rw [hx, hy] at b'
                cases b'
                refine ⟨_, .root l r1 r2, ?_⟩
                have e3 : o + (nd l r1).sz + 1 = o + l.sz + 1 + r1.sz + 1 := by simp only [sz]; omega
                rw [rs, rs, e3, a, hx, hy]
                rfl
            | left _ q =>
              obtain ⟨t', c, d⟩ := (ihl _).2 q
              exact ⟨_, .left r c, by rw [rs, d, c.sz, b]; rfl⟩
            | right _ q =>
              obtain ⟨t', c, d⟩ := (ihr _).2 q
              exact ⟨_, .right l c, by rw [rs, a, d]; rfl⟩
    rcases hin with hin | ⟨h1, h2⟩
    · rcases mem_nd.mp hin with q | q | q
      · have bd := nodes_bd q
        dsimp only at bd
        exact goL (.inl q) (noneR (.inl (by omega)))
      · cases q
        exact inside (Nat.le_refl _) (Nat.le_refl _)
      · have bd := nodes_bd q
        dsimp only at bd
        exact goR (.inl q) (noneL (.inr (by omega)))
    · rw [ez] at h2
      exact inside h1 h2
end Kn

set_option Elab.async false
set_option linter.all false
/-! KnD: the corners of a part, the pieces, what a turn does to them. Plain Lean. -/
namespace Kn
open B

abbrev Cut := Nat × Nat
def stp (lo hi here far : Nat) (c : Cut) : Nat := if c.1 = here ∧ far < c.2 ∧ c.2 ≤ hi ∧ c ≠ (lo, hi) then c.2 else far
def nxt (S : List Cut) (lo hi here : Nat) : Nat := S.foldl (stp lo hi here) (here + 1)
def cbl (S : List Cut) (lo hi : Nat) : Nat → Nat → List Nat
  | 0, here => [here]
  | f + 1, here => if here < hi then here :: cbl S lo hi f (nxt S lo hi here) else [here]
/-- the corners of the part beneath (lo, hi) -/
def cb (S : List Cut) (lo hi : Nat) : List Nat := cbl S lo hi (hi - lo) lo

theorem fold_ge {lo hi here : Nat} : ∀ (S : List Cut) (far : Nat), far ≤ S.foldl (stp lo hi here) far
  | [], _ => Nat.le_refl _
  | c :: S, far => by
    rw [List.foldl_cons]
    refine Nat.le_trans ?_ (fold_ge S _)
    unfold stp
    split <;> omega
theorem fold_le {lo hi here : Nat} : ∀ (S : List Cut) (far : Nat), far ≤ hi → S.foldl (stp lo hi here) far ≤ hi
  | [], _, h => h
  | c :: S, far, h => by
    rw [List.foldl_cons]
    refine fold_le S _ ?_
    unfold stp
    split <;> omega
theorem fold_src {lo hi here : Nat} : ∀ (S : List Cut) (far : Nat), S.foldl (stp lo hi here) far = far ∨ ((here, S.foldl (stp lo hi here) far) ∈ S ∧ (here, S.foldl (stp lo hi here) far) ≠ (lo, hi))
  | [], _ => .inl rfl
  | c :: S, far => by
    rw [List.foldl_cons]
    rcases fold_src S (stp lo hi here far c) with h | ⟨h1, h2⟩
    · rw [h]
      unfold stp
      split
      · rename_i q
        obtain ⟨q1, q2, q3, q4⟩ := q
        have e : (here, c.2) = c := by rw [← q1]
        refine .inr ⟨?_, ?_⟩
        · rw [e]; exact List.mem_cons_self
        · rw [e]; exact q4
      · exact .inl rfl
    · exact .inr ⟨List.mem_cons_of_mem _ h1, h2⟩
theorem fold_max {lo hi here b : Nat} (hb : b ≤ hi) (hne : (here, b) ≠ (lo, hi)) : ∀ (S : List Cut) (far : Nat), (here, b) ∈ S → b ≤ S.foldl (stp lo hi here) far
  | [], _, h => absurd h (by simp)
  | c :: S, far, h => by
    rw [List.foldl_cons]
    rcases List.mem_cons.mp h with h | h
    · subst h
      refine Nat.le_trans ?_ (fold_ge S _)
      unfold stp
      split
      · exact Nat.le_refl _
      · rename_i q
        by_cases l : far < b
        · exact absurd ⟨rfl, l, hb, hne⟩ q
        · omega
    · exact fold_max hb hne S _ h
section
variable {S : List Cut} {lo hi here : Nat}
theorem nxt_gt : here < nxt S lo hi here := fold_ge S (here + 1)
theorem nxt_le (h : here < hi) : nxt S lo hi here ≤ hi := fold_le S _ h
theorem nxt_src : nxt S lo hi here = here + 1 ∨ ((here, nxt S lo hi here) ∈ S ∧ (here, nxt S lo hi here) ≠ (lo, hi)) := fold_src S _
theorem nxt_max {b : Nat} (h : (here, b) ∈ S) (hb : b ≤ hi) (hne : (here, b) ≠ (lo, hi)) : b ≤ nxt S lo hi here := fold_max hb hne S _ h

inductive Ch (S : List Cut) (lo hi : Nat) : Nat → List Nat → Prop
  | done : Ch S lo hi hi [hi]
  | step {here : Nat} {l : List Nat} : here < hi → Ch S lo hi (nxt S lo hi here) l → Ch S lo hi here (here :: l)
theorem cbl_ch : ∀ (f here : Nat), here ≤ hi → hi ≤ here + f → Ch S lo hi here (cbl S lo hi f here)
  | 0, here, h1, h2 => by
    obtain rfl : here = hi := by omega
    exact .done
  | f + 1, here, h1, h2 => by
    unfold cbl
    by_cases h : here < hi
    · rw [if_pos h]
      have := @nxt_gt S lo hi here
      exact .step h (cbl_ch f _ (nxt_le h) (by omega))
    · rw [if_neg h]
      obtain rfl : here = hi := by omega
      exact .done
theorem cb_ch (h : lo ≤ hi) : Ch S lo hi lo (cb S lo hi) := cbl_ch _ _ h (by omega)
theorem Ch.head {l : List Nat} (h : Ch S lo hi here l) : here ∈ l := by
  cases h <;> exact List.mem_cons_self
theorem Ch.last {l : List Nat} (h : Ch S lo hi here l) : hi ∈ l := by
  induction h with
  | done => exact List.mem_cons_self
  | step _ _ ih => exact List.mem_cons_of_mem _ ih
theorem Ch.le {l : List Nat} (h : Ch S lo hi here l) : here ≤ hi := by
  cases h with
  | done => exact Nat.le_refl _
  | step h _ => omega
theorem Ch.bd {l : List Nat} (h : Ch S lo hi here l) : ∀ c ∈ l, here ≤ c ∧ c ≤ hi := by
  induction h with
  | done => intro c hc; have : c = hi := by simpa using hc
            omega
  | @step here l h _ ih =>
    intro c hc
    rcases List.mem_cons.mp hc with rfl | hc
    · omega
    · have := ih c hc; have := @nxt_gt S lo hi here; omega
theorem Ch.asc {l : List Nat} (h : Ch S lo hi here l) : l.Pairwise (· < ·) := by
  induction h with
  | done => exact List.pairwise_singleton _ _
  | @step here l h t ih =>
    refine List.pairwise_cons.mpr ⟨fun c hc => ?_, ih⟩
    have := t.bd c hc; have := @nxt_gt S lo hi here; omega
/-- between which corners a place lies -/
theorem Ch.btw {l : List Nat} (h : Ch S lo hi here l) {x : Nat} (h1 : here ≤ x) (h2 : x < hi) : ∃ c c', c ∈ l ∧ c' ∈ l ∧ c ≤ x ∧ x < c' ∧ c < hi ∧ c' = nxt S lo hi c ∧ ∀ z ∈ l, ¬ (c < z ∧ z < c') := by
  induction h with
  | done => omega
  | @step here l h t ih =>
    by_cases q : nxt S lo hi here ≤ x
    · obtain ⟨c, c', a1, a2, a3, a4, a5, a6, a7⟩ := ih q
      refine ⟨c, c', List.mem_cons_of_mem _ a1, List.mem_cons_of_mem _ a2, a3, a4, a5, a6, fun z hz => ?_⟩
      rcases List.mem_cons.mp hz with rfl | hz
      · have := t.bd c a1; have := @nxt_gt S lo hi z; omega
      · exact a7 z hz
    · refine ⟨here, nxt S lo hi here, List.mem_cons_self, List.mem_cons_of_mem _ t.head, h1, by omega, h, rfl, fun z hz => ?_⟩
      rcases List.mem_cons.mp hz with rfl | hz
      · omega
      · have := t.bd z hz; omega
theorem Ch.len {l : List Nat} (h : Ch S lo hi here l) : 1 ≤ l.length := by
  cases h <;> simp
end

/-- the leaves that stand for a part: the last one beneath each of its sides -/
def kp (C : List Nat) (lo : Nat) (v : Nat) : Bool := decide (lo ≤ v ∧ v + 1 ∈ C)
theorem kp_iff {C : List Nat} {lo v : Nat} : kp C lo v = true ↔ lo ≤ v ∧ v + 1 ∈ C := decide_eq_true_iff
section
variable {S : List Cut} {lo hi : Nat}
/-- two corners beside each other have one kept leaf between them -/
theorem cn_side {C : List Nat} {c c' : Nat} (h1 : c' ∈ C) (h2 : lo ≤ c) (h3 : c < c') (h4 : ∀ z ∈ C, ¬ (c < z ∧ z < c')) : cn (kp C lo) c' = cn (kp C lo) c + 1 := by
  obtain ⟨d, rfl⟩ : ∃ d, c' = d + 1 := ⟨c' - 1, by omega⟩
  rw [cn, if_pos (kp_iff.mpr ⟨by omega, h1⟩)]
  have : cn (kp C lo) d = cn (kp C lo) c := by
    refine Nat.le_antisymm (Nat.le_of_not_lt fun z => ?_) (cn_mono _ (by omega))
    obtain ⟨v, a, b, k⟩ := cn_has z
    exact h4 (v + 1) (kp_iff.mp k).2 ⟨by omega, by omega⟩
  rw [this]
theorem cn_low {C : List Nat} : cn (kp C lo) lo = 0 := by
  refine Nat.le_zero.mp (Nat.le_of_not_lt fun z => ?_)
  obtain ⟨v, _, b, k⟩ := cn_has (x := 0) z
  have := (kp_iff.mp k).1
  omega
theorem cn_at {here : Nat} {C l : List Nat} (h : Ch S lo hi here l) (h0 : lo ≤ here) (hC : ∀ c, here ≤ c → (c ∈ C ↔ c ∈ l)) : ∀ (i c : Nat), l[i]? = some c → cn (kp C lo) c = cn (kp C lo) here + i := by
  induction h with
  | done =>
    intro i c e
    cases i with
    | zero => simp at e; subst e; rfl
    | succ i => simp at e
  | @step here l h t ih =>
    intro i c e
    cases i with
    | zero => simp at e; subst e; rfl
    | succ i =>
      have g := @nxt_gt S lo hi here
      have hC' : ∀ c, nxt S lo hi here ≤ c → (c ∈ C ↔ c ∈ l) := fun c hc => by
        rw [hC c (by omega), List.mem_cons]
        exact ⟨fun z => z.elim (fun z => by omega) id, .inr⟩
      have r := ih (by omega) hC' i c (by simpa using e)
      have s := cn_side (C := C) (lo := lo) (c := here) (c' := nxt S lo hi here) ((hC' _ (Nat.le_refl _)).mpr t.head) h0 g fun z hz q => by
        have := (hC z (by omega)).mp hz
        rcases List.mem_cons.mp this with rfl | hz
        · omega
        · have := t.bd z hz; omega
      rw [r, s]; omega
end

/-- P = (lo, hi) is a node of t, S nodes of t -/
structure Sh (S : List Cut) (t : B) (lo hi : Nat) : Prop where
  sub : ∀ e ∈ S, e ∈ nodes t 0
  top : (lo, hi) ∈ nodes t 0
section
variable {S : List Cut} {t : B} {lo hi : Nat}
theorem Sh.lt (h : Sh S t lo hi) : lo + 2 ≤ hi := (nodes_bd h.top).2.1
theorem Sh.ch (h : Sh S t lo hi) : Ch S lo hi lo (cb S lo hi) := cb_ch (by have := h.lt; omega)
abbrev kk (S : List Cut) (lo hi : Nat) : Nat → Bool := kp (cb S lo hi) lo
theorem Sh.kin (h : Sh S t lo hi) {v : Nat} (k : kk S lo hi v = true) : lo ≤ v ∧ v < hi := by
  obtain ⟨a, b⟩ := kp_iff.mp k
  have := h.ch.bd _ b
  omega
/-- a longer side is a shared cut -/
theorem side_node (h : Sh S t lo hi) {c : Nat} (hc : nxt S lo hi c ≠ c + 1) : (c, nxt S lo hi c) ∈ S ∧ (c, nxt S lo hi c) ≠ (lo, hi) := nxt_src.resolve_left hc
/-- what lies beneath a side has one kept leaf at most -/
theorem beneath (h : Sh S t lo hi) {c c' x y : Nat} (h4 : ∀ z ∈ cb S lo hi, ¬ (c < z ∧ z < c')) (hx : c ≤ x) (hy : y ≤ c') : cn (kk S lo hi) y ≤ cn (kk S lo hi) x + 1 := by
  refine Nat.le_of_not_lt fun z => ?_
  by_cases hxy : x ≤ y
  · obtain ⟨v, a, b, k⟩ := cn_has (show cn (kk S lo hi) x < cn (kk S lo hi) y by omega)
    have e1 : cn (kk S lo hi) (v + 1) = cn (kk S lo hi) v + 1 := by rw [cn, if_pos k]
    by_cases q : cn (kk S lo hi) (v + 1) < cn (kk S lo hi) y
    · obtain ⟨v', a', b', k'⟩ := cn_has q
      exact h4 (v + 1) (kp_iff.mp k).2 ⟨by omega, by omega⟩
    · obtain ⟨v', a', b', k'⟩ := cn_has (show cn (kk S lo hi) x < cn (kk S lo hi) v by omega)
      exact h4 (v' + 1) (kp_iff.mp k').2 ⟨by omega, by omega⟩
  · have := cn_mono (kk S lo hi) (show y ≤ x by omega)
    omega
/-- a node that parts kept leaves lies within, its ends are corners -/
theorem fwd (h : Sh S t lo hi) {x m y : Nat} (ht : (x, m, y) ∈ tri t 0) (h1 : cn (kk S lo hi) x < cn (kk S lo hi) m) (h2 : cn (kk S lo hi) m < cn (kk S lo hi) y) :
    lo ≤ x ∧ y ≤ hi ∧ x ∈ cb S lo hi ∧ y ∈ cb S lo hi ∧ ((x, y) = (lo, hi) ∨ (x, y) ∉ S) := by
  have hn := tri_node ht
  have bt := tri_bd ht
  dsimp only at bt
  have ch := h.ch
  have two : ∀ {c c' : Nat}, (∀ z ∈ cb S lo hi, ¬ (c < z ∧ z < c')) → c ≤ x → y ≤ c' → False := fun h4 hx hy => by
    have := beneath h h4 hx hy
    omega
  have apart : y ≤ lo ∨ hi ≤ x → False := fun q => by
    obtain ⟨v, a, b, k⟩ := cn_has h1
    have := h.kin k
    omega
  have bx : lo ≤ x ∧ y ≤ hi := by
    rcases tri_lam ht h.top with q | q | q | q | q <;> dsimp only at q
    · exact absurd q fun q => apart (.inr q)
    · exact absurd q fun q => apart (.inl q)
    · exact q
    · obtain ⟨v, a, b, k⟩ := cn_has h2
      have := h.kin k
      omega
    · obtain ⟨v, a, b, k⟩ := cn_has h1
      have := h.kin k
      omega
  obtain ⟨bx, byy⟩ := bx
  refine ⟨bx, byy, ?_, ?_, ?_⟩
  · obtain ⟨c, c', a1, a2, a3, a4, a5, a6, a7⟩ := ch.btw bx (by omega)
    by_cases q : c = x
    · rw [← q]; exact a1
    · have s := side_node h (c := c) (by omega)
      rw [← a6] at s
      rcases laminar hn (h.sub _ s.1) with z | z | z | z <;> dsimp only at z
      · omega
      · omega
      · omega
      · exact (two a7 z.1 z.2).elim
  · by_cases q : y = hi
    · rw [q]; exact ch.last
    · obtain ⟨c, c', a1, a2, a3, a4, a5, a6, a7⟩ := ch.btw (x := y - 1) (by omega) (by omega)
      by_cases q : c' = y
      · rw [← q]; exact a2
      · have s := side_node h (c := c) (by omega)
        rw [← a6] at s
        rcases laminar hn (h.sub _ s.1) with z | z | z | z <;> dsimp only at z
        · omega
        · omega
        · omega
        · exact (two a7 z.1 z.2).elim
  · by_cases q : (x, y) ∈ S
    · by_cases e : (x, y) = (lo, hi)
      · exact .inl e
      · refine absurd ?_ (fun z : False => z)
        obtain ⟨c, c', a1, a2, a3, a4, a5, a6, a7⟩ := ch.btw bx (by omega)
        by_cases cx : c = x
        · subst cx
          have := nxt_max q byy e
          exact two a7 (Nat.le_refl _) (by omega)
        · have s := side_node h (c := c) (by omega)
          rw [← a6] at s
          rcases laminar hn (h.sub _ s.1) with z | z | z | z <;> dsimp only at z
          · omega
          · omega
          · omega
          · exact two a7 z.1 z.2
    · exact .inr q
/-- .. and the other way round -/
theorem bwd (h : Sh S t lo hi) {x m y : Nat} (ht : (x, m, y) ∈ tri t 0) (hx : x ∈ cb S lo hi) (hy : y ∈ cb S lo hi) (hne : (x, y) = (lo, hi) ∨ (x, y) ∉ S) :
    cn (kk S lo hi) x < cn (kk S lo hi) m ∧ cn (kk S lo hi) m < cn (kk S lo hi) y := by
  have ch := h.ch
  have bt := tri_bd ht
  have b1 := ch.bd x hx
  have b2 := ch.bd y hy
  dsimp only at bt
  refine ⟨?_, cn_kept (v := y - 1) (by omega) (by omega) (kp_iff.mpr ⟨by omega, by rw [Nat.sub_add_cancel (by omega)]; exact hy⟩)⟩
  obtain ⟨c, c', a1, a2, a3, a4, a5, a6, a7⟩ := ch.btw b1.1 (by omega)
  obtain rfl : c = x := by
    refine Nat.le_antisymm a3 (Nat.le_of_not_lt fun z => a7 x hx ⟨z, a4⟩)
  by_cases q : c' ≤ m
  · exact cn_kept (v := c' - 1) (by omega) (by omega) (kp_iff.mpr ⟨by omega, by rw [Nat.sub_add_cancel (by omega)]; exact a2⟩)
  · exfalso
    have s := side_node h (c := c) (by omega)
    rw [← a6] at s
    rcases tri_lam ht (h.sub _ s.1) with z | z | z | z | z <;> dsimp only at z
    · omega
    · omega
    · have : c' = y := by
        refine Nat.le_antisymm (Nat.le_of_not_lt fun w => a7 y hy ⟨by omega, w⟩) z.2
      subst this
      rcases hne with e | e
      · exact s.2 e
      · exact e s.1
    · omega
    · omega
/-- inside, a node with two kept leaves parts them -/
theorem parts (h : Sh S t lo hi) {x m y : Nat} (ht : (x, m, y) ∈ tri t 0) (hx : lo ≤ x) (hy : y ≤ hi) (h2 : cn (kk S lo hi) x + 2 ≤ cn (kk S lo hi) y) :
    cn (kk S lo hi) x < cn (kk S lo hi) m ∧ cn (kk S lo hi) m < cn (kk S lo hi) y := by
  have ch := h.ch
  have hn := tri_node ht
  have bt := tri_bd ht
  dsimp only at bt
  have two : ∀ {c c' : Nat}, (∀ z ∈ cb S lo hi, ¬ (c < z ∧ z < c')) → c ≤ x → y ≤ c' → False := fun h4 hx hy => by
    have := beneath h h4 hx hy
    omega
  have hxc : x ∈ cb S lo hi := by
    obtain ⟨c, c', a1, a2, a3, a4, a5, a6, a7⟩ := ch.btw hx (by omega)
    by_cases q : c = x
    · rw [← q]; exact a1
    · have s := side_node h (c := c) (by omega)
      rw [← a6] at s
      rcases laminar hn (h.sub _ s.1) with z | z | z | z <;> dsimp only at z
      · omega
      · omega
      · omega
      · exact (two a7 z.1 z.2).elim
  have hyc : y ∈ cb S lo hi := by
    by_cases q : y = hi
    · rw [q]; exact ch.last
    · obtain ⟨c, c', a1, a2, a3, a4, a5, a6, a7⟩ := ch.btw (x := y - 1) (by omega) (by omega)
      by_cases q : c' = y
      · rw [← q]; exact a2
      · have s := side_node h (c := c) (by omega)
        rw [← a6] at s
        rcases laminar hn (h.sub _ s.1) with z | z | z | z <;> dsimp only at z
        · omega
        · omega
        · omega
        · exact (two a7 z.1 z.2).elim
  refine bwd h ht hxc hyc ?_
  by_cases e : (x, y) = (lo, hi)
  · exact .inl e
  · refine .inr fun q => ?_
    obtain ⟨c, c', a1, a2, a3, a4, a5, a6, a7⟩ := ch.btw hx (by omega)
    by_cases cx : c = x
    · subst cx
      have := nxt_max q hy e
      exact two a7 (Nat.le_refl _) (by omega)
    · have s := side_node h (c := c) (by omega)
      rw [← a6] at s
      rcases laminar hn (h.sub _ s.1) with z | z | z | z <;> dsimp only at z
      · omega
      · omega
      · omega
      · exact two a7 z.1 z.2

/-- what a tree is in a part -/
def pc (S : List Cut) (lo hi : Nat) (t : B) : B := (rs (kk S lo hi) t 0).getD lf
theorem cn_top (h : Sh S t lo hi) : cn (kk S lo hi) hi = (cb S lo hi).length - 1 := by
  have ch := h.ch
  have e : (cb S lo hi)[(cb S lo hi).length - 1]? = some hi := by
    have : ∀ {here : Nat} {l : List Nat}, Ch S lo hi here l → l[l.length - 1]? = some hi := by
      intro here l c
      induction c with
      | done => rfl
      | @step here l a b ih =>
        have := b.len
        rw [List.length_cons, show l.length + 1 - 1 = (l.length - 1) + 1 by omega, List.getElem?_cons_succ]
        exact ih
    exact this ch
  rw [cn_at ch (Nat.le_refl _) (fun c _ => Iff.rfl) _ _ e, cn_low, Nat.zero_add]
theorem cn_all (h : Sh S t lo hi) {s : B} (hs : s.sz = t.sz) : cn (kk S lo hi) (0 + s.sz + 1) = (cb S lo hi).length - 1 := by
  rw [← cn_top h]
  have b := nodes_bd h.top
  dsimp only at b
  refine Nat.le_antisymm (Nat.le_of_not_lt fun z => ?_) (cn_mono _ (by omega))
  obtain ⟨v, p, q, k⟩ := cn_has z
  have := h.kin k
  omega
theorem len2 (h : Sh S t lo hi) : 2 ≤ (cb S lo hi).length := by
  have a := cn_top h
  have : 0 < cn (kk S lo hi) hi := by
    have := cn_kept (K := kk S lo hi) (x := 0) (v := hi - 1) (y := hi) (Nat.zero_le _) (by have := h.lt; omega) (kp_iff.mpr ⟨by have := h.lt; omega, by rw [Nat.sub_add_cancel (by have := h.lt; omega)]; exact h.ch.last⟩)
    omega
  omega
/-- for any tree of as many knots -/
theorem pc_rs (h : Sh S t lo hi) {s : B} (hs : s.sz = t.sz) : rs (kk S lo hi) s 0 = some (pc S lo hi s) ∧ (pc S lo hi s).sz + 2 = (cb S lo hi).length := by
  have a := cn_all h hs
  have b := len2 h
  obtain ⟨p, hp⟩ := rs_some (K := kk S lo hi) (t := s) (o := 0) (by rw [a]; show 0 < _; omega)
  have c := rs_cn.2 p hp
  have e : pc S lo hi s = p := by unfold pc; rw [hp]; rfl
  rw [e]
  refine ⟨hp, ?_⟩
  rw [a] at c
  have : cn (kk S lo hi) 0 = 0 := rfl
  omega
/-- its cuts, counted anew -/
theorem pc_nodes (h : Sh S t lo hi) (e : Cut) : e ∈ nodes (pc S lo hi t) 0 ↔ ∃ x y, (x, y) ∈ nodes t 0 ∧ x ∈ cb S lo hi ∧ y ∈ cb S lo hi ∧ ((x, y) = (lo, hi) ∨ (x, y) ∉ S) ∧ e = (cn (kk S lo hi) x, cn (kk S lo hi) y) := by
  have r := rs_nodes (pc_rs h rfl).1 e
  rw [show cn (kk S lo hi) 0 = 0 from rfl] at r
  rw [r]
  constructor
  · rintro ⟨x, m, y, ht, h1, h2, h3⟩
    obtain ⟨_, _, a, b, c⟩ := fwd h ht h1 h2
    exact ⟨x, y, tri_node ht, a, b, c, h3⟩
  · rintro ⟨x, y, hn, a, b, c, d⟩
    obtain ⟨m, ht⟩ := node_tri hn
    obtain ⟨h1, h2⟩ := bwd h ht a b c
    exact ⟨x, m, y, ht, h1, h2, d⟩
theorem cn_inj (h : Sh S t lo hi) {x y : Nat} (hx : x ∈ cb S lo hi) (hy : y ∈ cb S lo hi) (e : cn (kk S lo hi) x = cn (kk S lo hi) y) : x = y := by
  have ch := h.ch
  have lt : ∀ {x y : Nat}, x ∈ cb S lo hi → y ∈ cb S lo hi → x < y → cn (kk S lo hi) x < cn (kk S lo hi) y := fun {x y} hx hy l => by
    have b1 := ch.bd x hx
    exact cn_kept (v := y - 1) (by omega) (by omega) (kp_iff.mpr ⟨by omega, by rw [Nat.sub_add_cancel (by omega)]; exact hy⟩)
  rcases Nat.lt_trichotomy x y with l | l | l
  · have := lt hx hy l; omega
  · exact l
  · have := lt hy hx l; omega
/-- a turn of the piece is a turn of the tree -/
theorem lift (h : Sh S t lo hi) {p' : B} (a : Adj (pc S lo hi t) p') : ∃ t', Adj t t' ∧ pc S lo hi t' = p' := by
  have r := (pc_rs h rfl).1
  have L := lift_rot (K := kk S lo hi) (fun v k => h.kin k) (fun x m y ht h1 h2 h3 => parts h ht h1 h2 h3) (.inl h.top) r (p' := p')
  rcases a with a | a
  · obtain ⟨t', b, c⟩ := L.1 a
    exact ⟨t', .inl b, by unfold pc; rw [c]; rfl⟩
  · obtain ⟨t', b, c⟩ := L.2 a
    exact ⟨t', .inr b, by unfold pc; rw [c]; rfl⟩
end
end Kn

set_option Elab.async false
set_option linter.all false
/-! KnE: the distance is the sum over the pieces. Plain Lean. -/
namespace Kn
open B

theorem nodup_le {α : Type} [DecidableEq α] : ∀ {l m : List α}, l.Nodup → (∀ x ∈ l, x ∈ m) → l.length ≤ m.length
  | [], _, _, _ => Nat.zero_le _
  | a :: l, m, h, k => by
    have ha := k a List.mem_cons_self
    obtain ⟨h1, h2⟩ := List.nodup_cons.mp h
    have ih := nodup_le (m := m.erase a) h2 fun x hx => (List.mem_erase_of_ne (fun e : x = a => h1 (e ▸ hx))).mpr (k x (List.mem_cons_of_mem _ hx))
    have e := List.length_erase_of_mem ha
    have p := List.length_pos_of_mem ha
    rw [List.length_cons]
    omega
theorem nodup_perm {α : Type} [DecidableEq α] : ∀ {l m : List α}, l.Nodup → m.Nodup → (∀ x, x ∈ l ↔ x ∈ m) → l.Perm m
  | [], m, _, _, k => by
    cases m with
    | nil => exact .nil
    | cons a m => exact absurd ((k a).mpr List.mem_cons_self) (by simp)
  | a :: l, m, h, h', k => by
    obtain ⟨h1, h2⟩ := List.nodup_cons.mp h
    have ha := (k a).mp List.mem_cons_self
    refine (List.Perm.cons a (nodup_perm h2 (h'.erase a) fun x => ?_)).trans (List.perm_cons_erase ha).symm
    rw [h'.mem_erase_iff, ← k x, List.mem_cons]
    exact ⟨fun z => ⟨fun e => h1 (e ▸ z), .inr z⟩, fun z => z.2.resolve_left z.1⟩
theorem sum_near {α : Type} {f g : α → Nat} {P0 : α} (h0 : f P0 ≤ g P0 + 1) : ∀ {l : List α}, l.Nodup → (∀ P ∈ l, P ≠ P0 → f P = g P) → (l.map f).sum ≤ (l.map g).sum + 1
  | [], _, _ => Nat.zero_le _
  | a :: l, h, k => by
    obtain ⟨h1, h2⟩ := List.nodup_cons.mp h
    rw [List.map_cons, List.map_cons, List.sum_cons, List.sum_cons]
    by_cases e : a = P0
    · subst e
      have q : l.map f = l.map g := List.map_congr_left fun P hP => k P (List.mem_cons_of_mem _ hP) fun e => h1 (e ▸ hP)
      rw [q]; omega
    · have := sum_near h0 h2 fun P hP => k P (List.mem_cons_of_mem _ hP)
      rw [k a List.mem_cons_self e]; omega
theorem sum_down {α : Type} {f g : α → Nat} {P0 : α} (h0 : g P0 + 1 = f P0) : ∀ {l : List α}, l.Nodup → P0 ∈ l → (∀ P ∈ l, P ≠ P0 → f P = g P) → (l.map g).sum + 1 = (l.map f).sum
  | [], _, h, _ => absurd h (by simp)
  | a :: l, h, hm, k => by
    obtain ⟨h1, h2⟩ := List.nodup_cons.mp h
    rw [List.map_cons, List.map_cons, List.sum_cons, List.sum_cons]
    by_cases e : a = P0
    · subst e
      have q : l.map f = l.map g := List.map_congr_left fun P hP => k P (List.mem_cons_of_mem _ hP) fun e => h1 (e ▸ hP)
      rw [q]; omega
    · have := sum_down h0 h2 ((List.mem_cons.mp hm).resolve_left fun z => e z.symm) fun P hP => k P (List.mem_cons_of_mem _ hP)
      rw [k a List.mem_cons_self e]; omega
theorem sum_pos {α : Type} {f : α → Nat} : ∀ {l : List α}, (l.map f).sum ≠ 0 → ∃ P ∈ l, f P ≠ 0
  | [], h => absurd rfl h
  | a :: l, h => by
    by_cases e : f a = 0
    · rw [List.map_cons, List.sum_cons, e, Nat.zero_add] at h
      obtain ⟨P, a, b⟩ := sum_pos h
      exact ⟨P, List.mem_cons_of_mem _ a, b⟩
    · exact ⟨a, List.mem_cons_self, e⟩
theorem sum_zero {α : Type} {f : α → Nat} {l : List α} (h : (l.map f).sum = 0) : ∀ P ∈ l, f P = 0 := fun P hP => by
  induction l with
  | nil => exact absurd hP (by simp)
  | cons a l ih =>
    rw [List.map_cons, List.sum_cons] at h
    rcases List.mem_cons.mp hP with rfl | hP
    · omega
    · exact ih (by omega) hP

/-- what stands beneath: the whole board and the shared cuts -/
def tops (S : List Cut) (n : Nat) : List Cut := (0, n + 1) :: S
def psl (S : List Cut) (n : Nat) : List Cut := (tops S n).filter fun P => decide (3 < (cb S P.1 P.2).length)
noncomputable def far (S : List Cut) (n : Nat) (t o : B) : Nat := ((psl S n).map fun P => dist (pc S P.1 P.2 t) (pc S P.1 P.2 o)).sum

/-- S are cuts of r, each once -/
structure Cuts (S : List Cut) (r : B) : Prop where
  nd : S.Nodup
  sub : ∀ e ∈ S, e ∈ nodes r 0
  ne : ∀ e ∈ S, e ≠ (0, r.sz + 1)
  pos : r ≠ lf
section
variable {S : List Cut} {r t t' o : B} {P Q : Cut}
theorem Cuts.sh (h : Cuts S r) (hP : P ∈ tops S r.sz) : Sh S r P.1 P.2 := by
  refine ⟨h.sub, ?_⟩
  rcases List.mem_cons.mp hP with rfl | hP
  · have := root_mem h.pos 0
    rw [Nat.zero_add] at this
    exact this
  · exact h.sub _ hP
theorem Cuts.tnd (h : Cuts S r) : (tops S r.sz).Nodup := List.nodup_cons.mpr ⟨fun z => h.ne _ z rfl, h.nd⟩
/-- a shared cut within another part lies beneath one of its sides -/
theorem block (h : Cuts S r) (hP : P ∈ tops S r.sz) (hQ : Q ∈ S) (ne : Q ≠ P) (h1 : P.1 ≤ Q.1) (h2 : Q.2 ≤ P.2) :
    ∃ c c', c ≤ Q.1 ∧ Q.2 ≤ c' ∧ ∀ z ∈ cb S P.1 P.2, ¬ (c < z ∧ z < c') := by
  have sh := h.sh hP
  have bq := nodes_bd (h.sub Q hQ)
  obtain ⟨c, c', a1, a2, a3, a4, a5, a6, a7⟩ := sh.ch.btw h1 (by omega)
  refine ⟨c, c', a3, ?_, a7⟩
  by_cases cx : c = Q.1
  · subst cx
    rw [a6]
    exact nxt_max hQ h2 ne
  · have s := side_node sh (c := c) (by omega)
    rw [← a6] at s
    rcases laminar (h.sub Q hQ) (h.sub _ s.1) with z | z | z | z <;> dsimp only at z <;> omega
theorem tops_in (h : Cuts S r) (hP : P ∈ tops S r.sz) (hQ : Q ∈ tops S r.sz) (ne : Q ≠ P) (h1 : P.1 ≤ Q.1) (h2 : Q.2 ≤ P.2) : Q ∈ S := by
  rcases List.mem_cons.mp hQ with rfl | hQ
  · have := nodes_bd (h.sh hP).top
    refine absurd ?_ ne
    exact Prod.ext (by dsimp only at *; omega) (by dsimp only at *; omega)
  · exact hQ
/-- three stretches beside each other meet the leaves of one part at most -/
theorem sep (h : Cuts S r) (hP : P ∈ tops S r.sz) (hQ : Q ∈ tops S r.sz) (ne : P ≠ Q) {x m1 m2 y : Nat}
    (p1 : cn (kk S P.1 P.2) x < cn (kk S P.1 P.2) m1) (p2 : cn (kk S P.1 P.2) m1 < cn (kk S P.1 P.2) m2) (p3 : cn (kk S P.1 P.2) m2 < cn (kk S P.1 P.2) y)
    (q1 : cn (kk S Q.1 Q.2) x < cn (kk S Q.1 Q.2) m1) (q2 : cn (kk S Q.1 Q.2) m1 < cn (kk S Q.1 Q.2) m2) (q3 : cn (kk S Q.1 Q.2) m2 < cn (kk S Q.1 Q.2) y) : False := by
  have sP := h.sh hP
  have sQ := h.sh hQ
  obtain ⟨a, _, a2, ka⟩ := cn_has p1
  obtain ⟨b, b1, b2, kb⟩ := cn_has p2
  obtain ⟨c, c1, _, kc⟩ := cn_has p3
  obtain ⟨a', _, a2', ka'⟩ := cn_has q1
  obtain ⟨b', b1', b2', kb'⟩ := cn_has q2
  obtain ⟨c', c1', _, kc'⟩ := cn_has q3
  have := sP.kin ka; have := sP.kin kb; have := sP.kin kc
  have := sQ.kin ka'; have := sQ.kin kb'; have := sQ.kin kc'
  rcases laminar sP.top sQ.top with z | z | z | z <;> dsimp only at z
  · omega
  · omega
  · obtain ⟨u, v, h1, h2, h3⟩ := block h hP (tops_in h hP hQ (fun e => ne e.symm) z.1 z.2) (fun e => ne e.symm) z.1 z.2
    exact h3 (b + 1) (kp_iff.mp kb).2 ⟨by omega, by omega⟩
  · obtain ⟨u, v, h1, h2, h3⟩ := block h hQ (tops_in h hQ hP ne z.1 z.2) ne z.1 z.2
    exact h3 (b' + 1) (kp_iff.mp kb').2 ⟨by omega, by omega⟩

/-- a turn turns one piece at most -/
theorem turn_one (h : Cuts S r) (hz : t.sz = r.sz) (a : Adj t t') : ∃ P0, (∀ P ∈ tops S r.sz, P ≠ P0 → pc S P.1 P.2 t = pc S P.1 P.2 t') ∧ (∀ P ∈ tops S r.sz, pc S P.1 P.2 t = pc S P.1 P.2 t' ∨ Adj (pc S P.1 P.2 t) (pc S P.1 P.2 t')) := by
  have go : ∀ {s s' : B}, Rot s s' → s.sz = r.sz → ∃ P0, (∀ P ∈ tops S r.sz, P ≠ P0 → pc S P.1 P.2 s = pc S P.1 P.2 s') ∧ (∀ P ∈ tops S r.sz, pc S P.1 P.2 s = pc S P.1 P.2 s' ∨ Rot (pc S P.1 P.2 s) (pc S P.1 P.2 s')) := by
    intro s s' ro hs
    obtain ⟨x, m1, m2, y, R⟩ := rot_at ro 0
    have two : ∀ P ∈ tops S r.sz, pc S P.1 P.2 s = pc S P.1 P.2 s' ∨ (Rot (pc S P.1 P.2 s) (pc S P.1 P.2 s') ∧ cn (kk S P.1 P.2) x < cn (kk S P.1 P.2) m1 ∧ cn (kk S P.1 P.2) m1 < cn (kk S P.1 P.2) m2 ∧ cn (kk S P.1 P.2) m2 < cn (kk S P.1 P.2) y) := by
      intro P hP
      by_cases c : cn (kk S P.1 P.2) x < cn (kk S P.1 P.2) m1 ∧ cn (kk S P.1 P.2) m1 < cn (kk S P.1 P.2) m2 ∧ cn (kk S P.1 P.2) m2 < cn (kk S P.1 P.2) y
      · obtain ⟨p, p', e, e', q⟩ := R.yes _ c.1 c.2.1 c.2.2
        refine .inr ⟨?_, c⟩
        unfold pc
        rw [e, e']
        exact q
      · refine .inl ?_
        unfold pc
        rw [R.no _ c]
    by_cases ex : ∃ P0 ∈ tops S r.sz, cn (kk S P0.1 P0.2) x < cn (kk S P0.1 P0.2) m1 ∧ cn (kk S P0.1 P0.2) m1 < cn (kk S P0.1 P0.2) m2 ∧ cn (kk S P0.1 P0.2) m2 < cn (kk S P0.1 P0.2) y
    · obtain ⟨P0, h0, c0⟩ := ex
      refine ⟨P0, fun P hP ne => ?_, fun P hP => (two P hP).imp_right (·.1)⟩
      rcases two P hP with e | ⟨_, c⟩
      · exact e
      · exact (sep h hP h0 ne c.1 c.2.1 c.2.2 c0.1 c0.2.1 c0.2.2).elim
    · refine ⟨(0, 0), fun P hP _ => ?_, fun P hP => (two P hP).imp_right (·.1)⟩
      rcases two P hP with e | ⟨_, c⟩
      · exact e
      · exact (ex ⟨P, hP, c⟩).elim
  rcases a with a | a
  · obtain ⟨P0, h1, h2⟩ := go a hz
    exact ⟨P0, h1, fun P hP => (h2 P hP).imp_right .inl⟩
  · obtain ⟨P0, h1, h2⟩ := go a (a.sz.trans hz)
    exact ⟨P0, fun P hP ne => (h1 P hP ne).symm, fun P hP => (h2 P hP).imp Eq.symm .inr⟩
theorem psl_sub {n : Nat} (hP : P ∈ psl S n) : P ∈ tops S n := (List.mem_filter.mp hP).1
theorem psl_nd (h : Cuts S r) : (psl S r.sz).Nodup := h.tnd.sublist List.filter_sublist
theorem pc_sz (h : Cuts S r) (hP : P ∈ tops S r.sz) (hz : t.sz = r.sz) : (pc S P.1 P.2 t).sz + 2 = (cb S P.1 P.2).length := (pc_rs (h.sh hP) hz).2
theorem pc_szz (h : Cuts S r) (hP : P ∈ tops S r.sz) (hz : t.sz = r.sz) (hz' : t'.sz = r.sz) : (pc S P.1 P.2 t).sz = (pc S P.1 P.2 t').sz := by
  have := pc_sz h hP hz; have := pc_sz h hP hz'; omega
theorem far_adj (h : Cuts S r) (hz : t.sz = r.sz) (ho : o.sz = r.sz) (a : Adj t t') : far S r.sz t o ≤ far S r.sz t' o + 1 := by
  obtain ⟨P0, h1, h2⟩ := turn_one h hz a
  unfold far
  by_cases q : P0 ∈ psl S r.sz
  · refine sum_near (P0 := P0) ?_ (psl_nd h) fun P hP ne => by rw [h1 P (psl_sub hP) ne]
    rcases h2 P0 (psl_sub q) with e | e
    · rw [e]; omega
    · exact (dist_adj (pc_szz h (psl_sub q) hz ho) e).2
  · have e : (psl S r.sz).map (fun P => dist (pc S P.1 P.2 t) (pc S P.1 P.2 o)) = (psl S r.sz).map (fun P => dist (pc S P.1 P.2 t') (pc S P.1 P.2 o)) := List.map_congr_left fun P hP => by rw [h1 P (psl_sub hP) fun e => q (e ▸ hP)]
    rw [e]; omega
theorem far_self : far S r.sz o o = 0 := by
  unfold far
  have : ∀ l : List Cut, (l.map fun P => dist (pc S P.1 P.2 o) (pc S P.1 P.2 o)).sum = 0 := fun l => by
    induction l with
    | nil => rfl
    | cons a l ih => rw [List.map_cons, List.sum_cons, ih, dist_self]
  exact this _
theorem far_walk (h : Cuts S r) {k : Nat} (w : Walk k t o) : t.sz = r.sz → far S r.sz t o ≤ k := by
  induction w with
  | nil => intro _; rw [far_self]; exact Nat.le_refl _
  | @cons k s t u a w ih =>
    intro hz
    have := far_adj h hz (w.sz.symm.trans (a.sz.symm.trans hz)) a
    have := ih (a.sz.symm.trans hz)
    omega
/-- the cut that goes is not shared where a piece turns -/
theorem gone_not (h : Cuts S r) (hz : t.sz = r.sz) (hP : P ∈ tops S r.sz) (a : Adj t t') (ne : pc S P.1 P.2 t ≠ pc S P.1 P.2 t') {g c : Cut} (T : Turn 0 t t' g c) : g ∉ S := by
  intro hg
  have sP := h.sh hP
  rcases a with a | a
  · obtain ⟨x, m1, m2, y, R⟩ := rot_at a 0
    obtain rfl := T.gone_eq R.t
    by_cases c : cn (kk S P.1 P.2) x < cn (kk S P.1 P.2) m1 ∧ cn (kk S P.1 P.2) m1 < cn (kk S P.1 P.2) m2 ∧ cn (kk S P.1 P.2) m2 < cn (kk S P.1 P.2) y
    · obtain ⟨a, a1, a2, ka⟩ := cn_has c.1
      obtain ⟨b, b1, b2, kb⟩ := cn_has c.2.1
      obtain ⟨d, d1, d2, kd⟩ := cn_has c.2.2
      have := sP.kin ka; have := sP.kin kb; have := sP.kin kd
      rcases laminar (h.sub _ hg) sP.top with z | z | z | z <;> dsimp only at z
      · omega
      · omega
      · omega
      · by_cases e : (x, m2) = P
        · have e2 : m2 = P.2 := congrArg Prod.snd e
          omega
        · obtain ⟨u, v, h1, h2, h3⟩ := block h hP hg e z.1 z.2
          exact h3 (a + 1) (kp_iff.mp ka).2 ⟨by dsimp only at h1; omega, by dsimp only at h2; omega⟩
    · exact ne (by unfold pc; rw [R.no _ c])
  · obtain ⟨x, m1, m2, y, R⟩ := rot_at a 0
    obtain rfl := T.gone_eq R.t.symm
    by_cases c : cn (kk S P.1 P.2) x < cn (kk S P.1 P.2) m1 ∧ cn (kk S P.1 P.2) m1 < cn (kk S P.1 P.2) m2 ∧ cn (kk S P.1 P.2) m2 < cn (kk S P.1 P.2) y
    · obtain ⟨a, a1, a2, ka⟩ := cn_has c.1
      obtain ⟨b, b1, b2, kb⟩ := cn_has c.2.1
      obtain ⟨d, d1, d2, kd⟩ := cn_has c.2.2
      have := sP.kin ka; have := sP.kin kb; have := sP.kin kd
      rcases laminar (h.sub _ hg) sP.top with z | z | z | z <;> dsimp only at z
      · omega
      · omega
      · omega
      · by_cases e : (m1, y) = P
        · have e2 : m1 = P.1 := congrArg Prod.fst e
          omega
        · obtain ⟨u, v, h1, h2, h3⟩ := block h hP hg e z.1 z.2
          exact h3 (b + 1) (kp_iff.mp kb).2 ⟨by dsimp only at h1; omega, by dsimp only at h2; omega⟩
    · exact ne (by unfold pc; rw [R.no _ c])
/-- as long as a piece is away, a knot may be turned that brings it nearer -/
theorem down (h : Cuts S t) (ho : o.sz = t.sz) (hf : far S t.sz t o ≠ 0) : ∃ k t' g, up t k = some t' ∧ (nodes t 0)[k]? = some g ∧ g ∉ S ∧ far S t.sz t' o + 1 = far S t.sz t o := by
  obtain ⟨P, hP, hd⟩ := sum_pos hf
  have hT := psl_sub hP
  obtain ⟨p', a, e⟩ := dist_down (pc_szz h hT rfl ho) hd
  obtain ⟨t', a', e'⟩ := lift (h.sh hT) a
  obtain ⟨k, hk⟩ := adj_up a'
  obtain ⟨_, g, c, T, hg⟩ := up_turn t 0 k t' hk
  have ne : pc S P.1 P.2 t ≠ pc S P.1 P.2 t' := fun z => by rw [← e', ← z] at e; omega
  refine ⟨k, t', g, hk, hg, gone_not h rfl hT a' ne T, ?_⟩
  obtain ⟨P0, h1, h2⟩ := turn_one h rfl a'
  have e0 : P = P0 := Classical.byContradiction fun z => ne (h1 P hT z)
  subst e0
  exact sum_down (P0 := P) (by rw [e']; exact e) (psl_nd h) hP fun Q hQ n => by rw [h1 Q (psl_sub hQ) n]
/-- a turn whose cut is not shared keeps the shared ones -/
theorem Cuts.turn (h : Cuts S t) {g c : Cut} (a : Adj t t') (T : Turn 0 t t' g c) (hg : g ∉ S) : Cuts S t' := by
  refine ⟨h.nd, fun e he => ?_, fun e he => by rw [← a.sz]; exact h.ne e he, fun z => ?_⟩
  · rcases T.fw e (h.sub e he) with rfl | q
    · exact absurd he hg
    · exact q
  · have := a.sz
    rw [z] at this
    exact h.pos (sz_zero this)
/-- no turn brings it nearer by two -/
theorem far_two (h : Cuts S t) (ho : o.sz = t.sz) (a : Adj t t') : far S t.sz t o ≤ far S t.sz t' o + 1 := far_adj h rfl ho a

theorem small_eq : ∀ {s t : B}, s.sz = t.sz → s.sz ≤ 1 → s = t
  | lf, t, h, _ => (sz_zero h.symm).symm
  | nd l r, lf, h, _ => by simp only [sz] at h; omega
  | nd l r, nd l' r', h, k => by
    simp only [sz] at h k
    rw [sz_zero (t := l) (by omega), sz_zero (t := r) (by omega), sz_zero (t := l') (by omega), sz_zero (t := r') (by omega)]
/-- a cut lies in a part -/
theorem in_part (h : Cuts S t) {e : Cut} (he : e ∈ nodes t 0) (hS : e ∉ S) : ∃ P ∈ tops S t.sz, e.1 ∈ cb S P.1 P.2 ∧ e.2 ∈ cb S P.1 P.2 := by
  have be := nodes_bd he
  have ex : ∃ d, ∃ P ∈ tops S t.sz, P.1 ≤ e.1 ∧ e.2 ≤ P.2 ∧ P.2 - P.1 = d := ⟨_, (0, t.sz + 1), List.mem_cons_self, Nat.zero_le _, by dsimp only; omega, rfl⟩
  obtain ⟨d, ⟨P, hP, h1, h2, h3⟩, hmin⟩ := least ex
  have sP := h.sh hP
  have lt := sP.lt
  have no : ∀ Q ∈ S, Q ≠ P → P.1 ≤ Q.1 → Q.2 ≤ P.2 → Q.1 ≤ e.1 → e.2 ≤ Q.2 → False := fun Q hQ ne q1 q2 q3 q4 => by
    have := hmin _ ⟨Q, List.mem_cons_of_mem _ hQ, q3, q4, rfl⟩
    have : Q.1 = P.1 := by omega
    have : Q.2 = P.2 := by omega
    exact ne (Prod.ext (by assumption) (by assumption))
  refine ⟨P, hP, ?_, ?_⟩
  · obtain ⟨c, c', a1, a2, a3, a4, a5, a6, a7⟩ := sP.ch.btw h1 (by omega)
    by_cases q : c = e.1
    · rw [← q]; exact a1
    · have s := side_node sP (c := c) (by omega)
      rw [← a6] at s
      have b1 := sP.ch.bd c a1
      have b2 := sP.ch.bd c' a2
      rcases laminar he (h.sub _ s.1) with z | z | z | z <;> dsimp only at z
      · omega
      · omega
      · omega
      · exact (no _ s.1 s.2 b1.1 b2.2 z.1 z.2).elim
  · obtain ⟨c, c', a1, a2, a3, a4, a5, a6, a7⟩ := sP.ch.btw (x := e.2 - 1) (by omega) (by omega)
    by_cases q : c' = e.2
    · rw [← q]; exact a2
    · have s := side_node sP (c := c) (by omega)
      rw [← a6] at s
      have b1 := sP.ch.bd c a1
      have b2 := sP.ch.bd c' a2
      rcases laminar he (h.sub _ s.1) with z | z | z | z <;> dsimp only at z
      · omega
      · omega
      · omega
      · exact (no _ s.1 s.2 b1.1 b2.2 z.1 z.2).elim
/-- all pieces there: the tree is the other one -/
theorem there (h : Cuts S t) (k : Cuts S o) (ho : o.sz = t.sz) (hf : far S t.sz t o = 0) : t = o := by
  have all : ∀ P ∈ tops S t.sz, pc S P.1 P.2 t = pc S P.1 P.2 o := fun P hP => by
    have z := pc_szz h hP (t := t) (t' := o) rfl ho
    by_cases q : 3 < (cb S P.1 P.2).length
    · exact dist_zero z (sum_zero hf P (List.mem_filter.mpr ⟨hP, decide_eq_true q⟩))
    · have := pc_sz h hP (t := t) rfl
      exact small_eq z (by omega)
  refine incl_eq (o := 0) ho.symm fun e he => ?_
  by_cases hS : e ∈ S
  · exact k.sub e hS
  · obtain ⟨P, hP, e1, e2⟩ := in_part h he hS
    have m : (cn (kk S P.1 P.2) e.1, cn (kk S P.1 P.2) e.2) ∈ nodes (pc S P.1 P.2 t) 0 := (pc_nodes (h.sh hP) _).mpr ⟨e.1, e.2, he, e1, e2, .inr hS, rfl⟩
    rw [all P hP] at m
    have sk := k.sh (P := P) (by rw [ho]; exact hP)
    obtain ⟨x, y, hn, hx, hy, _, q⟩ := (pc_nodes sk _).mp m
    have q1 : e.1 = x := cn_inj sk e1 hx (congrArg Prod.fst q)
    have q2 : e.2 = y := cn_inj sk e2 hy (congrArg Prod.snd q)
    have : e = (x, y) := Prod.ext q1 q2
    rw [this]; exact hn
theorem far_there : ∀ (n : Nat) {t : B}, Cuts S t → Cuts S o → o.sz = t.sz → far S t.sz t o = n → Walk n t o
  | 0, t, h, k, ho, hf => by rw [there h k ho hf]; exact .nil _
  | n + 1, t, h, k, ho, hf => by
    obtain ⟨i, t', g, hu, hg, hS, e⟩ := down h ho (by omega)
    obtain ⟨a, g', c, T, hg'⟩ := up_turn t 0 i t' hu
    rw [hg] at hg'
    cases hg'
    have := far_there n (h.turn a T hS) k (ho.trans a.sz) (by rw [← a.sz]; omega)
    exact .cons a this
/-- THE SUM: how far apart, by the pieces -/
theorem far_dist (h : Cuts S t) (k : Cuts S o) (ho : o.sz = t.sz) : far S t.sz t o = dist t o :=
  Nat.le_antisymm (far_walk h (dist_spec ho.symm).1 rfl) (dist_le (far_there _ h k ho rfl))

/-- unshared cuts -/
def unsh (t o : B) : Nat := ((nodes t 0).filter fun e => decide (e ∉ nodes o 0)).length
theorem unsh_walk {k : Nat} (w : Walk k t o) : unsh t o ≤ k := by
  induction w with
  | nil t =>
    refine Nat.le_of_eq (List.length_eq_zero_iff.mpr (List.filter_eq_nil_iff.mpr fun e he => ?_))
    simp [he]
  | @cons k s t u a w ih =>
    obtain ⟨i, hi⟩ := adj_up a
    obtain ⟨_, g, c, T, _⟩ := up_turn s 0 i t hi
    unfold unsh at ih ⊢
    have : ((nodes s 0).filter fun e => decide (e ∉ nodes u 0)).length ≤ (g :: (nodes t 0).filter fun e => decide (e ∉ nodes u 0)).length := by
      refine nodup_le ((nodes_nodup s 0).sublist List.filter_sublist) fun e he => ?_
      obtain ⟨h1, h2⟩ := List.mem_filter.mp he
      rcases T.fw e h1 with z | z
      · rw [z]; exact List.mem_cons_self
      · exact List.mem_cons_of_mem _ (List.mem_filter.mpr ⟨z, h2⟩)
    rw [List.length_cons] at this
    omega
/-- a piece has no more knots than one and the unshared cuts -/
theorem piece_small (h : Cuts S t) (hS : ∀ e ∈ nodes t 0, e ∈ nodes o 0 → e ≠ (0, t.sz + 1) → e ∈ S) (hP : P ∈ tops S t.sz) : (pc S P.1 P.2 t).sz ≤ unsh t o + 1 := by
  have sP := h.sh hP
  have r := pc_rs sP (s := t) rfl
  have e0 : cn (kk S P.1 P.2) P.1 = 0 := cn_low
  have e1 : cn (kk S P.1 P.2) P.2 = (pc S P.1 P.2 t).sz + 1 := by rw [cn_top sP]; omega
  have nd := nodes_nodup (pc S P.1 P.2 t) 0
  have : ((nodes (pc S P.1 P.2 t) 0).erase (0, (pc S P.1 P.2 t).sz + 1)).length ≤ (((nodes t 0).filter fun e => decide (e ∉ nodes o 0)).map fun e => (cn (kk S P.1 P.2) e.1, cn (kk S P.1 P.2) e.2)).length := by
    refine nodup_le (nd.erase _) fun e he => ?_
    obtain ⟨n1, he⟩ := nd.mem_erase_iff.mp he
    obtain ⟨x, y, hn, hx, hy, c, q⟩ := (pc_nodes sP e).mp he
    have nP : (x, y) ≠ P := fun z => n1 (by rw [q, ← e1, ← e0]; rw [← z])
    have nS : (x, y) ∉ S := c.resolve_left nP
    refine List.mem_map.mpr ⟨(x, y), List.mem_filter.mpr ⟨hn, decide_eq_true fun z => ?_⟩, q.symm⟩
    refine nS (hS _ hn z fun w => nP ?_)
    have b1 := sP.ch.bd x hx
    have b2 := sP.ch.bd y hy
    have b3 := nodes_bd sP.top
    have w1 : x = 0 := congrArg Prod.fst w
    have w2 : y = t.sz + 1 := congrArg Prod.snd w
    exact Prod.ext (by dsimp only at *; omega) (by dsimp only at *; omega)
  rw [List.length_map] at this
  have l1 := List.length_erase (a := (0, (pc S P.1 P.2 t).sz + 1)) (l := nodes (pc S P.1 P.2 t) 0)
  rw [nodes_len] at l1
  unfold unsh
  split at l1 <;> omega
end
end Kn

set_option Elab.async false
set_option linter.all false
/-! KnF: a tree wheeled round its board. Plain Lean. -/
namespace Kn
open B

theorem nodes_shift : ∀ (t : B) (o : Nat), nodes t (o + 1) = (nodes t o).map fun e => (e.1 + 1, e.2 + 1)
  | lf, _ => rfl
  | nd l r, o => by
    rw [nodes, nodes, List.map_append, List.map_cons, nodes_shift l, show o + 1 + l.sz + 1 = (o + l.sz + 1) + 1 by omega, nodes_shift r]
    congr 2
    exact Prod.ext rfl (by dsimp only; omega)
/-- on by one corner -/
def wh1 : B → B → B
  | lf, x => x
  | nd l r, x => wh1 r (nd x l)
def shc (M : Nat) (c : Cut) : Cut := if c.2 = M then (0, c.1 + 1) else (c.1 + 1, c.2 + 1)
theorem wh1_sz : ∀ (t x : B), (wh1 t x).sz = t.sz + x.sz
  | lf, x => by simp only [wh1, sz]; omega
  | nd l r, x => by rw [wh1, wh1_sz r]; simp only [sz]; omega
theorem wh1_nodes : ∀ (t x : B) (o M : Nat), x.sz = o → M = o + t.sz + 1 → ∀ e, e ∈ nodes (wh1 t x) 0 ↔ e ∈ nodes x 0 ∨ (∃ c ∈ nodes t o, c ≠ (o, M) ∧ e = shc M c) ∨ (t ≠ lf ∧ e = (0, M))
  | lf, x, o, M, hx, hM, e => by
    simp [wh1, nodes]
  | nd l r, x, o, M, hx, hM, e => by
    have eM : M = o + l.sz + 1 + r.sz + 1 := by rw [hM]; simp only [sz]; omega
    rw [wh1, wh1_nodes r (nd x l) (o + l.sz + 1) M (by simp only [sz]; omega) eM e, mem_nd, hx, Nat.zero_add, nodes_shift l]
    constructor
    · rintro ((h | h | h) | ⟨c, hc, ne, h⟩ | ⟨hr, h⟩)
      · exact .inl h
      · by_cases hr : r = lf
        · subst hr
          refine .inr (.inr ⟨by simp, ?_⟩)
          rw [h, eM]; exact Prod.ext rfl (by simp only [sz]; omega)
        · refine .inr (.inl ⟨(o + l.sz + 1, M), mem_nd.mpr (.inr (.inr (by rw [eM]; exact root_mem hr _))), fun z => ?_, ?_⟩)
          · have := congrArg Prod.fst z
            dsimp only at this
            omega
          · unfold shc
            rw [if_pos rfl, h]
            exact Prod.ext rfl (by dsimp only; omega)
      · obtain ⟨c, hc, rfl⟩ := List.mem_map.mp h
        have b := nodes_bd hc
        refine .inr (.inl ⟨c, mem_nd.mpr (.inl hc), fun z => ?_, ?_⟩)
        · have := congrArg Prod.snd z
          dsimp only at this
          omega
        · unfold shc
          rw [if_neg (by omega)]
      · have b := nodes_bd hc
        refine .inr (.inl ⟨c, mem_nd.mpr (.inr (.inr hc)), fun z => ?_, h⟩)
        have := congrArg Prod.fst z
        dsimp only at this
        omega
      · exact .inr (.inr ⟨by simp, h⟩)
    · rintro (h | ⟨c, hc, ne, h⟩ | ⟨_, h⟩)
      · exact .inl (.inl h)
      · rcases mem_nd.mp hc with hc | hc | hc
        · have b := nodes_bd hc
          refine .inl (.inr (.inr (List.mem_map.mpr ⟨c, hc, ?_⟩)))
          rw [h]
          unfold shc
          rw [if_neg (by omega)]
        · exact absurd (hc.trans (by rw [eM])) ne
        · by_cases q : c = (o + l.sz + 1, M)
          · refine .inl (.inr (.inl ?_))
            rw [h, q]
            unfold shc
            rw [if_pos rfl]
            exact Prod.ext rfl (by dsimp only; omega)
          · exact .inr (.inl ⟨c, hc, q, h⟩)
      · by_cases hr : r = lf
        · subst hr
          refine .inl (.inr (.inl ?_))
          rw [h, eM]; exact Prod.ext rfl (by simp only [sz]; omega)
        · exact .inr (.inr ⟨hr, h⟩)
theorem wh1_acc : ∀ (t : B) {x x' : B}, Adj x x' → Adj (wh1 t x) (wh1 t x')
  | lf, _, _, h => h
  | nd l r, _, _, h => wh1_acc r (h.left l)
theorem wh1_rot {t t' : B} (h : Rot t t') : ∀ x, Adj (wh1 t x) (wh1 t' x) := by
  induction h with
  | root a b c => intro x; exact wh1_acc c (.inr (.root x a b))
  | left r h _ => intro x; exact wh1_acc r (Adj.right x (.inl h))
  | right l _ ih => intro x; exact ih _
theorem wh1_adj {t t' : B} (h : Adj t t') (x : B) : Adj (wh1 t x) (wh1 t' x) := h.elim (fun h => wh1_rot h x) fun h => (wh1_rot h x).symm
def wh : Nat → B → B
  | 0, t => t
  | j + 1, t => wh1 (wh j t) lf
theorem wh_sz (j : Nat) (t : B) : (wh j t).sz = t.sz := by
  induction j with
  | zero => rfl
  | succ j ih => rw [wh, wh1_sz, ih]; rfl
theorem wh_ne (j : Nat) {t : B} (h : t ≠ lf) : wh j t ≠ lf := fun e => by
  have := wh_sz j t
  rw [e] at this
  exact h (sz_zero this.symm)
theorem wh_add (i j : Nat) (t : B) : wh (i + j) t = wh i (wh j t) := by
  induction i with
  | zero => rw [Nat.zero_add]; rfl
  | succ i ih => rw [Nat.add_right_comm, wh, ih]; rfl
theorem wh_adj (j : Nat) {t t' : B} (h : Adj t t') : Adj (wh j t) (wh j t') := by
  induction j with
  | zero => exact h
  | succ j ih => exact wh1_adj ih lf
theorem wh_walk (j : Nat) {k : Nat} {s t : B} (h : Walk k s t) : Walk k (wh j s) (wh j t) := by
  induction h with
  | nil => exact .nil _
  | cons a _ ih => exact .cons (wh_adj j a) ih

/-- a cut moved on by j corners of N -/
def nrm (N j : Nat) (c : Cut) : Cut := (min ((c.1 + j) % N) ((c.2 + j) % N), max ((c.1 + j) % N) ((c.2 + j) % N))
theorem mod_succ {a N : Nat} (h : 0 < N) : (a + 1) % N = if a % N = N - 1 then 0 else a % N + 1 := by
  have hl := Nat.mod_lt a h
  have e : (a + 1) % N = (a % N + 1) % N := by rw [Nat.mod_add_mod]
  rw [e]
  split
  · rename_i q
    rw [q, Nat.sub_add_cancel h, Nat.mod_self]
  · exact Nat.mod_eq_of_lt (by omega)
theorem mod_ne {a b N j : Nat} (h : a < b) (h' : b < N) : (a + j) % N ≠ (b + j) % N := fun e => by
  have q := Nat.sub_mod_eq_zero_of_mod_eq e.symm
  rw [show b + j - (a + j) = b - a by omega, Nat.mod_eq_of_lt (by omega)] at q
  omega
theorem nrm_succ {N j : Nat} {c : Cut} (h : c.1 < c.2) (h' : c.2 < N) : nrm N (j + 1) c = shc (N - 1) (nrm N j c) := by
  have hN : 0 < N := by omega
  have ne := mod_ne (j := j) h h'
  unfold nrm shc
  rw [← Nat.add_assoc, ← Nat.add_assoc, mod_succ hN, mod_succ hN]
  have h1 := Nat.mod_lt (c.1 + j) hN
  have h2 := Nat.mod_lt (c.2 + j) hN
  generalize (c.1 + j) % N = a at *
  generalize (c.2 + j) % N = b at *
  dsimp only
  by_cases qa : a = N - 1 <;> by_cases qb : b = N - 1
  · omega
  · rw [if_pos qa, if_neg qb, if_pos (by omega)]
    exact Prod.ext (by dsimp only; omega) (by dsimp only; omega)
  · rw [if_neg qa, if_pos qb, if_pos (by omega)]
    exact Prod.ext (by dsimp only; omega) (by dsimp only; omega)
  · rw [if_neg qa, if_neg qb, if_neg (by omega)]
    exact Prod.ext (by dsimp only; omega) (by dsimp only; omega)
theorem nrm_zero {N : Nat} {c : Cut} (h : c.1 < c.2) (h' : c.2 < N) : nrm N 0 c = c := by
  unfold nrm
  rw [Nat.add_zero, Nat.add_zero, Nat.mod_eq_of_lt (by omega), Nat.mod_eq_of_lt h']
  exact Prod.ext (by dsimp only; omega) (by dsimp only; omega)
theorem wh_nodes {t : B} (ht : t ≠ lf) : ∀ (j : Nat) (e : Cut), e ≠ (0, t.sz + 1) → (e ∈ nodes (wh j t) 0 ↔ ∃ c ∈ nodes t 0, c ≠ (0, t.sz + 1) ∧ e = nrm (t.sz + 2) j c)
  | 0, e, he => by
    show e ∈ nodes t 0 ↔ _
    constructor
    · intro h
      have b := nodes_bd h
      exact ⟨e, h, he, (nrm_zero (by omega) (by omega)).symm⟩
    · rintro ⟨c, hc, _, rfl⟩
      have b := nodes_bd hc
      rw [nrm_zero (by omega) (by omega)]
      exact hc
  | j + 1, e, he => by
    rw [wh, wh1_nodes (wh j t) lf 0 (t.sz + 1) rfl (by rw [wh_sz]; omega) e]
    constructor
    · rintro (h | ⟨c, hc, ne, h⟩ | ⟨_, h⟩)
      · exact absurd h (by simp [nodes])
      · obtain ⟨d, hd, nd, rfl⟩ := (wh_nodes ht j c ne).mp hc
        have b := nodes_bd hd
        refine ⟨d, hd, nd, ?_⟩
        rw [h, nrm_succ (by omega) (by omega)]
        rfl
      · exact absurd h he
    · rintro ⟨d, hd, nd, h⟩
      have b := nodes_bd hd
      have eq : shc (t.sz + 1) (nrm (t.sz + 2) j d) = e := by
        rw [h, nrm_succ (by omega) (by omega)]
        rfl
      have ne : nrm (t.sz + 2) j d ≠ (0, t.sz + 1) := fun z => by
        have hN : 0 < t.sz + 2 := by omega
        have q1 : min ((d.1 + j) % (t.sz + 2)) ((d.2 + j) % (t.sz + 2)) = 0 := congrArg Prod.fst z
        have q2 : max ((d.1 + j) % (t.sz + 2)) ((d.2 + j) % (t.sz + 2)) = t.sz + 1 := congrArg Prod.snd z
        have h1 := Nat.mod_lt (d.1 + j) hN
        have h2 := Nat.mod_lt (d.2 + j) hN
        have m1 := Nat.div_add_mod (d.1 + j) (t.sz + 2)
        have m2 := Nat.div_add_mod (d.2 + j) (t.sz + 2)
        have nd' : d.2 - d.1 ≤ t.sz := by
          refine Nat.le_of_not_lt fun w => nd ?_
          exact Prod.ext (by dsimp only; omega) (by dsimp only; omega)
        generalize (d.1 + j) / (t.sz + 2) = x at *
        generalize (d.2 + j) / (t.sz + 2) = y at *
        rcases Nat.lt_trichotomy x y with l | l | l
        · by_cases l2 : y = x + 1
          · subst l2
            rw [Nat.mul_add] at m2
            omega
          · have : (t.sz + 2) * (x + 2) ≤ (t.sz + 2) * y := Nat.mul_le_mul_left _ (by omega)
            rw [Nat.mul_add] at this
            omega
        · subst l
          omega
        · have : (t.sz + 2) * (y + 1) ≤ (t.sz + 2) * x := Nat.mul_le_mul_left _ l
          rw [Nat.mul_add] at this
          omega
      exact .inr (.inl ⟨_, (wh_nodes ht j _ ne).mpr ⟨d, hd, nd, rfl⟩, ne, eq.symm⟩)
theorem wh_full {t : B} (ht : t ≠ lf) : wh (t.sz + 2) t = t := by
  refine incl_eq (o := 0) (wh_sz _ t) fun e he => ?_
  by_cases q : e = (0, t.sz + 1)
  · have := root_mem ht 0
    rw [Nat.zero_add] at this
    rw [q]; exact this
  · obtain ⟨c, hc, _, rfl⟩ := (wh_nodes ht _ e q).mp he
    have b := nodes_bd hc
    have e1 : nrm (t.sz + 2) (t.sz + 2) c = c := by
      rw [← nrm_zero (N := t.sz + 2) (c := c) (by omega) (by omega)]
      unfold nrm
      simp only [Nat.add_zero, Nat.add_mod_right, Nat.mod_mod]
      rw [Nat.mod_eq_of_lt (a := c.1) (by omega), Nat.mod_eq_of_lt (a := c.2) (by omega)]
      rw [Nat.mod_eq_of_lt (by omega), Nat.mod_eq_of_lt (by omega)]
      exact Prod.ext (by dsimp only; omega) (by dsimp only; omega)
    rw [e1]; exact hc
theorem dist_wh {s t : B} (hs : s ≠ lf) (h : s.sz = t.sz) {j : Nat} (hj : j ≤ t.sz + 2) : dist (wh j s) (wh j t) = dist s t := by
  have ht : t ≠ lf := fun e => by rw [e] at h; exact hs (sz_zero h)
  refine Nat.le_antisymm (dist_le (wh_walk j (dist_spec h).1)) ?_
  have w := wh_walk (t.sz + 2 - j) (dist_spec (show (wh j s).sz = (wh j t).sz by rw [wh_sz, wh_sz, h])).1
  have e1 : wh (t.sz + 2 - j) (wh j t) = t := by rw [← wh_add, Nat.sub_add_cancel hj, wh_full ht]
  have e2 : wh (t.sz + 2 - j) (wh j s) = s := by rw [← wh_add, Nat.sub_add_cancel hj, ← h, wh_full hs]
  rw [e1, e2] at w
  exact dist_le w
end Kn

set_option Elab.async false
set_option linter.all false
/-! KnG: the parents' list of a turned tree, places in parents' lists. Plain Lean. -/
namespace Kn
open B

def rix : B → Nat
  | lf => 0
  | nd l _ => l.sz
theorem par_left {l r : B} {o j : Nat} {a : Int} (h : j < l.sz) : (par (nd l r) o a)[j]? = (par l o ((o + l.sz : Nat) : Int))[j]? := by
  rw [par, List.getElem?_append_left (by rw [par_len]; exact h)]
theorem par_root {l r : B} {o : Nat} {a : Int} : (par (nd l r) o a)[l.sz]? = some a := by
  rw [par, List.getElem?_append_right (by rw [par_len]; exact Nat.le_refl _), par_len, Nat.sub_self]
  rfl
theorem par_right {l r : B} {o j : Nat} {a : Int} (h : l.sz < j) : (par (nd l r) o a)[j]? = (par r (o + l.sz + 1) ((o + l.sz : Nat) : Int))[j - l.sz - 1]? := by
  rw [par, List.getElem?_append_right (by rw [par_len]; omega), par_len]
  obtain ⟨i, hi⟩ : ∃ i, j - l.sz = i + 1 := ⟨j - l.sz - 1, by omega⟩
  rw [hi, List.getElem?_cons_succ]
  rfl
theorem par_rix {t : B} {o : Nat} {a : Int} (h : t ≠ lf) : (par t o a)[rix t]? = some a := by
  cases t with
  | lf => exact absurd rfl h
  | nd l r => exact par_root
theorem par_chg {t : B} {o j : Nat} {a a' : Int} (h : j ≠ rix t) : (par t o a)[j]? = (par t o a')[j]? := by
  cases t with
  | lf => rfl
  | nd l r =>
    have h : j ≠ l.sz := h
    rcases Nat.lt_or_gt_of_ne h with q | q
    · rw [par_left q, par_left q]
    · rw [par_right q, par_right q]
theorem par_val : ∀ {t : B} {o j : Nat} {a v : Int}, (par t o a)[j]? = some v → (j = rix t ∧ v = a) ∨ ((o : Int) ≤ v ∧ v < o + t.sz ∧ v ≠ o + j)
  | lf, o, j, a, v, h => by simp [par] at h
  | nd l r, o, j, a, v, h => by
    rcases Nat.lt_trichotomy j l.sz with q | q | q
    · rw [par_left q] at h
      rcases par_val h with ⟨_, rfl⟩ | ⟨h1, h2, h3⟩
      · exact .inr ⟨by omega, by simp only [sz]; omega, by omega⟩
      · exact .inr ⟨h1, by simp only [sz]; omega, h3⟩
    · subst q
      rw [par_root] at h
      cases h
      exact .inl ⟨rfl, rfl⟩
    · rw [par_right q] at h
      rcases par_val h with ⟨_, rfl⟩ | ⟨h1, h2, h3⟩
      · exact .inr ⟨by omega, by simp only [sz]; omega, by omega⟩
      · exact .inr ⟨by omega, by simp only [sz]; omega, by omega⟩
theorem par_some {t : B} {o j : Nat} {a : Int} (h : j < t.sz) : ∃ v, (par t o a)[j]? = some v := ⟨_, List.getElem?_eq_getElem (by rw [par_len]; exact h)⟩
theorem par_none {t : B} {o j : Nat} {a : Int} (h : t.sz ≤ j) : (par t o a)[j]? = none := List.getElem?_eq_none (by rw [par_len]; exact h)

/-- the parents' list behind a turn, place by place -/
structure UpPar (t t' : B) (o k : Nat) (a : Int) (ab : Nat) (g : Int) : Prop where
  lo : o ≤ ab
  hi : ab < o + t.sz
  ne : ab ≠ o + k
  hk : (par t o a)[k]? = some (ab : Int)
  hg : (par t o a)[ab - o]? = some g
  all : ∀ j, (par t' o a)[j]? = if j = k then some g else if o + j = ab then some ((o + k : Nat) : Int) else
    if (par t o a)[j]? = some ((o + k : Nat) : Int) ∧ (k < j ↔ o + k < ab) then some (ab : Int) else (par t o a)[j]?
theorem up_par : ∀ {t : B} {k : Nat} {t' : B} {o : Nat} {a : Int}, up t k = some t' → (a < o ∨ (o : Int) + t.sz ≤ a) → ∃ ab g, UpPar t t' o k a ab g
  | lf, _, _, _, _, h, _ => by simp [up] at h
  | nd l r, k, t', o, a, h, ha => by
    simp only [sz] at ha
    unfold up at h
    by_cases h1 : k < l.sz
    · rw [if_pos h1] at h
      cases l with
      | lf => simp at h
      | nd x y =>
        dsimp only at h
        by_cases h2 : k = x.sz
        · rw [if_pos h2] at h
          cases h
          subst h2
          have e1 : (nd x y).sz = x.sz + 1 + y.sz := rfl
          refine ⟨o + (nd x y).sz, a, by omega, by simp only [sz]; omega, by omega, ?_, ?_, fun j => ?_⟩
          · rw [par_left h1, par_root]
          · rw [show o + (nd x y).sz - o = (nd x y).sz by omega, par_root]
          · rcases Nat.lt_trichotomy j x.sz with q | q | q
            · rw [if_neg (by omega), if_neg (by omega), if_neg (fun z => by omega), par_left q, par_left (by omega), par_left q]
            · rw [if_pos q, q, par_root]
            · rw [if_neg (by omega), par_right q]
              rcases Nat.lt_trichotomy (j - x.sz - 1) y.sz with p | p | p
              · rw [if_neg (by omega), par_left p, par_left (by omega), par_right q]
                by_cases w : j - x.sz - 1 = rix y
                · have hy : y ≠ lf := fun z => by rw [z] at p; simp only [sz] at p; omega
                  rw [if_pos ⟨by rw [w, par_rix hy], by omega⟩, w, par_rix hy]
                  congr 2
                  omega
                · rw [if_neg (fun z => by
                    rcases par_val z.1 with u | u
                    · exact w u.1
                    · omega), par_chg w]
              · rw [if_pos (by omega), p, par_root]
              · rw [if_neg (by omega), par_right p, par_right (by omega), if_neg (fun z => by
                    rcases par_val z.1 with u | u
                    · omega
                    · omega)]
                rw [show o + x.sz + 1 + y.sz + 1 = o + (nd x y).sz + 1 by omega, show o + x.sz + 1 + y.sz = o + (nd x y).sz by omega, show j - x.sz - 1 - y.sz - 1 = j - (nd x y).sz - 1 by omega]
        · rw [if_neg h2] at h
          obtain ⟨l', hl, rfl⟩ := Option.map_eq_some_iff.mp h
          have hz := (up_turn _ o _ _ hl).1.sz
          obtain ⟨ab, g, U⟩ := up_par (o := o) (a := ((o + (nd x y).sz : Nat) : Int)) hl (.inr (by omega))
          have := U.lo; have := U.hi
          refine ⟨ab, g, U.lo, by rw [sz_nd]; omega, U.ne, by rw [par_left h1]; exact U.hk, by rw [par_left (by omega)]; exact U.hg, fun j => ?_⟩
          rcases Nat.lt_trichotomy j (nd x y).sz with q | q | q
          · rw [par_left (by omega), par_left q, ← hz]
            exact U.all j
          · rw [if_neg (by omega), if_neg (by omega), q, par_root, hz, par_root, if_neg (fun z => by have := Option.some.inj z.1; omega)]
          · rw [if_neg (by omega), if_neg (by omega), par_right (by omega), par_right q, ← hz, if_neg (fun z => by
              rcases par_val z.1 with u | u
              · omega
              · omega)]
    · rw [if_neg h1] at h
      by_cases h3 : k = l.sz
      · rw [if_pos h3] at h; cases h
      · rw [if_neg h3] at h
        cases r with
        | lf => simp at h
        | nd y c =>
          dsimp only at h
          have e1 : (nd y c).sz = y.sz + 1 + c.sz := rfl
          by_cases h2 : k - l.sz - 1 = y.sz
          · rw [if_pos h2] at h
            cases h
            have ek : k = l.sz + 1 + y.sz := by omega
            subst ek
            refine ⟨o + l.sz, a, by omega, by simp only [sz]; omega, by omega, ?_, ?_, fun j => ?_⟩
            · rw [par_right (by omega), h2, par_root]
            · rw [show o + l.sz - o = l.sz by omega, par_root]
            · have e2 : (nd l y).sz = l.sz + 1 + y.sz := rfl
              rcases Nat.lt_trichotomy j (nd l y).sz with q | q | q
              · rw [if_neg (by omega), par_left q]
                rcases Nat.lt_trichotomy j l.sz with p | p | p
                · rw [if_neg (by omega), par_left p, par_left p, if_neg (fun z => by
                      rcases par_val z.1 with u | u
                      · omega
                      · omega)]
                · rw [if_pos (by omega), p, par_root]
                  congr 2
                · rw [if_neg (by omega), par_right p, par_right p, par_left (by omega)]
                  by_cases w : j - l.sz - 1 = rix y
                  · have hy : y ≠ lf := fun z => by rw [z] at q; simp only [sz] at q; omega
                    rw [if_pos ⟨by rw [w, par_rix hy]; congr 2; omega, by omega⟩, w, par_rix hy]
                  · rw [if_neg (fun z => by
                      rcases par_val z.1 with u | u
                      · exact w u.1
                      · omega), par_chg w]
              · rw [if_pos (by omega), q, par_root]
              · rw [if_neg (by omega), if_neg (by omega), par_right q, par_right (by omega), par_right (by omega), if_neg (fun z => by omega)]
                rw [show o + (nd l y).sz + 1 = o + l.sz + 1 + y.sz + 1 by omega, show o + (nd l y).sz = o + l.sz + 1 + y.sz by omega, show j - (nd l y).sz - 1 = j - l.sz - 1 - y.sz - 1 by omega]
          · rw [if_neg h2] at h
            obtain ⟨r', hr, rfl⟩ := Option.map_eq_some_iff.mp h
            obtain ⟨ab, g, U⟩ := up_par (o := o + l.sz + 1) (a := ((o + l.sz : Nat) : Int)) hr (.inl (by omega))
            have := U.lo; have := U.hi; have := U.ne
            have ek : o + l.sz + 1 + (k - l.sz - 1) = o + k := by omega
            have ul := up_lt _ _ _ hr
            refine ⟨ab, g, by omega, by rw [sz_nd]; omega, by omega, by rw [par_right (by omega)]; exact U.hk, by rw [par_right (by omega), show ab - o - l.sz - 1 = ab - (o + l.sz + 1) by omega]; exact U.hg, fun j => ?_⟩
            rcases Nat.lt_trichotomy j l.sz with q | q | q
            · rw [if_neg (by omega), if_neg (by omega), par_left q, par_left q, if_neg (fun z => by
                rcases par_val z.1 with u | u
                · omega
                · omega)]
            · rw [if_neg (by omega), if_neg (by omega), q, par_root, par_root, if_neg (fun z => by have := Option.some.inj z.1; omega)]
            · rw [par_right q, par_right q, U.all (j - l.sz - 1), ek]
              have c1 : (j - l.sz - 1 = k - l.sz - 1) ↔ j = k := by omega
              have c2 : (o + l.sz + 1 + (j - l.sz - 1) = ab) ↔ o + j = ab := by omega
              have c3 : (k - l.sz - 1 < j - l.sz - 1) ↔ k < j := by omega
              simp only [c1, c2, c3]
end Kn

set_option Elab.async false
set_option linter.all false
/-! KnH: the program's turned, on lists. Plain Lean. -/
namespace Kn
open B

theorem par_uniq : ∀ {t : B} {o i j k : Nat} {a : Int}, (a < o ∨ (o : Int) + t.sz ≤ a) → k < t.sz → (par t o a)[i]? = some ((o + k : Nat) : Int) → (par t o a)[j]? = some ((o + k : Nat) : Int) → (i < k ↔ j < k) → i = j
  | lf, _, _, _, _, _, _, h, _, _, _ => by simp only [sz] at h; omega
  | nd l r, o, i, j, k, a, ha, hk, hi, hj, hs => by
    simp only [sz] at ha hk
    have L : ∀ {i : Nat}, i < l.sz → (par (nd l r) o a)[i]? = some ((o + k : Nat) : Int) → (k = l.sz ∧ i = rix l) ∨ (k < l.sz ∧ (par l o ((o + l.sz : Nat) : Int))[i]? = some ((o + k : Nat) : Int)) := fun {i} q h => by
      rw [par_left q] at h
      rcases par_val h with u | u
      · exact .inl ⟨by omega, u.1⟩
      · exact .inr ⟨by omega, h⟩
    have R : ∀ {i : Nat}, l.sz < i → (par (nd l r) o a)[i]? = some ((o + k : Nat) : Int) → (k = l.sz ∧ i = l.sz + 1 + rix r) ∨ (l.sz < k ∧ (par r (o + l.sz + 1) ((o + l.sz : Nat) : Int))[i - l.sz - 1]? = some ((o + l.sz + 1 + (k - l.sz - 1) : Nat) : Int)) := fun {i} q h => by
      rw [par_right q] at h
      rcases par_val h with u | u
      · exact .inl ⟨by omega, by omega⟩
      · refine .inr ⟨by omega, ?_⟩
        rw [show o + l.sz + 1 + (k - l.sz - 1) = o + k by omega]
        exact h
    have M : ∀ {i : Nat}, (par (nd l r) o a)[i]? = some ((o + k : Nat) : Int) → i ≠ l.sz := fun {i} h e => by
      rw [e, par_root] at h
      have := Option.some.inj h
      omega
    have mi := M hi
    have mj := M hj
    rcases Nat.lt_or_gt_of_ne mi with qi | qi <;> rcases Nat.lt_or_gt_of_ne mj with qj | qj
    · rcases L qi hi with ⟨u1, u2⟩ | ⟨u1, u2⟩ <;> rcases L qj hj with ⟨v1, v2⟩ | ⟨v1, v2⟩
      · rw [u2, v2]
      · omega
      · omega
      · exact par_uniq (.inr (by omega)) u1 u2 v2 hs
    · rcases L qi hi with ⟨u1, u2⟩ | ⟨u1, u2⟩ <;> rcases R qj hj with ⟨v1, v2⟩ | ⟨v1, v2⟩ <;> omega
    · rcases R qi hi with ⟨u1, u2⟩ | ⟨u1, u2⟩ <;> rcases L qj hj with ⟨v1, v2⟩ | ⟨v1, v2⟩ <;> omega
    · rcases R qi hi with ⟨u1, u2⟩ | ⟨u1, u2⟩ <;> rcases R qj hj with ⟨v1, v2⟩ | ⟨v1, v2⟩
      · omega
      · omega
      · omega
      · have := par_uniq (.inl (by omega)) (by omega) u2 v2 (by omega)
        omega

theorem par_cyc : ∀ {t : B} {o i j : Nat} {a : Int}, (a < o ∨ (o : Int) + t.sz ≤ a) → i < t.sz → j < t.sz → (par t o a)[i]? = some ((o + j : Nat) : Int) → (par t o a)[j]? = some ((o + i : Nat) : Int) → False
  | lf, _, _, _, _, _, h, _, _, _ => by simp only [sz] at h; omega
  | nd l r, o, i, j, a, ha, hi, hj, h1, h2 => by
    simp only [sz] at ha hi hj
    have M : ∀ {i k : Nat}, k < l.sz + 1 + r.sz → (par (nd l r) o a)[i]? = some ((o + k : Nat) : Int) → i ≠ l.sz := fun {i k} hk h e => by
      rw [e, par_root] at h
      have := Option.some.inj h
      omega
    have mi := M hj h1
    have mj := M hi h2
    rcases Nat.lt_or_gt_of_ne mi with qi | qi <;> rcases Nat.lt_or_gt_of_ne mj with qj | qj
    · rw [par_left qi] at h1
      rw [par_left qj] at h2
      exact par_cyc (.inr (by omega)) qi qj h1 h2
    · rw [par_left qi] at h1
      rcases par_val h1 with u | u <;> omega
    · rw [par_right qi] at h1
      rcases par_val h1 with u | u <;> omega
    · rw [par_right qi] at h1
      rw [par_right qj] at h2
      refine par_cyc (t := r) (o := o + l.sz + 1) (i := i - l.sz - 1) (j := j - l.sz - 1) (a := ((o + l.sz : Nat) : Int)) (.inl (by omega)) (by omega) (by omega) ?_ ?_
      · rw [show o + l.sz + 1 + (j - l.sz - 1) = o + j by omega]; exact h1
      · rw [show o + l.sz + 1 + (i - l.sz - 1) = o + i by omega]; exact h2

/-- the first place from lo on, among n, that holds k -/
def fd (ns : List Int) (k : Int) (lo n : Nat) : Option Nat := (List.range' lo n).find? fun j => decide (ns[j]? = some k)
theorem fd_none {ns : List Int} {k : Int} {lo n : Nat} (h : ∀ j, lo ≤ j → j < lo + n → ns[j]? ≠ some k) : fd ns k lo n = none := by
  unfold fd
  rw [List.find?_eq_none]
  intro j hj
  have := List.mem_range'_1.mp hj
  simpa using h j (by omega) (by omega)
theorem fd_some {ns : List Int} {k : Int} {lo n i : Nat} (h1 : lo ≤ i) (h2 : i < lo + n) (h : ns[i]? = some k) (hn : ∀ j, lo ≤ j → j < i → ns[j]? ≠ some k) : fd ns k lo n = some i := by
  unfold fd
  have e : List.range' lo n = List.range' lo (i - lo) ++ i :: List.range' (i + 1) (n - (i - lo) - 1) := by
    have e1 : List.range' lo n = List.range' lo (i - lo) ++ List.range' (lo + (i - lo)) (n - (i - lo)) := by
      have := @List.range'_append lo (i - lo) (n - (i - lo)) 1
      rw [Nat.one_mul] at this
      rw [this]
      congr 1
      omega
    rw [e1]
    congr 1
    have e2 : n - (i - lo) = (n - (i - lo) - 1) + 1 := by omega
    have e3 : lo + (i - lo) = i := by omega
    rw [e2, e3, List.range'_succ]
    rfl
  rw [e, List.find?_append]
  have no : (List.range' lo (i - lo)).find? (fun j => decide (ns[j]? = some k)) = none := by
    rw [List.find?_eq_none]
    intro j hj
    have := List.mem_range'_1.mp hj
    simpa using hn j (by omega) (by omega)
  rw [no, List.find?_cons, h]
  simp
theorem fd_spec {ns : List Int} {k : Int} {lo n i : Nat} (h : fd ns k lo n = some i) : lo ≤ i ∧ i < lo + n ∧ ns[i]? = some k := by
  unfold fd at h
  have a := List.find?_some h
  have b := List.mem_range'_1.mp (List.mem_of_find?_eq_some h)
  exact ⟨by omega, by omega, by simpa using a⟩
theorem fd_no {ns : List Int} {k : Int} {lo n : Nat} (h : fd ns k lo n = none) : ∀ j, lo ≤ j → j < lo + n → ns[j]? ≠ some k := fun j h1 h2 e => by
  unfold fd at h
  have := List.find?_eq_none.mp h j (List.mem_range'_1.mpr ⟨h1, by omega⟩)
  simp [e] at this
/-- what hangs at the side of k on which ab is not -/
def inn (ns : List Int) (k ab : Nat) : Option Nat := if k < ab then fd ns k (k + 1) (ns.length - (k + 1)) else fd ns k 0 k
def trn (ns : List Int) (k ab : Nat) (g : Int) : List Int :=
  let h := (ns.set k g).set ab k
  match inn ns k ab with
  | some j => h.set j ab
  | none => h
theorem trn_eq {t t' : B} {k ab : Nat} {g : Int} (U : UpPar t t' 0 k (-1) ab g) (hz : t.sz = t'.sz) (hk : k < t.sz) : trn (par t 0 (-1)) k ab g = par t' 0 (-1) := by
  have hi := U.hi; have ne := U.ne
  have hkk := U.hk
  have e0 : ∀ x : Nat, (0 + x : Nat) = x := fun x => Nat.zero_add x
  have side : ∀ j, inn (par t 0 (-1)) k ab = some j → (par t 0 (-1))[j]? = some (k : Int) ∧ (k < j ↔ k < ab) ∧ j ≠ k := fun j h => by
    unfold inn at h
    split at h
    · have := fd_spec h; exact ⟨this.2.2, by omega, by omega⟩
    · have := fd_spec h; exact ⟨this.2.2, by omega, by omega⟩
  have noside : inn (par t 0 (-1)) k ab = none → ∀ j, (par t 0 (-1))[j]? = some (k : Int) → (k < j ↔ k < ab) → False := fun h j e s => by
    have hj : j < t.sz := by
      have := (List.getElem?_eq_some_iff.mp e).1
      rw [par_len] at this; exact this
    unfold inn at h
    have njk : j ≠ k := fun z => by
      subst z
      rcases par_val e with u | u <;> omega
    split at h
    · exact fd_no h j (by omega) (by rw [par_len]; omega) e
    · exact fd_no h j (by omega) (by omega) e
  refine List.ext_getElem? fun j => ?_
  have A := U.all j
  simp only [e0] at A
  rw [A]
  have base : ((par t 0 (-1)).set k g |>.set ab (k : Int))[j]? = if j = k then some g else if j = ab then some (k : Int) else (par t 0 (-1))[j]? := by
    by_cases q1 : j = k
    · rw [if_pos q1, List.getElem?_set_ne (by omega), q1, List.getElem?_set_self (by rw [par_len]; exact hk)]
    · rw [if_neg q1]
      by_cases q2 : j = ab
      · rw [if_pos q2, q2, List.getElem?_set_self (by rw [List.length_set, par_len]; omega)]
      · rw [if_neg q2, List.getElem?_set_ne (by omega), List.getElem?_set_ne (by omega)]
  unfold trn
  cases hin : inn (par t 0 (-1)) k ab with
  | none =>
    dsimp only
    rw [base]
    by_cases q1 : j = k
    · rw [if_pos q1, if_pos q1]
    · rw [if_neg q1, if_neg q1]
      by_cases q2 : j = ab
      · rw [if_pos q2, if_pos q2]
      · rw [if_neg q2, if_neg q2, if_neg fun z => noside hin j z.1 z.2]
  | some i =>
    dsimp only
    obtain ⟨s1, s2, s3⟩ := side i hin
    have hil : i < t.sz := by
      have := (List.getElem?_eq_some_iff.mp s1).1
      rw [par_len] at this; exact this
    have niab : i ≠ ab := fun z => by
      subst z
      exact par_cyc (o := 0) (a := -1) (.inl (by omega)) hk hil (by rw [e0]; exact hkk) (by rw [e0]; exact s1)
    by_cases q : j = i
    · subst q
      rw [List.getElem?_set_self (by rw [List.length_set, List.length_set, par_len]; exact hil), if_neg s3, if_neg niab, if_pos ⟨s1, s2⟩]
    · rw [List.getElem?_set_ne (fun z => q z.symm), base]
      by_cases q1 : j = k
      · rw [if_pos q1, if_pos q1]
      · rw [if_neg q1, if_neg q1]
        by_cases q2 : j = ab
        · rw [if_pos q2, if_pos q2]
        · rw [if_neg q2, if_neg q2, if_neg fun z => q (par_uniq (o := 0) (a := -1) (.inl (by omega)) hk (by rw [e0]; exact z.1) (by rw [e0]; exact s1) (by omega))]
end Kn

set_option Elab.async false
set_option linter.all false
/-! KnI: subtrees, the knots from the root on, the stretches. Plain Lean. -/
namespace Kn
open B

/-- u stands in t at o' -/
inductive Sb : B → Nat → B → Nat → Prop
  | here (t : B) (o : Nat) : Sb t o t o
  | left {l : B} {o : Nat} {u : B} {o' : Nat} (r : B) : Sb l o u o' → Sb (nd l r) o u o'
  | right (l : B) {r : B} {o : Nat} {u : B} {o' : Nat} : Sb r (o + l.sz + 1) u o' → Sb (nd l r) o u o'
theorem Sb.bd {t u : B} {o o' : Nat} (h : Sb t o u o') : o ≤ o' ∧ o' + u.sz ≤ o + t.sz := by
  induction h with
  | here t o => exact ⟨Nat.le_refl _, Nat.le_refl _⟩
  | left r _ ih => simp only [sz]; omega
  | right l _ ih => simp only [sz]; omega
theorem Sb.trans {t u v : B} {o o' o'' : Nat} (h : Sb t o u o') (k : Sb u o' v o'') : Sb t o v o'' := by
  induction h with
  | here t o => exact k
  | left r _ ih => exact .left r (ih k)
  | right l _ ih => exact .right l (ih k)
theorem Sb.l {t l r : B} {o o' : Nat} (h : Sb t o (nd l r) o') : Sb t o l o' := h.trans (.left r (.here _ _))
theorem Sb.r {t l r : B} {o o' : Nat} (h : Sb t o (nd l r) o') : Sb t o r (o' + l.sz + 1) := h.trans (.right l (.here _ _))
theorem Sb.ex : ∀ {t : B} {o k : Nat}, k < t.sz → ∃ l r o', Sb t o (nd l r) o' ∧ o + k = o' + l.sz
  | lf, _, _, h => by simp only [sz] at h; omega
  | nd l r, o, k, h => by
    simp only [sz] at h
    rcases Nat.lt_trichotomy k l.sz with q | q | q
    · obtain ⟨a, b, o', s, e⟩ := Sb.ex (t := l) (o := o) q
      exact ⟨a, b, o', .left r s, e⟩
    · exact ⟨l, r, o, .here _ _, by omega⟩
    · obtain ⟨a, b, o', s, e⟩ := Sb.ex (t := r) (o := o + l.sz + 1) (k := k - l.sz - 1) (by omega)
      exact ⟨a, b, o', .right l s, by omega⟩
theorem Sb.uniq {t l r l' r' : B} {o o1 o2 : Nat} (h : Sb t o (nd l r) o1) : Sb t o (nd l' r') o2 → o1 + l.sz = o2 + l'.sz → l = l' ∧ r = r' ∧ o1 = o2 := by
  generalize hu : nd l r = u at h
  induction h with
  | here t o =>
    subst hu
    intro k e
    cases k with
    | here => exact ⟨rfl, rfl, rfl⟩
    | left _ k => have := k.bd; simp only [sz] at this; omega
    | right _ k => have := k.bd; simp only [sz] at this; omega
  | @left a o u o' b s ih =>
    subst hu
    intro k e
    have b1 := s.bd
    simp only [sz] at b1
    cases k with
    | here => omega
    | left _ k => exact ih rfl k e
    | right _ k => have := k.bd; simp only [sz] at this; omega
  | @right a b o u o' s ih =>
    subst hu
    intro k e
    have b1 := s.bd
    simp only [sz] at b1
    cases k with
    | here => omega
    | left _ k => have := k.bd; simp only [sz] at this; omega
    | right _ k => exact ih rfl k e
theorem Sb.node {t l r : B} {o o' : Nat} (h : Sb t o (nd l r) o') : (nodes t o)[o' + l.sz - o]? = some (o', o' + (nd l r).sz + 1) := by
  generalize hu : nd l r = u at h
  induction h with
  | here t o => subst hu; rw [show o + l.sz - o = l.sz by omega]; exact nodes_at_root l r o
  | @left a o u o' b s ih =>
    subst hu
    have b1 := s.bd
    simp only [sz] at b1
    rw [nodes_at_left (by omega)]
    exact ih rfl
  | @right a b o u o' s ih =>
    subst hu
    have b1 := s.bd
    simp only [sz] at b1
    rw [nodes_at_right (by omega), show o' + l.sz - o - a.sz - 1 = o' + l.sz - (o + a.sz + 1) by omega]
    exact ih rfl
/-- what hangs on a knot -/
theorem Sb.kids {t l r : B} {o o' : Nat} (h : Sb t o (nd l r) o') : ∀ {a : Int}, (a < o ∨ (o : Int) + t.sz ≤ a) → ∀ j, (par t o a)[j]? = some ((o' + l.sz : Nat) : Int) ↔ (l ≠ lf ∧ o + j = o' + rix l) ∨ (r ≠ lf ∧ o + j = o' + l.sz + 1 + rix r) := by
  generalize hu : nd l r = u at h
  have rlt : ∀ {u : B}, u ≠ lf → rix u < u.sz := fun {u} h => by
    cases u with
    | lf => exact absurd rfl h
    | nd a b => simp only [rix, sz]; omega
  induction h with
  | here t o =>
    subst hu
    intro a ha j
    simp only [sz] at ha
    rcases Nat.lt_trichotomy j l.sz with q | q | q
    · rw [par_left q]
      constructor
      · intro e
        rcases par_val e with v | v
        · exact .inl ⟨fun z => by rw [z] at q; simp only [sz] at q; omega, by omega⟩
        · omega
      · rintro (⟨h1, h2⟩ | ⟨h1, h2⟩)
        · rw [show j = rix l by omega, par_rix h1]
        · omega
    · rw [q, par_root]
      constructor
      · intro e; have := Option.some.inj e; omega
      · rintro (⟨h1, h2⟩ | ⟨h1, h2⟩)
        · have := rlt h1; omega
        · omega
    · rw [par_right q]
      constructor
      · intro e
        rcases par_val e with v | v
        · have := (List.getElem?_eq_some_iff.mp e).1
          rw [par_len] at this
          exact .inr ⟨fun z => by rw [z] at this; simp only [sz] at this; omega, by omega⟩
        · omega
      · rintro (⟨h1, h2⟩ | ⟨h1, h2⟩)
        · have := rlt h1; omega
        · rw [show j - l.sz - 1 = rix r by omega, par_rix h1]
  | @left x o u o' y s ih =>
    subst hu
    intro a ha j
    simp only [sz] at ha
    have b1 := s.bd
    simp only [sz] at b1
    rcases Nat.lt_trichotomy j x.sz with q | q | q
    · rw [par_left q]
      exact ih rfl (.inr (by omega)) j
    · rw [q, par_root]
      constructor
      · intro e; have := Option.some.inj e; omega
      · rintro (⟨h1, h2⟩ | ⟨h1, h2⟩)
        · have := rlt h1; omega
        · have := rlt h1; omega
    · rw [par_right q]
      constructor
      · intro e; rcases par_val e with v | v <;> omega
      · rintro (⟨h1, h2⟩ | ⟨h1, h2⟩)
        · have := rlt h1; omega
        · have := rlt h1; omega
  | @right x y o u o' s ih =>
    subst hu
    intro a ha j
    simp only [sz] at ha
    have b1 := s.bd
    simp only [sz] at b1
    rcases Nat.lt_trichotomy j x.sz with q | q | q
    · rw [par_left q]
      constructor
      · intro e; rcases par_val e with v | v <;> omega
      · rintro (⟨h1, h2⟩ | ⟨h1, h2⟩) <;> omega
    · rw [q, par_root]
      constructor
      · intro e; have := Option.some.inj e; omega
      · rintro (⟨h1, h2⟩ | ⟨h1, h2⟩) <;> omega
    · rw [par_right q, ih rfl (.inl (by omega)) (j - x.sz - 1)]
      have c1 : ∀ z, (o + x.sz + 1 + (j - x.sz - 1) = z) ↔ (o + j = z) := fun z => by omega
      simp only [c1]

theorem asc_eq : ∀ {l m : List Nat}, l.Pairwise (· < ·) → m.Pairwise (· < ·) → (∀ x, x ∈ l ↔ x ∈ m) → l = m
  | [], [], _, _, _ => rfl
  | [], y :: m, _, _, h => absurd ((h y).mpr List.mem_cons_self) (by simp)
  | x :: l, [], _, _, h => absurd ((h x).mp List.mem_cons_self) (by simp)
  | x :: l, y :: m, h1, h2, h => by
    obtain ⟨a1, a2⟩ := List.pairwise_cons.mp h1
    obtain ⟨b1, b2⟩ := List.pairwise_cons.mp h2
    have e : x = y := by
      rcases List.mem_cons.mp ((h x).mp List.mem_cons_self) with q | q
      · exact q
      · rcases List.mem_cons.mp ((h y).mpr List.mem_cons_self) with p | p
        · exact p.symm
        · have := a1 y p; have := b1 x q; omega
    subst e
    rw [asc_eq a2 b2 fun z => ?_]
    constructor
    · intro hz
      rcases List.mem_cons.mp ((h z).mp (List.mem_cons_of_mem _ hz)) with q | q
      · have := a1 z hz; omega
      · exact q
    · intro hz
      rcases List.mem_cons.mp ((h z).mpr (List.mem_cons_of_mem _ hz)) with q | q
      · have := b1 z hz; omega
      · exact q
/-- the knots below m that hang on i, ascending -/
def chl (ns : List Int) (m i : Nat) : List Nat := (List.range m).filter fun j => decide (ns[j]? = some (i : Int))
theorem chl_succ (ns : List Int) (m i : Nat) : chl ns (m + 1) i = if ns[m]? = some (i : Int) then chl ns m i ++ [m] else chl ns m i := by
  unfold chl
  rw [List.range_succ, List.filter_append]
  by_cases h : ns[m]? = some (i : Int)
  · rw [if_pos h, List.filter_cons_of_pos (by simpa using h), List.filter_nil]
  · rw [if_neg h, List.filter_cons_of_neg (by simpa using h), List.filter_nil, List.append_nil]

abbrev Spot := B × Nat
def rk (s : Spot) : Nat := s.2 + rix s.1
def kds : Spot → List Spot
  | (lf, _) => []
  | (nd l r, o) => (if l = lf then [] else [(l, o)]) ++ (if r = lf then [] else [(r, o + l.sz + 1)])
theorem chl_kds {t l r : B} {o' : Nat} (h : Sb t 0 (nd l r) o') : chl (par t 0 (-1)) t.sz (o' + l.sz) = (kds (nd l r, o')).map rk := by
  have b := h.bd
  simp only [sz] at b
  have rlt : ∀ {u : B}, u ≠ lf → rix u < u.sz := fun {u} h => by
    cases u with
    | lf => exact absurd rfl h
    | nd a b => simp only [rix, sz]; omega
  refine asc_eq ?_ ?_ fun j => ?_
  · exact List.Pairwise.sublist List.filter_sublist List.pairwise_lt_range
  · unfold kds
    by_cases hl : l = lf <;> by_cases hr : r = lf <;> simp [hl, hr, rk]
    have := rlt hl
    omega
  · unfold chl
    rw [List.mem_filter, List.mem_range, decide_eq_true_iff, h.kids (.inl (by omega)) j, Nat.zero_add]
    unfold kds
    have z0 : (lf : B).sz = 0 := rfl
    by_cases hl : l = lf <;> by_cases hr : r = lf <;> simp [hl, hr, rk]
    · have := rlt hr; omega
    · have := rlt hl; omega
    · have := rlt hl; have := rlt hr; omega

/-- a row from the root on: what is done, what waits -/
structure Bfs (t : B) (dn : List Nat) (q : List Spot) : Prop where
  sub : ∀ s ∈ q, Sb t 0 s.1 s.2 ∧ s.1 ≠ lf
  all : (dn ++ q.flatMap fun s => List.range' s.2 s.1.sz).Perm (List.range t.sz)
  ord : ∀ l r o' pre post, Sb t 0 (nd l r) o' → dn = pre ++ (o' + l.sz) :: post → ∀ s ∈ kds (nd l r, o'), rk s ∈ post ++ q.map rk
theorem kds_sub {t l r : B} {o' : Nat} (h : Sb t 0 (nd l r) o') : ∀ s ∈ kds (nd l r, o'), Sb t 0 s.1 s.2 ∧ s.1 ≠ lf := by
  intro s hs
  unfold kds at hs
  rcases List.mem_append.mp hs with q | q
  · split at q
    · cases q
    · rename_i e
      have : s = (l, o') := by simpa using q
      subst this
      exact ⟨h.l, e⟩
  · split at q
    · cases q
    · rename_i e
      have : s = (r, o' + l.sz + 1) := by simpa using q
      subst this
      exact ⟨h.r, e⟩
theorem kds_cnt {l r : B} {o' : Nat} : (kds (nd l r, o')).flatMap (fun s => List.range' s.2 s.1.sz) = List.range' o' l.sz ++ List.range' (o' + l.sz + 1) r.sz := by
  unfold kds
  rw [List.flatMap_append]
  congr 1
  · by_cases h : l = lf
    · rw [if_pos h, h]; rfl
    · rw [if_neg h]; simp
  · by_cases h : r = lf
    · rw [if_pos h, h]; rfl
    · rw [if_neg h]; simp
theorem bfs_start {t : B} (h : t ≠ lf) : Bfs t [] [(t, 0)] := by
  refine ⟨fun s hs => ?_, ?_, fun l r o' pre post _ e => ?_⟩
  · have : s = (t, 0) := by simpa using hs
    subst this
    exact ⟨.here _ _, h⟩
  · have e : ([] : List Nat) ++ ([(t, 0)] : List Spot).flatMap (fun s => List.range' s.2 s.1.sz) = List.range t.sz := by
      simp [List.range_eq_range']
    rw [e]
  · have := congrArg List.length e
    simp at this
theorem bfs_step {t : B} {dn : List Nat} {s : Spot} {q : List Spot} (h : Bfs t dn (s :: q)) : Bfs t (dn ++ [rk s]) (q ++ kds s) ∧ ∃ l r, s.1 = nd l r := by
  obtain ⟨hs, hne⟩ := h.sub s List.mem_cons_self
  obtain ⟨u, o'⟩ := s
  cases u with
  | lf => exact absurd rfl hne
  | nd l r =>
    refine ⟨⟨fun s' hs' => ?_, ?_, fun l1 r1 o1 pre post hs1 e s' hs' => ?_⟩, l, r, rfl⟩
    · rcases List.mem_append.mp hs' with m | m
      · exact h.sub s' (List.mem_cons_of_mem _ m)
      · exact kds_sub hs s' m
    · refine List.Perm.trans ?_ h.all
      rw [List.flatMap_append, kds_cnt, List.flatMap_cons, List.append_assoc]
      refine List.Perm.append_left dn ?_
      show (([o' + l.sz] : List Nat) ++ (q.flatMap (fun s => List.range' s.2 s.1.sz) ++ (List.range' o' l.sz ++ List.range' (o' + l.sz + 1) r.sz))).Perm (List.range' o' (nd l r).sz ++ q.flatMap (fun s => List.range' s.2 s.1.sz))
      have e1 : List.range' o' (nd l r).sz = List.range' o' l.sz ++ ((o' + l.sz) :: List.range' (o' + l.sz + 1) r.sz) := by
        have a := @List.range'_append o' l.sz (1 + r.sz) 1
        rw [Nat.one_mul] at a
        rw [show (nd l r).sz = l.sz + (1 + r.sz) by simp only [sz]; omega, ← a, Nat.add_comm 1 r.sz, List.range'_succ]
      rw [e1]
      generalize q.flatMap (fun s => List.range' s.2 s.1.sz) = z
      generalize List.range' o' l.sz = x
      generalize List.range' (o' + l.sz + 1) r.sz = y
      have p1 : (([o' + l.sz] : List Nat) ++ (z ++ (x ++ y))).Perm (([o' + l.sz] : List Nat) ++ ((x ++ y) ++ z)) := List.Perm.append_left _ List.perm_append_comm
      refine p1.trans ?_
      rw [← List.append_assoc, ← List.append_assoc]
      refine List.Perm.append_right z ?_
      show ((o' + l.sz) :: (x ++ y)).Perm (x ++ (o' + l.sz) :: y)
      exact List.perm_middle.symm
    · rw [List.map_append]
      rcases List.eq_nil_or_concat post with hp | ⟨post', z, hp⟩
      · subst hp
        have e2 : dn = pre ∧ rk (nd l r, o') = o1 + l1.sz := by
          have := List.append_inj' e rfl
          exact ⟨this.1, by simpa using this.2⟩
        have e3 : o' + l.sz = o1 + l1.sz := e2.2
        obtain ⟨q1, q2, q3⟩ := hs.uniq hs1 e3
        subst q1 q2 q3
        rw [List.nil_append]
        exact List.mem_append_right _ (List.mem_map_of_mem hs')
      · rw [List.concat_eq_append] at hp
        subst hp
        have e2 : dn = pre ++ (o1 + l1.sz) :: post' ∧ z = rk (nd l r, o') := by
          have e' : dn ++ [rk (nd l r, o')] = (pre ++ (o1 + l1.sz) :: post') ++ [z] := by rw [e]; simp
          have := List.append_inj' e' rfl
          exact ⟨this.1, by simpa using this.2.symm⟩
        have := h.ord l1 r1 o1 pre post' hs1 e2.1 s' hs'
        rw [List.map_cons] at this
        rw [e2.2]
        rcases List.mem_append.mp this with m | m
        · exact List.mem_append_left _ (List.mem_append_left _ m)
        · rcases List.mem_cons.mp m with m | m
          · exact List.mem_append_left _ (List.mem_append_right _ (by simp [m]))
          · exact List.mem_append_right _ (List.mem_append_left _ m)
/-- a whole row: each knot once, each ahead of what hangs on it -/
structure Row (t : B) (row : List Nat) : Prop where
  perm : row.Perm (List.range t.sz)
  ord : ∀ l r o' pre post, Sb t 0 (nd l r) o' → row = pre ++ (o' + l.sz) :: post → ∀ s ∈ kds (nd l r, o'), rk s ∈ post
theorem bfs_end {t : B} {dn : List Nat} (h : Bfs t dn []) : Row t dn := by
  refine ⟨?_, fun l r o' pre post hs e s hm => ?_⟩
  · have := h.all
    simpa using this
  · have := h.ord l r o' pre post hs e s hm
    simpa using this

/-! ### the stretches, from the row's end on -/
structure Stz (t : B) (fs ls : List Int) (post : List Nat) : Prop where
  fl : fs.length = t.sz
  ll : ls.length = t.sz
  f : ∀ l r o', Sb t 0 (nd l r) o' → fs[o' + l.sz]? = some (if l ≠ lf ∧ o' + rix l ∉ post then ((o' + l.sz : Nat) : Int) else ((o' : Nat) : Int))
  l : ∀ l r o', Sb t 0 (nd l r) o' → ls[o' + l.sz]? = some (if r ≠ lf ∧ o' + l.sz + 1 + rix r ∉ post then ((o' + l.sz : Nat) : Int) else ((o' + l.sz + r.sz : Nat) : Int))
theorem str_start {t : B} : Stz t ((List.range t.sz).map fun k => ((k : Nat) : Int)) ((List.range t.sz).map fun k => ((k : Nat) : Int)) [] := by
  refine ⟨by simp, by simp, fun l r o' h => ?_, fun l r o' h => ?_⟩
  · have b := h.bd
    simp only [sz] at b
    rw [List.getElem?_map, List.getElem?_range (by omega)]
    by_cases q : l = lf
    · subst q; simp [sz]
    · rw [if_pos ⟨q, by simp⟩]; rfl
  · have b := h.bd
    simp only [sz] at b
    rw [List.getElem?_map, List.getElem?_range (by omega)]
    by_cases q : r = lf
    · subst q; simp [sz]
    · rw [if_pos ⟨q, by simp⟩]; rfl
theorem rix_lt {u : B} (h : u ≠ lf) : rix u < u.sz := by
  cases u with
  | lf => exact absurd rfl h
  | nd a b => simp only [rix, sz]; omega
theorem mem_kds_l {l r : B} {o' : Nat} (h : l ≠ lf) : (l, o') ∈ kds (nd l r, o') := by
  show _ ∈ (if l = lf then [] else [(l, o')]) ++ (if r = lf then [] else [(r, o' + l.sz + 1)])
  rw [if_neg h]; exact List.mem_append_left _ List.mem_cons_self
theorem mem_kds_r {l r : B} {o' : Nat} (h : r ≠ lf) : (r, o' + l.sz + 1) ∈ kds (nd l r, o') := by
  show _ ∈ (if l = lf then [] else [(l, o')]) ++ (if r = lf then [] else [(r, o' + l.sz + 1)])
  rw [if_neg h]; exact List.mem_append_right _ List.mem_cons_self
/-- the next knot c of the row, from its end on; above: what it hangs on -/
theorem str_root {t : B} {fs ls : List Int} {c : Nat} {post : List Nat} (h : Stz t fs ls post) (hc : (par t 0 (-1))[c]? = some (-1)) : Stz t fs ls (c :: post) := by
  have no : ∀ l r o', Sb t 0 (nd l r) o' → (l ≠ lf → o' + rix l ≠ c) ∧ (r ≠ lf → o' + l.sz + 1 + rix r ≠ c) := fun l r o' hs => by
    have k := hs.kids (a := -1) (.inl (by omega)) c
    rw [hc] at k
    have n : ¬ (some (-1 : Int) = some ((o' + l.sz : Nat) : Int)) := fun e => by have := Option.some.inj e; omega
    refine ⟨fun hl e => n (k.mpr (.inl ⟨hl, by omega⟩)), fun hr e => n (k.mpr (.inr ⟨hr, by omega⟩))⟩
  refine ⟨h.fl, h.ll, fun l r o' hs => ?_, fun l r o' hs => ?_⟩
  · rw [h.f l r o' hs]
    by_cases q : l = lf
    · simp [q]
    · have := (no l r o' hs).1 q
      simp [q, this]
  · rw [h.l l r o' hs]
    by_cases q : r = lf
    · simp [q]
    · have := (no l r o' hs).2 q
      simp [q, this]
theorem str_step {t : B} {fs ls : List Int} {c : Nat} {pre post : List Nat} (R : Row t (pre ++ c :: post)) (h : Stz t fs ls post) {ab : Nat} (hc : (par t 0 (-1))[c]? = some (ab : Int)) :
    ∃ f1 f2 l1 l2 : Int, fs[ab]? = some f1 ∧ fs[c]? = some f2 ∧ ls[ab]? = some l1 ∧ ls[c]? = some l2 ∧ ab < t.sz ∧ c < t.sz ∧ Stz t (fs.set ab (min f1 f2)) (ls.set ab (max l1 l2)) (c :: post) := by
  have hct : c < t.sz := by
    have := (List.getElem?_eq_some_iff.mp hc).1
    rw [par_len] at this; exact this
  have hab : ab < t.sz := by
    rcases par_val hc with v | v <;> omega
  have nd' : (pre ++ c :: post).Nodup := R.perm.nodup_iff.mpr List.nodup_range
  have hcp : c ∉ post := (List.nodup_cons.mp (List.nodup_append.mp nd').2.1).1
  obtain ⟨l, r, o', hs, ec⟩ := Sb.ex (t := t) (o := 0) hct
  obtain ⟨l2, r2, o2, hs2, ea⟩ := Sb.ex (t := t) (o := 0) hab
  rw [Nat.zero_add] at ec ea
  have fc : fs[c]? = some ((o' : Nat) : Int) := by
    rw [ec, h.f l r o' hs, if_neg]
    rintro ⟨q1, q2⟩
    exact q2 (R.ord l r o' pre post hs (by rw [ec]) _ (mem_kds_l q1))
  have lc : ls[c]? = some ((o' + l.sz + r.sz : Nat) : Int) := by
    rw [ec, h.l l r o' hs, if_neg]
    rintro ⟨q1, q2⟩
    exact q2 (R.ord l r o' pre post hs (by rw [ec]) _ (mem_kds_r q1))
  have fa := h.f l2 r2 o2 hs2
  have la := h.l l2 r2 o2 hs2
  rw [← ea] at fa la
  have no : ∀ l3 r3 o3, Sb t 0 (nd l3 r3) o3 → o3 + l3.sz ≠ ab → (l3 ≠ lf → o3 + rix l3 ≠ c) ∧ (r3 ≠ lf → o3 + l3.sz + 1 + rix r3 ≠ c) := fun l3 r3 o3 hs3 n => by
    have k := hs3.kids (a := -1) (.inl (by omega)) c
    rw [hc] at k
    have n' : ¬ (some ((ab : Nat) : Int) = some ((o3 + l3.sz : Nat) : Int)) := fun e => by have := Option.some.inj e; omega
    exact ⟨fun hl e => n' (k.mpr (.inl ⟨hl, by omega⟩)), fun hr e => n' (k.mpr (.inr ⟨hr, by omega⟩))⟩
  have same : ∀ l3 r3 o3, Sb t 0 (nd l3 r3) o3 → o3 + l3.sz = ab → l3 = l2 ∧ r3 = r2 ∧ o3 = o2 := fun l3 r3 o3 hs3 e => hs3.uniq hs2 (by omega)
  refine ⟨_, _, _, _, fa, fc, la, lc, hab, hct, by rw [List.length_set]; exact h.fl, by rw [List.length_set]; exact h.ll, fun l3 r3 o3 hs3 => ?_, fun l3 r3 o3 hs3 => ?_⟩
  · by_cases e : o3 + l3.sz = ab
    · obtain ⟨rfl, rfl, rfl⟩ := same l3 r3 o3 hs3 e
      rw [e, List.getElem?_set_self (by rw [h.fl]; exact hab)]
      congr 1
      have k := (hs3.kids (a := -1) (.inl (by omega)) c).mp (by rw [hc, e])
      rcases k with ⟨k1, k2⟩ | ⟨k1, k2⟩
      · -- c hangs at the left
        have hsl := hs3.l
        have ec2 : o3 + rix l3 = c := by omega
        have : o' = o3 := by
          cases l3 with
          | lf => exact absurd rfl k1
          | nd x y =>
            have := hs.uniq hsl (by simp only [rix] at ec2; omega)
            exact this.2.2
        rw [ec2, if_pos ⟨k1, hcp⟩, if_neg (by simp)]
        omega
      · have hsr := hs3.r
        have ec2 : o3 + l3.sz + 1 + rix r3 = c := by omega
        have : o' = o3 + l3.sz + 1 := by
          cases r3 with
          | lf => exact absurd rfl k1
          | nd x y =>
            have := hs.uniq hsr (by simp only [rix] at ec2; omega)
            exact this.2.2
        have n2 : l3 ≠ lf → o3 + rix l3 ≠ c := fun q => by have := rix_lt q; omega
        by_cases q : l3 = lf
        · subst q
          simp only [ne_eq, not_true_eq_false, false_and, if_false]
          omega
        · have := n2 q
          simp only [ne_eq, q, not_false_eq_true, true_and, List.mem_cons, this, false_or]
          split <;> omega
    · rw [List.getElem?_set_ne (fun z => e z.symm), h.f l3 r3 o3 hs3]
      by_cases q : l3 = lf
      · simp [q]
      · have := (no l3 r3 o3 hs3 e).1 q
        simp [q, this]
  · by_cases e : o3 + l3.sz = ab
    · obtain ⟨rfl, rfl, rfl⟩ := same l3 r3 o3 hs3 e
      rw [e, List.getElem?_set_self (by rw [h.ll]; exact hab)]
      congr 1
      have k := (hs3.kids (a := -1) (.inl (by omega)) c).mp (by rw [hc, e])
      rcases k with ⟨k1, k2⟩ | ⟨k1, k2⟩
      · have hsl := hs3.l
        have ec2 : o3 + rix l3 = c := by omega
        have : o' = o3 ∧ l.sz + 1 + r.sz = l3.sz := by
          cases l3 with
          | lf => exact absurd rfl k1
          | nd x y =>
            obtain ⟨q1, q2, q3⟩ := hs.uniq hsl (by simp only [rix] at ec2; omega)
            exact ⟨q3, by rw [q1, q2]; rfl⟩
        have n2 : r3 ≠ lf → ab + 1 + rix r3 ≠ c := fun q => by have := rix_lt k1; omega
        by_cases q : r3 = lf
        · subst q
          simp only [ne_eq, not_true_eq_false, false_and, if_false, sz]
          omega
        · have := n2 q
          simp only [ne_eq, q, not_false_eq_true, true_and, List.mem_cons, this, false_or]
          by_cases m : ab + 1 + rix r3 ∈ post
          · simp only [m, not_true_eq_false, if_false]; omega
          · simp only [m, not_false_eq_true, if_true]; omega
      · have hsr := hs3.r
        have ec2 : o3 + l3.sz + 1 + rix r3 = c := by omega
        have ec3 : ab + 1 + rix r3 = c := by omega
        have : o' = o3 + l3.sz + 1 ∧ l.sz + 1 + r.sz = r3.sz := by
          cases r3 with
          | lf => exact absurd rfl k1
          | nd x y =>
            obtain ⟨q1, q2, q3⟩ := hs.uniq hsr (by simp only [rix] at ec2; omega)
            exact ⟨q3, by rw [q1, q2]; rfl⟩
        rw [ec3, if_pos ⟨k1, hcp⟩, if_neg (by simp)]
        omega
    · rw [List.getElem?_set_ne (fun z => e z.symm), h.l l3 r3 o3 hs3]
      by_cases q : r3 = lf
      · simp [q]
      · have := (no l3 r3 o3 hs3 e).2 q
        simp [q, this]
theorem str_end {t : B} {fs ls : List Int} {row : List Nat} (R : Row t row) (h : Stz t fs ls row) {k : Nat} (hk : k < t.sz) : ∃ x y, (nodes t 0)[k]? = some (x, y) ∧ fs[k]? = some ((x : Nat) : Int) ∧ ls[k]? = some ((y : Int) - 2) := by
  obtain ⟨l, r, o', hs, ek⟩ := Sb.ex (t := t) (o := 0) hk
  rw [Nat.zero_add] at ek
  have hn := hs.node
  rw [Nat.sub_zero, ← ek] at hn
  have mem : ∀ j, j < t.sz → j ∈ row := fun j hj => R.perm.mem_iff.mpr (List.mem_range.mpr hj)
  have b := hs.bd
  simp only [sz] at b
  refine ⟨_, _, hn, ?_, ?_⟩
  · rw [ek, h.f l r o' hs, if_neg]
    rintro ⟨q1, q2⟩
    have := rix_lt q1
    exact q2 (mem _ (by omega))
  · rw [ek, h.l l r o' hs, if_neg]
    · congr 1
      simp only [sz]
      omega
    · rintro ⟨q1, q2⟩
      have := rix_lt q1
      exact q2 (mem _ (by omega))
end Kn

set_option Elab.async false
set_option linter.all false
/-! KnJ: a tree told by its cuts, by a stack of parts. Plain Lean. -/
namespace Kn
open B

theorem Sb.tri {t l r : B} {o o' : Nat} (h : Sb t o (nd l r) o') : (o', o' + l.sz + 1, o' + (nd l r).sz + 1) ∈ tri t o := by
  generalize hu : nd l r = u at h
  induction h with
  | here t o => subst hu; exact mem_tri.mpr (.inr (.inl (by rw [sz_nd]; exact Prod.ext rfl (Prod.ext rfl (by dsimp only; omega)))))
  | left b s ih => exact mem_tri.mpr (.inl (ih hu))
  | right a s ih => exact mem_tri.mpr (.inr (.inr (ih hu)))
abbrev Item := Nat × Nat × Int
structure Stk (t : B) (told : List Int) (st : List Item) : Prop where
  len : told.length = t.sz
  items : ∀ s ∈ st, ∃ l r, Sb t 0 (nd l r) s.1 ∧ s.2.1 = s.1 + (nd l r).sz + 1 ∧ (par t 0 (-1))[s.1 + l.sz]? = some s.2.2
  done : ∀ j, j < t.sz → told[j]? = (par t 0 (-1))[j]? ∨ ∃ s ∈ st, s.1 ≤ j ∧ j + 1 < s.2.1
theorem stk_start {t : B} (h : t ≠ lf) {told : List Int} (hl : told.length = t.sz) : Stk t told [(0, t.sz + 1, -1)] := by
  refine ⟨hl, fun s hs => ?_, fun j hj => .inr ⟨_, List.mem_singleton.mpr rfl, Nat.zero_le _, by dsimp only; omega⟩⟩
  have : s = (0, t.sz + 1, -1) := by simpa using hs
  subst this
  cases t with
  | lf => exact absurd rfl h
  | nd l r =>
    refine ⟨l, r, .here _ _, by dsimp only; omega, ?_⟩
    show (par (nd l r) 0 (-1))[0 + l.sz]? = some (-1)
    rw [Nat.zero_add, par_root]
/-- the parts that are left of (lo, hi) -/
def push (l r : B) (lo : Nat) : List Item :=
  (if l = lf then [] else [(lo, lo + l.sz + 1, ((lo + l.sz : Nat) : Int))]) ++ (if r = lf then [] else [(lo + l.sz + 1, lo + (nd l r).sz + 1, ((lo + l.sz : Nat) : Int))])
theorem stk_step {t l r : B} {told : List Int} {st : List Item} {lo : Nat} {ab : Int} (h : Stk t told (st ++ [(lo, lo + (nd l r).sz + 1, ab)])) (hs : Sb t 0 (nd l r) lo) (ha : (par t 0 (-1))[lo + l.sz]? = some ab) :
    Stk t (told.set (lo + l.sz) ab) (st ++ push l r lo) := by
  have b := hs.bd
  simp only [sz] at b
  refine ⟨by rw [List.length_set]; exact h.len, fun s m => ?_, fun j hj => ?_⟩
  · rcases List.mem_append.mp m with m | m
    · exact h.items s (List.mem_append_left _ m)
    · unfold push at m
      rcases List.mem_append.mp m with m | m
      · split at m
        · cases m
        · rename_i hl
          have : s = (lo, lo + l.sz + 1, ((lo + l.sz : Nat) : Int)) := by simpa using m
          subst this
          have k := (hs.kids (a := -1) (.inl (by omega)) (lo + rix l)).mpr (.inl ⟨hl, by omega⟩)
          cases l with
          | lf => exact absurd rfl hl
          | nd x y => exact ⟨x, y, hs.l, rfl, k⟩
      · split at m
        · cases m
        · rename_i hr
          have : s = (lo + l.sz + 1, lo + (nd l r).sz + 1, ((lo + l.sz : Nat) : Int)) := by simpa using m
          subst this
          have k := (hs.kids (a := -1) (.inl (by omega)) (lo + l.sz + 1 + rix r)).mpr (.inr ⟨hr, by omega⟩)
          cases r with
          | lf => exact absurd rfl hr
          | nd x y => exact ⟨x, y, hs.r, by dsimp only; simp only [sz]; omega, k⟩
  · by_cases e : j = lo + l.sz
    · refine .inl ?_
      rw [e, List.getElem?_set_self (by rw [h.len]; omega), ha]
    · rw [List.getElem?_set_ne (fun z => e z.symm)]
      rcases h.done j hj with q | ⟨s, m, h1, h2⟩
      · exact .inl q
      · rcases List.mem_append.mp m with m | m
        · exact .inr ⟨s, List.mem_append_left _ m, h1, h2⟩
        · have : s = (lo, lo + (nd l r).sz + 1, ab) := by simpa using m
          subst this
          simp only [sz] at h1 h2
          refine .inr ?_
          by_cases c : j < lo + l.sz
          · have hl : l ≠ lf := fun z => by rw [z] at c; simp only [sz] at c; omega
            refine ⟨(lo, lo + l.sz + 1, ((lo + l.sz : Nat) : Int)), List.mem_append_right _ ?_, h1, by dsimp only; omega⟩
            unfold push
            rw [if_neg hl]
            exact List.mem_append_left _ List.mem_cons_self
          · have hr : r ≠ lf := fun z => by rw [z] at h2; simp only [sz] at h2; omega
            refine ⟨(lo + l.sz + 1, lo + (nd l r).sz + 1, ((lo + l.sz : Nat) : Int)), List.mem_append_right _ ?_, by dsimp only; omega, by dsimp only; simp only [sz]; omega⟩
            unfold push
            rw [if_neg hr]
            exact List.mem_append_right _ List.mem_cons_self
theorem stk_end {t : B} {told : List Int} (h : Stk t told []) : told = par t 0 (-1) := by
  refine List.ext_getElem? fun j => ?_
  by_cases hj : j < t.sz
  · rcases h.done j hj with q | ⟨s, m, _⟩
    · exact q
    · cases m
  · rw [List.getElem?_eq_none (by rw [h.len]; omega), List.getElem?_eq_none (by rw [par_len]; omega)]
/-- the size that is left -/
def lft (st : List Item) : Nat := (st.map fun s => s.2.1 - s.1 - 1).sum
theorem lft_push {l r : B} {lo : Nat} : lft (push l r lo) < (nd l r).sz := by
  unfold push lft
  have e : (nd l r).sz = l.sz + 1 + r.sz := rfl
  by_cases hl : l = lf <;> by_cases hr : r = lf <;> simp [hl, hr]
  all_goals (simp only [sz] at *; omega)
theorem lft_app (a b : List Item) : lft (a ++ b) = lft a + lft b := by
  unfold lft
  rw [List.map_append, List.sum_append]
/-- the corner of a part's triangle is the greatest one that has a cut with its first corner -/
theorem top_corner {t l r : B} {lo c : Nat} {L : List Cut} (hL : ∀ e, e ∈ L ↔ e ∈ nodes t 0 ∧ e ≠ (0, t.sz + 1)) (hs : Sb t 0 (nd l r) lo) (h1 : lo < c) (h2 : c < lo + (nd l r).sz + 1)
    (hc : c = lo + 1 ∨ (lo, c) ∈ L) (hm : ∀ c', c < c' → c' < lo + (nd l r).sz + 1 → ¬ (c' = lo + 1 ∨ (lo, c') ∈ L)) : c = lo + l.sz + 1 := by
  have b := hs.bd
  simp only [sz] at b h2 hm
  have ht := hs.tri
  rcases Nat.lt_trichotomy c (lo + l.sz + 1) with q | q | q
  · exfalso
    refine hm (lo + l.sz + 1) q (by omega) ?_
    by_cases hl : l = lf
    · subst hl; exact .inl rfl
    · refine .inr ((hL _).mpr ⟨?_, fun z => ?_⟩)
      · have := (tri_half ht).1
        rcases this with e | e
        · have := sz_pos hl; omega
        · exact e
      · have z1 : lo = 0 := congrArg Prod.fst z
        have z2 : lo + l.sz + 1 = t.sz + 1 := congrArg Prod.snd z
        omega
  · exact q
  · exfalso
    rcases hc with e | e
    · omega
    · have := tri_lam ht ((hL _).mp e).1
      simp only [sz] at this
      omega
/-- cuts of a tree are cuts of its board, and none crosses another -/
theorem cut_ok {t : B} {e : Cut} (h : e ∈ nodes t 0) (hn : e ≠ (0, t.sz + 1)) : e.1 + 2 ≤ e.2 ∧ e.2 ≤ t.sz + 1 ∧ e.2 ≤ e.1 + t.sz := by
  have b := nodes_bd h
  refine ⟨b.2.1, by omega, ?_⟩
  refine Nat.le_of_not_lt fun z => hn ?_
  exact Prod.ext (by dsimp only; omega) (by dsimp only; omega)
theorem cuts_len {t : B} (ht : t ≠ lf) {L : List Cut} (nd : L.Nodup) (hL : ∀ e, e ∈ L ↔ e ∈ nodes t 0 ∧ e ≠ (0, t.sz + 1)) : L.length + 1 = t.sz := by
  have p : L.Perm ((nodes t 0).erase (0, t.sz + 1)) := nodup_perm nd ((nodes_nodup t 0).erase _) fun e => by
    rw [(nodes_nodup t 0).mem_erase_iff, hL]
    exact And.comm
  have r := root_mem ht 0
  rw [Nat.zero_add] at r
  rw [p.length_eq, List.length_erase_of_mem r, nodes_len]
  have := sz_pos ht
  omega
end Kn

set_option Elab.async false
set_option linter.all false
set_option maxRecDepth 100000
/-! WkA: the text by places, facts of the module, first rules and defs. -/
namespace Kn
open PySem PySem.Spec PyProof.Rows L2

def top (i : Nat) : Stmt := PySem.Challenge.pw_knotturn_k48_whole_no_shorter_row.main.body.getD i (.Pass ⟨0, 0, 0, 0⟩)

/-! ### data in the heap -/
abbrev ivs (ns : List Int) : List V := ns.map V.int
/-- a tuple of ints that may be read at a -/
def RdT (H : Hp) (a : Addr) (ns : List Int) : Prop := Rd H a (.tup (ivs ns))
/-- .. told as an object whose attributes are the class's (true), or as a key (false) -/
def TpK : Bool → Hp → Addr → List Int → Prop
  | true, H, a, ns => ∃ o : Obj, o.cls = .type "tuple" ∧ o.dict = none ∧ H a = some (.frz o (.tup (ivs ns)))
  | false, H, a, ns => H a = some (.tup (ivs ns))
abbrev TpF (H : Hp) (a : Addr) (ns : List Int) : Prop := TpK true H a ns
/-- a tree's parents' list -/
abbrev tl (t : B) : List Int := par t 0 (-1)
theorem RdT.sq {K : PySem.W.Frag} {H : Hp} {a : Addr} {ns : List Int} (h : RdT H a ns) : SqT K H a (ivs ns) := .inl h
theorem TpK.rd {b : Bool} {H : Hp} {a : Addr} {ns : List Int} (h : TpK b H a ns) : RdT H a ns := by
  cases b with
  | true => obtain ⟨o, _, _, e⟩ := h; exact .inr ⟨o, e⟩
  | false => exact .inl h
theorem ivs_len (ns : List Int) : (ivs ns).length = ns.length := List.length_map _
theorem ivs_at {ns : List Int} {i : Nat} {v : Int} (h : ns[i]? = some v) : (ivs ns)[i]? = some (V.int v) := by
  rw [List.getElem?_map, h]
  all_goals rfl
theorem at_ivs {ns : List Int} {i : Nat} {x : V} (h : (ivs ns)[i]? = some x) : ∃ v, x = .int v ∧ ns[i]? = some v := by
  rw [List.getElem?_map] at h
  cases e : ns[i]? with
  | none => rw [e] at h; cases h
  | some v => rw [e] at h; exact ⟨v, (Option.some.inj h).symm, rfl⟩
theorem atI_of {xs : List V} {i : Nat} {v : V} (h : xs[i]? = some v) : atI xs ((i : Nat) : Int) = some v := by
  have hl := (List.getElem?_eq_some_iff.mp h).1
  unfold atI ixN
  rw [if_pos (by omega), if_pos (by omega)]
  show xs[((i : Nat) : Int).toNat]? = some v
  rw [Int.toNat_natCast]
  exact h
theorem atI_ivs {ns : List Int} {i : Nat} {v : Int} (h : ns[i]? = some v) : atI (ivs ns) ((i : Nat) : Int) = some (.int v) := atI_of (ivs_at h)
theorem ixN_of {i n : Nat} (h : i < n) : ixN n ((i : Nat) : Int) = some i := by
  unfold ixN
  rw [if_pos (by omega), if_pos (by omega), Int.toNat_natCast]
theorem ivs_set (ns : List Int) (i : Nat) (v : Int) : (ivs ns).set i (.int v) = ivs (ns.set i v) := (List.map_set ..).symm
/-- a tracked list's size -/
theorem big {n : Nat} (h : n ≤ 100000) : n ≤ sizeLine := Nat.le_trans h (by decide)
theorem bigl {n : Nat} (h : n < 100000) : n < sizeLine := Nat.lt_of_lt_of_le h (by decide)
end Kn
namespace L2
open Kn PySem PySem.Spec PyProof.Rows
theorem Same.new {H H1 : Hp} {p : Addr} {o : HO} (s : Same H H1) (h : H1 p = none) : Same H (upd H1 p o) := fun b u e => by
  rw [upd_ne (ne_of_none (s b u e) h)]
  exact s b u e
theorem Same.rdT {H H1 : Hp} {a : Addr} {ns : List Int} (s : Same H H1) (h : RdT H a ns) : RdT H1 a ns := by
  rcases h with h | ⟨o, h⟩
  · exact .inl (s _ _ h)
  · exact .inr ⟨o, s _ _ h⟩
theorem Same.tpK {b : Bool} {H H1 : Hp} {a : Addr} {ns : List Int} (s : Same H H1) (h : TpK b H a ns) : TpK b H1 a ns := by
  cases b with
  | true => obtain ⟨o, h1, h2, e⟩ := h; exact ⟨o, h1, h2, s _ _ e⟩
  | false => exact s _ _ h
/-- an object made behind H may change -/
theorem Same.mut {H H1 : Hp} {p : Addr} {o : HO} (s : Same H H1) (h : H p = none) : Same H (upd H1 p o) := fun b u e => by
  rw [upd_ne (ne_of_none e h)]
  exact s b u e

end L2
namespace Kn
open PySem PySem.Spec PyProof.Rows L2

/-! ### the module's names -/
structure Gs (mg : Str → Option Value) : Prop where
  len : mg "len" = none
  list : mg "list" = none
  tuple : mg "tuple" = none
  range : mg "range" = none
  reversed : mg "reversed" = none
  enumerate : mg "enumerate" = none
  sorted : mg "sorted" = none
  min : mg "min" = none
  max : mg "max" = none
  any : mg "any" = none
  dict : mg "dict" = none
  isinstance : mg "isinstance" = none
  int : mg "int" = none
  bool : mg "bool" = none
  noKnot : ∃ u, mg "NO_KNOT" = some u ∧ RelV (.int (-1)) u
  most : ∃ u, mg "MOST_KNOTS" = some u ∧ RelV (.int 6) u
/-- a def of the module -/
structure Df (K : PySem.W.Frag) (mg : Str → Option Value) (x : Str) (st : Stmt) (ps : List Str) : Prop where
  ex : ∃ (f : Addr) (fd : FuncData), C8.Def K mg x st f fd ∧ Binds K fd ps []
section
variable {P : Program} {w : World} {K : PySem.W.Frag} {mg : Str → Option Value} {base : Heap}
abbrev CalN (P : Program) (w : World) (K : PySem.W.Frag) (mg : Str → Option Value) (base : Heap) (k : Nat) (x : Str) (sp : Sp) : Prop := C8.Cal P w K mg base k x sp []
theorem Df.cal {x : Str} {st : Stmt} {N ps : List Str} {k : Nat} {sp : Sp} (F : Df K mg x st ps) (S : FnScope N ps (C8.fnScope st)) (len : ∀ vs H Q E, sp vs H Q E → vs.length = ps.length)
    (hbody : ∀ (f : Addr) (cdv : Value) (A : Around) (outer : List Env) (s : Shared) (H : Hp) (vs : List V) (Q : VK) (E : XK), Room k (A.deeper (envOfC x (C8.fnScope st) s.heap.objs.size f cdv)) → sp vs H Q E →
      ∃ t, PSs (cxOf C8.CX0 P w K mg base N x (C8.fnScope st) f cdv A outer s H E).nox (C8.fnBody st) t ∧ t { nx := fun _ H' => Q .non H', rt := Q } (start N vs) H) : CalN P w K mg base (k + 1) x sp := by
  obtain ⟨f, fd, D, b⟩ := F.ex
  exact C8.cal0 D b .nil S len (hbody f)
end

/-! ### t.index(k), ivs -/
theorem flat_ivs (ns : List Int) : (ivs ns).all flatV = true := by
  rw [List.all_map]
  exact List.all_eq_true.mpr fun _ _ => rfl
section
variable {X : Cx}
theorem mt_tup_indexI : MtR X "tuple.index" (fun x xs H Q => ∃ (p : Addr) (ns : List Int) (z : Int) (j : Nat), x = .ref p ∧ xs = [.int z] ∧ SqT X.K H p (ivs ns) ∧ ns[j]? = some z ∧ (∀ m, m < j → ns[m]? ≠ some z) ∧ Q (.int (j : Nat)) H) := by
  intro pins s σ H x xs v us Q I rx rs h
  obtain ⟨p, ys, z, j, rfl, rfl, hq, hy, hno, q⟩ := h
  cases rx
  obtain ⟨u, rfl, t, rfl⟩ := vals1 rs
  obtain ⟨its, r, pl, hz⟩ := I.tuple hq
  obtain ⟨⟨cls, dd, dt, sl⟩, ho, hc, n, hd⟩ := pl
  simp only at hc hd
  subst hc
  subst hd
  have hl : its.toArray.size = ys.length := by rw [List.size_toArray, ← r.length, List.length_map]
  have hj : j < its.toArray.size := by rw [hl]; exact (List.getElem?_eq_some_iff.mp hy).1
  have at' : ∀ (m : Nat) (hm : m < its.toArray.size), ∃ y t', ys[m]? = some y ∧ its.toArray[m] = Value.int y t' := fun m hm => by
    have hm' : m < ys.length := by rw [← hl]; exact hm
    obtain ⟨w, hw, t', hw'⟩ := r.get (i := m) (x := .int ys[m]) (by simp [hm'])
    refine ⟨ys[m], t', List.getElem?_eq_getElem hm', ?_⟩
    have e := (List.getElem?_eq_some_iff.mp hw).2
    rw [← hw', ← e]
    simp
  refine call_meets PySem.F.slot_tuple_index ⟨_, ho, rfl⟩ PySem.F.entry_tuple_index (PySem.F.args_tuple_index_2 _ _) (TI.tuple_indexAt p its.toArray n dd sl (.int z t) (eqU (.int z)) j hj ?_ ?_)
    ⟨ho, fun w hw => mem_eqAt (x := .int z) ⟨t, rfl⟩ rfl r (flat_ivs ys) w (by simpa using hw), ⟨.int (j : Nat), H, I.tok _, ⟨_, rfl⟩, q⟩⟩
  · obtain ⟨y, t', h1, h2⟩ := at' j hj
    rw [hy] at h1
    cases h1
    rw [h2]
    show (z == z) = true
    exact beq_self_eq_true z
  · intro m hm hmj
    obtain ⟨y, t', h1, h2⟩ := at' m hm
    rw [h2]
    show (y == z) = false
    exact beq_eq_false_iff_ne.mpr fun e => hno m hmj (e ▸ h1)
end

section
variable {X : Cx} {o e : Expr} {es : List Expr} {to : TE} {t : TA} {name : Str} {apos cpos : Pos} {id : String} {r : V → List V → Hp → VK → Prop}
/-- o.m(e), o a tuple told as an object -/
def tTM (r : V → List V → Hp → VK → Prop) (to : TE) (t : TA) : TE := fun σ H Q => to σ H fun x H1 => (∃ a ns, x = .ref a ∧ TpF H1 a ns) ∧ t σ H1 fun xs H2 => r x xs H2 Q
theorem pe_tm (pa : PlainAttrs "tuple") (slot : Slot "tuple" name id) (hty : typeOf (.builtin id) = pure (.type "method_descriptor")) (hm : MtR X id r) (ho : PE X o to) (ha : PA X (e :: es) t)
    (hbase : attributeBase o name X.env (eval o X.env) = eval o X.env := by rfl)
    (hfew : ((backTo cpos (starEach (e :: es) X.env)).all (fun x => !x.1) && (backToKw cpos (keywordEach [] X.env)).all (fun x => x.1.isSome)
      && decide ((e :: es).length + ([] : List Keyword).length + (if ([] : List Keyword).isEmpty then 0 else 1) < 30)) = true := by rfl)
    (hline : (apos.endLine == cpos.line) = true := by rfl) (hs : starEach (e :: es) X.env = (false, eval e X.env) :: starEach es X.env := by rfl) (hplain : (backTo cpos (starEach es X.env)).any (·.1) = false := by rfl) :
    PE X (.Call (.Attribute o name apos) (e :: es) [] cpos) (tTM r to t) := by
  refine ⟨fun pins s σ H Q I h => ?_⟩
  refine wpAny_Call_method_late hbase hfew hline rfl (thn (ho.run pins s σ H _ I h) fun v s1 ⟨x, H1, I1, r1, ty, q1⟩ => ?_)
  obtain ⟨a, ns, rfl, ob, h1, h2, h3⟩ := ty
  cases r1
  have e1 := (I1.hok _ _ h3).1
  refine ⟨"tuple", id, pa, slot, hty, ⟨ob, e1, h1⟩, fun b eb => by cases eb; exact ⟨ob, e1, h2⟩, ?_⟩
  have hA := ha.run cpos pins s1 σ H1 _ I1 q1
  rw [hs] at hA ⊢
  refine Calls.callWith_builtin (by show (false || (backTo cpos (starEach es X.env)).any (·.1)) = false; rw [hplain] <;> rfl) (Calls.evalArgs_plain ?_)
  exact thn hA fun us s2 ⟨vs, H2, I2, r2, q2⟩ => hm pins s2 σ H2 (.ref a) vs _ us Q I2 rfl r2 q2
/-- tuple(xs), a list: the new tuple told as wished -/
theorem call_tupX : CallR X (.type "tuple") (fun xs H Q => ∃ (p : Addr) (ns : List Int) (b : Bool), xs = [.ref p] ∧ SqL X.K H p (ivs ns) ∧ ∀ (l : Addr) (H' : Hp), H l = none → Same H H' → TpK b H' l ns → Q (.ref l) H') := by
  intro pins s σ H xs us Q I r h
  obtain ⟨p, ns, b, rfl, hq, q⟩ := h
  obtain ⟨u, rfl, rx⟩ := vals1 r
  cases rx
  obtain ⟨its, r', pl, hz⟩ := I.list hq
  have hlen := r'.length
  refine call_tuple_list pl.isList (fun h' kp => ?_) (by simp only [List.size_toArray] <;> omega)
  have I1 : Inv X pins σ H { s with heap := h' } := I.kept (t' := s.toks) kp
  have new : H h'.objs.size = none := I1.hok.fresh (Nat.le_refl _)
  have hT : ∀ H1, ObjOk X.prog X.w H1 (h'.push { cls := .type "tuple", data := .seq its.toArray }) h'.objs.size (.tup (ivs ns)) := fun H1 => ⟨hz, its, r', IsTup.new _ _⟩
  cases b with
  | false =>
    have I2 : Inv X pins σ (upd H h'.objs.size (.tup (ivs ns))) { s with heap := h'.push { cls := .type "tuple", data := .seq its.toArray } } :=
      I1.laid (t' := s.toks) (fun b o e => Heap.get?_push_of_some _ e) (Nat.le_refl _) (hT _)
    exact ⟨.ref h'.objs.size, _, I2, rfl, q _ _ new ((Same.refl H).new new) upd_same⟩
  | true =>
    have I2 : Inv X pins σ (upd H h'.objs.size (.frz { cls := .type "tuple", data := .seq its.toArray } (.tup (ivs ns)))) { s with heap := h'.push { cls := .type "tuple", data := .seq its.toArray } } :=
      I1.laid (t' := s.toks) (fun b o e => Heap.get?_push_of_some _ e) (Nat.le_refl _) ⟨Heap.get?_push_size _ rfl, hT _⟩
    exact ⟨.ref h'.objs.size, _, I2, rfl, q _ _ new ((Same.refl H).new new) ⟨_, rfl, rfl, upd_same⟩⟩
end

section
variable {P : Program} {w : World} {K : PySem.W.Frag} {mg : Str → Option Value} {base : Heap}
/-! ### root_of -/
abbrev s_root_of : Stmt := top 7
theorem sc_root_of : FnScope ["tree"] ["tree"] (C8.fnScope s_root_of) := C8.fnScope_by (by decide +kernel)
def sp_root_of : Sp := fun vs H Q _ => ∃ (a : Addr) (t : B), vs = [.ref a] ∧ TpF H a (tl t) ∧ t ≠ .lf ∧ Q (.int (rix t : Nat)) H
theorem ok_root_of (G : Gs mg) (F : Df K mg "root_of" s_root_of ["tree"]) : CalN P w K mg base 1 "root_of" sp_root_of := by
  refine F.cal sc_root_of (fun vs H Q E h => ?_) (fun f cdv A outer s H vs Q E hr h => ?_)
  · obtain ⟨a, t, rfl, _⟩ := h
    rfl
  · obtain ⟨a, t, rfl, ha, ht, k⟩ := h
    refine ⟨_, (pss_one (ps_ret (pe_tm PySem.F.plainAttrs_tuple PySem.F.slot_tuple_index PySem.F.type_tuple_index mt_tup_indexI (pv 0) (pa_cons (C8.pe_gc (by rfl) G.noKnot) pa_nil)))), ?_⟩
    refine ⟨_, rfl, ⟨a, _, rfl, ha⟩, a, _, _, rix t, rfl, rfl, ha.rd.sq, par_rix ht, fun m hm e => ?_, k⟩
    rcases par_val e with u | u <;> omega

/-! ### left_on, right_on -/
def vO : Option Nat → V
  | some j => .int (j : Nat)
  | none => .non
abbrev s_left_on : Stmt := top 8
theorem sc_left_on : FnScope ["tree", "knot", "other"] ["tree", "knot"] (C8.fnScope s_left_on) := C8.fnScope_by (by decide +kernel)
def sp_left_on : Sp := fun vs H Q _ => ∃ (a : Addr) (ns : List Int) (k : Nat), vs = [.ref a, .int (k : Nat)] ∧ RdT H a ns ∧ k ≤ ns.length ∧ k ≤ 1000 ∧ Q (vO (fd ns k 0 k)) H
theorem ok_left_on (G : Gs mg) (F : Df K mg "left_on" s_left_on ["tree", "knot"]) : CalN P w K mg base 1 "left_on" sp_left_on := by
  refine F.cal sc_left_on (fun vs H Q E h => ?_) (fun f cdv A outer s H vs Q E hr h => ?_)
  · obtain ⟨a, ns, k, rfl, _⟩ := h
    rfl
  · obtain ⟨a, ns, k, rfl, ha, hk, hk2, q⟩ := h
    refine ⟨_, (pss_cons (ps_for PassesOwn.never rfl (pi_range1 (by rfl) G.range (pa_cons (pv 1) pa_nil)) (pg_name (i := 2) sc_left_on.nd rfl (Or.inl rfl)) (pss_one (ps_if (pt_cmpR op_eq (pe_ix ix_tup (pv 0) (pv 2) (fun _ _ => rfl)) (pv 1) (nomark _)) (pss_one (ps_ret (pv 2))) pss_nil)))
      (pss_one (ps_ret pe_non))), ?_⟩
    refine ⟨_, rfl, (k : Int), rfl, by omega, by omega, for_range (lo := 0) (n := ((k : Nat) : Int).toNat) (fun i σ H' => H' = H ∧ (∃ v, σ = [some (.ref a), some (.int (k : Nat)), v]) ∧ ∀ j, j < i → ns[j]? ≠ some (k : Int)) ⟨rfl, ⟨_, rfl⟩, fun j h => by omega⟩ ?_ ?_⟩
    · rintro i σ H' hi ⟨rfl, ⟨v, rfl⟩, hn⟩
      have hi' : i < k := by omega
      obtain ⟨z, hz⟩ : ∃ z, ns[i]? = some z := ⟨_, List.getElem?_eq_getElem (by omega)⟩
      have e0 : (0 : Int) + (i : Nat) = ((i : Nat) : Int) := Int.zero_add _
      refine ⟨_, rfl, _, rfl, a, _, _, _, rfl, rfl, ha.sq, by rw [e0]; exact atI_ivs hz, _, rfl, rfl, _, rfl, ?_⟩
      refine ite2 (fun e => ?_) (fun e => ?_)
      · have e : V.int z = V.int (k : Int) := of_decide_eq_true e
        refine ⟨_, rfl, ?_⟩
        rw [fd_some (i := i) (Nat.zero_le _) (by omega) (by rw [hz]; exact congrArg some (V.int.inj e)) (fun j _ h => hn j h)] at q
        rw [e0]
        exact q
      · refine ⟨rfl, ⟨_, rfl⟩, fun j hj => ?_⟩
        by_cases c : j = i
        · subst c
          intro z'
          rw [hz] at z'
          exact e (decide_eq_true (congrArg V.int (Option.some.inj z')))
        · exact hn j (by omega)
    · rintro σ H' ⟨rfl, ⟨v, rfl⟩, hn⟩
      rw [fd_none (fun j _ h => hn j (by omega))] at q
      exact q
abbrev s_right_on : Stmt := top 9
theorem sc_right_on : FnScope ["tree", "knot", "other"] ["tree", "knot"] (C8.fnScope s_right_on) := C8.fnScope_by (by decide +kernel)
def sp_right_on : Sp := fun vs H Q _ => ∃ (a : Addr) (ns : List Int) (k : Nat), vs = [.ref a, .int (k : Nat)] ∧ RdT H a ns ∧ k < ns.length ∧ ns.length ≤ 1000 ∧ Q (vO (fd ns k (k + 1) (ns.length - (k + 1)))) H
theorem ok_right_on (G : Gs mg) (F : Df K mg "right_on" s_right_on ["tree", "knot"]) : CalN P w K mg base 1 "right_on" sp_right_on := by
  refine F.cal sc_right_on (fun vs H Q E h => ?_) (fun f cdv A outer s H vs Q E hr h => ?_)
  · obtain ⟨a, ns, k, rfl, _⟩ := h
    rfl
  · obtain ⟨a, ns, k, rfl, ha, hk, hk2, q⟩ := h
    refine ⟨_, (pss_cons (ps_for PassesOwn.never rfl (pi_range2 (by rfl) G.range (pa_cons (pe_op op_add (pv 1) pe_int) (pa_cons (pe_callB call_len_seq (by rfl) G.len PySem.boot_len (pa_cons (pv 0) pa_nil)) pa_nil))) (pg_name (i := 2) sc_right_on.nd rfl (Or.inl rfl)) (pss_one (ps_if (pt_cmpR op_eq (pe_ix ix_tup (pv 0) (pv 2) (fun _ _ => rfl)) (pv 1) (nomark _)) (pss_one (ps_ret (pv 2))) pss_nil)))
      (pss_one (ps_ret pe_non))), ?_⟩
    refine ⟨_, rfl, _, _, rfl, rfl, _, rfl, a, _, rfl, .inr (ha.sq), _, _, rfl, ⟨by omega, by omega, by omega, by rw [ivs_len]; omega⟩,
      for_range (lo := (k : Int) + 1) (n := (((ivs ns).length : Int) - ((k : Int) + 1)).toNat) (fun i σ H' => H' = H ∧ (∃ v, σ = [some (.ref a), some (.int (k : Nat)), v]) ∧ ∀ j, k + 1 ≤ j → j < k + 1 + i → ns[j]? ≠ some (k : Int)) ⟨rfl, ⟨_, rfl⟩, fun j h => by omega⟩ ?_ ?_⟩
    · rintro i σ H' hi ⟨rfl, ⟨v, rfl⟩, hn⟩
      rw [ivs_len] at hi
      have hi' : k + 1 + i < ns.length := by omega
      obtain ⟨z, hz⟩ : ∃ z, ns[k + 1 + i]? = some z := ⟨_, List.getElem?_eq_getElem (by omega)⟩
      have e0 : (k : Int) + 1 + (i : Nat) = ((k + 1 + i : Nat) : Int) := by omega
      refine ⟨_, rfl, _, rfl, a, _, _, _, rfl, rfl, ha.sq, by rw [e0]; exact atI_ivs hz, _, rfl, rfl, _, rfl, ?_⟩
      refine ite2 (fun e => ?_) (fun e => ?_)
      · have e : V.int z = V.int (k : Int) := of_decide_eq_true e
        refine ⟨_, rfl, ?_⟩
        rw [fd_some (i := k + 1 + i) (by omega) (by omega) (by rw [hz]; exact congrArg some (V.int.inj e)) (fun j h1 h => hn j h1 h)] at q
        rw [e0]
        exact q
      · refine ⟨rfl, ⟨_, rfl⟩, fun j hj hj2 => ?_⟩
        by_cases c : j = k + 1 + i
        · subst c
          intro z'
          rw [hz] at z'
          exact e (decide_eq_true (congrArg V.int (Option.some.inj z')))
        · exact hn j hj (by omega)
    · rintro σ H' ⟨rfl, ⟨v, rfl⟩, hn⟩
      rw [ivs_len] at hn
      rw [fd_none (fun j h1 h => hn j h1 (by omega))] at q
      exact q
end
end Kn

set_option Elab.async false
set_option linter.all false
set_option maxRecDepth 100000
/-! WkB: side_of, turned, neighbours. -/
namespace Kn
open PySem PySem.Spec PyProof.Rows L2

theorem iteD0 {c A B : Prop} [Decidable c] (h : ¬ c) (hb : B) : if decide c = true then A else B := by
  rw [decide_eq_false h]; exact iteF hb
theorem iteD1 {c A B : Prop} [Decidable c] (h : c) (ha : A) : if decide c = true then A else B := by
  rw [decide_eq_true h]; exact iteT ha
theorem iteN0 {c A B : Prop} [Decidable c] (h : c) (hb : B) : if (!decide c) = true then A else B := by
  rw [decide_eq_true h]; exact iteF hb
theorem iteN1 {c A B : Prop} [Decidable c] (h : ¬ c) (ha : A) : if (!decide c) = true then A else B := by
  rw [decide_eq_false h]; exact iteT ha
theorem vint_ne {a b : Int} (h : a ≠ b) : ¬ V.int a = V.int b := fun e => h (V.int.inj e)

section
variable {P : Program} {w : World} {K : PySem.W.Frag} {mg : Str → Option Value} {base : Heap}
/-! ### side_of -/
abbrev s_side_of : Stmt := top 15
theorem sc_side_of : FnScope ["tree", "knot"] ["tree", "knot"] (C8.fnScope s_side_of) := C8.fnScope_by (by decide +kernel)
def sp_side_of : Sp := fun vs H Q _ => ∃ (a : Addr) (ns : List Int) (k : Nat) (v : Int), vs = [.ref a, .int (k : Nat)] ∧ RdT H a ns ∧ ns[k]? = some v ∧ v ≠ -1 ∧ Q (.str (if (k : Int) < v then "right" else "left")) H
theorem ok_side_of (G : Gs mg) (F : Df K mg "side_of" s_side_of ["tree", "knot"]) : CalN P w K mg base 1 "side_of" sp_side_of := by
  refine F.cal sc_side_of (fun vs H Q E h => ?_) (fun f cdv A outer s H vs Q E hr h => ?_)
  · obtain ⟨a, ns, k, v, rfl, _⟩ := h
    rfl
  · obtain ⟨a, ns, k, v, rfl, ha, hk, hv, q⟩ := h
    have hl := (List.getElem?_eq_some_iff.mp hk).1
    refine ⟨_, (pss_cons (ps_if (PW.pt (pw_or (pt_cmpR op_lt (pv 1) pe_int (nomark _)) (pw_or (pt_cmpR op_ge (pv 1) (pe_callB call_len_seq (by rfl) G.len PySem.boot_len (pa_cons (pv 0) pa_nil)) (nomark _)) (pw_or1 (pt_cmpR op_eq (pe_ix ix_tup (pv 0) (pv 1) (fun _ _ => rfl)) (pe_un un_neg pe_int) (nomark _)))))) (pss_one ps_never) pss_nil)
      (pss_cons (ps_if (pt_cmpR op_lt (pv 1) (pe_ix ix_tup (pv 0) (pv 1) (fun _ _ => rfl)) (nomark _)) (pss_one (ps_ret pe_str)) pss_nil)
      (pss_one (ps_ret pe_str)))), ?_⟩
    refine ⟨_, rfl, _, _, rfl, rfl, _, rfl, iteD0 (by omega) ?_⟩
    refine ⟨_, rfl, _, rfl, a, _, rfl, .inr ha.sq, _, _, rfl, rfl, _, rfl, iteD0 (by rw [ivs_len]; omega) ?_⟩
    refine ⟨_, rfl, _, rfl, a, _, _, _, rfl, rfl, ha.sq, atI_ivs hk, _, rfl, rfl, _, rfl, iteD0 (vint_ne hv) ?_⟩
    refine ⟨_, rfl, _, rfl, _, rfl, a, _, _, _, rfl, rfl, ha.sq, atI_ivs hk, _, _, rfl, rfl, _, rfl, ?_⟩
    refine ite2 (fun e => ?_) (fun e => ?_)
    · rw [if_pos (of_decide_eq_true e)] at q
      exact q
    · rw [if_neg (fun z => e (decide_eq_true z))] at q
      exact q

/-! ### turned -/
theorem SqL.set {K : PySem.W.Frag} {H : Hp} {a : Addr} {xs : List V} : SqL K (upd H a (.lst xs)) a xs := SqL.of upd_same
abbrev s_turned : Stmt := top 16
theorem sc_turned : FnScope ["tree", "knot", "inner", "above", "hangs"] ["tree", "knot"] (C8.fnScope s_turned) := C8.fnScope_by (by decide +kernel)
def sp_turned : Sp := fun vs H Q _ => ∃ (a : Addr) (t t' : B) (k : Nat) (b : Bool), vs = [.ref a, .int (k : Nat)] ∧ RdT H a (tl t) ∧ t.sz ≤ 1000 ∧ up t k = some t' ∧
  ∀ (p : Addr) (H' : Hp), H p = none → Same H H' → TpK b H' p (tl t') → Q (.ref p) H'
theorem ok_turned (G : Gs mg) (F : Df K mg "turned" s_turned ["tree", "knot"]) (c_side_of : CalN P w K mg base 1 "side_of" sp_side_of) (c_right_on : CalN P w K mg base 1 "right_on" sp_right_on) (c_left_on : CalN P w K mg base 1 "left_on" sp_left_on) :
    CalN P w K mg base 2 "turned" sp_turned := by
  refine F.cal sc_turned (fun vs H Q E h => ?_) (fun f cdv A outer s H vs Q E hr h => ?_)
  · obtain ⟨a, t, t', k, b, rfl, _⟩ := h
    rfl
  · obtain ⟨a, t, t', k, b, rfl, ha, hz, hu, q⟩ := h
    obtain ⟨ab, g, U⟩ := up_par (o := 0) (a := -1) hu (.inl (by omega))
    have hk : k < t.sz := up_lt _ _ _ hu
    have hab := U.hi
    have hne := U.ne
    have hl : (tl t).length = t.sz := par_len t 0 (-1)
    have hkk : (tl t)[k]? = some ((ab : Nat) : Int) := U.hk
    have hg : (tl t)[ab]? = some g := U.hg
    have he := trn_eq U (up_turn t 0 k t' hu).1.sz hk
    refine ⟨_, (C8.pss_cut (ps_if (pt_cmpR op_eq (C8.pe_c c_side_of hr (by decide) (by rfl) (pa_cons (pv 0) (pa_cons (pv 1) pa_nil))) pe_str (nomark _)) (pss_one (ps_set (i := 2) sc_turned.nd rfl (Or.inl rfl) (C8.pe_c c_right_on hr (by decide) (by rfl) (pa_cons (pv 0) (pa_cons (pv 1) pa_nil))))) (pss_one (ps_set (i := 2) sc_turned.nd rfl (Or.inl rfl) (C8.pe_c c_left_on hr (by decide) (by rfl) (pa_cons (pv 0) (pa_cons (pv 1) pa_nil))))))
      (pss_cons (ps_set (i := 3) sc_turned.nd rfl (Or.inl rfl) (pe_ix ix_tup (pv 0) (pv 1) (fun _ _ => rfl)))
      (pss_cons (ps_set (i := 4) sc_turned.nd rfl (Or.inl rfl) (pe_callTy call_list_of (by rfl) G.list (by decide +kernel) (pa_cons (pv 0) pa_nil)))
      (pss_cons (ps_asg (pe_ix ix_tup (pv 0) (pv 3) (fun _ _ => rfl)) (pg_sub (pv 4) (pv 1) set_list))
      (pss_cons (ps_asg (pv 1) (pg_sub (pv 4) (pv 3) set_list))
      (C8.pss_cut (ps_if (pt_cmp (pc_notN (pv 2))) (pss_one (ps_asg (pv 3) (pg_sub (pv 4) (pv 2) set_list))) pss_nil)
      (pss_one (ps_ret (pe_callTy call_tupX (by rfl) G.tuple (by decide +kernel) (pa_cons (pv 4) pa_nil)))))))))), ?_⟩
    refine ⟨fun σ H' => H = H' ∧ σ = [some (.ref a), some (.int (k : Nat)), some (vO (inn (tl t) k ab)), none, none], ?_, ?_⟩
    · refine ⟨_, rfl, _, rfl, a, _, k, _, rfl, ha, hkk, by omega, rfl, _, rfl, ?_⟩
      by_cases c : k < ab
      · rw [if_pos (show ((k : Nat) : Int) < ((ab : Nat) : Int) by omega)]
        refine iteD1 rfl ?_
        refine ⟨_, rfl, _, rfl, a, _, k, rfl, ha, by omega, by omega, ?_⟩
        unfold inn
        rw [if_pos c]
        exact ⟨rfl, rfl⟩
      · rw [if_neg (show ¬ ((k : Nat) : Int) < ((ab : Nat) : Int) by omega)]
        refine iteD0 (by decide +kernel) ?_
        refine ⟨_, rfl, _, rfl, a, _, k, rfl, ha, by omega, by omega, ?_⟩
        unfold inn
        rw [if_neg c]
        exact ⟨rfl, rfl⟩
    · rintro σ H' ⟨rfl, rfl⟩
      generalize hv : vO (inn (tl t) k ab) = v
      refine ⟨_, rfl, _, rfl, a, _, _, _, rfl, rfl, ha.sq, atI_ivs hkk, ?_⟩
      refine ⟨_, rfl, a, _, rfl, .inr ha.sq, fun l hl0 => ?_⟩
      have nal : ∀ {H1 : Hp} {o : HO}, Same H H1 → RdT (upd H1 l o) a (tl t) := fun {H1 o} s1 => (s1.mut hl0).rdT ha
      refine ⟨_, rfl, _, rfl, a, _, _, _, rfl, rfl, (nal (Same.refl H)).sq, atI_ivs hg, _, rfl, _, rfl, l, _, _, k, rfl, rfl, upd_same, ixN_of (by rw [ivs_len]; omega), ?_⟩
      refine ⟨_, rfl, _, rfl, _, rfl, l, _, _, ab, rfl, rfl, upd_same, ixN_of (by rw [List.length_set, ivs_len]; omega), ?_⟩
      rw [upd_upd, upd_upd, ivs_set, ivs_set]
      refine ⟨fun σ H' => upd H l (.lst (ivs (tl t'))) = H' ∧ σ = [some (.ref a), some (.int (k : Nat)), some v, some (.int ((ab : Nat) : Int)), some (.ref l)], ?_, ?_⟩
      · unfold trn at he
        cases hi : inn (tl t) k ab with
        | none =>
          rw [hi] at hv he
          subst hv
          refine ⟨_, rfl, _, rfl, iteN0 rfl ?_⟩
          exact ⟨congrArg (fun l0 => upd H l (.lst (ivs l0))) he.symm, rfl⟩
        | some j =>
          rw [hi] at hv he
          subst hv
          have hj : j < t.sz := by
            unfold inn at hi
            split at hi
            · have := fd_spec hi; omega
            · have := fd_spec hi; omega
          refine ⟨_, rfl, _, rfl, iteN1 (by intro z; cases z) ?_⟩
          refine ⟨_, rfl, _, rfl, _, rfl, l, _, _, j, rfl, rfl, upd_same, ixN_of (by rw [ivs_len, List.length_set, List.length_set]; omega), ?_⟩
          rw [upd_upd, ivs_set]
          exact ⟨congrArg (fun l0 => upd H l (.lst (ivs l0))) he.symm, rfl⟩
      · rintro σ H' ⟨rfl, rfl⟩
        refine ⟨_, rfl, l, _, b, rfl, SqL.of upd_same, fun p H' hp sm tp => ?_⟩
        have npl : p ≠ l := fun e => by rw [e, upd_same] at hp; cases hp
        exact q p H' (by rw [upd_ne npl] at hp; exact hp) (((Same.refl H).mut hl0).trans sm) tp
end
end Kn

set_option Elab.async false
set_option linter.all false
set_option maxRecDepth 100000
/-! WkC: lists of tuples; neighbours. -/
namespace Kn
open PySem PySem.Spec PyProof.Rows L2

/-! ### tuples stay -/
def Tkeep (H H' : Hp) : Prop := ∀ a xs, H a = some (.tup xs) → H' a = some (.tup xs)
theorem Tkeep.refl (H : Hp) : Tkeep H H := fun _ _ h => h
theorem Tkeep.trans {H H1 H2 : Hp} (a : Tkeep H H1) (b : Tkeep H1 H2) : Tkeep H H2 := fun x o h => b x o (a x o h)
theorem Tkeep.of {H H' : Hp} (s : Same H H') : Tkeep H H' := fun a xs h => s a _ h
theorem Tkeep.new {H : Hp} {p : Addr} {o : HO} (h : H p = none) : Tkeep H (upd H p o) := fun a xs e => by
  rw [upd_ne (ne_of_none e h)]
  exact e
theorem Tkeep.lst {H : Hp} {p : Addr} {o : HO} {ys : List V} (h : H p = some (.lst ys)) : Tkeep H (upd H p o) := fun a xs e => by
  rw [upd_ne (ne_of e h (by intro z; cases z))]
  exact e
theorem Tkeep.dK {H : Hp} {p : Addr} {o : HO} {ys : List (Key × V)} (h : H p = some (.dK ys)) : Tkeep H (upd H p o) := fun a xs e => by
  rw [upd_ne (ne_of e h (by intro z; cases z))]
  exact e
theorem Tkeep.dT {H : Hp} {p : Addr} {o : HO} {ys : List (List Key × V)} (h : H p = some (.dT ys)) : Tkeep H (upd H p o) := fun a xs e => by
  rw [upd_ne (ne_of e h (by intro z; cases z))]
  exact e
theorem Tkeep.ins {H : Hp} {p : Addr} {o : HO} {C dx : Addr} {fs : List (Str × V)} (h : H p = some (.ins C dx fs)) : Tkeep H (upd H p o) := fun a xs e => by
  rw [upd_ne (ne_of e h (by intro z; cases z))]
  exact e
/-- v is a tuple of these ints -/
def PT0 (H : Hp) (v : V) (ns : List Int) : Prop := ∃ a, v = .ref a ∧ H a = some (.tup (ivs ns))
theorem PT0.keep {H H' : Hp} {v : V} {ns : List Int} (k : Tkeep H H') (h : PT0 H v ns) : PT0 H' v ns := by
  obtain ⟨a, e, h⟩ := h
  exact ⟨a, e, k _ _ h⟩
abbrev Tups (H : Hp) (vs : List V) (nss : List (List Int)) : Prop := Paired (PT0 H) vs nss
theorem Tups.keep {H H' : Hp} {vs : List V} {nss : List (List Int)} (k : Tkeep H H') (h : Tups H vs nss) : Tups H' vs nss := Paired.mapP h fun _ _ z => z.keep k
theorem Paired.at1 {α β : Type} {R : α → β → Prop} : ∀ {xs : List α} {ys : List β} {i : Nat} {x : α}, Paired R xs ys → xs[i]? = some x → ∃ y, ys[i]? = some y ∧ R x y
  | _, _, _, _, .nil, e => by simp at e
  | _, _, 0, _, .cons r _, e => by simp at e; subst e; exact ⟨_, rfl, r⟩
  | _, _, i + 1, x, .cons _ t, e => by
    obtain ⟨u, h1, h2⟩ := Paired.at1 (i := i) (x := x) t (by simpa using e)
    exact ⟨u, by simpa using h1, h2⟩
theorem Paired.at2 {α β : Type} {R : α → β → Prop} : ∀ {xs : List α} {ys : List β} {i : Nat} {y : β}, Paired R xs ys → ys[i]? = some y → ∃ x, xs[i]? = some x ∧ R x y
  | _, _, _, _, .nil, e => by simp at e
  | _, _, 0, _, .cons r _, e => by simp at e; subst e; exact ⟨_, rfl, r⟩
  | _, _, i + 1, x, .cons _ t, e => by
    obtain ⟨u, h1, h2⟩ := Paired.at2 (i := i) (y := x) t (by simpa using e)
    exact ⟨u, by simpa using h1, h2⟩
theorem Paired.append {α β : Type} {R : α → β → Prop} : ∀ {xs xs' : List α} {ys ys' : List β}, Paired R xs ys → Paired R xs' ys' → Paired R (xs ++ xs') (ys ++ ys')
  | _, _, _, _, .nil, h => h
  | _, _, _, _, .cons r t, h => .cons r (Paired.append t h)
/-- carried over to another order -/
theorem Paired.perm {α β : Type} {R : α → β → Prop} {xs xs' : List α} (p : xs'.Perm xs) : ∀ {ys : List β}, Paired R xs ys → ∃ ys', ys'.Perm ys ∧ Paired R xs' ys' := by
  induction p with
  | nil => intro ys h; exact ⟨ys, .refl _, h⟩
  | @cons x l₁ l₂ p ih =>
    intro ys h
    cases h with
    | cons r t =>
      obtain ⟨zs, a, b⟩ := ih t
      exact ⟨_ :: zs, a.cons _, .cons r b⟩
  | swap x y l =>
    intro ys h
    cases h with
    | cons r t =>
      cases t with
      | cons r' t' => exact ⟨_, .swap _ _ _, .cons r' (.cons r t')⟩
  | trans p q ihp ihq =>
    intro ys h
    obtain ⟨zs, a, b⟩ := ihq h
    obtain ⟨ws, c, d⟩ := ihp b
    exact ⟨ws, c.trans a, d⟩

/-! ### neighbours -/
theorem up_rix {t : B} : up t (rix t) = none := by
  cases t with
  | lf => rfl
  | nd l r =>
    unfold up rix
    rw [if_neg (Nat.lt_irrefl _), if_pos rfl]
theorem up_iff {t : B} {k : Nat} (h : k < t.sz) : (k = rix t ∧ (tl t)[k]? = some (-1) ∧ up t k = none) ∨ (k ≠ rix t ∧ ∃ v : Nat, (tl t)[k]? = some (v : Int) ∧ ∃ t', up t k = some t') := by
  by_cases e : k = rix t
  · refine .inl ⟨e, ?_, ?_⟩
    · rw [e, par_rix (fun z => by rw [z] at h; simp only [B.sz] at h; omega)]
    · rw [e, up_rix]
  · refine .inr ⟨e, ?_⟩
    obtain ⟨v, hv⟩ := par_some (t := t) (o := 0) (a := -1) h
    rcases par_val hv with u | u
    · exact absurd u.1 e
    · refine ⟨v.toNat, by rw [show ((v.toNat : Nat) : Int) = v by omega]; exact hv, up_some t k h fun l r q => ?_⟩
      subst q
      exact e
def nbs (t : B) : List B := (List.range t.sz).filterMap (up t)
theorem range_snoc (i : Nat) : List.range (i + 1) = List.range i ++ [i] := List.range_succ
section
variable {P : Program} {w : World} {K : PySem.W.Frag} {mg : Str → Option Value} {base : Heap}
abbrev s_neighbours : Stmt := top 18
theorem sc_neighbours : FnScope ["tree", "knot"] ["tree"] (C8.fnScope s_neighbours) := C8.fnScope_by (by decide +kernel)
def sp_neighbours : Sp := fun vs H Q _ => ∃ (a : Addr) (t : B), vs = [.ref a] ∧ RdT H a (tl t) ∧ t.sz ≤ 1000 ∧
  ∀ (l : Addr) (ws : List V) (H' : Hp), H l = none → Same H H' → H' l = some (.lst ws) → Tups H' ws ((nbs t).map tl) → Q (.ref l) H'
theorem ok_neighbours (G : Gs mg) (F : Df K mg "neighbours" s_neighbours ["tree"]) (c_turned : CalN P w K mg base 2 "turned" sp_turned) : CalN P w K mg base 3 "neighbours" sp_neighbours := by
  refine F.cal sc_neighbours (fun vs H Q E h => ?_) (fun f cdv A outer s H vs Q E hr h => ?_)
  · obtain ⟨a, t, rfl, _⟩ := h
    rfl
  · obtain ⟨a, t, rfl, ha, hz, q⟩ := h
    have hl : (tl t).length = t.sz := par_len t 0 (-1)
    refine ⟨_, (pss_one (ps_ret (pe_lc (own := [("knot", 1)]) rfl sc_neighbours.nd (pi_range1 (by rfl) G.range (pa_cons (pe_callB call_len_seq (by rfl) G.len PySem.boot_len (pa_cons (pv 0) pa_nil)) pa_nil)) (blkOk_by (N := ["tree", "knot"]) (sc := C8.fnScope s_neighbours) (own := [("knot", 1)]) (by decide +kernel)) (fun _ _ _ _ _ => (pg_name (i := 1) sc_neighbours.nd rfl (Or.inl rfl))) (fun _ _ _ _ _ => (pts_one (pt_cmpR op_ne (pe_ix (r := rIxT K) ix_tup (pv 0) (pv 1) (fun _ _ => rfl)) (pe_un un_neg pe_int) (nomark _)))) (fun _ _ _ _ _ => (C8.pe_c c_turned hr (by decide) (by rfl) (pa_cons (pv 0) (pa_cons (pv 1) pa_nil))))))), ?_⟩
    refine ⟨_, rfl, a, _, rfl, .inr ha.sq, _, rfl, by rw [ivs_len]; omega, by rw [ivs_len]; omega, fun D hD => lc_range (lo := 0) (n := (((ivs (tl t)).length : Nat) : Int).toNat)
      (fun i H1 => Same H H1 ∧ ∃ ws, H1 D = some (.lst ws) ∧ ws.length ≤ i ∧ Tups H1 ws (((List.range i).filterMap (up t)).map tl)) ⟨(Same.refl H).new hD, [], upd_same, Nat.le_refl _, .nil⟩ ?_ ?_⟩
    · rintro i H1 hi ⟨s1, ws, h1, hw, tp⟩
      have hi' : i < t.sz := by rw [ivs_len] at hi; omega
      have e0 : (0 : Int) + (i : Nat) = ((i : Nat) : Int) := Int.zero_add _
      rw [e0]
      obtain ⟨v, hv⟩ := par_some (t := t) (o := 0) (a := -1) hi'
      refine ⟨rfl, _, rfl, _, rfl, a, _, _, _, rfl, rfl, (s1.rdT ha).sq, atI_ivs hv, _, rfl, rfl, _, rfl, ?_⟩
      rcases up_iff hi' with ⟨e1, e2, e3⟩ | ⟨e1, v', e2, t', e3⟩
      · have : v = -1 := Option.some.inj (hv.symm.trans e2)
        subst this
        refine iteN0 rfl ?_
        refine ⟨s1, ws, h1, by omega, ?_⟩
        rw [range_snoc, List.filterMap_append, List.filterMap_cons, e3, List.filterMap_nil, List.append_nil]
        exact tp
      · have : v = (v' : Int) := Option.some.inj (hv.symm.trans e2)
        subst this
        refine iteN1 (vint_ne (by omega)) ?_
        refine ⟨_, rfl, _, rfl, a, t, t', i, false, rfl, s1.rdT ha, hz, e3, fun p H2 hp s2 t2 => ?_⟩
        have npD : p ≠ D := ne_of_none (H := H1) (by rw [h1]) hp |>.symm
        refine ⟨ws, s2 _ _ h1, bigl (by omega), (s1.trans s2).mut hD, _, upd_same, by rw [List.length_append, List.length_singleton]; omega, ?_⟩
        rw [range_snoc, List.filterMap_append, List.filterMap_cons, e3, List.filterMap_nil, List.map_append]
        have k2 : Tkeep H2 (upd H2 D (.lst (ws ++ [.ref p]))) := Tkeep.lst (s2 _ _ h1)
        exact Paired.append (tp.keep ((Tkeep.of s2).trans k2)) (.cons ⟨p, rfl, k2 _ _ t2⟩ .nil)
    · rintro H1 ⟨s1, ws, h1, hw, tp⟩
      refine q D ws H1 hD s1 h1 ?_
      rw [ivs_len, hl] at tp
      exact tp
end
end Kn

set_option Elab.async false
set_option linter.all false
set_option maxRecDepth 100000
set_option maxHeartbeats 1000000
/-! WkD: from_root, by_knots, stretches, cuts. -/
namespace Kn
open PySem PySem.Spec PyProof.Rows L2

abbrev nvs (l : List Nat) : List V := l.map fun j => V.int ((j : Nat) : Int)
theorem nvs_at {l : List Nat} {i j : Nat} (h : l[i]? = some j) : (nvs l)[i]? = some (V.int (j : Nat)) := by
  rw [List.getElem?_map, h]
  all_goals rfl
/-- the lists of what hangs on each knot, m knots told -/
structure Hung (H0 H : Hp) (D : Addr) (as : List Addr) (ns : List Int) (m : Nat) : Prop where
  top : H D = some (.lst (as.map V.ref))
  top0 : H0 D = none
  len : as.length = ns.length
  nd : as.Nodup
  nD : D ∉ as
  new : ∀ a ∈ as, H0 a = none
  each : ∀ i a, as[i]? = some a → H a = some (.lst (nvs (chl ns m i)))
theorem refs_at {as : List Addr} {i : Nat} {a : Addr} (h : as[i]? = some a) : (as.map V.ref)[i]? = some (V.ref a) := by
  rw [List.getElem?_map, h]
  all_goals rfl
section
variable {P : Program} {w : World} {K : PySem.W.Frag} {mg : Str → Option Value} {base : Heap}
abbrev s_from_root : Stmt := top 10
theorem sc_from_root : FnScope ["tree", "knot", "hung", "row", "place"] ["tree"] (C8.fnScope s_from_root) := C8.fnScope_by (by decide +kernel)
def sp_from_root : Sp := fun vs H Q _ => ∃ (a : Addr) (t : B), vs = [.ref a] ∧ TpF H a (tl t) ∧ t ≠ .lf ∧ t.sz ≤ 1000 ∧
  ∀ (l : Addr) (row : List Nat) (H' : Hp), H l = none → Same H H' → H' l = some (.lst (nvs row)) → Row t row → Q (.ref l) H'
theorem ok_from_root (G : Gs mg) (F : Df K mg "from_root" s_from_root ["tree"]) (c_root_of : CalN P w K mg base 1 "root_of" sp_root_of) : CalN P w K mg base 2 "from_root" sp_from_root := by
  refine F.cal sc_from_root (fun vs H Q E h => ?_) (fun f cdv A outer s H vs Q E hr h => ?_)
  · obtain ⟨a, t, rfl, _⟩ := h
    rfl
  · obtain ⟨a, t, rfl, ha, ht, hz, q⟩ := h
    have hl : (tl t).length = t.sz := par_len t 0 (-1)
    refine ⟨_, (pss_cons (ps_setLc (i := 2) (own := [("knot", 1)]) rfl sc_from_root.nd rfl rfl (sw_true rfl rfl rfl (by decide +kernel)) (pi_tup (pv 0)) (blkOk_by (N := ["tree", "knot", "hung", "row", "place"]) (sc := C8.fnScope s_from_root) (own := [("knot", 1)]) (by decide +kernel)) (fun _ _ _ _ _ => (pg_name (i := 1) sc_from_root.nd rfl (Or.inl rfl))) (fun _ _ _ _ _ => pts_nil) (fun _ _ _ _ _ => (pe_lst pa_nil)))
      (pss_cons (ps_for PassesOwn.never rfl (pi_range1 (by rfl) G.range (pa_cons (pe_callB call_len_seq (by rfl) G.len PySem.boot_len (pa_cons (pv 0) pa_nil)) pa_nil)) (pg_name (i := 1) sc_from_root.nd rfl (Or.inl rfl)) (pss_one (ps_if (pt_cmpR op_ne (pe_ix ix_tup (pv 0) (pv 1) (fun _ _ => rfl)) (C8.pe_gc (by rfl) G.noKnot) (nomark _)) (pss_one (ps_expr (pe_bm PySem.F.plainAttrs_list PySem.F.slot_list_append PySem.F.type_list_append mt_append (pe_ix ix_list (pv 2) (pe_ix ix_tup (pv 0) (pv 1) (fun _ _ => rfl)) (fun _ _ => rfl)) (pa_cons (pv 1) pa_nil)))) pss_nil)))
      (pss_cons (ps_set (i := 3) sc_from_root.nd rfl (Or.inl rfl) (pe_lst (pa_cons (C8.pe_c c_root_of hr (by decide) (by rfl) (pa_cons (pv 0) pa_nil)) pa_nil)))
      (pss_cons (ps_set (i := 4) sc_from_root.nd rfl (Or.inl rfl) pe_int)
      (pss_cons (ps_while PassesOwn.never (pt_cmpR op_lt (pv 4) (pe_callB call_len_seq (by rfl) G.len PySem.boot_len (pa_cons (pv 3) pa_nil)) (nomark _)) (pss_cons (ps_expr (pe_bm PySem.F.plainAttrs_list PySem.F.slot_list_extend PySem.F.type_list_extend mt_extend (pv 3) (pa_cons (pe_ix ix_list (pv 2) (pe_ix ix_list (pv 3) (pv 4) (fun _ _ => rfl)) (fun _ _ => rfl)) pa_nil)))
      (pss_one (ps_aug (i := 4) sc_from_root.nd rfl (Or.inl rfl) pe_int ip_add))))
      (pss_one (ps_ret (pv 3)))))))), ?_⟩
    refine ⟨_, rfl, a, rfl, ⟨_, ha.rd.sq⟩, fun D hD => lc_tup (K := K) (a := a) (xs := ivs (tl t)) (fun i H1 => Same H H1 ∧ ∃ as : List Addr, H1 D = some (.lst (as.map V.ref)) ∧ as.length = i ∧ as.Nodup ∧ D ∉ as ∧ (∀ b ∈ as, H b = none ∧ H1 b = some (.lst [])))
      ⟨(Same.refl H).new hD, [], upd_same, rfl, List.nodup_nil, by simp, by simp⟩ (fun i H1 _ ⟨s1, _⟩ => (s1.rdT ha.rd).sq) ?_ ?_⟩
    · rintro i x H1 hi ⟨s1, as, h1, hle, nd, nD, ea⟩
      have hi' : i < t.sz := by
        have := (List.getElem?_eq_some_iff.mp hi).1
        rw [ivs_len, hl] at this; exact this
      refine ⟨rfl, ?_⟩
      refine ⟨Nat.zero_le _, fun b hb => ?_⟩
      have nbD : b ≠ D := fun e => by rw [e, h1] at hb; cases hb
      have hb0 : H b = none := s1.free hb
      refine ⟨_, by rw [upd_ne nbD.symm]; exact h1, bigl (by rw [List.length_map]; omega), (s1.new hb).mut hD, as ++ [b], by rw [upd_same, List.map_append]; rfl, by rw [List.length_append, List.length_singleton, hle], ?_, ?_, ?_⟩
      · refine List.nodup_append.mpr ⟨nd, List.nodup_cons.mpr ⟨by simp, List.nodup_nil⟩, fun c hc d hd => ?_⟩
        have : d = b := by simpa using hd
        subst this
        intro e
        subst e
        rw [(ea _ hc).2] at hb
        cases hb
      · intro m
        rcases List.mem_append.mp m with m | m
        · exact nD m
        · exact nbD (List.mem_singleton.mp m).symm
      · intro c hc
        rcases List.mem_append.mp hc with m | m
        · have ncD : c ≠ D := fun e => nD (e ▸ m)
          have ncb : c ≠ b := fun e => by rw [← e, (ea c m).2] at hb; cases hb
          exact ⟨(ea c m).1, by rw [upd_ne ncD, upd_ne ncb]; exact (ea c m).2⟩
        · have : c = b := by simpa using m
          subst this
          exact ⟨hb0, by rw [upd_ne nbD, upd_same]⟩
    · rintro H1 ⟨s1, as, h1, hle, nd, nD, ea⟩
      rw [ivs_len] at hle
      refine ⟨_, rfl, a, _, rfl, .inr (s1.rdT ha.rd).sq, _, rfl, by rw [ivs_len]; omega, by rw [ivs_len]; omega,
        for_range (lo := 0) (n := (((ivs (tl t)).length : Nat) : Int).toNat) (fun i σ H2 => (∃ v r p, σ = [some (.ref a), v, some (.ref D), r, p]) ∧ Same H H2 ∧ Hung H H2 D as (tl t) i) ⟨⟨_, _, _, rfl⟩, s1, h1, hD, hle, nd, nD, fun b hb => (ea b hb).1, fun i b hb => ?_⟩ ?_ ?_⟩
      · rw [(ea b (List.mem_of_getElem? hb)).2]; rfl
      · rintro i σ H2 hi ⟨⟨v, r, p, rfl⟩, s2, U⟩
        have hi' : i < t.sz := by rw [ivs_len] at hi; omega
        have e0 : (0 : Int) + (i : Nat) = ((i : Nat) : Int) := Int.zero_add _
        rw [e0]
        rcases up_iff hi' with ⟨_, e2, _⟩ | ⟨_, v', e2, _⟩
        · refine ⟨_, rfl, _, rfl, a, _, _, _, rfl, rfl, (s2.rdT ha.rd).sq, atI_ivs e2, rfl, _, rfl, iteN0 rfl ?_⟩
          refine ⟨⟨_, _, _, rfl⟩, s2, U.top, U.top0, U.len, U.nd, U.nD, U.new, fun j b hb => ?_⟩
          rw [U.each j b hb, chl_succ, if_neg]
          intro e
          rw [e2] at e
          have := Option.some.inj e
          omega
        · have hv' : v' < t.sz := by
            rcases par_val e2 with u | u <;> omega
          obtain ⟨b, hb⟩ : ∃ b, as[v']? = some b := ⟨_, List.getElem?_eq_getElem (by omega)⟩
          have hbm : b ∈ as := List.mem_of_getElem? hb
          refine ⟨_, rfl, _, rfl, a, _, _, _, rfl, rfl, (s2.rdT ha.rd).sq, atI_ivs e2, rfl, _, rfl, iteN1 (vint_ne (by omega)) ?_⟩
          refine ⟨_, rfl, _, rfl, _, rfl, a, _, _, _, rfl, rfl, (s2.rdT ha.rd).sq, atI_ivs e2, D, _, _, _, rfl, rfl, SqL.of U.top, atI_of (refs_at hb), .inl ⟨rfl, _, SqL.of (U.each v' b hb)⟩, _, rfl, b, _, _, rfl, rfl, U.each v' b hb, bigl ?_, ?_⟩
          · have : (chl (tl t) i v').length ≤ (List.range i).length := List.length_filter_le _ _
            rw [List.length_range] at this
            rw [List.length_map]; omega
          · have nbD : b ≠ D := fun e => U.nD (e ▸ hbm)
            refine ⟨⟨_, _, _, rfl⟩, s2.mut (U.new b hbm), by rw [upd_ne nbD.symm]; exact U.top, U.top0, U.len, U.nd, U.nD, U.new, fun j c hc => ?_⟩
            by_cases e : j = v'
            · subst e
              rw [hb] at hc
              cases hc
              rw [upd_same, chl_succ, if_pos e2]
              show some (HO.lst (nvs (chl (tl t) i j) ++ [V.int (i : Nat)])) = some (HO.lst (nvs (chl (tl t) i j ++ [i])))
              show some (HO.lst (nvs (chl (tl t) i j) ++ nvs [i])) = _
              unfold nvs
              rw [← List.map_append]
            · have ncb : c ≠ b := fun z => by
                subst z
                obtain ⟨h1, e1⟩ := List.getElem?_eq_some_iff.mp hb
                obtain ⟨h2, e2⟩ := List.getElem?_eq_some_iff.mp hc
                exact e ((List.getElem_inj U.nd).mp (e2.trans e1.symm))
              rw [upd_ne ncb, U.each j c hc, chl_succ, if_neg]
              intro z
              rw [e2] at z
              have := Option.some.inj z
              omega
      · rintro σ H2 ⟨⟨v, r, p, rfl⟩, s2, U⟩
        rw [ivs_len] at U
        have U : Hung H H2 D as (tl t) t.sz := by
          have e : ((((tl t).length : Nat) : Int)).toNat = t.sz := by omega
          rw [e] at U; exact U
        refine ⟨_, rfl, a, t, rfl, s2.tpK ha, ht, by show 1 ≤ sizeLine; decide, fun R hR => ?_⟩
        have nRD : R ≠ D := fun e => by rw [e, U.top] at hR; cases hR
        have nRas : ∀ b ∈ as, b ≠ R := fun b hb e => by
          obtain ⟨i, hi, e'⟩ := List.getElem_of_mem hb
          have := U.each i b (by rw [List.getElem?_eq_getElem hi, e'])
          rw [e, hR] at this
          cases this
        have hR0 : H R = none := s2.free hR
        refine ⟨fun m σ H3 => ∃ dn qq, Bfs t dn qq ∧ m = (qq.map fun s : Spot => s.1.sz).sum ∧ (∃ v, σ = [some (.ref a), v, some (.ref D), some (.ref R), some (.int (dn.length : Nat))]) ∧ Same H H3 ∧ Hung H H3 D as (tl t) t.sz ∧ H3 R = some (.lst (nvs (dn ++ qq.map rk))),
          ⟨_, [], [(t, 0)], bfs_start ht, rfl, ⟨_, rfl⟩, s2.new hR, ⟨by rw [upd_ne nRD.symm]; exact U.top, U.top0, U.len, U.nd, U.nD, U.new, fun i b hb => by rw [upd_ne (nRas b (List.mem_of_getElem? hb))]; exact U.each i b hb⟩, by rw [upd_same]; simp [rk]⟩, ?_⟩
        rintro m σ H3 ⟨dn, qq, Bq, rfl, ⟨v, rfl⟩, s3, U3, h3⟩
        refine ⟨_, rfl, _, rfl, R, _, rfl, .inl (SqL.of h3), _, _, rfl, rfl, _, rfl, ?_⟩
        have hn : (dn ++ qq.map rk).length ≤ 1000 := by
          have e := Bq.all.length_eq
          have : ∀ l : List Spot, (∀ s ∈ l, s.1 ≠ .lf) → l.length ≤ (l.flatMap fun s => List.range' s.2 s.1.sz).length := by
            intro l
            induction l with
            | nil => intro _; exact Nat.le_refl _
            | cons s l ih =>
              intro h
              rw [List.flatMap_cons, List.length_append, List.length_range', List.length_cons]
              have := ih fun s hs => h s (List.mem_cons_of_mem _ hs)
              have := sz_pos (h s List.mem_cons_self)
              omega
          have := this qq fun s hs => (Bq.sub s hs).2
          rw [List.length_append, List.length_range] at e
          rw [List.length_append, List.length_map]
          omega
        cases qq with
        | nil =>
          refine iteD0 (by rw [List.length_map]; simp) ?_
          refine ⟨_, rfl, ?_⟩
          refine q R dn H3 hR0 s3 (by rw [h3]; simp) (bfs_end Bq)
        | cons sp qq =>
          obtain ⟨B2, l, r, esp⟩ := bfs_step Bq
          obtain ⟨u, o'⟩ := sp
          simp only at esp
          subst esp
          obtain ⟨hsb, _⟩ := Bq.sub _ List.mem_cons_self
          have bd := hsb.bd
          simp only [B.sz] at bd
          have hrow : (nvs (dn ++ ((B.nd l r, o') :: qq).map rk))[dn.length]? = some (V.int ((rk (B.nd l r, o') : Nat) : Int)) := by
            apply nvs_at
            rw [List.getElem?_append_right (Nat.le_refl _), Nat.sub_self]
            rfl
          have hrk : rk (B.nd l r, o') < t.sz := by show o' + l.sz < t.sz; omega
          obtain ⟨b, hb⟩ : ∃ b, as[rk (B.nd l r, o')]? = some b := ⟨_, List.getElem?_eq_getElem (by rw [U3.len, hl]; exact hrk)⟩
          have hbl := U3.each _ b hb
          rw [show chl (tl t) t.sz (rk (B.nd l r, o')) = (kds (B.nd l r, o')).map rk from chl_kds hsb] at hbl
          have nbR := nRas b (List.mem_of_getElem? hb)
          have hk2 : ((kds (B.nd l r, o')).map rk).length ≤ 2 := by
            rw [List.length_map]
            show ((if l = .lf then [] else [(l, o')]) ++ (if r = .lf then [] else [(r, o' + l.sz + 1)])).length ≤ 2
            split <;> split <;> simp
          refine iteD1 (by rw [List.length_map, List.length_append, List.length_map, List.length_cons]; omega) ?_
          refine ⟨fun σ' H' => ∃ m', m' < (((B.nd l r, o') :: qq).map fun s : Spot => s.1.sz).sum ∧ ∃ dn qq, Bfs t dn qq ∧ m' = (qq.map fun s : Spot => s.1.sz).sum ∧ (∃ v, σ' = [some (.ref a), v, some (.ref D), some (.ref R), some (.int (dn.length : Nat))]) ∧ Same H H' ∧ Hung H H' D as (tl t) t.sz ∧ H' R = some (.lst (nvs (dn ++ qq.map rk))), fun _ _ z => z, ?_⟩
          refine ⟨_, rfl, .inl ⟨rfl, _, SqL.of h3⟩, _, rfl, _, rfl, _, rfl, R, _, _, _, rfl, rfl, SqL.of h3, atI_of hrow, D, _, _, _, rfl, rfl, SqL.of U3.top, atI_of (refs_at hb), R, b, _, _, rfl, rfl, h3, hbl, ?_, ?_⟩
          · refine big ?_
            rw [List.length_map, List.length_map]
            omega
          · refine ⟨_, rfl, _, _, rfl, rfl, ?_⟩
            refine ⟨_, ?_, dn ++ [rk (B.nd l r, o')], qq ++ kds (B.nd l r, o'), B2, rfl, ⟨v, ?_⟩, s3.mut hR0, ⟨by rw [upd_ne nRD.symm]; exact U3.top, U3.top0, U3.len, U3.nd, U3.nD, U3.new, fun i c hc => by rw [upd_ne (nRas c (List.mem_of_getElem? hc))]; exact U3.each i c hc⟩, ?_⟩
            · rw [List.map_append, List.map_cons, List.sum_append, List.sum_cons]
              have e : ((kds (B.nd l r, o')).map fun s : Spot => s.1.sz).sum ≤ l.sz + r.sz := by
                show (((if l = .lf then [] else [(l, o')]) ++ (if r = .lf then [] else [(r, o' + l.sz + 1)])).map fun s : Spot => s.1.sz).sum ≤ l.sz + r.sz
                split <;> split <;> simp
              have e2 : (B.nd l r).sz = l.sz + 1 + r.sz := rfl
              show (qq.map fun s : Spot => s.1.sz).sum + ((kds (B.nd l r, o')).map fun s : Spot => s.1.sz).sum < (B.nd l r).sz + (qq.map fun s : Spot => s.1.sz).sum
              omega
            · rw [List.length_append, List.length_singleton]
              rfl
            · rw [upd_same, ← List.map_append, List.map_append, List.append_assoc]
              simp
end
end Kn

set_option Elab.async false
set_option linter.all false
set_option maxRecDepth 100000
set_option maxHeartbeats 1000000
/-! WkR: further rules: == and in of tuples of ints, sorted of data, three comparisons in a chain. -/
namespace Kn
open PySem PySem.Spec PyProof.Rows L2

/-! ### tuples of ints as data -/
abbrev tupD (ns : List Int) : PyData := .tuple (ns.map .int)
theorem dp_ivs {K : PySem.W.Frag} {H : Hp} : ∀ ns : List Int, DpAll K H (ivs ns) (ns.map .int)
  | [] => .nil
  | n :: ns => .cons (.int n) (dp_ivs ns)
theorem dp_tup {K : PySem.W.Frag} {H : Hp} {a : Addr} {ns : List Int} (h : SqT K H a (ivs ns)) : Dp K H (.ref a) (tupD ns) := .tup h (dp_ivs ns)
theorem lay_ivs : ∀ ns : List Int, PyData.canLayAll0 (ns.map .int) = true
  | [] => by simp [PyData.canLayAll0]
  | n :: ns => by
    show PyData.canLayAll0 (.int n :: ns.map .int) = true
    rw [PyData.canLayAll0, lay_ivs ns]
    simp [PyData.canLay0]
theorem dep_tup (ns : List Int) : PyData.depth (tupD ns) = 1 := by
  show PyData.depth (.tuple (ns.map .int)) = 1
  rw [PyData.depth, PySem.W.depth_ints]
theorem lay_tup (ns : List Int) : PyData.canLay0 (tupD ns) = true := by
  show PyData.canLay0 (.tuple (ns.map .int)) = true
  rw [PyData.canLay0]
  exact lay_ivs ns
theorem sh_tup (ns : List Int) : SeqAt.shaped (tupD ns) = true := by
  show (PyData.canLay0 (tupD ns) && decide (PyData.depth (tupD ns) ≤ 64)) = true
  rw [lay_tup, dep_tup]
  rfl
theorem eqv_ivs : ∀ ns ms : List Int, PyData.eqvAll (ns.map .int) (ms.map .int) = decide (ns = ms)
  | [], [] => by simp [PyData.eqvAll]
  | [], _ :: _ => by simp [PyData.eqvAll]
  | _ :: _, [] => by simp [PyData.eqvAll]
  | n :: ns, m :: ms => by
    show PyData.eqvAll (.int n :: ns.map .int) (.int m :: ms.map .int) = _
    rw [PyData.eqvAll, eqv_ivs ns ms, PyData.eqv]
    by_cases h : n = m
    · subst h; simp
    · have : (n == m) = false := beq_eq_false_iff_ne.mpr h
      rw [this]; simp [h]
theorem eqv_tup (ns ms : List Int) : PyData.eqv (tupD ns) (tupD ms) = decide (ns = ms) := by
  show PyData.eqv (.tuple (ns.map .int)) (.tuple (ms.map .int)) = _
  rw [PyData.eqv]
  exact eqv_ivs ns ms
theorem dp_tups {K : PySem.W.Frag} {H : Hp} {vs : List V} {nss : List (List Int)} (h : Tups H vs nss) : DpAll K H vs (nss.map tupD) := by
  induction h with
  | nil => exact .nil
  | cons r t ih =>
    obtain ⟨a, rfl, e⟩ := r
    exact .cons (dp_tup (SqT.of e)) ih
theorem lay_tups : ∀ nss : List (List Int), PyData.canLayAll0 (nss.map tupD) = true
  | [] => by simp [PyData.canLayAll0]
  | n :: ns => by
    show PyData.canLayAll0 (tupD n :: ns.map tupD) = true
    rw [PyData.canLayAll0, lay_tups ns, lay_tup]
    rfl
theorem dep_tups : ∀ nss : List (List Int), PyData.depthAll (nss.map tupD) ≤ 1
  | [] => by simp [PyData.depthAll]
  | n :: ns => by
    show PyData.depthAll (tupD n :: ns.map tupD) ≤ 1
    rw [PyData.depthAll, dep_tup]
    have := dep_tups ns
    omega
theorem sh_tups (nss : List (List Int)) : SeqAt.shaped (.list (nss.map tupD)) = true := by
  have h2 : PyData.depth (.list (nss.map tupD)) ≤ 64 := by
    rw [PyData.depth]
    have := dep_tups nss
    omega
  show (PyData.canLay0 (.list (nss.map tupD)) && decide (PyData.depth (.list (nss.map tupD)) ≤ 64)) = true
  rw [decide_eq_true h2, PyData.canLay0, lay_tups]
  rfl
section
variable {X : Cx}
/-- a == b, a != b, tuples of ints -/
def rEqT (K : PySem.W.Frag) : R2 := fun x y H Q => ∃ a b ns ms, x = .ref a ∧ y = .ref b ∧ SqT K H a (ivs ns) ∧ SqT K H b (ivs ms) ∧ Q (.bl (decide (ns = ms))) H
def rNeT (K : PySem.W.Frag) : R2 := fun x y H Q => ∃ a b ns ms, x = .ref a ∧ y = .ref b ∧ SqT K H a (ivs ns) ∧ SqT K H b (ivs ms) ∧ Q (.bl (!decide (ns = ms))) H
theorem op_eqT (hu : X.A.units + 64 < cLine) : OpR X (compareOp .Eq) (rEqT X.K) := fun pins s σ H x y v u Q I rx ry h => by
  obtain ⟨a, b, ns, ms, rfl, rfl, ha, hb, q⟩ := h
  refine op_eqD hu pins s σ H _ _ v u Q I rx ry ⟨_, _, dp_tup ha, dp_tup hb, sh_tup ns, sh_tup ms, ?_⟩
  rw [eqv_tup]
  exact q
theorem op_neT (hu : X.A.units + 64 < cLine) : OpR X (compareOp .NotEq) (rNeT X.K) := fun pins s σ H x y v u Q I rx ry h => by
  obtain ⟨a, b, ns, ms, rfl, rfl, ha, hb, q⟩ := h
  refine op_neD hu pins s σ H _ _ v u Q I rx ry ⟨_, _, dp_tup ha, dp_tup hb, sh_tup ns, sh_tup ms, ?_⟩
  rw [eqv_tup]
  exact q
/-- t in ts, t not in ts -/
def rInT (K : PySem.W.Frag) (neg : Bool) : R2 := fun x y H Q => ∃ a b ns ws nss, x = .ref a ∧ y = .ref b ∧ SqT K H a (ivs ns) ∧ SqL K H b ws ∧ Tups H ws nss ∧ Q (.bl (if neg = true then !decide (ns ∈ nss) else decide (ns ∈ nss))) H
theorem any_tup (ns : List Int) (nss : List (List Int)) : ((nss.map tupD).any fun z => PyData.eqv z (tupD ns)) = decide (ns ∈ nss) := by
  rw [List.any_map]
  have e : ((fun z => PyData.eqv z (tupD ns)) ∘ tupD) = fun ms => decide (ms = ns) := funext fun ms => eqv_tup ms ns
  rw [e]
  by_cases h : ns ∈ nss
  · rw [decide_eq_true h]
    exact List.any_eq_true.mpr ⟨ns, h, decide_eq_true rfl⟩
  · rw [decide_eq_false h]
    refine Bool.eq_false_iff.mpr fun q => ?_
    obtain ⟨x, hx, e⟩ := List.any_eq_true.mp q
    exact h (of_decide_eq_true e ▸ hx)
theorem op_inT (hu : X.A.units + 65 < cLine) : OpR X (compareOp .In) (rInT X.K false) := fun pins s σ H x y v u Q I rx ry h => by
  obtain ⟨a, b, ns, ws, nss, rfl, rfl, ha, hb, ht, q⟩ := h
  refine op_inD hu pins s σ H _ _ v u Q I rx ry ⟨_, _, dp_tup ha, .lst hb (dp_tups ht), sh_tup ns, sh_tups nss, ?_⟩
  rw [any_tup]
  exact q
theorem op_notInT (hu : X.A.units + 65 < cLine) : OpR X (compareOp .NotIn) (rInT X.K true) := fun pins s σ H x y v u Q I rx ry h => by
  obtain ⟨a, b, ns, ws, nss, rfl, rfl, ha, hb, ht, q⟩ := h
  refine op_notInD hu pins s σ H _ _ v u Q I rx ry ⟨_, _, dp_tup ha, .lst hb (dp_tups ht), sh_tup ns, sh_tups nss, ?_⟩
  rw [any_tup]
  exact q
end
theorem hu64 {A : Around} {k : Nat} (hr : Room k A) : A.units + 64 < cLine := hr.units
theorem hu65 {A : Around} {k : Nat} (hr : Room k A) : A.units + 65 < cLine := by have := hr.un; omega
theorem hu70 {A : Around} {k : Nat} (hr : Room k A) : A.units + 70 < cLine := by have := hr.un; omega

/-! ### sorted(xs), xs a list of data -/
open PySem.W in
theorem each_vals {K : PySem.W.Frag} {H : Hp} {h : Heap} (rd : ∀ (d : PyData) (v : V) (u : Value), Dp K H v d → RelV v u → ∃ as, Reads h u d as) : ∀ {xs : List V} {us : List Value} {ds : List PyData}, Vals xs us → DpAll K H xs ds →
    EachIs (fun (u : Value) (b : V × PyData) => RelV b.1 u) us (xs.zip ds) ∧ EachIs (fun (u : Value) (b : V × PyData) => ∃ as, Reads h u b.2 as) us (xs.zip ds) ∧ (xs.zip ds).map (·.1) = xs ∧ (xs.zip ds).map (·.2) = ds
  | [], _, _, r, d => by
    cases r
    cases d
    exact ⟨.nil, .nil, rfl, rfl⟩
  | x :: xs, _, _, r, d => by
    cases r with
    | cons r1 r2 =>
      cases d with
      | cons d1 d2 =>
        obtain ⟨a, b, c, e⟩ := each_vals rd r2 d2
        exact ⟨.cons r1 a, .cons (rd _ _ _ d1 r1) b, by rw [List.zip_cons_cons, List.map_cons, c], by rw [List.zip_cons_cons, List.map_cons, e]⟩
theorem vals_each : ∀ {us : List Value} {bs : List (V × PyData)}, PySem.W.EachIs (fun (u : Value) (b : V × PyData) => RelV b.1 u) us bs → Vals (bs.map (·.1)) us
  | _, _, .nil => .nil
  | _, _, .cons r t => .cons r (vals_each t)
section
variable {X : Cx}
def rSortD (K : PySem.W.Frag) : List V → Hp → VK → Prop := fun vs H Q => ∃ (a : Addr) (xs : List V) (ds : List PyData), vs = [V.ref a] ∧ SqL K H a xs ∧ DpAll K H xs ds ∧ PySem.W.AllAlike ds ∧ PySem.W.Sortable ds ∧ (∀ d ∈ ds, d.depth ≤ 60) ∧
  ∀ (ys : List V) (p : Addr), ys.Perm xs → H p = none → Q (.ref p) (upd H p (.lst ys))
theorem cr_sortD (hu : X.A.units + 70 < cLine) : CallR X (.builtin "sorted") (rSortD X.K) := by
  intro pins s σ H vs us Q I r h
  obtain ⟨a, xs, ds, rfl, hs, hd, hal, hk, hdp, q⟩ := h
  obtain ⟨its, rv, hl, hz⟩ := I.list hs
  obtain ⟨u, rfl, ru⟩ := vals1 r
  obtain rfl : u = Value.ref a := ru
  obtain ⟨e1, e2, e3, e4⟩ := each_vals (K := X.K) (H := H) (h := s.heap) (fun d v u h r => Dp.reads I d v u h r) rv hd
  have hlen : (xs.zip ds).length ≤ sizeLine := by
    rw [← List.length_map (f := fun b : V × PyData => b.1), e3]; exact hz
  refine PySem.W.sorted_data (R := fun (u : Value) (b : V × PyData) => RelV b.1 u) (enc := fun b : V × PyData => b.2) (bs := xs.zip ds) hl.isList e1 e2 (by rw [e4]; exact hal) (by rw [e4]; exact hk) hlen (fun b hb => ?_) fun out ho eo => ?_
  · have : b.2 ∈ ds := by rw [← e4]; exact List.mem_map_of_mem hb
    have := hdp _ this
    omega
  · obtain ⟨ep, he'⟩ := PyProof.Rows.sortedAll_at s.heap its out.toArray
    have hv := vals_each eo
    have hp : (((xs.zip ds).mergeSort (PySem.W.dataLe false fun b : V × PyData => b.2)).map (·.1)).Perm xs := by
      have := (List.mergeSort_perm (xs.zip ds) (PySem.W.dataLe false fun b : V × PyData => b.2)).map (fun b : V × PyData => b.1)
      rw [e3] at this
      exact this
    refine ⟨.ref _, upd H (s.heap.objs.size + 1) (.lst _), I.laid (t' := s.toks) (fun _ _ => PyProof.Rows.sortedAll_old) (Nat.le_succ _) ⟨by rw [hp.length_eq]; exact hz, out, ep, hv, he'⟩, rfl, q _ _ hp (I.hok.fresh (Nat.le_succ _))⟩

/-! ### a < b < c < d -/
def tChain3 (r r' r'' : R2) (ta tb tc td : TE) : TE := fun σ H Q => ta σ H fun x H1 => tb σ H1 fun y H2 => r x y H2 fun z H3 => ∃ k, z = .bl k ∧
  (if k = true then tc σ H3 fun w' H4 => r' y w' H4 fun z' H5 => ∃ k', z' = .bl k' ∧ (if k' = true then td σ H5 fun w2 H6 => r'' w' w2 H6 Q else Q (.bl false) H5) else Q (.bl false) H3)
variable {a b c d : Expr} {ta tb tc td : TE} {pos : Pos}
theorem pe_chain3 {op op' op'' : CmpOp} {r r' r'' : R2} (ho : OpR X (compareOp op) r) (ho' : OpR X (compareOp op') r') (ho'' : OpR X (compareOp op'') r'') (ha : PE X a ta) (hb : PE X b tb) (hc : PE X c tc) (hd : PE X d td)
    (hm : lastMarks [op, op', op''] [b, c, d] = false := by with_unfolding_all rfl) : PE X (.Compare a [op, op', op''] [b, c, d] pos) (tChain3 r r' r'' ta tb tc td) := by
  refine ⟨fun pins s σ H Q I h => ?_⟩
  refine Compare_chain (thn (ha.run pins s σ H _ I h) fun v s1 ⟨x, H1, I1, r1, q1⟩ => chain_link (thn (hb.run pins s1 σ H1 _ I1 q1) fun u s2 ⟨y, H2, I2, r2, q2⟩ =>
    thn (ho pins s2 σ H2 x y v u _ I2 r1 r2 q2) fun d s3 ⟨z, H3, I3, r3, k, e, q3⟩ => ?_)) hm
  subst e
  cases r3
  refine wpAny_truthy_bool ?_
  cases k with
  | false => exact ite_ff ⟨.bl false, H3, I3, rfl, q3⟩
  | true =>
    refine ite_tt (chain_link (thn (hc.run pins s3 σ H3 _ I3 q3) fun w' s4 ⟨z', H4, I4, r4, q4⟩ => thn (ho' pins s4 σ H4 y z' u w' _ I4 r2 r4 q4) fun d' s5 ⟨z2, H5, I5, r5, k', e', q5⟩ => ?_))
    subst e'
    cases r5
    refine wpAny_truthy_bool ?_
    cases k' with
    | false => exact ite_ff ⟨.bl false, H5, I5, rfl, q5⟩
    | true => exact ite_tt (chain_last (thn (hd.run pins s5 σ H5 _ I5 q5) fun w2 s6 ⟨z3, H6, I6, r6, q6⟩ => ho'' pins s6 σ H6 z' z3 w' w2 Q I6 r4 r6 q6))
end
end Kn

set_option Elab.async false
set_option linter.all false
set_option maxRecDepth 100000
set_option maxHeartbeats 1000000
/-! WkE: by_knots, stretches. -/
namespace Kn
open PySem PySem.Spec PyProof.Rows L2

theorem rgV_ivs (n : Nat) : rgV 0 (n : Int) = ivs ((List.range n).map fun k => ((k : Nat) : Int)) := by
  unfold rgV ivs
  rw [List.map_map, show ((n : Int) - 0).toNat = n by omega]
  refine List.map_congr_left fun k _ => ?_
  show V.int (0 + (k : Int)) = V.int (k : Int)
  rw [Int.zero_add]
/-- a stretch by its cut's corners -/
abbrev stn (e : Cut) : List Int := [(e.1 : Int), (e.2 : Int) - 2]
abbrev cun (e : Cut) : List Int := [(e.1 : Int), (e.2 : Int)]
section
variable {P : Program} {w : World} {K : PySem.W.Frag} {mg : Str → Option Value} {base : Heap}
abbrev s_by_knots : Stmt := top 11
theorem sc_by_knots : FnScope ["tree", "firsts", "lasts", "knot", "above"] ["tree"] (C8.fnScope s_by_knots) := C8.fnScope_by (by decide +kernel)
def sp_by_knots : Sp := fun vs H Q _ => ∃ (a : Addr) (t : B), vs = [.ref a] ∧ TpF H a (tl t) ∧ t ≠ .lf ∧ t.sz ≤ 1000 ∧
  ∀ (l : Addr) (ws : List V) (H' : Hp), H l = none → Same H H' → H' l = some (.lst ws) → Tups H' ws ((nodes t 0).map stn) → Q (.ref l) H'
theorem ok_by_knots (G : Gs mg) (F : Df K mg "by_knots" s_by_knots ["tree"]) (c_from_root : CalN P w K mg base 2 "from_root" sp_from_root) : CalN P w K mg base 3 "by_knots" sp_by_knots := by
  refine F.cal sc_by_knots (fun vs H Q E h => ?_) (fun f cdv A outer s H vs Q E hr h => ?_)
  · obtain ⟨a, t, rfl, _⟩ := h
    rfl
  · obtain ⟨a, t, rfl, ha, ht, hz, q⟩ := h
    have hl : (tl t).length = t.sz := par_len t 0 (-1)
    refine ⟨_, (pss_cons (ps_set (i := 1) sc_by_knots.nd rfl (Or.inr rfl) (pe_listRg rfl (by rfl) G.list (prg_1 (by rfl) G.range (pe_callB call_len_seq (by rfl) G.len PySem.boot_len (pa_cons (pv 0) pa_nil)))))
      (pss_cons (ps_set (i := 2) sc_by_knots.nd rfl (Or.inr rfl) (pe_listRg rfl (by rfl) G.list (prg_1 (by rfl) G.range (pe_callB call_len_seq (by rfl) G.len PySem.boot_len (pa_cons (pv 0) pa_nil)))))
      (pss_cons (ps_for PassesOwn.never rfl (pi_reversed (by rfl) G.reversed (pa_cons (C8.pe_c c_from_root hr (by decide) (by rfl) (pa_cons (pv 0) pa_nil)) pa_nil)) (pg_name (i := 3) sc_by_knots.nd rfl (Or.inl rfl)) (pss_cons (ps_set (i := 4) sc_by_knots.nd rfl (Or.inl rfl) (pe_ix ix_tup (pv 0) (pv 3) (fun _ _ => rfl)))
      (pss_one (ps_if (pt_cmpR op_ne (pv 4) (C8.pe_gc (by rfl) G.noKnot) (nomark _)) (pss_cons (ps_asg (pe_callB (call_min2 rfl) (by rfl) G.min (by decide +kernel) (pa_cons (pe_ix ix_list (pv 1) (pv 4) (fun _ _ => rfl)) (pa_cons (pe_ix ix_list (pv 1) (pv 3) (fun _ _ => rfl)) pa_nil))) (pg_sub (pv 1) (pv 4) set_list))
      (pss_one (ps_asg (pe_callB (call_max2 rfl) (by rfl) G.max (by decide +kernel) (pa_cons (pe_ix ix_list (pv 2) (pv 4) (fun _ _ => rfl)) (pa_cons (pe_ix ix_list (pv 2) (pv 3) (fun _ _ => rfl)) pa_nil))) (pg_sub (pv 2) (pv 4) set_list)))) pss_nil))))
      (pss_one (ps_ret (pe_lc (own := [("knot", 3)]) rfl sc_by_knots.nd (pi_range1 (by rfl) G.range (pa_cons (pe_callB call_len_seq (by rfl) G.len PySem.boot_len (pa_cons (pv 0) pa_nil)) pa_nil)) (blkOk_by (N := ["tree", "firsts", "lasts", "knot", "above"]) (sc := C8.fnScope s_by_knots) (own := [("knot", 3)]) (by decide +kernel)) (fun _ _ _ _ _ => (pg_name (i := 3) sc_by_knots.nd rfl (Or.inl rfl))) (fun _ _ _ _ _ => pts_nil) (fun _ _ _ _ _ => (pe_tup (pa_cons (pe_ix (r := rIxL K) ix_list (pv 1) (pv 3) (fun _ _ => rfl)) (pa_cons (pe_ix (r := rIxL K) ix_list (pv 2) (pv 3) (fun _ _ => rfl)) pa_nil)))))))))), ?_⟩
    have rg : RgOk 0 (((ivs (tl t)).length : Nat) : Int) := RgOk.of_le (by omega) (by rw [ivs_len]; omega) (by omega) (by omega)
    have erg : rgV 0 (((ivs (tl t)).length : Nat) : Int) = ivs ((List.range t.sz).map fun k => ((k : Nat) : Int)) := by rw [rgV_ivs, ivs_len, hl]
    refine ⟨_, rfl, a, _, rfl, .inr ha.rd.sq, _, rfl, rg, fun fA hf0 => ?_⟩
    have s1 : Same H (upd H fA (.lst (rgV 0 (((ivs (tl t)).length : Nat) : Int)))) := (Same.refl H).new hf0
    refine ⟨_, rfl, a, _, rfl, .inr (s1.rdT ha.rd).sq, _, rfl, rg, fun lA hl0 => ?_⟩
    have nfl : fA ≠ lA := fun e => by rw [← e, upd_same] at hl0; cases hl0
    have hl00 : H lA = none := s1.free hl0
    rw [erg] at s1 hl0 ⊢
    have s2 := s1.new (o := .lst (ivs ((List.range t.sz).map fun k => ((k : Nat) : Int)))) hl0
    refine ⟨_, rfl, a, t, rfl, s2.tpK ha, ht, hz, fun R row H3 hR s3 h3 hrow => ?_⟩
    have hn : row.length = t.sz := by rw [hrow.perm.length_eq, List.length_range]
    have hR0 : H R = none := s2.free hR
    have nRf : R ≠ fA := fun e => by rw [e, upd_ne nfl, upd_same] at hR; cases hR
    have nRl : R ≠ lA := fun e => by rw [e, upd_same] at hR; cases hR
    have hle : (nvs row).length = t.sz := by rw [List.length_map, hn]
    refine ⟨R, _, rfl, SqL.of h3, RT.for_Itv (K := K) (a := R) (xs := nvs row) (fun i σ H4 => ∃ fs ls pre post, row = pre ++ post ∧ post.length = i ∧ Stz t fs ls post ∧ (∃ u v, σ = [some (.ref a), some (.ref fA), some (.ref lA), u, v]) ∧ Same H H4 ∧ H4 R = some (.lst (nvs row)) ∧ H4 fA = some (.lst (ivs fs)) ∧ H4 lA = some (.lst (ivs ls)))
      ⟨_, _, row, [], by simp, rfl, str_start, ⟨_, _, rfl⟩, s2.trans s3, h3, s3 _ _ (by rw [upd_ne nfl, upd_same]), s3 _ _ upd_same⟩ (fun i σ H4 ⟨_, _, _, _, _, _, _, _, _, h, _⟩ => SqL.of h) ?_ ?_⟩
    · rintro i x σ H4 hi hx ⟨fs, ls, pre, post, er, ep, S, ⟨u, v, rfl⟩, s4, h4, hf, hll⟩
      rw [hle] at hi hx
      have hp : pre.length = t.sz - i := by
        have := congrArg List.length er
        rw [List.length_append] at this; omega
      rcases List.eq_nil_or_concat pre with e | ⟨pre', c, e⟩
      · subst e; simp at hp; omega
      · rw [List.concat_eq_append] at e
        subst e
        rw [List.length_append, List.length_singleton] at hp
        have hrc : row[t.sz - 1 - i]? = some c := by
          rw [er, List.append_assoc, List.getElem?_append_right (by omega), show t.sz - 1 - i - pre'.length = 0 by omega]
          rfl
        have exc : x = V.int (c : Nat) := Option.some.inj (hx.symm.trans (nvs_at hrc))
        subst exc
        have er' : row = pre' ++ c :: post := by rw [er]; simp
        have hc : c < t.sz := List.mem_range.mp (hrow.perm.mem_iff.mp (by rw [er']; simp))
        have step : ∀ {fs' ls' : List Int}, Stz t fs' ls' (c :: post) → (∃ fs ls pre post, row = pre ++ post ∧ post.length = i + 1 ∧ Stz t fs ls post ∧ fs = fs' ∧ ls = ls') := fun {fs' ls'} S' => ⟨fs', ls', pre', c :: post, er', by simp [ep], S', rfl, rfl⟩
        rcases up_iff hc with ⟨_, e2, _⟩ | ⟨_, ab, e2, _⟩
        · refine ⟨_, rfl, _, rfl, a, _, _, _, rfl, rfl, (s4.rdT ha.rd).sq, atI_ivs e2, _, rfl, rfl, _, rfl, iteN0 rfl ?_⟩
          exact ⟨fs, ls, pre', c :: post, er', by simp [ep], str_root S e2, ⟨_, _, rfl⟩, s4, h4, hf, hll⟩
        · obtain ⟨f1, f2, l1, l2, a1, a2, a3, a4, hab, _, S'⟩ := str_step (pre := pre') (by rw [← er']; exact hrow) S e2
          have nlf : lA ≠ fA := fun e => nfl e.symm
          refine ⟨_, rfl, _, rfl, a, _, _, _, rfl, rfl, (s4.rdT ha.rd).sq, atI_ivs e2, _, rfl, rfl, _, rfl, iteN1 (vint_ne (by omega)) ?_⟩
          refine ⟨_, rfl, _, rfl, fA, _, _, _, rfl, rfl, SqL.of hf, atI_ivs a1, _, rfl, _, rfl, fA, _, _, _, rfl, rfl, SqL.of hf, atI_ivs a2, _, _, rfl, _, rfl, _, rfl, fA, _, _, ab, rfl, rfl, hf, ixN_of (by rw [ivs_len, S.fl]; exact hab), ?_⟩
          have hl5 : ∀ {o : HO}, (upd H4 fA o) lA = some (.lst (ivs ls)) := fun {o} => by rw [upd_ne nlf]; exact hll
          refine ⟨_, rfl, _, rfl, lA, _, _, _, rfl, rfl, SqL.of hl5, atI_ivs a3, _, rfl, _, rfl, lA, _, _, _, rfl, rfl, SqL.of hl5, atI_ivs a4, _, _, rfl, _, rfl, _, rfl, lA, _, _, ab, rfl, rfl, hl5, ixN_of (by rw [ivs_len, S.ll]; exact hab), ?_⟩
          have m1 : (if f2 < f1 then f2 else f1) = min f1 f2 := by omega
          have m2 : (if l2 > l1 then l2 else l1) = max l1 l2 := by omega
          rw [ivs_set, ivs_set, m1, m2]
          refine ⟨_, _, pre', c :: post, er', by simp [ep], S', ⟨_, _, rfl⟩, (s4.mut hf0).mut hl00, by rw [upd_ne nRl, upd_ne nRf]; exact h4, by rw [upd_ne nfl, upd_same], upd_same⟩
    · rintro σ H4 ⟨fs, ls, pre, post, er, ep, S, ⟨u, v, rfl⟩, s4, h4, hf, hll⟩
      have epr : pre = [] := by
        have := congrArg List.length er
        rw [List.length_append] at this
        rw [hle] at ep
        exact List.length_eq_zero_iff.mp (by omega)
      subst epr
      rw [List.nil_append] at er
      subst er
      refine ⟨_, rfl, a, _, rfl, .inr (s4.rdT ha.rd).sq, _, rfl, by rw [ivs_len]; omega, by rw [ivs_len]; omega, fun D hD => lc_range (lo := 0) (n := (((ivs (tl t)).length : Nat) : Int).toNat)
        (fun i H5 => Same H4 H5 ∧ ∃ ws, H5 D = some (.lst ws) ∧ ws.length ≤ i ∧ Tups H5 ws (((nodes t 0).take i).map stn)) ⟨(Same.refl H4).new hD, [], upd_same, Nat.le_refl _, .nil⟩ ?_ ?_⟩
      · rintro i H5 hi ⟨s5, ws, h5, hw, tp⟩
        have hi' : i < t.sz := by rw [ivs_len] at hi; omega
        have e0 : (0 : Int) + (i : Nat) = ((i : Nat) : Int) := Int.zero_add _
        rw [e0]
        obtain ⟨x, y, n1, n2, n3⟩ := str_end hrow S hi'
        refine ⟨rfl, ?_⟩
        refine ⟨_, rfl, _, rfl, fA, _, _, _, rfl, rfl, SqL.of (s5 _ _ hf), atI_ivs n2, _, rfl, _, rfl, lA, _, _, _, rfl, rfl, SqL.of (s5 _ _ hll), atI_ivs n3, by show 2 ≤ sizeLine; decide, fun p hp => ?_⟩
        have npD : p ≠ D := fun e => by rw [e, h5] at hp; cases hp
        refine ⟨ws, by rw [upd_ne npD.symm]; exact h5, bigl (by omega), (s5.new hp).mut hD, _, upd_same, by rw [List.length_append, List.length_singleton]; omega, ?_⟩
        have k1 : Tkeep H5 (upd H5 p (.tup [.int (x : Nat), .int ((y : Int) - 2)])) := Tkeep.new hp
        have k2 : Tkeep (upd H5 p (.tup [.int (x : Nat), .int ((y : Int) - 2)])) (upd (upd H5 p (.tup [.int (x : Nat), .int ((y : Int) - 2)])) D (.lst (ws ++ [.ref p]))) := Tkeep.lst (by rw [upd_ne npD.symm]; exact h5)
        rw [List.take_succ, n1, List.map_append]
        exact Paired.append (tp.keep (k1.trans k2)) (.cons ⟨p, rfl, k2 _ _ upd_same⟩ .nil)
      · rintro H5 ⟨s5, ws, h5, hw, tp⟩
        refine q D ws H5 (s4.free hD) (s4.trans s5) h5 ?_
        rw [ivs_len] at tp
        have e : ((((tl t).length : Nat) : Int)).toNat = (nodes t 0).length := by rw [nodes_len]; omega
        rw [e, List.take_length] at tp
        exact tp
end
end Kn

set_option Elab.async false
set_option linter.all false
set_option maxRecDepth 100000
set_option maxHeartbeats 1000000
/-! WkF: stretches, cuts, shared cuts. -/
namespace Kn
open PySem PySem.Spec PyProof.Rows L2

theorem paired_map {α β γ : Type} {R : α → γ → Prop} (f : β → γ) : ∀ {xs : List α} {ys : List β}, Paired R xs (ys.map f) → Paired (fun x y => R x (f y)) xs ys
  | [], [], _ => .nil
  | _, y :: ys, h => by
    rw [List.map_cons] at h
    cases h with
    | cons r t => exact .cons r (paired_map f t)
theorem paired_unmap {α β γ : Type} {R : α → γ → Prop} (f : β → γ) : ∀ {xs : List α} {ys : List β}, Paired (fun x y => R x (f y)) xs ys → Paired R xs (ys.map f)
  | _, _, .nil => .nil
  | _, _, .cons r t => .cons r (paired_unmap f t)
theorem Tups.perm {β : Type} {H : Hp} {f : β → List Int} {ws ws' : List V} {es : List β} (p : ws'.Perm ws) (h : Tups H ws (es.map f)) : ∃ es' : List β, es'.Perm es ∧ Tups H ws' (es'.map f) := by
  obtain ⟨es', a, b⟩ := Paired.perm p (paired_map f h)
  exact ⟨es', a, paired_unmap f b⟩
theorem Tups.len {H : Hp} {ws : List V} {nss : List (List Int)} (h : Tups H ws nss) : ws.length = nss.length := Paired.length h
theorem Tups.get {β : Type} {H : Hp} {f : β → List Int} {ws : List V} {es : List β} {i : Nat} {x : V} (h : Tups H ws (es.map f)) (e : ws[i]? = some x) : ∃ b a, es[i]? = some b ∧ x = .ref a ∧ H a = some (.tup (ivs (f b))) := by
  obtain ⟨y, h1, a, h2, h3⟩ := Paired.at1 h e
  rw [List.getElem?_map] at h1
  cases q : es[i]? with
  | none => rw [q] at h1; cases h1
  | some b =>
    rw [q] at h1
    have : f b = y := Option.some.inj h1
    subst this
    exact ⟨b, a, rfl, h2, h3⟩
theorem Tups.snoc {H : Hp} {ws : List V} {nss : List (List Int)} {p : Addr} {ns : List Int} (h : Tups H ws nss) (e : H p = some (.tup (ivs ns))) : Tups H (ws ++ [.ref p]) (nss ++ [ns]) := Paired.append h (.cons ⟨p, rfl, e⟩ .nil)
/-- the cuts of t, each once -/
structure CutsOf (t : B) (es : List Cut) : Prop where
  nd : es.Nodup
  mem : ∀ e, e ∈ es ↔ e ∈ nodes t 0 ∧ e ≠ (0, t.sz + 1)
section
variable {P : Program} {w : World} {K : PySem.W.Frag} {mg : Str → Option Value} {base : Heap}
/-! ### stretches -/
abbrev s_stretch_of : Stmt := top 12
theorem sc_stretch_of : FnScope ["tree", "knot"] ["tree", "knot"] (C8.fnScope s_stretch_of) := C8.fnScope_by (by decide +kernel)
def sp_stretch_of : Sp := fun vs H Q _ => ∃ (a : Addr) (t : B) (k : Nat) (e : Cut), vs = [.ref a, .int (k : Nat)] ∧ TpF H a (tl t) ∧ t.sz ≤ 1000 ∧ (nodes t 0)[k]? = some e ∧
  ∀ (p : Addr) (H' : Hp), Same H H' → H' p = some (.tup (ivs (stn e))) → Q (.ref p) H'
theorem ok_stretch_of (G : Gs mg) (F : Df K mg "stretch_of" s_stretch_of ["tree", "knot"]) (c_by_knots : CalN P w K mg base 3 "by_knots" sp_by_knots) : CalN P w K mg base 4 "stretch_of" sp_stretch_of := by
  refine F.cal sc_stretch_of (fun vs H Q E h => ?_) (fun f cdv A outer s H vs Q E hr h => ?_)
  · obtain ⟨a, t, k, e, rfl, _⟩ := h
    rfl
  · obtain ⟨a, t, k, e, rfl, ha, hz, he, q⟩ := h
    have ht : t ≠ .lf := fun z => by rw [z] at he; simp [nodes] at he
    refine ⟨_, (pss_one (ps_ret (pe_ix ix_list (C8.pe_c c_by_knots hr (by decide) (by rfl) (pa_cons (pv 0) pa_nil)) (pv 1) (fun _ _ => rfl)))), ?_⟩
    refine ⟨_, rfl, a, t, rfl, ha, ht, hz, fun l ws H' hl s1 h1 tp => ?_⟩
    obtain ⟨x, hx, p, rfl, hp⟩ := Paired.at2 (i := k) (y := stn e) tp (by rw [List.getElem?_map, he]; rfl)
    exact ⟨_, rfl, l, _, _, _, rfl, rfl, SqL.of h1, atI_of hx, q p H' s1 hp⟩
abbrev s_stretches_of : Stmt := top 13
theorem sc_stretches_of : FnScope ["tree"] ["tree"] (C8.fnScope s_stretches_of) := C8.fnScope_by (by decide +kernel)
def sp_stretches_of : Sp := fun vs H Q _ => ∃ (a : Addr) (t : B), vs = [.ref a] ∧ TpF H a (tl t) ∧ t ≠ .lf ∧ t.sz ≤ 1000 ∧
  ∀ (l : Addr) (ws : List V) (es : List Cut) (H' : Hp), Same H H' → H' l = some (.lst ws) → es.Perm (nodes t 0) → Tups H' ws (es.map stn) → Q (.ref l) H'
theorem ok_stretches_of (G : Gs mg) (F : Df K mg "stretches_of" s_stretches_of ["tree"]) (c_by_knots : CalN P w K mg base 3 "by_knots" sp_by_knots) : CalN P w K mg base 4 "stretches_of" sp_stretches_of := by
  refine F.cal sc_stretches_of (fun vs H Q E h => ?_) (fun f cdv A outer s H vs Q E hr h => ?_)
  · obtain ⟨a, t, rfl, _⟩ := h
    rfl
  · obtain ⟨a, t, rfl, ha, ht, hz, q⟩ := h
    refine ⟨_, (pss_one (ps_ret (pe_callB cr_sortedP (by rfl) G.sorted (by decide +kernel) (pa_cons (C8.pe_c c_by_knots hr (by decide) (by rfl) (pa_cons (pv 0) pa_nil)) pa_nil)))), ?_⟩
    refine ⟨_, rfl, a, t, rfl, ha, ht, hz, fun l ws H' hl s1 h1 tp => ?_⟩
    refine ⟨l, ws, rfl, SqL.of h1, fun x hx => ?_, fun ys p hp hn => ?_⟩
    · obtain ⟨i, hi, e⟩ := List.getElem_of_mem hx
      obtain ⟨b, t', _, rfl, h2⟩ := tp.get (i := i) (x := x) (by rw [List.getElem?_eq_getElem hi, e])
      exact ⟨t', _, _, rfl, h2⟩
    · obtain ⟨es, h2, h3⟩ := tp.perm hp
      exact q p ys es _ (s1.new hn) upd_same h2 (h3.keep (Tkeep.new hn))
/-! ### cuts -/
abbrev s_cut_of : Stmt := top 20
theorem sc_cut_of : FnScope ["tree", "knot", "first", "last"] ["tree", "knot"] (C8.fnScope s_cut_of) := C8.fnScope_by (by decide +kernel)
def sp_cut_of : Sp := fun vs H Q _ => ∃ (a : Addr) (t : B) (k : Nat) (e : Cut), vs = [.ref a, .int (k : Nat)] ∧ TpF H a (tl t) ∧ t.sz ≤ 1000 ∧ (nodes t 0)[k]? = some e ∧
  ∀ (p : Addr) (H' : Hp), Same H H' → H' p = some (.tup (ivs (cun e))) → Q (.ref p) H'
theorem cun_stn (e : Cut) : ([V.int (e.1 : Nat), V.int ((e.2 : Int) - 2 + 2)] : List V) = ivs (cun e) := by
  show [V.int (e.1 : Nat), V.int ((e.2 : Int) - 2 + 2)] = [V.int (e.1 : Int), V.int (e.2 : Int)]
  rw [show (e.2 : Int) - 2 + 2 = (e.2 : Int) by omega]
theorem ok_cut_of (G : Gs mg) (F : Df K mg "cut_of" s_cut_of ["tree", "knot"]) (c_stretch_of : CalN P w K mg base 4 "stretch_of" sp_stretch_of) : CalN P w K mg base 5 "cut_of" sp_cut_of := by
  refine F.cal sc_cut_of (fun vs H Q E h => ?_) (fun f cdv A outer s H vs Q E hr h => ?_)
  · obtain ⟨a, t, k, e, rfl, _⟩ := h
    rfl
  · obtain ⟨a, t, k, e, rfl, ha, hz, he, q⟩ := h
    refine ⟨_, (pss_cons (ps_asg (C8.pe_c c_stretch_of hr (by decide) (by rfl) (pa_cons (pv 0) (pa_cons (pv 1) pa_nil))) (pg_tup rfl (pgs_cons (pg_name (i := 2) sc_cut_of.nd rfl (Or.inl rfl)) (pgs_cons (pg_name (i := 3) sc_cut_of.nd rfl (Or.inl rfl)) pgs_nil))))
      (pss_one (ps_ret (pe_tup (pa_cons (pv 2) (pa_cons (pe_op op_add (pv 3) pe_int) pa_nil)))))), ?_⟩
    refine ⟨_, rfl, _, rfl, a, t, k, e, rfl, ha, hz, he, fun p H1 s1 hp => ?_⟩
    refine ⟨p, _, rfl, SqT.of hp, rfl, _, _, rfl, _, _, rfl, rfl, ?_⟩
    refine ⟨_, rfl, _, rfl, _, _, rfl, rfl, by show 2 ≤ sizeLine; decide, fun p2 hp2 => ?_⟩
    exact q p2 _ (s1.new hp2) (by rw [upd_same]; exact congrArg (fun z => some (HO.tup z)) (cun_stn e))
abbrev s_cuts_of : Stmt := top 21
theorem sc_cuts_of : FnScope ["tree", "whole", "first", "last"] ["tree"] (C8.fnScope s_cuts_of) := C8.fnScope_by (by decide +kernel)
def sp_cuts_of : Sp := fun vs H Q _ => ∃ (a : Addr) (t : B), vs = [.ref a] ∧ TpF H a (tl t) ∧ t ≠ .lf ∧ t.sz ≤ 1000 ∧
  ∀ (l : Addr) (ws : List V) (es : List Cut) (H' : Hp), H l = none → Same H H' → H' l = some (.lst ws) → CutsOf t es → Tups H' ws (es.map cun) → Q (.ref l) H'
theorem ok_cuts_of (G : Gs mg) (F : Df K mg "cuts_of" s_cuts_of ["tree"]) (c_stretches_of : CalN P w K mg base 4 "stretches_of" sp_stretches_of) : CalN P w K mg base 5 "cuts_of" sp_cuts_of := by
  refine F.cal sc_cuts_of (fun vs H Q E h => ?_) (fun f cdv A outer s H vs Q E hr h => ?_)
  · obtain ⟨a, t, rfl, _⟩ := h
    rfl
  · obtain ⟨a, t, rfl, ha, ht, hz, q⟩ := h
    have hl : (tl t).length = t.sz := par_len t 0 (-1)
    refine ⟨_, (pss_cons (ps_set (i := 1) sc_cuts_of.nd rfl (Or.inr rfl) (pe_tup (pa_cons pe_int (pa_cons (pe_op op_sub (pe_callB call_len_seq (by rfl) G.len PySem.boot_len (pa_cons (pv 0) pa_nil)) pe_int) pa_nil))))
      (pss_one (ps_ret (pe_lc (own := [("first", 2), ("last", 3)]) (g := (gTup K 2 (gCons (gName 2) (gCons (gName 3) gNil)))) rfl sc_cuts_of.nd (pi_list (C8.pe_c c_stretches_of hr (by decide) (by rfl) (pa_cons (pv 0) pa_nil))) (blkOk_by (N := ["tree", "whole", "first", "last"]) (sc := C8.fnScope s_cuts_of) (own := [("first", 2), ("last", 3)]) (by decide +kernel)) (fun _ _ _ _ _ => (pg_tup rfl (pgs_cons (pg_name (i := 2) sc_cuts_of.nd rfl (Or.inl rfl)) (pgs_cons (pg_name (i := 3) sc_cuts_of.nd rfl (Or.inl rfl)) pgs_nil)))) (fun _ _ _ _ _ => (pts_one (pt_cmpR (r := rNeT K) (op_neT (hu64 hr)) (pe_tup (pa_cons (pv 2) (pa_cons (pv 3) pa_nil))) (pv 1) (nomark _)))) (fun _ _ _ _ _ => (pe_tup (pa_cons (pv 2) (pa_cons (pe_op op_add (pv 3) pe_int) pa_nil)))))))), ?_⟩
    refine ⟨_, rfl, a, _, rfl, .inr ha.rd.sq, _, _, rfl, rfl, by show 2 ≤ sizeLine; decide, fun W hW => ?_⟩
    have s0 := (Same.refl H).new (o := .tup [.int 0, .int (((ivs (tl t)).length : Int) - 1)]) hW
    refine ⟨_, rfl, a, t, rfl, s0.tpK ha, ht, hz, fun l ws es H1 s1 h1 hes tp => ?_⟩
    have hW1 : H1 W = some (.tup (ivs [0, (((ivs (tl t)).length : Int) - 1)])) := s1 _ _ upd_same
    have elen : es.length = t.sz := by rw [hes.length_eq, nodes_len]
    refine ⟨l, rfl, ⟨_, SqL.of h1⟩, fun D hD => lc_list (K := K) (a := l) (xs := ws) (fun i H2 => Same H1 H2 ∧ ∃ us : List V, H2 D = some (.lst us) ∧ us.length ≤ i ∧ Tups H2 us (((es.take i).filter fun e => decide (e ≠ (0, t.sz + 1))).map cun))
      ⟨(Same.refl H1).new hD, [], upd_same, Nat.le_refl _, .nil⟩ (fun i H2 _ ⟨s2, _⟩ => SqL.of (s2 _ _ h1)) ?_ ?_⟩
    · rintro i x H2 hi ⟨s2, us, h2, hu, tu⟩
      obtain ⟨e, c, he, rfl, hc⟩ := tp.get hi
      have hi' : i < t.sz := by rw [← elen]; exact (List.getElem?_eq_some_iff.mp he).1
      have nWD : W ≠ D := fun z => by rw [← z, hW1] at hD; cases hD
      refine ⟨c, _, rfl, SqT.of (s2 _ _ hc), rfl, _, _, rfl, _, _, rfl, rfl, rfl, ?_⟩
      refine ⟨_, rfl, _, rfl, by show 2 ≤ sizeLine; decide, fun p hp => ?_⟩
      have npD : p ≠ D := fun z => by rw [z, h2] at hp; cases hp
      refine ⟨_, rfl, p, W, [(e.1 : Int), (e.2 : Int) - 2], _, rfl, rfl, SqT.of upd_same, SqT.of (by rw [upd_ne (ne_of_none (s2 _ _ hW1) hp)]; exact s2 _ _ hW1), _, rfl, ?_⟩
      have s3 := s2.new (o := .tup [.int (e.1 : Nat), .int ((e.2 : Int) - 2)]) hp
      have k1 : Tkeep H2 (upd H2 p (.tup [.int (e.1 : Nat), .int ((e.2 : Int) - 2)])) := Tkeep.new hp
      have hem : e ∈ nodes t 0 := hes.mem_iff.mp (List.mem_of_getElem? he)
      have hb := nodes_bd hem
      by_cases ce : e = (0, t.sz + 1)
      · refine iteN0 (by rw [ce, ivs_len, hl]; show [((0 : Nat) : Int), (((t.sz + 1 : Nat)) : Int) - 2] = [0, (t.sz : Int) - 1]; congr 2; omega) ?_
        refine ⟨s3, us, by rw [upd_ne npD.symm]; exact h2, by omega, ?_⟩
        rw [List.take_succ, he, List.filter_append, show (Option.some e).toList = [e] from rfl, List.filter_cons_of_neg (by simpa using ce), List.filter_nil, List.append_nil]
        exact tu.keep k1
      · refine iteN1 (fun z => ce ?_) ?_
        · rw [ivs_len, hl] at z
          have z1 : (e.1 : Int) = 0 := (List.cons.inj z).1
          have z2 : (e.2 : Int) - 2 = (t.sz : Int) - 1 := (List.cons.inj (List.cons.inj z).2).1
          exact Prod.ext (by dsimp only; omega) (by dsimp only; omega)
        · refine ⟨_, rfl, _, rfl, _, _, rfl, rfl, by show 2 ≤ sizeLine; decide, fun p2 hp2 => ?_⟩
          have hD2 : (upd H2 p (.tup [.int (e.1 : Nat), .int ((e.2 : Int) - 2)])) D = some (.lst us) := by rw [upd_ne npD.symm]; exact h2
          have np2D : p2 ≠ D := fun z => by rw [z, hD2] at hp2; cases hp2
          have k2 : Tkeep (upd H2 p (.tup [.int (e.1 : Nat), .int ((e.2 : Int) - 2)])) (upd (upd H2 p (.tup [.int (e.1 : Nat), .int ((e.2 : Int) - 2)])) p2 (.tup (ivs (cun e)))) := Tkeep.new hp2
          have k3 : Tkeep (upd (upd H2 p (.tup [.int (e.1 : Nat), .int ((e.2 : Int) - 2)])) p2 (.tup (ivs (cun e)))) (upd (upd (upd H2 p (.tup [.int (e.1 : Nat), .int ((e.2 : Int) - 2)])) p2 (.tup (ivs (cun e)))) D (.lst (us ++ [.ref p2]))) := Tkeep.lst (by rw [upd_ne np2D.symm]; exact hD2)
          rw [cun_stn e]
          refine ⟨us, by rw [upd_ne np2D.symm]; exact hD2, bigl (by omega), (s3.new hp2).mut hD, _, upd_same, by rw [List.length_append, List.length_singleton]; omega, ?_⟩
          rw [List.take_succ, he, List.filter_append, show (Option.some e).toList = [e] from rfl, List.filter_cons_of_pos (by simpa using ce), List.filter_nil, List.map_append]
          exact (tu.keep ((k1.trans k2).trans k3)).snoc (k3 _ _ upd_same)
    · rintro H2 ⟨s2, us, h2, hu, tu⟩
      have hwl : ws.length = es.length := by rw [tp.len, List.length_map]
      rw [hwl, List.take_length] at tu
      refine q D us _ H2 ((s0.trans s1).free hD) ((s0.trans s1).trans s2) h2 ⟨(hes.nodup_iff.mpr (nodes_nodup t 0)).sublist List.filter_sublist, fun e => ?_⟩ tu
      rw [List.mem_filter, hes.mem_iff]
      simp
end
end Kn

set_option Elab.async false
set_option linter.all false
set_option maxRecDepth 100000
set_option maxHeartbeats 1000000
/-! WkG: shared cuts, a tree by its cuts. -/
namespace Kn
open PySem PySem.Spec PyProof.Rows L2

theorem cun_inj {e e' : Cut} (h : cun e = cun e') : e = e' := by
  have h1 := (List.cons.inj h).1
  have h2 := (List.cons.inj (List.cons.inj h).2).1
  exact Prod.ext (by omega) (by omega)
theorem mem_cun {e : Cut} {es : List Cut} : cun e ∈ es.map cun ↔ e ∈ es := by
  rw [List.mem_map]
  exact ⟨fun ⟨x, hx, h⟩ => cun_inj h ▸ hx, fun h => ⟨e, h, rfl⟩⟩
theorem cutV_pre (xs : List V) (i : Nat) : cutV xs none (some (i : Int)) = xs.take i := by
  unfold cutV
  rw [HT.sIx_none, HT.sIx_nat, List.drop_zero, Nat.sub_zero]
  by_cases h : i ≤ xs.length
  · rw [Nat.min_eq_left h]
  · rw [Nat.min_eq_right (by omega), List.take_length, List.take_of_length_le (by omega)]
/-- a loop over enumerate(a list) -/
theorem for_enum {K : PySem.W.Frag} {a : Addr} {xs : List V} {g : TG} {tb : L2.TS} {D : Ends} {σ : L2.St} {H : Hp} (Pv : Nat → L2.St → Hp → Prop) (h0 : Pv 0 σ H) (hq : ∀ i σ H, i ≤ xs.length → Pv i σ H → SqL K H a xs)
    (hs : ∀ i x T σ H, xs[i]? = some x → Pv i σ H → H T = none → g (.ref T) σ (upd H T (.tup [.int (i : Nat), x])) fun σ2 H2 => tb { D with nx := Pv (i + 1), ct := Pv (i + 1), bk := D.nx } σ2 H2) (hd : ∀ σ H, Pv xs.length σ H → D.nx σ H) :
    ∃ W : Nat → Nat → L2.St → Hp → Prop, (∃ m, W 0 m σ H) ∧ ∀ i m σ H, W i m σ H →
      ((Ite K a).stop i H ∧ D.nx σ H) ∨ ((Ite K a).go i H ∧ ∃ N : L2.St → Hp → Prop, (∀ σ' H', N σ' H' → ∃ m', m' < m ∧ W (i + 1) m' σ' H') ∧ ∀ v H', (Ite K a).yld i H v H' → g v σ H' fun σ2 H2 => tb { D with nx := N, ct := N, bk := D.nx } σ2 H2) := by
  refine ⟨fun i m σ H => m = xs.length - i ∧ i ≤ xs.length ∧ Pv i σ H, ⟨xs.length, rfl, Nat.zero_le _, h0⟩, ?_⟩
  rintro i m σ H ⟨rfl, hi, p⟩
  have q := hq i σ H hi p
  by_cases hlt : i < xs.length
  · refine .inr ⟨⟨xs, xs[i], q, by simp [hlt]⟩, Pv (i + 1), fun σ' H' p' => ⟨xs.length - (i + 1), by omega, rfl, hlt, p'⟩, fun v H' y => ?_⟩
    obtain ⟨T, x, rfl, hT, rfl, hx⟩ := y
    exact hs i x T σ H (hx xs q) p hT
  · have e : i = xs.length := by omega
    subst e
    exact .inl ⟨⟨xs, q, Nat.le_refl _⟩, hd σ H p⟩
/-- shared cuts of s and t, each once -/
structure ShOf (s t : B) (S : List Cut) : Prop where
  nd : S.Nodup
  mem : ∀ e, e ∈ S ↔ (e ∈ nodes s 0 ∧ e ≠ (0, s.sz + 1)) ∧ e ∈ nodes t 0 ∧ e ≠ (0, t.sz + 1)
section
variable {P : Program} {w : World} {K : PySem.W.Frag} {mg : Str → Option Value} {base : Heap}
abbrev s_shared_cuts : Stmt := top 31
theorem sc_shared_cuts : FnScope ["one", "other", "mine", "cut"] ["one", "other"] (C8.fnScope s_shared_cuts) := C8.fnScope_by (by decide +kernel)
def sp_shared_cuts : Sp := fun vs H Q _ => ∃ (a b : Addr) (s t : B), vs = [.ref a, .ref b] ∧ TpF H a (tl s) ∧ TpF H b (tl t) ∧ s ≠ .lf ∧ t ≠ .lf ∧ s.sz ≤ 1000 ∧ t.sz ≤ 1000 ∧
  ∀ (l : Addr) (ws : List V) (S : List Cut) (H' : Hp), H l = none → Same H H' → H' l = some (.lst ws) → ShOf s t S → Tups H' ws (S.map cun) → Q (.ref l) H'
theorem ok_shared_cuts (G : Gs mg) (F : Df K mg "shared_cuts" s_shared_cuts ["one", "other"]) (c_cuts_of : CalN P w K mg base 5 "cuts_of" sp_cuts_of) : CalN P w K mg base 6 "shared_cuts" sp_shared_cuts := by
  refine F.cal sc_shared_cuts (fun vs H Q E h => ?_) (fun f cdv A outer s H vs Q E hr h => ?_)
  · obtain ⟨a, b, s, t, rfl, _⟩ := h
    rfl
  · obtain ⟨a, b, s', t, rfl, ha, hb, hs, ht, hz, hz', q⟩ := h
    refine ⟨_, (pss_cons (ps_set (i := 2) sc_shared_cuts.nd rfl (Or.inr rfl) (C8.pe_c c_cuts_of hr (by decide) (by rfl) (pa_cons (pv 0) pa_nil)))
      (pss_one (ps_ret (pe_lc (own := [("cut", 3)]) rfl sc_shared_cuts.nd (pi_list (C8.pe_c c_cuts_of hr (by decide) (by rfl) (pa_cons (pv 1) pa_nil))) (blkOk_by (N := ["one", "other", "mine", "cut"]) (sc := C8.fnScope s_shared_cuts) (own := [("cut", 3)]) (by decide +kernel)) (fun _ _ _ _ _ => (pg_name (i := 3) sc_shared_cuts.nd rfl (Or.inl rfl))) (fun _ _ _ _ _ => (pts_one (pt_cmpR (r := rInT K false) (op_inT (hu65 hr)) (pv 3) (pv 2) rfl))) (fun _ _ _ _ _ => (pv 3)))))), ?_⟩
    refine ⟨_, rfl, a, s', rfl, ha, hs, hz, fun l1 w1 e1 H1 hl1 s1 h1 c1 t1 => ?_⟩
    refine ⟨_, rfl, b, t, rfl, s1.tpK hb, ht, hz', fun l2 w2 e2 H2 hl2 s2 h2 c2 t2 => ?_⟩
    have wl : w2.length = e2.length := by rw [t2.len, List.length_map]
    have el : e2.length ≤ 1000 := by have := cuts_len ht c2.nd c2.mem; omega
    refine ⟨l2, rfl, ⟨_, SqL.of h2⟩, fun D hD => lc_list (K := K) (a := l2) (xs := w2) (fun i H3 => Same H2 H3 ∧ ∃ us : List V, H3 D = some (.lst us) ∧ us.length ≤ i ∧ Tups H3 us (((e2.take i).filter fun e => decide (e ∈ e1)).map cun))
      ⟨(Same.refl H2).new hD, [], upd_same, Nat.le_refl _, .nil⟩ (fun i H3 _ ⟨s3, _⟩ => SqL.of (s3 _ _ h2)) ?_ ?_⟩
    · rintro i x H3 hi ⟨s3, us, h3, hu, tu⟩
      obtain ⟨e, c, he, rfl, hc⟩ := t2.get hi
      have hi' : i < e2.length := (List.getElem?_eq_some_iff.mp he).1
      refine ⟨rfl, _, rfl, _, rfl, c, l1, _, w1, _, rfl, rfl, SqT.of (s3 _ _ hc), SqL.of (s3 _ _ (s2 _ _ h1)), t1.keep ((Tkeep.of s2).trans (Tkeep.of s3)), _, rfl, ?_⟩
      have s4 : ∀ {o}, Same H2 (upd H3 D o) := fun {o} => s3.mut hD
      by_cases ce : e ∈ e1
      · refine iteD1 (mem_cun.mpr ce) ?_
        have k : Tkeep H3 (upd H3 D (.lst (us ++ [.ref c]))) := Tkeep.lst h3
        refine ⟨_, rfl, us, h3, bigl (by omega), s4, _, upd_same, by rw [List.length_append, List.length_singleton]; omega, ?_⟩
        rw [List.take_succ, he, List.filter_append, show (Option.some e).toList = [e] from rfl, List.filter_cons_of_pos (by simpa using ce), List.filter_nil, List.map_append]
        exact (tu.keep k).snoc (k _ _ (s3 _ _ hc))
      · refine iteD0 (fun z => ce (mem_cun.mp z)) ?_
        refine ⟨s3, us, h3, by omega, ?_⟩
        rw [List.take_succ, he, List.filter_append, show (Option.some e).toList = [e] from rfl, List.filter_cons_of_neg (by simpa using ce), List.filter_nil, List.append_nil]
        exact tu
    · rintro H3 ⟨s3, us, h3, hu, tu⟩
      rw [wl, List.take_length] at tu
      refine q D us _ H3 ((s1.trans s2).free hD) ((s1.trans s2).trans s3) h3 ⟨c2.nd.sublist List.filter_sublist, fun e => ?_⟩ tu
      rw [List.mem_filter, decide_eq_true_iff, c1.mem, c2.mem]
      exact And.comm
/-! ### tree_by_cuts -/
abbrev s_crossed : Stmt := top 22
theorem sc_crossed : FnScope ["one", "other"] ["one", "other"] (C8.fnScope s_crossed) := C8.fnScope_by (by decide +kernel)
def Lam (c d : Cut) : Prop := c.2 ≤ d.1 ∨ d.2 ≤ c.1 ∨ (c.1 ≤ d.1 ∧ d.2 ≤ c.2) ∨ (d.1 ≤ c.1 ∧ c.2 ≤ d.2)
def sp_crossed : Sp := fun vs H Q _ => ∃ (a b : Addr) (c d : Cut), vs = [.ref a, .ref b] ∧ H a = some (.tup (ivs (cun c))) ∧ H b = some (.tup (ivs (cun d))) ∧ Lam c d ∧ c.1 < c.2 ∧ d.1 < d.2 ∧ Q (.bl false) H
theorem ok_crossed (G : Gs mg) (F : Df K mg "crossed" s_crossed ["one", "other"]) : CalN P w K mg base 1 "crossed" sp_crossed := by
  refine F.cal sc_crossed (fun vs H Q E h => ?_) (fun f cdv A outer s H vs Q E hr h => ?_)
  · obtain ⟨a, b, c, d, rfl, _⟩ := h
    rfl
  · obtain ⟨a, b, c, d, rfl, ha, hb, hl, hc, hd, q⟩ := h
    have i0 : ∀ e : Cut, atI (ivs (cun e)) 0 = some (V.int (e.1 : Nat)) := fun e => rfl
    have i1 : ∀ e : Cut, atI (ivs (cun e)) 1 = some (V.int (e.2 : Nat)) := fun e => rfl
    refine ⟨_, (C8.pss_cut (ps_if (pt_cmpR op_gt (pe_ix ix_tup (pv 0) pe_int (fun _ _ => rfl)) (pe_ix ix_tup (pv 1) pe_int (fun _ _ => rfl)) (nomark _)) (pss_one (ps_par (i := 0) (j := 1) rfl sc_crossed.nd rfl rfl (by decide) rfl rfl (pa_cons (pv 1) (pa_cons (pv 0) pa_nil)) rfl)) pss_nil)
      (pss_one (ps_ret (pe_chain3 op_lt op_lt op_lt (pe_ix ix_tup (pv 0) pe_int (fun _ _ => rfl)) (pe_ix ix_tup (pv 1) pe_int (fun _ _ => rfl)) (pe_ix ix_tup (pv 0) pe_int (fun _ _ => rfl)) (pe_ix ix_tup (pv 1) pe_int (fun _ _ => rfl)))))), ?_⟩
    refine ⟨fun σ H' => ∃ (x y : Addr) (u v : Cut), H = H' ∧ σ = [some (.ref x), some (.ref y)] ∧ H x = some (.tup (ivs (cun u))) ∧ H y = some (.tup (ivs (cun v))) ∧ Lam u v ∧ u.1 < u.2 ∧ v.1 < v.2 ∧ u.1 ≤ v.1, ?_, ?_⟩
    · refine ⟨_, rfl, a, _, _, _, rfl, rfl, SqT.of ha, i0 c, _, rfl, b, _, _, _, rfl, rfl, SqT.of hb, i0 d, _, _, rfl, rfl, _, rfl, ?_⟩
      refine ite2 (fun e => ?_) (fun e => ?_)
      · have e : ((d.1 : Nat) : Int) < ((c.1 : Nat) : Int) := of_decide_eq_true e
        refine ⟨_, rfl, _, rfl, _, _, rfl, ?_⟩
        exact ⟨b, a, d, c, rfl, rfl, hb, ha, by unfold Lam at *; omega, hd, hc, by omega⟩
      · have e : ¬ ((d.1 : Nat) : Int) < ((c.1 : Nat) : Int) := fun z => e (decide_eq_true z)
        exact ⟨a, b, c, d, rfl, rfl, ha, hb, hl, hc, hd, by omega⟩
    · rintro σ H' ⟨x, y, u, v, rfl, rfl, hx, hy, hl, hu, hv, huv⟩
      unfold Lam at hl
      refine ⟨_, rfl, x, _, _, _, rfl, rfl, SqT.of hx, i0 u, _, rfl, y, _, _, _, rfl, rfl, SqT.of hy, i0 v, _, _, rfl, rfl, _, rfl, ?_⟩
      by_cases c1 : u.1 < v.1
      · refine iteD1 (by omega) ?_
        refine ⟨_, rfl, x, _, _, _, rfl, rfl, SqT.of hx, i1 u, _, _, rfl, rfl, _, rfl, ?_⟩
        by_cases c2 : v.1 < u.2
        · refine iteD1 (by omega) ?_
          refine ⟨_, rfl, y, _, _, _, rfl, rfl, SqT.of hy, i1 v, _, _, rfl, rfl, ?_⟩
          show Q (V.bl (decide (((u.2 : Nat) : Int) < ((v.2 : Nat) : Int)))) H
          rw [decide_eq_false (by omega)]
          exact q
        · exact iteD0 (by omega) q
      · exact iteD0 (by omega) q
abbrev s_is_cut : Stmt := top 23
theorem sc_is_cut : FnScope ["many", "pair", "low", "high"] ["many", "pair"] (C8.fnScope s_is_cut) := C8.fnScope_by (by decide +kernel)
def sp_is_cut : Sp := fun vs H Q _ => ∃ (n : Nat) (b : Addr) (e : Cut), vs = [.int (n : Nat), .ref b] ∧ H b = some (.tup (ivs (cun e))) ∧ e.1 + 2 ≤ e.2 ∧ e.2 ≤ n + 1 ∧ e.2 ≤ e.1 + n ∧ Q (.bl true) H
theorem ok_is_cut (G : Gs mg) (F : Df K mg "is_cut" s_is_cut ["many", "pair"]) : CalN P w K mg base 1 "is_cut" sp_is_cut := by
  refine F.cal sc_is_cut (fun vs H Q E h => ?_) (fun f cdv A outer s H vs Q E hr h => ?_)
  · obtain ⟨n, b, e, rfl, _⟩ := h
    rfl
  · obtain ⟨n, b, e, rfl, hb, h1, h2, h3, q⟩ := h
    refine ⟨_, (pss_cons (ps_asg (pv 1) (pg_tup rfl (pgs_cons (pg_name (i := 2) sc_is_cut.nd rfl (Or.inl rfl)) (pgs_cons (pg_name (i := 3) sc_is_cut.nd rfl (Or.inl rfl)) pgs_nil))))
      (pss_one (ps_ret (pe_and (pe_cmpR op_le pe_int (pv 2) (nomark _)) (pe_and (pe_chain op_le op_le (pe_op op_add (pv 2) pe_int) (pv 3) (pe_op op_add (pv 0) pe_int)) (pe_one (pe_cmpR op_le (pe_op op_sub (pv 3) (pv 2)) (pv 0) (nomark _)))))))), ?_⟩
    refine ⟨_, rfl, b, _, rfl, SqT.of hb, rfl, _, _, rfl, _, _, rfl, rfl, ?_⟩
    refine ⟨_, rfl, _, _, rfl, rfl, _, rfl, iteD1 (by omega) ?_⟩
    refine ⟨_, rfl, _, _, rfl, rfl, _, rfl, _, _, rfl, rfl, _, rfl, ?_⟩
    refine iteD1 (by omega) ?_
    refine ⟨_, rfl, _, _, rfl, rfl, _, _, rfl, rfl, _, rfl, ?_⟩
    refine iteD1 (by omega) ?_
    refine ⟨_, rfl, _, rfl, _, _, rfl, rfl, _, rfl, _, _, rfl, rfl, ?_⟩
    show Q (V.bl (decide (((e.2 : Nat) : Int) - ((e.1 : Nat) : Int) ≤ ((n : Nat) : Int)))) H
    rw [decide_eq_true (by omega)]
    exact q
end
end Kn

set_option Elab.async false
set_option linter.all false
set_option maxRecDepth 100000
set_option maxHeartbeats 1000000
/-! WkH: look_at_cuts, top_between, tree_by_cuts. -/
namespace Kn
open PySem PySem.Spec PyProof.Rows L2

/-- a cut as a dict's key -/
abbrev kyC (e : Cut) : List Key := [Sum.inl (e.1 : Int), Sum.inl (e.2 : Int)]
theorem kyC_inj {e e' : Cut} (h : kyC e = kyC e') : e = e' := by
  have h1 := Sum.inl.inj (List.cons.inj h).1
  have h2 := Sum.inl.inj (List.cons.inj (List.cons.inj h).2).1
  exact Prod.ext (by omega) (by omega)
abbrev kvC (L : List Cut) : List (List Key × V) := L.map fun e => (kyC e, V.bl true)
theorem val_kvC (e : Cut) : ∀ L : List Cut, valV (kvC L) (kyC e) = if e ∈ L then some (V.bl true) else none
  | [] => rfl
  | c :: L => by
    show valV ((kyC c, V.bl true) :: kvC L) (kyC e) = _
    by_cases h : c = e
    · rw [valV_pos (by rw [h]), if_pos (by simp [h])]
    · rw [valV_neg (fun z => h (kyC_inj z)), val_kvC e L]
      by_cases q : e ∈ L
      · rw [if_pos q, if_pos (List.mem_cons_of_mem _ q)]
      · rw [if_neg q, if_neg]
        intro z
        rcases List.mem_cons.mp z with z | z
        · exact h z.symm
        · exact q z
theorem ite_some {c A B : Prop} [Decidable c] (h : c) (ha : A) : if (if c then some (V.bl true) else none : Option V).isSome = true then A else B := by
  rw [if_pos h]
  exact iteT ha
theorem ite_none {c A B : Prop} [Decidable c] (h : ¬ c) (hb : B) : if (if c then some (V.bl true) else none : Option V).isSome = true then A else B := by
  rw [if_neg h]
  exact iteF hb
section
variable {P : Program} {w : World} {K : PySem.W.Frag} {mg : Str → Option Value} {base : Heap}
abbrev s_look_at_cuts : Stmt := top 24
theorem sc_look_at_cuts : FnScope ["many", "cuts", "place", "pair", "other"] ["many", "cuts"] (C8.fnScope s_look_at_cuts) := C8.fnScope_by (by decide +kernel)
def sp_look_at_cuts : Sp := fun vs H Q _ => ∃ (l : Addr) (ws : List V) (t : B) (L : List Cut), vs = [.int (t.sz : Nat), .ref l] ∧ H l = some (.lst ws) ∧ Tups H ws (L.map cun) ∧ t ≠ .lf ∧ t.sz ≤ 1000 ∧ CutsOf t L ∧ ∀ H', Same H H' → Q .non H'
theorem ok_look_at_cuts (G : Gs mg) (F : Df K mg "look_at_cuts" s_look_at_cuts ["many", "cuts"]) (c_is_cut : CalN P w K mg base 1 "is_cut" sp_is_cut) (c_crossed : CalN P w K mg base 1 "crossed" sp_crossed) :
    CalN P w K mg base 2 "look_at_cuts" sp_look_at_cuts := by
  refine F.cal sc_look_at_cuts (fun vs H Q E h => ?_) (fun f cdv A outer s H vs Q E hr h => ?_)
  · obtain ⟨l, ws, t, L, rfl, _⟩ := h
    rfl
  · obtain ⟨l, ws, t, L, rfl, hl, tp, ht, hz, hL, q⟩ := h
    have hn := cuts_len ht hL.nd hL.mem
    have wl : ws.length = L.length := by rw [tp.len, List.length_map]
    refine ⟨_, (pss_cons (ps_if (pt_cmpR op_ne (pe_callB call_len_seq (by rfl) G.len PySem.boot_len (pa_cons (pv 1) pa_nil)) (pe_op op_sub (pv 0) pe_int) (nomark _)) (pss_one ps_never) pss_nil)
      (pss_one (ps_for PassesOwn.never rfl (pi_enum (by rfl) G.enumerate (pa_cons (pv 1) pa_nil)) (pg_tup rfl (pgs_cons (pg_name (i := 2) sc_look_at_cuts.nd rfl (Or.inl rfl)) (pgs_cons (pg_name (i := 3) sc_look_at_cuts.nd rfl (Or.inl rfl)) pgs_nil))) (pss_cons (ps_if (pt_not (pt_val (C8.pe_c c_is_cut hr (by decide) (by rfl) (pa_cons (pv 0) (pa_cons (pv 3) pa_nil))))) (pss_one ps_never) pss_nil)
      (pss_one (ps_for PassesOwn.never rfl (pi_list (pe_slice sl_list (pv 1) po_none (po_some (pv 2)))) (pg_name (i := 4) sc_look_at_cuts.nd rfl (Or.inl rfl)) (pss_one (ps_if (PW.pt (pw_or (pt_cmpR (op_eqT (hu64 hr)) (pv 3) (pv 4) (nomark _)) (pw_or1 (pt_val (C8.pe_c c_crossed hr (by decide) (by rfl) (pa_cons (pv 3) (pa_cons (pv 4) pa_nil))))))) (pss_one ps_never) pss_nil)))))))), ?_⟩
    refine ⟨_, rfl, l, _, rfl, .inl (SqL.of hl), _, rfl, _, _, rfl, rfl, rfl, _, rfl, iteN0 (by rw [wl]; congr 1; omega) ?_⟩
    refine ⟨_, rfl, l, ws, rfl, SqL.of hl, for_enum (K := K) (a := l) (xs := ws) (fun i σ H1 => (∃ u v x, σ = [some (.int (t.sz : Nat)), some (.ref l), u, v, x]) ∧ Same H H1) ⟨⟨_, _, _, rfl⟩, Same.refl H⟩ (fun i σ H1 _ ⟨_, s1⟩ => SqL.of (s1 _ _ hl)) ?_ (fun σ H1 ⟨_, s1⟩ => q H1 s1)⟩
    rintro i x T σ H1 hi ⟨⟨u, v, y, rfl⟩, s1⟩ hT
    obtain ⟨e, c, he, rfl, hc⟩ := tp.get hi
    have hem := (hL.mem e).mp (List.mem_of_getElem? he)
    obtain ⟨o1, o2, o3⟩ := cut_ok hem.1 hem.2
    have s2 := s1.new (o := .tup [.int (i : Nat), .ref c]) hT
    have hc2 := s2 _ _ hc
    refine ⟨T, _, rfl, SqT.of upd_same, rfl, _, _, rfl, _, _, rfl, rfl, ?_⟩
    refine ⟨_, rfl, _, rfl, t.sz, c, e, rfl, hc2, o1, o2, o3, true, rfl, iteF ?_⟩
    refine ⟨_, rfl, _, rfl, _, rfl, l, ws, rfl, SqL.of (s2 _ _ hl), fun p hp => ?_⟩
    rw [cutV_pre]
    have s3 := s2.new (o := .lst (ws.take i)) hp
    refine ⟨p, rfl, ⟨_, SqL.of upd_same⟩, for_list (K := K) (a := p) (xs := ws.take i) (fun j σ H3 => (∃ x, σ = [some (.int (t.sz : Nat)), some (.ref l), some (.int (i : Nat)), some (.ref c), x]) ∧ Same H H3 ∧ H3 p = some (.lst (ws.take i))) ⟨⟨_, rfl⟩, s3, upd_same⟩ (fun j σ H3 _ ⟨_, _, h⟩ => SqL.of h) ?_ (fun σ H3 ⟨⟨x, e⟩, s4, _⟩ => ⟨⟨_, _, _, e⟩, s4⟩)⟩
    rintro j z σ H3 hj ⟨⟨y', rfl⟩, s4, h4⟩
    have hji : j < i := by
      have := (List.getElem?_eq_some_iff.mp hj).1
      rw [List.length_take] at this
      omega
    rw [List.getElem?_take_of_lt hji] at hj
    obtain ⟨d, b, hd, rfl, hb⟩ := tp.get hj
    have hdm := (hL.mem d).mp (List.mem_of_getElem? hd)
    have ned : e ≠ d := fun z => by
      subst z
      obtain ⟨h1, e1⟩ := List.getElem?_eq_some_iff.mp he
      obtain ⟨h2, e2⟩ := List.getElem?_eq_some_iff.mp hd
      have := (List.getElem_inj hL.nd).mp (e1.trans e2.symm)
      omega
    refine ⟨_, rfl, _, rfl, c, b, _, _, rfl, rfl, SqT.of (s4 _ _ hc), SqT.of (s4 _ _ hb), _, rfl, iteD0 (fun z => ned (cun_inj z)) ?_⟩
    refine ⟨_, rfl, _, rfl, c, b, e, d, rfl, s4 _ _ hc, s4 _ _ hb, laminar hem.1 hdm.1, by omega, by have := nodes_bd hdm.1; omega, false, rfl, iteF ?_⟩
    exact ⟨⟨_, rfl⟩, s4, h4⟩
abbrev s_top_between : Stmt := top 25
theorem sc_top_between : FnScope ["known", "low", "high", "corner"] ["known", "low", "high"] (C8.fnScope s_top_between) := C8.fnScope_by (by decide +kernel)
def sp_top_between : Sp := fun vs H Q _ => ∃ (d : Addr) (t l r : B) (lo : Nat) (L : List Cut), vs = [.ref d, .int (lo : Nat), .int ((lo + (B.nd l r).sz + 1 : Nat))] ∧ Sb t 0 (.nd l r) lo ∧ CutsOf t L ∧ H d = some (.dT (kvC L)) ∧ t.sz ≤ 1000 ∧
  ∀ H', Same H H' → Q (.int ((lo + l.sz + 1 : Nat))) H'
theorem ok_top_between (G : Gs mg) (F : Df K mg "top_between" s_top_between ["known", "low", "high"]) : CalN P w K mg base 1 "top_between" sp_top_between := by
  refine F.cal sc_top_between (fun vs H Q E h => ?_) (fun f cdv A outer s H vs Q E hr h => ?_)
  · obtain ⟨d, t, l, r, lo, L, rfl, _⟩ := h
    rfl
  · obtain ⟨d, t, l, r, lo, L, rfl, hs, hL, hd, hz, q⟩ := h
    have b := hs.bd
    simp only [B.sz] at b
    generalize hhi : lo + (B.nd l r).sz + 1 = hi at q ⊢
    have hhi' : lo + (l.sz + 1 + r.sz) + 1 = hi := hhi
    refine ⟨_, (pss_cons (ps_for PassesOwn.never rfl (pi_range3 (by rfl) G.range (pa_cons (pe_op op_sub (pv 2) pe_int) (pa_cons (pv 1) (pa_cons (pe_un un_neg pe_int) pa_nil)))) (pg_name (i := 3) sc_top_between.nd rfl (Or.inl rfl)) (pss_one (ps_if (PW.pt (pw_or (pt_cmpR op_eq (pv 3) (pe_op op_add (pv 1) pe_int) (nomark _)) (pw_or1 (pt_cmp (pc_din (hu_of hr) (pe_tup (pa_cons (pv 1) (pa_cons (pv 3) pa_nil))) (pv 0)))))) (pss_one (ps_ret (pv 3))) pss_nil)))
      (pss_one (ps_ret (pe_op op_add (pv 1) pe_int)))), ?_⟩
    refine ⟨_, rfl, _, _, rfl, rfl, _, rfl, _, rfl, ((hi : Nat) : Int) - 1, ((lo : Nat) : Int), -1, _, rfl, RgC.neg (by omega) (by omega) (by omega) (by omega), for_rangeC (lo := ((hi : Nat) : Int) - 1) (c := -1) (n := (((hi : Nat) : Int) - 1 - ((lo : Nat) : Int)).toNat)
      (fun i σ H1 => (∃ v, σ = [some (.ref d), some (.int (lo : Nat)), some (.int (hi : Nat)), v]) ∧ Same H H1 ∧ ∀ c', hi < c' + 1 + i → c' < hi → ¬ (c' = lo + 1 ∨ (lo, c') ∈ L)) ⟨⟨_, rfl⟩, Same.refl H, fun c' h1 h2 => by omega⟩ ?_ ?_⟩
    · rintro i σ H1 hi' ⟨⟨v, rfl⟩, s1, no⟩
      have hi2 : i + 1 + lo < hi := by omega
      obtain ⟨c, hc⟩ : ∃ c : Nat, c + 1 + i = hi := ⟨hi - 1 - i, by omega⟩
      have ec : ((hi : Nat) : Int) - 1 + (i : Nat) * -1 = ((c : Nat) : Int) := by omega
      rw [ec]
      have fin : (c = lo + 1 ∨ (lo, c) ∈ L) → c = lo + l.sz + 1 := fun h => top_corner hL.mem hs (by omega) (by rw [hhi]; omega) h fun c' h1 h2 => no c' (by omega) (by rw [hhi] at h2; exact h2)
      refine ⟨_, rfl, _, rfl, _, _, rfl, rfl, rfl, _, rfl, ?_⟩
      by_cases c1 : c = lo + 1
      · refine iteD1 (by rw [c1]; rfl) ?_
        refine ⟨_, rfl, ?_⟩
        rw [fin (.inl c1)]
        exact q H1 s1
      · refine iteD0 (fun z => c1 (by have := V.int.inj z; omega)) ?_
        refine ⟨_, rfl, _, rfl, by show 2 ≤ sizeLine; decide, fun p hp => ?_⟩
        have s2 := s1.new (o := .tup [.int (lo : Nat), .int (c : Nat)]) hp
        refine ⟨_, rfl, d, _, rfl, DGet.t (k := kyC (lo, c)) (s2 _ _ hd) upd_same, _, rfl, ?_⟩
        rw [val_kvC]
        by_cases c2 : (lo, c) ∈ L
        · refine ite_some c2 ?_
          refine ⟨_, rfl, ?_⟩
          have z := q _ s2
          rw [← fin (.inr c2)] at z
          exact z
        · refine ite_none c2 ?_
          refine ⟨⟨_, rfl⟩, s2, fun c' h1 h2 => ?_⟩
          by_cases c3 : c' = c
          · subst c3
            exact fun z => z.elim c1 c2
          · exact no c' (by omega) h2
    · rintro σ H1 ⟨⟨v, rfl⟩, s1, no⟩
      exact absurd (.inl rfl) (no (lo + 1) (by omega) (by omega))
abbrev trp (s : Item) : List Int := [(s.1 : Int), (s.2.1 : Int), s.2.2]
abbrev s_tree_by_cuts : Stmt := top 26
theorem sc_tree_by_cuts : FnScope ["many", "cuts", "known", "pair", "told", "left", "low", "high", "above", "corner"] ["many", "cuts"] (C8.fnScope s_tree_by_cuts) := C8.fnScope_by (by decide +kernel)
def sp_tree_by_cuts : Sp := fun vs H Q _ => ∃ (l : Addr) (ws : List V) (t : B) (L : List Cut) (b : Bool), vs = [.int (t.sz : Nat), .ref l] ∧ H l = some (.lst ws) ∧ Tups H ws (L.map cun) ∧ t ≠ .lf ∧ t.sz ≤ 1000 ∧ CutsOf t L ∧
  ∀ (p : Addr) (H' : Hp), H p = none → Same H H' → TpK b H' p (tl t) → Q (.ref p) H'
theorem ok_tree_by_cuts (G : Gs mg) (F : Df K mg "tree_by_cuts" s_tree_by_cuts ["many", "cuts"]) (c_look_at_cuts : CalN P w K mg base 2 "look_at_cuts" sp_look_at_cuts) (c_top_between : CalN P w K mg base 1 "top_between" sp_top_between) :
    CalN P w K mg base 3 "tree_by_cuts" sp_tree_by_cuts := by
  refine F.cal sc_tree_by_cuts (fun vs H Q E h => ?_) (fun f cdv A outer s H vs Q E hr h => ?_)
  · obtain ⟨l, ws, t, L, b, rfl, _⟩ := h
    rfl
  · obtain ⟨l, ws, t, L, b, rfl, hl, tp, ht, hz, hL, q⟩ := h
    have hn := cuts_len ht hL.nd hL.mem
    have wl : ws.length = L.length := by rw [tp.len, List.length_map]
    refine ⟨_, (pss_cons (ps_expr (C8.pe_c c_look_at_cuts hr (by decide) (by rfl) (pa_cons (pv 0) (pa_cons (pv 1) pa_nil))))
      (pss_cons (ps_set (i := 2) sc_tree_by_cuts.nd rfl (Or.inl rfl) pe_dnewT)
      (pss_cons (ps_for PassesOwn.never rfl (pi_list (pv 1)) (pg_name (i := 3) sc_tree_by_cuts.nd rfl (Or.inl rfl)) (pss_one (ps_dput (hu_of hr) (pv 2) (pv 3) pe_bl rfl)))
      (pss_cons (ps_set (i := 4) sc_tree_by_cuts.nd rfl (Or.inl rfl) (pe_op op_rep (pe_lst (pa_cons (pe_un un_neg pe_int) pa_nil)) (pv 0)))
      (pss_cons (ps_set (i := 5) sc_tree_by_cuts.nd rfl (Or.inl rfl) (pe_lst (pa_cons (pe_tup (pa_cons pe_int (pa_cons (pe_op op_add (pv 0) pe_int) (pa_cons (pe_un un_neg pe_int) pa_nil)))) pa_nil)))
      (pss_cons (ps_while PassesOwn.never (pt_truth (pv 5) (by intro _; rfl)) (pss_cons (ps_asg (pe_bm0 PySem.F.plainAttrs_list PySem.F.slot_list_pop PySem.F.type_list_pop mt_pop (pv 5)) (pg_tup rfl (pgs_cons (pg_name (i := 6) sc_tree_by_cuts.nd rfl (Or.inl rfl)) (pgs_cons (pg_name (i := 7) sc_tree_by_cuts.nd rfl (Or.inl rfl)) (pgs_cons (pg_name (i := 8) sc_tree_by_cuts.nd rfl (Or.inl rfl)) pgs_nil)))))
      (pss_cons (ps_set (i := 9) sc_tree_by_cuts.nd rfl (Or.inl rfl) (C8.pe_c c_top_between hr (by decide) (by rfl) (pa_cons (pv 2) (pa_cons (pv 6) (pa_cons (pv 7) pa_nil)))))
      (pss_cons (ps_asg (pv 8) (pg_sub (pv 4) (pe_op op_sub (pv 9) pe_int) set_list))
      (C8.pss_cut (ps_if (pt_cmpR op_gt (pe_op op_sub (pv 9) (pv 6)) pe_int (nomark _)) (pss_one (ps_expr (pe_bm PySem.F.plainAttrs_list PySem.F.slot_list_append PySem.F.type_list_append mt_append (pv 5) (pa_cons (pe_tup (pa_cons (pv 6) (pa_cons (pv 9) (pa_cons (pe_op op_sub (pv 9) pe_int) pa_nil)))) pa_nil)))) pss_nil)
      (pss_one (ps_if (pt_cmpR op_gt (pe_op op_sub (pv 7) (pv 9)) pe_int (nomark _)) (pss_one (ps_expr (pe_bm PySem.F.plainAttrs_list PySem.F.slot_list_append PySem.F.type_list_append mt_append (pv 5) (pa_cons (pe_tup (pa_cons (pv 9) (pa_cons (pv 7) (pa_cons (pe_op op_sub (pv 9) pe_int) pa_nil)))) pa_nil)))) pss_nil)))))))
      (pss_one (ps_ret (pe_callTy call_tupX (by rfl) G.tuple (by decide +kernel) (pa_cons (pv 4) pa_nil)))))))))), ?_⟩
    refine ⟨_, rfl, _, rfl, l, ws, t, L, rfl, hl, tp, ht, hz, hL, fun H1 s1 => ?_⟩
    intro kA hkA
    have s2 := s1.new (o := .dT []) hkA
    have hk0 : H kA = none := s1.free hkA
    refine ⟨_, rfl, l, rfl, ⟨_, SqL.of (s2 _ _ hl)⟩, for_list (K := K) (a := l) (xs := ws) (fun i σ H2 => (∃ v, σ = [some (.int (t.sz : Nat)), some (.ref l), some (.ref kA), v, none, none, none, none, none, none]) ∧ Same H H2 ∧ H2 kA = some (.dT (kvC (L.take i)))) ⟨⟨_, rfl⟩, s2, upd_same⟩ (fun i σ H2 _ ⟨_, s3, _⟩ => SqL.of (s3 _ _ hl)) ?_ ?_⟩
    · rintro i x σ H2 hi ⟨⟨v, rfl⟩, s3, hk⟩
      obtain ⟨e, c, he, rfl, hc⟩ := tp.get hi
      have hi' : i < L.length := (List.getElem?_eq_some_iff.mp he).1
      refine ⟨_, rfl, _, rfl, kA, _, rfl, DPut.t (k := kyC e) hk (s3 _ _ hc) (bigl ?_), ⟨_, rfl⟩, s3.mut hk0, ?_⟩
      · rw [List.length_map, List.length_take]; omega
      · rw [upd_same, putK_new, List.take_succ, he]
        · show some (HO.dT (kvC (L.take i) ++ kvC [e])) = _
          unfold kvC
          rw [← List.map_append]
          rfl
        · rw [val_kvC, if_neg]
          intro m
          obtain ⟨j, hj, ej⟩ := List.getElem_of_mem m
          have hj1 : j < L.length := by rw [List.length_take] at hj; omega
          rw [List.getElem_take] at ej
          obtain ⟨h1, e1⟩ := List.getElem?_eq_some_iff.mp he
          have := (List.getElem_inj hL.nd).mp (ej.trans e1.symm)
          rw [List.length_take] at hj
          omega
    · rintro σ H2 ⟨⟨v, rfl⟩, s3, hk⟩
      rw [wl, List.take_length] at hk
      refine ⟨_, rfl, by show 1 ≤ sizeLine; decide, fun one hone => ?_⟩
      have s4 := s3.new (o := .lst [.int (-1)]) hone
      refine ⟨_, rfl, one, _, _, rfl, rfl, upd_same, by omega, by omega, ?_, fun tA htA => ?_⟩
      · refine big ?_
        rw [Int.toNat_natCast]
        show 1 * t.sz ≤ 100000
        omega
      have et : (List.replicate ((t.sz : Nat) : Int).toNat [V.int (-1)]).flatten = ivs (List.replicate t.sz (-1)) := by
        rw [Int.toNat_natCast]
        show _ = (List.replicate t.sz (-1 : Int)).map V.int
        rw [List.map_replicate]
        induction t.sz with
        | zero => rfl
        | succ n ih => rw [List.replicate_succ, List.flatten_cons, ih]; rfl
      rw [et]
      have s5 := s4.new (o := .lst (ivs (List.replicate t.sz (-1)))) htA
      have ht0 : H tA = none := s4.free htA
      refine ⟨_, rfl, _, _, rfl, rfl, _, rfl, by show 3 ≤ sizeLine; decide, fun i0 hi0 => ?_⟩
      have s6 := s5.new (o := .tup [.int 0, .int ((t.sz : Nat) + 1), .int (-1)]) hi0
      refine ⟨by show 1 ≤ sizeLine; decide, fun lA hlA => ?_⟩
      have hl0 : H lA = none := s6.free hlA
      have s7 := s6.new (o := .lst [.ref i0]) hlA
      have kk1 : (upd (upd H2 one (.lst [.int (-1)])) tA (.lst (ivs (List.replicate t.sz (-1))))) kA = some (.dT (kvC L)) := by
        rw [upd_ne (fun e => by rw [← e, upd_ne (fun e => by rw [← e, hk] at hone; cases hone), hk] at htA; cases htA), upd_ne (fun e => by rw [← e, hk] at hone; cases hone)]
        exact hk
      have n1 : tA ≠ lA := fun e => by rw [← e, upd_ne (fun e => by rw [← e, upd_same] at hi0; cases hi0), upd_same] at hlA; cases hlA
      have n2 : i0 ≠ lA := fun e => by rw [← e, upd_same] at hlA; cases hlA
      have n3 : kA ≠ i0 := fun e => by rw [← e, kk1] at hi0; cases hi0
      have n4 : kA ≠ lA := fun e => by rw [← e, upd_ne n3, kk1] at hlA; cases hlA
      have n5 : tA ≠ i0 := fun e => by rw [← e, upd_same] at hi0; cases hi0
      refine ⟨fun m σ H3 => ∃ (st : List Item) (told : List Int) (us : List V), m = lft st ∧ Stk t told st ∧ (∃ v a1 a2 a3 a4, σ = [some (.int (t.sz : Nat)), some (.ref l), some (.ref kA), v, some (.ref tA), some (.ref lA), a1, a2, a3, a4]) ∧ Same H H3 ∧ H3 kA = some (.dT (kvC L)) ∧ H3 tA = some (.lst (ivs told)) ∧ H3 lA = some (.lst us) ∧ Tups H3 us (st.map trp) ∧ st.length ≤ 2 * t.sz + 1 - lft st,
        ⟨_, [(0, t.sz + 1, -1)], List.replicate t.sz (-1), [.ref i0], rfl, stk_start ht (by rw [List.length_replicate]), ⟨_, _, _, _, _, rfl⟩, s7, by rw [upd_ne n4, upd_ne n3, kk1], by rw [upd_ne n1, upd_ne n5, upd_same], upd_same, .cons ⟨i0, rfl, by rw [upd_ne n2, upd_same]; rfl⟩ .nil, by simp [lft]; omega⟩, ?_⟩
      rintro m σ H3 ⟨st, told, us, rfl, S, ⟨v, a1, a2, a3, a4, rfl⟩, s8, hk3, htl, hlf, tps, hlen⟩
      have ul : us.length = st.length := by rw [tps.len, List.length_map]
      refine ⟨_, rfl, !us.isEmpty, .inl ⟨us, SqL.of hlf, rfl⟩, ?_⟩
      rcases List.eq_nil_or_concat st with e | ⟨st', it, e⟩
      · subst e
        have : us = [] := List.length_eq_zero_iff.mp ul
        subst this
        refine iteF ?_
        refine ⟨_, rfl, tA, told, b, rfl, SqL.of htl, fun p H' hp sm tk => ?_⟩
        rw [stk_end S] at tk
        exact q p H' (s8.free hp) (s8.trans sm) tk
      · rw [List.concat_eq_append] at e
        subst e
        obtain ⟨lo, hi, ab⟩ := it
        obtain ⟨l', r', hsb, ehi, hab⟩ := S.items (lo, hi, ab) (List.mem_append_right _ List.mem_cons_self)
        simp only at hsb ehi hab
        subst ehi
        have bd := hsb.bd
        simp only [B.sz] at bd
        rcases List.eq_nil_or_concat us with e | ⟨us', x, e⟩
        · subst e
          rw [List.length_append] at ul
          simp at ul
        · rw [List.concat_eq_append] at e
          subst e
          have ul' : us'.length = st'.length := by rw [List.length_append, List.length_append] at ul; simpa using ul
          obtain ⟨it, c, hit, rfl, hc⟩ := tps.get (i := us'.length) (x := x) (by rw [List.getElem?_append_right (Nat.le_refl _), Nat.sub_self]; rfl)
          rw [ul', List.getElem?_append_right (Nat.le_refl _), Nat.sub_self] at hit
          have : it = (lo, lo + (B.nd l' r').sz + 1, ab) := (Option.some.inj hit).symm
          subst this
          have tps' : Tups H3 us' (st'.map trp) := by
            rw [List.map_append] at tps
            have : ∀ {xs : List V} {ys : List (List Int)} {x y}, xs.length = ys.length → Tups H3 (xs ++ [x]) (ys ++ [y]) → Tups H3 xs ys := by
              intro xs
              induction xs with
              | nil =>
                intro ys x y h _
                have : ys = [] := List.length_eq_zero_iff.mp h.symm
                subst this
                exact .nil
              | cons a xs ih =>
                intro ys x y h k
                cases ys with
                | nil => simp at h
                | cons b ys =>
                  cases k with
                  | cons r t => exact .cons r (ih (by simpa using h) t)
            exact this (by rw [ul', List.length_map]) tps
          have nel : (!(us' ++ [V.ref c]).isEmpty) = true := by simp
          rw [nel]
          refine iteT ?_
          refine ⟨fun σ' H' => ∃ m', m' < lft (st' ++ [(lo, lo + (B.nd l' r').sz + 1, ab)]) ∧ ∃ (st : List Item) (told : List Int) (us : List V), m' = lft st ∧ Stk t told st ∧ (∃ v a1 a2 a3 a4, σ' = [some (.int (t.sz : Nat)), some (.ref l), some (.ref kA), v, some (.ref tA), some (.ref lA), a1, a2, a3, a4]) ∧ Same H H' ∧ H' kA = some (.dT (kvC L)) ∧ H' tA = some (.lst (ivs told)) ∧ H' lA = some (.lst us) ∧ Tups H' us (st.map trp) ∧ st.length ≤ 2 * t.sz + 1 - lft st, fun _ _ z => z, ?_⟩
          have hlast : (us' ++ [V.ref c])[(us' ++ [V.ref c]).length - 1]? = some (V.ref c) := by
            rw [List.length_append, List.length_singleton, Nat.add_sub_cancel, List.getElem?_append_right (Nat.le_refl _), Nat.sub_self]
            rfl
          refine ⟨_, rfl, .inl ⟨rfl, _, SqL.of hlf⟩, lA, _, _, rfl, rfl, hlf, hlast, ?_⟩
          rw [List.dropLast_concat]
          have ncl : c ≠ lA := ne_of hc hlf (by intro z; cases z)
          have k1 : Tkeep H3 (upd H3 lA (.lst us')) := Tkeep.lst hlf
          have s9 : Same H (upd H3 lA (.lst us')) := s8.mut hl0
          refine ⟨c, _, rfl, SqT.of (k1 _ _ hc), rfl, _, _, rfl, _, _, rfl, _, _, rfl, rfl, ?_⟩
          have hk4 : (upd H3 lA (.lst us')) kA = some (.dT (kvC L)) := by rw [upd_ne n4]; exact hk3
          refine ⟨_, rfl, _, rfl, _, rfl, kA, t, l', r', lo, L, rfl, hsb, hL, hk4, hz, fun H4 sA => ?_⟩
          have sB := s9.trans sA
          have htl4 : H4 tA = some (.lst (ivs told)) := sA _ _ (by rw [upd_ne n1]; exact htl)
          have hlf4 : H4 lA = some (.lst us') := sA _ _ upd_same
          have hk5 := sA _ _ hk4
          have e1 : ((lo + l'.sz + 1 : Nat) : Int) - 1 = ((lo + l'.sz : Nat) : Int) := by omega
          refine ⟨_, rfl, _, rfl, _, rfl, _, _, rfl, rfl, tA, _, _, lo + l'.sz, rfl, by rw [← e1], htl4, ixN_of (by rw [ivs_len, S.len]; omega), ?_⟩
          rw [ivs_set]
          have n6 : kA ≠ tA := ne_of hk5 htl4 (by intro z; cases z)
          have k2 : Tkeep H4 (upd H4 tA (.lst (ivs (told.set (lo + l'.sz) ab)))) := Tkeep.lst htl4
          have S2 := stk_step S hsb hab
          have tps5 := tps'.keep ((k1.trans (Tkeep.of sA)).trans k2)
          have sC : Same H (upd H4 tA (.lst (ivs (told.set (lo + l'.sz) ab)))) := sB.mut ht0
          have hlf5 : (upd H4 tA (.lst (ivs (told.set (lo + l'.sz) ab)))) lA = some (.lst us') := by rw [upd_ne n1.symm]; exact hlf4
          have hk6 : (upd H4 tA (.lst (ivs (told.set (lo + l'.sz) ab)))) kA = some (.dT (kvC L)) := by rw [upd_ne n6]; exact hk5
          generalize hH5 : upd H4 tA (.lst (ivs (told.set (lo + l'.sz) ab))) = H5 at tps5 sC hlf5 hk6 ⊢
          have htl5 : H5 tA = some (.lst (ivs (told.set (lo + l'.sz) ab))) := by rw [← hH5, upd_same]
          have small : us'.length ≤ 5000 := by
            rw [ul']
            rw [List.length_append] at hlen
            omega
          refine ⟨fun σ6 H6 => ∃ us6, σ6 = [some (.int (t.sz : Nat)), some (.ref l), some (.ref kA), v, some (.ref tA), some (.ref lA), some (.int (lo : Nat)), some (.int ((lo + (B.nd l' r').sz + 1 : Nat))), some (.int ab), some (.int ((lo + l'.sz + 1 : Nat)))] ∧ Same H H6 ∧ H6 kA = some (.dT (kvC L)) ∧ H6 tA = some (.lst (ivs (told.set (lo + l'.sz) ab))) ∧ H6 lA = some (.lst us6) ∧ us6.length ≤ us'.length + 1 ∧ Tups H6 us6 ((st' ++ (if l' = .lf then [] else [(lo, lo + l'.sz + 1, ((lo + l'.sz : Nat) : Int))])).map trp), ?_, ?_⟩
          · refine ⟨_, rfl, _, rfl, _, _, rfl, rfl, _, _, rfl, rfl, _, rfl, ?_⟩
            by_cases hl' : l' = .lf
            · subst hl'
              refine iteD0 (by simp only [B.sz]; omega) ?_
              refine ⟨us', rfl, sC, hk6, htl5, hlf5, by omega, ?_⟩
              rw [if_pos rfl, List.append_nil]
              exact tps5
            · have := sz_pos hl'
              refine iteD1 (by omega) ?_
              refine ⟨_, rfl, .inl ⟨rfl, _, SqL.of hlf5⟩, _, rfl, _, rfl, _, rfl, _, _, rfl, rfl, by show 3 ≤ sizeLine; decide, fun p hp => ?_⟩
              have np : p ≠ lA := fun e => by rw [e, hlf5] at hp; cases hp
              have np2 : p ≠ kA := fun e => by rw [e, hk6] at hp; cases hp
              have np3 : p ≠ tA := fun e => by rw [e, htl5] at hp; cases hp
              refine ⟨lA, _, _, rfl, rfl, by rw [upd_ne np.symm]; exact hlf5, bigl (by omega), ?_⟩
              dsimp only
              rw [e1]
              refine ⟨_, rfl, (sC.new hp).mut hl0, by rw [upd_ne n4, upd_ne np2.symm]; exact hk6, by rw [upd_ne n1, upd_ne np3.symm]; exact htl5, upd_same, by rw [List.length_append, List.length_singleton]; omega, ?_⟩
              rw [if_neg hl', List.map_append]
              have kA1 : Tkeep H5 (upd H5 p (.tup (ivs (trp (lo, lo + l'.sz + 1, ((lo + l'.sz : Nat) : Int)))))) := Tkeep.new hp
              have kA2 : Tkeep (upd H5 p (.tup (ivs (trp (lo, lo + l'.sz + 1, ((lo + l'.sz : Nat) : Int)))))) (upd (upd H5 p (.tup (ivs (trp (lo, lo + l'.sz + 1, ((lo + l'.sz : Nat) : Int)))))) lA (.lst (us' ++ [.ref p]))) := Tkeep.lst (by rw [upd_ne np.symm]; exact hlf5)
              exact (tps5.keep (kA1.trans kA2)).snoc (kA2 _ _ upd_same)
          · rintro σ6 H6 ⟨us6, rfl, sD, hk7, htl7, hlf7, hus6, tps7⟩
            have e2 : (lo + (B.nd l' r').sz + 1) - (lo + l'.sz + 1) = r'.sz + 1 := by simp only [B.sz]; omega
            have last : ∀ (us8 : List V) (H8 : Hp), Same H H8 → H8 kA = some (.dT (kvC L)) → H8 tA = some (.lst (ivs (told.set (lo + l'.sz) ab))) → H8 lA = some (.lst us8) → Tups H8 us8 ((st' ++ push l' r' lo).map trp) →
                ∃ m', m' < lft (st' ++ [(lo, lo + (B.nd l' r').sz + 1, ab)]) ∧ ∃ (st : List Item) (told : List Int) (us : List V), m' = lft st ∧ Stk t told st ∧ (∃ v' a1 a2 a3 a4, [some (.int (t.sz : Nat)), some (.ref l), some (.ref kA), v, some (.ref tA), some (.ref lA), some (.int (lo : Nat)), some (.int ((lo + (B.nd l' r').sz + 1 : Nat))), some (.int ab), some (.int ((lo + l'.sz + 1 : Nat)))] = [some (.int (t.sz : Nat)), some (.ref l), some (.ref kA), v', some (.ref tA), some (.ref lA), a1, a2, a3, a4]) ∧ Same H H8 ∧ H8 kA = some (.dT (kvC L)) ∧ H8 tA = some (.lst (ivs told)) ∧ H8 lA = some (.lst us) ∧ Tups H8 us (st.map trp) ∧ st.length ≤ 2 * t.sz + 1 - lft st := fun us8 H8 b1 b2 b3 b4 b5 => by
              have p1 := @lft_push l' r' lo
              have p2 : lft [(lo, lo + (B.nd l' r').sz + 1, ab)] = (B.nd l' r').sz := by simp [lft]; omega
              have p3 : (push l' r' lo).length ≤ 2 := by
                unfold push
                rw [List.length_append]
                split <;> split <;> simp
              refine ⟨_, ?_, _, _, us8, rfl, S2, ⟨_, _, _, _, _, rfl⟩, b1, b2, b3, b4, b5, ?_⟩
              · rw [lft_app, lft_app, p2]; omega
              · rw [List.length_append, lft_app]
                rw [List.length_append, lft_app, p2, List.length_singleton] at hlen
                omega
            refine ⟨_, rfl, _, rfl, _, _, rfl, rfl, _, _, rfl, rfl, _, rfl, ?_⟩
            by_cases hr' : r' = .lf
            · subst hr'
              refine iteD0 (by simp only [B.sz]; omega) ?_
              refine last us6 H6 sD hk7 htl7 hlf7 ?_
              unfold push
              rw [if_pos (rfl : B.lf = B.lf), List.append_nil]
              exact tps7
            · have hrp := sz_pos hr'
              refine iteD1 (by simp only [B.sz]; omega) ?_
              refine ⟨_, rfl, .inl ⟨rfl, _, SqL.of hlf7⟩, _, rfl, _, rfl, _, rfl, _, _, rfl, rfl, by show 3 ≤ sizeLine; decide, fun p hp => ?_⟩
              have np : p ≠ lA := fun e => by rw [e, hlf7] at hp; cases hp
              have np2 : p ≠ kA := fun e => by rw [e, hk7] at hp; cases hp
              have np3 : p ≠ tA := fun e => by rw [e, htl7] at hp; cases hp
              refine ⟨lA, _, _, rfl, rfl, by rw [upd_ne np.symm]; exact hlf7, bigl (by omega), ?_⟩
              dsimp only
              rw [e1]
              refine last _ _ ((sD.new hp).mut hl0) (by rw [upd_ne n4, upd_ne np2.symm]; exact hk7) (by rw [upd_ne n1, upd_ne np3.symm]; exact htl7) upd_same ?_
              have kA1 : Tkeep H6 (upd H6 p (.tup (ivs (trp (lo + l'.sz + 1, lo + (B.nd l' r').sz + 1, ((lo + l'.sz : Nat) : Int)))))) := Tkeep.new hp
              have kA2 : Tkeep (upd H6 p (.tup (ivs (trp (lo + l'.sz + 1, lo + (B.nd l' r').sz + 1, ((lo + l'.sz : Nat) : Int)))))) (upd (upd H6 p (.tup (ivs (trp (lo + l'.sz + 1, lo + (B.nd l' r').sz + 1, ((lo + l'.sz : Nat) : Int)))))) lA (.lst (us6 ++ [.ref p]))) := Tkeep.lst (by rw [upd_ne np.symm]; exact hlf7)
              unfold push
              rw [if_neg hr', ← List.append_assoc, List.map_append]
              exact (tps7.keep (kA1.trans kA2)).snoc (kA2 _ _ upd_same)
end
end Kn

set_option Elab.async false
set_option linter.all false
set_option maxRecDepth 100000
set_option maxHeartbeats 1000000
/-! WkT: enumerate(a tuple). -/
namespace Kn
open PySem PySem.Spec PyProof.Rows L2

theorem meets_enumerate_newB1 {v : Value} {o : Obj} {H : Heap → Prop} (B : Begins v o H) :
    Meets (Builtin.«enumerate.__new__» ⟨[.type "enumerate", v], []⟩) (fun _ R s => H s.heap ∧
      R (.ok (.ret (.ref (s.heap.push o).objs.size))) { s with heap := (s.heap.push o).push { cls := .type "enumerate", data := .fields #[.none, .bool false, .ref s.heap.objs.size, rawInt 0, .none, .none] } }) :=
  .of_wp fun prog w A R s h => by
    obtain ⟨hp, g, d, tk, os⟩ := s; obtain ⟨h1, h⟩ := h
    have hsub := sub_enumerate
    have q1 : ∀ {A' : Around} {E : Value → Shared → Prop} {Q : Value → Shared → Prop}, Q (.ref hp.objs.size) ⟨hp.push o, g, d, tk, os⟩ → wpAny (model prog w) A' (pyIter v) Q E ⟨hp, g, d, tk, os⟩ :=
      fun q => B.iter prog w _ _ ⟨hp, g, d, tk, os⟩ _ h1 q
    wp_walk using q1
    refine wpAny_stack_any fun st => wpAny_pure ?_
    split
    · rename_i c _ _ _ _ _
      cases (c == Value.type "enumerate")
      · wp_walk using q1
        exact ⟨_, rfl, h⟩
      · wp_walk using q1
        exact ⟨_, rfl, h⟩
    · wp_walk using q1
      exact ⟨_, rfl, h⟩
theorem enum_begins1 {prog : Program} {w : World} {A : Around} {E : Value → Shared → Prop} {s : Shared} {v : Value} {o : Obj} {H : Heap → Prop} {Q : Value → Shared → Prop} (B : Begins v o H) (h1 : H s.heap)
    (h : ∀ h', IsEnum h' (s.heap.objs.size + 1) s.heap.objs.size 0 .none → h'.get? s.heap.objs.size = some o → h'.objs.size = s.heap.objs.size + 2 →
      (∀ b o, s.heap.get? b = some o → h'.get? b = some o) → Q (.ref (s.heap.objs.size + 1)) { s with heap := h' }) :
    wpAny (model prog w) A (call (.type "enumerate") [v]) Q E s := by
  refine callType_new F.called_enumerate (by decide) (F.typeCall_enumerate_1 _) (F.newCall_enumerate_1 _) (fun obj => F.args_object_init_2 obj _) F.entry_enumerate_new
    (meets_enumerate_newB1 B) ⟨h1, ?_⟩
  have hz : (s.heap.push o).objs.size = s.heap.objs.size + 1 := Heap.size_push ..
  show _ ∧ _
  rw [hz]
  have he : IsEnum ((s.heap.push o).push { cls := .type "enumerate", data := .fields #[.none, .bool false, .ref s.heap.objs.size, rawInt 0, .none, .none] }) (s.heap.objs.size + 1) s.heap.objs.size 0 .none := by
    have := Heap.get?_push_size (s.heap.push o) (o := { cls := .type "enumerate", data := .fields #[.none, .bool false, .ref s.heap.objs.size, rawInt 0, .none, .none] }) rfl
    rw [hz] at this; exact this
  refine ⟨⟨_, he, rfl⟩, h _ he (Heap.get?_push_of_some _ (Heap.get?_push_size _ B.free)) (by rw [Heap.size_push, hz]) fun b o x => Heap.get?_push_of_some _ (Heap.get?_push_of_some _ x)⟩
/-- the tuple at a, each item in a new pair -/
def Itet (K : PySem.W.Frag) (a : Addr) : It :=
  ⟨fun i H => ∃ (xs : List V) (x : V), SqT K H a xs ∧ xs[i]? = some x, fun i H v H' => ∃ T x, v = .ref T ∧ H T = none ∧ H' = upd H T (.tup [.int (i : Nat), x]) ∧ ∀ xs, SqT K H a xs → xs[i]? = some x, fun i H => ∃ xs : List V, SqT K H a xs ∧ xs.length ≤ i⟩
theorem turn_enumT {P : Program} {w : World} {K : PySem.W.Frag} {elts : List Expr} {kk : Nat} {tpos : Pos} (a e it : Addr) :
    L2.Turn P w K (.Tuple elts kk tpos) (Itet K a) [e, it] e (fun i h => (∃ old, IsEnum h e it ((i : Nat) : Int) old) ∧ h.IsTupleIter it a i ∧ e ≠ it ∧ a ≠ it ∧ e ≠ a) where
  mem := by simp
  obj := fun i h st b hb => by
    obtain ⟨⟨old, he⟩, ⟨o, ho, hc, hd⟩, _⟩ := st
    have e' : b = e ∨ b = it := by simpa using hb
    rcases e' with z | z
    · rw [z]; exact ⟨_, he, fun v q => nomatch q⟩
    · rw [z]; exact ⟨o, ho, fun v q => by rw [hd] at q; cases q⟩
  keep := fun i h h' st k => let ⟨⟨old, he⟩, hi, hne⟩ := st; ⟨⟨old, k e (by simp) _ he⟩, hi.at fun o q => k it (by simp) o q, hne⟩
  item := by
    intro X hP hw hK hc i pins s σ H E I hf st hg
    subst hP hw hK
    obtain ⟨⟨old, he⟩, hit, hne, hai, hea⟩ := st
    obtain ⟨xs, x, hq, hx⟩ := hg
    obtain ⟨its, rv, p, hz⟩ := I.tuple hq
    obtain ⟨u, hu, ru⟩ := rv.get hx
    have hel : e < s.heap.objs.size := Heap.lt_size he
    have hil : it < s.heap.objs.size := by obtain ⟨_, q, _⟩ := hit; exact Heap.lt_size q
    have hlt : i < its.toArray.size := by rw [List.size_toArray]; exact (List.getElem?_eq_some_iff.mp hu).1
    refine wpAny_pyNext_enum_itemC (Draws.tuple (prog := X.prog) (w := X.w) (A := X.A.in1) (I.ok.hd hc) it a hai its.toArray) he ⟨hit, show s.heap.IsTuple a its.toArray from p⟩ hlt hne (by simp [hne, hea]) fun y h' tk hy ho hit' hT hsz hk => ?_
    obtain rfl : u = y := Option.some.inj (hu.symm.trans (by simpa using hy))
    refine ⟨_, rfl, wpAny_letOwnedTupleGo_enum (s := { s with heap := h', toks := tk + 1 }) ho fun h'' he' sb => ?_⟩
    have hT2 : h''.get? s.heap.objs.size = some { cls := .type "tuple", data := .seq #[.int i tk, u] } := (sb.2 _ (Nat.ne_of_gt hel)).trans hT
    have new : ObjOk X.prog X.w (upd H s.heap.objs.size (.tup [.int (i : Nat), x])) h'' s.heap.objs.size (.tup [.int (i : Nat), x]) :=
      ⟨by show 2 ≤ sizeLine; decide, [.int i tk, u], .cons ⟨_, rfl⟩ (.cons ru .nil), ⟨_, hT2, rfl, _, rfl⟩⟩
    have I1 : Inv X pins σ (upd H s.heap.objs.size (.tup [.int (i : Nat), x])) { s with heap := h'', toks := tk + 1 } :=
      I.turnedNew (ch := [e, it]) (fun b ob hb q => (sb.2 b (fun z => hb (by simp [z]))).trans (hk b ob (fun z => hb (by simp [z])) (fun z => hb (by simp [z])) q)) hf (Nat.le_refl _) new
    refine ⟨.ref s.heap.objs.size, _, I1, rfl, ⟨_, x, rfl, I.hok.fresh (Nat.le_refl _), rfl, fun ys hy => by rw [I.tuple_inj hy hq]; exact hx⟩, ⟨⟨u, ?_⟩, hit'.1.at fun o q => (sb.2 it (Ne.symm hne)).trans q, hne, hai, hea⟩, fun b hb => ?_⟩
    · have e1 : ((i + 1 : Nat) : Int) = (i : Int) + 1 := by omega
      rw [e1]; exact he'
    · have hb' : b < s.heap.objs.size := by
        have e' : b = e ∨ b = it := by simpa using hb
        rcases e' with z | z
        · rw [z]; exact hel
        · rw [z]; exact hil
      rw [upd_ne (Nat.ne_of_lt hb')]
      exact (hf b hb).1
  done := by
    intro X hP hw hK hc i pins s σ H E I hf st hg
    subst hP hw hK
    obtain ⟨⟨old, he⟩, hit, hne, hai, hea⟩ := st
    obtain ⟨xs, hq, hx⟩ := hg
    obtain ⟨its, rv, p, hz⟩ := I.tuple hq
    obtain ⟨f0, f1, f2, f3, f4, f5⟩ := hf it (by simp)
    have hl := rv.length
    have hT : s.TypeIs (.ref e) "enumerate" := ⟨_, he, rfl⟩
    unfold pyNext
    refine wpAny_bind (wpAny_attempt (wpAny_callSpecial?_slot (name := Str.ofString "__next__") hT F.slot_enumerate_next
      (wpAny_call_entry F.slot_enumerate_next hT F.entry_enumerate_next ?_ (F.args_enumerate_next_1 _))))
    show wpAny _ _ (field (.ref e) 2 >>= _) _ _ _
    refine wpAny_bind (wpAny_field he rfl (x := .ref it) rfl ?_)
    refine wpAny_bind (wpAny_nextOf_tuple_end (I.ok.hd hc) hit (show s.heap.IsTuple a its.toArray from p) (by simp; omega) fun h' x eb hx' => ?_)
    obtain ⟨o, ho, hc'⟩ := hx'
    refine wpAny_bind (wpAny_isInstance (T := "StopIteration") (b := true) ⟨o, ho, hc'⟩ isSubtype_stop ?_)
    exact wpAny_pure ⟨rfl, I.turned (t' := s.toks) (fun b o hb q => eb b o hb q) f0 f1 f3 f4 f5⟩
  self := fun A i s Q E st h => let ⟨⟨_, he⟩, _⟩ := st; wpAny_pyIter_enum he h
def iEnumT (K : PySem.W.Frag) (ta : TA) : TI := fun σ H R => ta σ H fun vs H1 => ∃ a xs, vs = [.ref a] ∧ SqT K H1 a xs ∧ R (Itet K a) H1
theorem pi_enumT {X : Cx} {e : Expr} {ta : TA} {p pos tpos : Pos} {elts : List Expr} {kk : Nat} (hg : Gl X "enumerate") (hm : X.mg "enumerate" = none) (ha : PA X [e] ta) (hs : starEach [e] X.env = [(false, eval e X.env)] := by rfl) :
    PI X (.Tuple elts kk tpos) (.Call (.Name "enumerate" p) [e] [] pos) (iEnumT X.K ta) := by
  refine ⟨fun pins s σ H R I h => ?_⟩
  refine Call_ (ld_blt I hg hm boot_enumerate (PyProof.Rows.callWith_type1 (thn (ha.run pos pins s σ H _ I h) fun us s1 ⟨vs, H1, I1, r1, q1⟩ => ?_) hs rfl))
  obtain ⟨a, xs, ex, hq, q⟩ := q1
  subst ex
  cases r1 with
  | cons r rr =>
    cases rr
    cases r
    obtain ⟨its, rv, p', hz⟩ := I1.tuple hq
    have hal : a < s1.heap.objs.size := by obtain ⟨_, q, _⟩ := (show s1.heap.IsTuple a its.toArray from p'); exact Heap.lt_size q
    refine enum_begins1 (begins_tuple a its.toArray) p' fun h' he hit hsz hk => wpAny_pyIter_enum he ?_
    have I2 : Inv X pins σ H1 { s1 with heap := h' } := I1.kept (t' := s1.toks) hk
    refine ⟨s1.heap.objs.size + 1, [s1.heap.objs.size + 1, s1.heap.objs.size], _, _, H1, rfl, I2, turn_enumT a (s1.heap.objs.size + 1) s1.heap.objs.size, ⟨⟨.none, he⟩, ⟨_, hit, rfl, rfl⟩, Nat.succ_ne_self _, Nat.ne_of_lt hal, Nat.ne_of_gt (Nat.lt_succ_of_lt hal)⟩, fun b hb => ?_, q⟩
    have e' : b = s1.heap.objs.size + 1 ∨ b = s1.heap.objs.size := by simpa using hb
    have hle : s1.heap.objs.size ≤ b := by
      rcases e' with z | z
      · rw [z]; exact Nat.le_add_right _ _
      · rw [z]; exact Nat.le_refl _
    exact I1.fpOk hle (I1.hok.fresh hle)
/-- a loop over enumerate(a tuple) -/
theorem for_enumT {K : PySem.W.Frag} {a : Addr} {xs : List V} {g : TG} {tb : L2.TS} {D : Ends} {σ : L2.St} {H : Hp} (Pv : Nat → L2.St → Hp → Prop) (h0 : Pv 0 σ H) (hq : ∀ i σ H, i ≤ xs.length → Pv i σ H → SqT K H a xs)
    (hs : ∀ i x T σ H, xs[i]? = some x → Pv i σ H → H T = none → g (.ref T) σ (upd H T (.tup [.int (i : Nat), x])) fun σ2 H2 => tb { D with nx := Pv (i + 1), ct := Pv (i + 1), bk := D.nx } σ2 H2) (hd : ∀ σ H, Pv xs.length σ H → D.nx σ H) :
    ∃ W : Nat → Nat → L2.St → Hp → Prop, (∃ m, W 0 m σ H) ∧ ∀ i m σ H, W i m σ H →
      ((Itet K a).stop i H ∧ D.nx σ H) ∨ ((Itet K a).go i H ∧ ∃ N : L2.St → Hp → Prop, (∀ σ' H', N σ' H' → ∃ m', m' < m ∧ W (i + 1) m' σ' H') ∧ ∀ v H', (Itet K a).yld i H v H' → g v σ H' fun σ2 H2 => tb { D with nx := N, ct := N, bk := D.nx } σ2 H2) := by
  refine ⟨fun i m σ H => m = xs.length - i ∧ i ≤ xs.length ∧ Pv i σ H, ⟨xs.length, rfl, Nat.zero_le _, h0⟩, ?_⟩
  rintro i m σ H ⟨rfl, hi, p⟩
  have q := hq i σ H hi p
  by_cases hlt : i < xs.length
  · refine .inr ⟨⟨xs, xs[i], q, by simp [hlt]⟩, Pv (i + 1), fun σ' H' p' => ⟨xs.length - (i + 1), by omega, rfl, hlt, p'⟩, fun v H' y => ?_⟩
    obtain ⟨T, x, rfl, hT, rfl, hx⟩ := y
    exact hs i x T σ H (hx xs q) p hT
  · have e : i = xs.length := by omega
    subst e
    exact .inl ⟨⟨xs, q, Nat.le_refl _⟩, hd σ H p⟩
end Kn

set_option Elab.async false
set_option linter.all false
set_option maxRecDepth 100000
set_option maxHeartbeats 1000000
/-! WkI: cuts_exchanged, wheeled, corners_beneath. -/
namespace Kn
open PySem PySem.Spec PyProof.Rows L2

theorem mod_two {a N : Nat} (h : a < 2 * N) : a % N = if a < N then a else a - N := by
  split
  · exact Nat.mod_eq_of_lt (by assumption)
  · rename_i q
    rw [Nat.mod_eq_sub_mod (by omega), Nat.mod_eq_of_lt (by omega)]
theorem nrm_inj {N j : Nat} (hj : j < N) {c d : Cut} (h1 : c.1 < c.2) (h2 : c.2 < N) (h3 : d.1 < d.2) (h4 : d.2 < N) (e : nrm N j c = nrm N j d) : c = d := by
  have e1 := congrArg Prod.fst e
  have e2 := congrArg Prod.snd e
  unfold nrm at e1 e2
  dsimp only at e1 e2
  rw [mod_two (show c.1 + j < 2 * N by omega), mod_two (show c.2 + j < 2 * N by omega), mod_two (show d.1 + j < 2 * N by omega), mod_two (show d.2 + j < 2 * N by omega)] at e1 e2
  refine Prod.ext ?_ ?_
  · split at e1 <;> split at e1 <;> split at e1 <;> split at e1 <;> simp_all <;> omega
  · split at e1 <;> split at e1 <;> split at e1 <;> split at e1 <;> simp_all <;> omega
theorem nrm_top {n j : Nat} (hj : j < n + 2) {c : Cut} (h1 : c.1 + 2 ≤ c.2) (h2 : c.2 ≤ n + 1) (h3 : c ≠ (0, n + 1)) : nrm (n + 2) j c ≠ (0, n + 1) := fun e => by
  have e1 := congrArg Prod.fst e
  have e2 := congrArg Prod.snd e
  unfold nrm at e1 e2
  dsimp only at e1 e2
  rw [mod_two (show c.1 + j < 2 * (n + 2) by omega), mod_two (show c.2 + j < 2 * (n + 2) by omega)] at e1 e2
  have : ¬ (c.1 = 0 ∧ c.2 = n + 1) := fun z => h3 (Prod.ext z.1 z.2)
  split at e1 <;> split at e1 <;> simp_all <;> omega
theorem wh_cuts {t : B} (ht : t ≠ .lf) {j : Nat} (hj : j < t.sz + 2) {es : List Cut} (h : CutsOf t es) : CutsOf (wh j t) (es.map (nrm (t.sz + 2) j)) := by
  have bd : ∀ e ∈ es, e.1 + 2 ≤ e.2 ∧ e.2 ≤ t.sz + 1 := fun e he => by
    have := nodes_bd ((h.mem e).mp he).1
    omega
  refine ⟨?_, fun e => ?_⟩
  · have : ∀ l : List Cut, l.Nodup → (∀ e ∈ l, e.1 + 2 ≤ e.2 ∧ e.2 ≤ t.sz + 1) → (l.map (nrm (t.sz + 2) j)).Nodup := fun l => by
      induction l with
      | nil => intro _ _; exact List.nodup_nil
      | cons a l ih =>
        intro nd b
        obtain ⟨n1, n2⟩ := List.nodup_cons.mp nd
        rw [List.map_cons]
        refine List.nodup_cons.mpr ⟨fun m => ?_, ih n2 fun e he => b e (List.mem_cons_of_mem _ he)⟩
        obtain ⟨d, hd, e⟩ := List.mem_map.mp m
        have b1 := b a List.mem_cons_self
        have b2 := b d (List.mem_cons_of_mem _ hd)
        have := nrm_inj hj (by omega) (by omega) (by omega) (by omega) e
        exact n1 (this ▸ hd)
    exact this es h.nd bd
  · rw [wh_sz, List.mem_map]
    constructor
    · rintro ⟨c, hc, rfl⟩
      have hm := (h.mem c).mp hc
      have b := bd c hc
      have nt := nrm_top hj b.1 b.2 hm.2
      exact ⟨(wh_nodes ht j _ nt).mpr ⟨c, hm.1, hm.2, rfl⟩, nt⟩
    · rintro ⟨hm, ne⟩
      obtain ⟨c, h1, h2, rfl⟩ := (wh_nodes ht j _ ne).mp hm
      exact ⟨c, (h.mem c).mpr ⟨h1, h2⟩, rfl⟩
/-- by how much it is wheeled -/
def byj (n : Nat) (by' : Int) : Nat := (by' % ((n : Int) + 2)).toNat
theorem byj_lt (n : Nat) (b : Int) : byj n b < n + 2 := by
  unfold byj
  have := Int.emod_nonneg b (show (n : Int) + 2 ≠ 0 by omega)
  have := Int.emod_lt_of_pos b (show 0 < (n : Int) + 2 by omega)
  omega
theorem byj_mod (n c : Nat) (b : Int) : ((c : Int) + b) % ((n : Int) + 2) = (((c + byj n b) % (n + 2) : Nat) : Int) := by
  have h0 := Int.emod_nonneg b (show (n : Int) + 2 ≠ 0 by omega)
  have e : ((byj n b : Nat) : Int) = b % ((n : Int) + 2) := by
    unfold byj
    rw [Int.toNat_of_nonneg h0]
  have e2 : (((c + byj n b) % (n + 2) : Nat) : Int) = ((c : Int) + b % ((n : Int) + 2)) % ((n : Int) + 2) := by
    rw [← e, Int.natCast_emod, Int.natCast_add, Int.natCast_add]
    rfl
  rw [e2]
  exact (Int.add_emod_emod ..).symm
/-- a heap without one object -/
def rm (H : Hp) (p : Addr) : Hp := fun b => if b = p then none else H b
theorem rm_same {H : Hp} {p : Addr} : rm H p p = none := if_pos rfl
theorem rm_ne {H : Hp} {p b : Addr} (h : b ≠ p) : rm H p b = H b := if_neg h
theorem rm_sub {H : Hp} {p : Addr} : Same (rm H p) H := fun b o e => by
  by_cases h : b = p
  · rw [h, rm_same] at e; cases e
  · rw [rm_ne h] at e; exact e
theorem rm_of {H H1 : Hp} {p : Addr} (s : Same H H1) (h : H p = none) : Same H (rm H1 p) := fun b o e => by
  rw [rm_ne (ne_of_none e h)]
  exact s b o e
theorem rm_tk {H : Hp} {p : Addr} {ys : List V} (h : H p = some (.lst ys)) : Tkeep H (rm H p) := fun a xs e => by
  rw [rm_ne (ne_of e h (by intro z; cases z))]
  exact e
section
variable {P : Program} {w : World} {K : PySem.W.Frag} {mg : Str → Option Value} {base : Heap}
abbrev s_cuts_exchanged : Stmt := top 27
theorem sc_cuts_exchanged : FnScope ["tree", "knot", "behind"] ["tree", "knot"] (C8.fnScope s_cuts_exchanged) := C8.fnScope_by (by decide +kernel)
def sp_cuts_exchanged : Sp := fun vs H Q _ => ∃ (a : Addr) (t t' : B) (k : Nat) (g : Cut), vs = [.ref a, .int (k : Nat)] ∧ TpF H a (tl t) ∧ t.sz ≤ 1000 ∧ up t k = some t' ∧ (nodes t 0)[k]? = some g ∧
  ∀ (p c1 c2 : Addr) (H' : Hp), Same H H' → H' p = some (.tup [.ref c1, .ref c2]) → H' c1 = some (.tup (ivs (cun g))) → Q (.ref p) H'
theorem ok_cuts_exchanged (G : Gs mg) (F : Df K mg "cuts_exchanged" s_cuts_exchanged ["tree", "knot"]) (c_turned : CalN P w K mg base 2 "turned" sp_turned) (c_cut_of : CalN P w K mg base 5 "cut_of" sp_cut_of) : CalN P w K mg base 6 "cuts_exchanged" sp_cuts_exchanged := by
  refine F.cal sc_cuts_exchanged (fun vs H Q E h => ?_) (fun f cdv A outer s H vs Q E hr h => ?_)
  · obtain ⟨a, t, t', k, g, rfl, _⟩ := h
    rfl
  · obtain ⟨a, t, t', k, g, rfl, ha, hz, hu, hg, q⟩ := h
    have hk := up_lt _ _ _ hu
    obtain ⟨adj, _⟩ := up_turn t 0 k t' hu
    have hz' := adj.sz
    refine ⟨_, (pss_cons (ps_set (i := 2) sc_cuts_exchanged.nd rfl (Or.inl rfl) (C8.pe_c c_turned hr (by decide) (by rfl) (pa_cons (pv 0) (pa_cons (pv 1) pa_nil))))
      (pss_one (ps_ret (pe_tup (pa_cons (C8.pe_c c_cut_of hr (by decide) (by rfl) (pa_cons (pv 0) (pa_cons (pv 1) pa_nil))) (pa_cons (C8.pe_c c_cut_of hr (by decide) (by rfl) (pa_cons (pv 2) (pa_cons (pe_ix ix_tup (pv 0) (pv 1) (fun _ _ => rfl)) pa_nil))) pa_nil)))))), ?_⟩
    refine ⟨_, rfl, _, rfl, a, t, t', k, true, rfl, ha.rd, hz, hu, fun b H1 hb s1 hb1 => ?_⟩
    rcases up_iff hk with ⟨_, _, e⟩ | ⟨_, v, e2, _⟩
    · rw [hu] at e; cases e
    · have hv : v < t.sz := by
        rcases par_val e2 with u | u <;> omega
      obtain ⟨g', hg'⟩ : ∃ g', (nodes t' 0)[v]? = some g' := ⟨_, List.getElem?_eq_getElem (by rw [nodes_len]; omega)⟩
      refine ⟨_, rfl, _, rfl, a, t, k, g, rfl, s1.tpK ha, hz, hg, fun c1 H2 s2 h1 => ?_⟩
      refine ⟨_, rfl, _, rfl, _, rfl, a, _, _, _, rfl, rfl, ((s1.trans s2).rdT ha.rd).sq, atI_ivs e2, b, t', v, g', rfl, s2.tpK hb1, by omega, hg', fun c2 H3 s3 h2 => ?_⟩
      refine ⟨by show 2 ≤ sizeLine; decide, fun p hp => ?_⟩
      exact q p c1 c2 _ (((s1.trans s2).trans s3).new hp) upd_same (by rw [upd_ne (ne_of_none (s3 _ _ h1) hp)]; exact s3 _ _ h1)
abbrev s_wheeled : Stmt := top 28
theorem sc_wheeled : FnScope ["tree", "by", "corners", "moved", "low", "high", "pair"] ["tree", "by"] (C8.fnScope s_wheeled) := C8.fnScope_by (by decide +kernel)
def sp_wheeled : Sp := fun vs H Q _ => ∃ (a : Addr) (t : B) (by' : Int) (b : Bool), vs = [.ref a, .int by'] ∧ TpF H a (tl t) ∧ t ≠ .lf ∧ t.sz ≤ 1000 ∧
  ∀ (p : Addr) (H' : Hp), H p = none → Same H H' → TpK b H' p (tl (wh (byj t.sz by') t)) → Q (.ref p) H'
theorem ok_wheeled (G : Gs mg) (F : Df K mg "wheeled" s_wheeled ["tree", "by"]) (c_cuts_of : CalN P w K mg base 5 "cuts_of" sp_cuts_of) (c_tree_by_cuts : CalN P w K mg base 3 "tree_by_cuts" sp_tree_by_cuts) : CalN P w K mg base 6 "wheeled" sp_wheeled := by
  refine F.cal sc_wheeled (fun vs H Q E h => ?_) (fun f cdv A outer s H vs Q E hr h => ?_)
  · obtain ⟨a, t, by', b, rfl, _⟩ := h
    rfl
  · obtain ⟨a, t, by', b, rfl, ha, ht, hz, q⟩ := h
    have hl : (tl t).length = t.sz := par_len t 0 (-1)
    have hj := byj_lt t.sz by'
    generalize hjj : byj t.sz by' = j at q hj
    have hm : ∀ c : Nat, ((c : Int) + by') % ((t.sz : Int) + 2) = (((c + j) % (t.sz + 2) : Nat) : Int) := fun c => by rw [← hjj]; exact byj_mod _ _ _
    refine ⟨_, (pss_cons (ps_set (i := 2) sc_wheeled.nd rfl (Or.inl rfl) (pe_op op_add (pe_callB call_len_seq (by rfl) G.len PySem.boot_len (pa_cons (pv 0) pa_nil)) pe_int))
      (pss_cons (ps_set (i := 3) sc_wheeled.nd rfl (Or.inl rfl) (pe_lst pa_nil))
      (pss_cons (ps_for PassesOwn.never rfl (pi_list (C8.pe_c c_cuts_of hr (by decide) (by rfl) (pa_cons (pv 0) pa_nil))) (pg_tup rfl (pgs_cons (pg_name (i := 4) sc_wheeled.nd rfl (Or.inl rfl)) (pgs_cons (pg_name (i := 5) sc_wheeled.nd rfl (Or.inl rfl)) pgs_nil))) (pss_cons (ps_set (i := 6) sc_wheeled.nd rfl (Or.inl rfl) (pe_lst (pa_cons (pe_op op_mod (pe_op op_add (pv 4) (pv 1)) (pv 2)) (pa_cons (pe_op op_mod (pe_op op_add (pv 5) (pv 1)) (pv 2)) pa_nil))))
      (pss_one (ps_expr (pe_bm PySem.F.plainAttrs_list PySem.F.slot_list_append PySem.F.type_list_append mt_append (pv 3) (pa_cons (pe_tup (pa_cons (pe_callB (cr_min rfl) (by rfl) G.min (by decide +kernel) (pa_cons (pv 6) pa_nil)) (pa_cons (pe_callB (cr_max rfl) (by rfl) G.max (by decide +kernel) (pa_cons (pv 6) pa_nil)) pa_nil))) pa_nil))))))
      (pss_one (ps_ret (C8.pe_c c_tree_by_cuts hr (by decide) (by rfl) (pa_cons (pe_callB call_len_seq (by rfl) G.len PySem.boot_len (pa_cons (pv 0) pa_nil)) (pa_cons (pv 3) pa_nil)))))))), ?_⟩
    refine ⟨_, rfl, a, _, rfl, .inr ha.rd.sq, _, _, rfl, rfl, ?_⟩
    refine ⟨by show 0 ≤ sizeLine; decide, fun mA hmA => ?_⟩
    have s0 := (Same.refl H).new (o := .lst []) hmA
    refine ⟨_, rfl, a, t, rfl, s0.tpK ha, ht, hz, fun l ws es H1 hl1 s1 h1 c1 tp => ?_⟩
    have hm1 : H1 mA = some (.lst []) := s1 _ _ upd_same
    have wl : ws.length = es.length := by rw [tp.len, List.length_map]
    have el : es.length ≤ 1000 := by have := cuts_len ht c1.nd c1.mem; omega
    rw [ivs_len, hl]
    have nlm : l ≠ mA := fun e => by rw [e, upd_same] at hl1; cases hl1
    have hl2 : rm H1 mA l = some (.lst ws) := by rw [rm_ne nlm]; exact h1
    have tp2 := tp.keep (rm_tk hm1)
    have sB : Same H (rm H1 mA) := rm_of (s0.trans s1) hmA
    refine ⟨l, rfl, ⟨_, SqL.of h1⟩, for_list (K := K) (a := l) (xs := ws) (fun i σ H2 => (∃ x y z, σ = [some (.ref a), some (.int by'), some (.int ((t.sz : Nat) + 2)), some (.ref mA), x, y, z]) ∧ Same (rm H1 mA) H2 ∧ ∃ us, H2 mA = some (.lst us) ∧ us.length = i ∧ Tups H2 us (((es.take i).map (nrm (t.sz + 2) j)).map cun)) ⟨⟨_, _, _, rfl⟩, rm_sub, [], hm1, rfl, .nil⟩ (fun i σ H2 _ ⟨_, s2, _⟩ => SqL.of (s2 _ _ hl2)) ?_ ?_⟩
    · rintro i x σ H2 hi ⟨⟨x0, y0, z0, rfl⟩, s2, us, hus, ul, tu⟩
      obtain ⟨e, c, he, rfl, hc⟩ := tp2.get hi
      have hi' : i < es.length := (List.getElem?_eq_some_iff.mp he).1
      have hem := (c1.mem e).mp (List.mem_of_getElem? he)
      have hb := nodes_bd hem.1
      refine ⟨c, _, rfl, SqT.of (s2 _ _ hc), rfl, _, _, rfl, _, _, rfl, rfl, ?_⟩
      refine ⟨_, rfl, _, rfl, _, _, rfl, rfl, _, rfl, _, _, rfl, rfl, by omega, _, rfl, _, rfl, _, _, rfl, rfl, _, rfl, _, _, rfl, rfl, by omega, by show 2 ≤ sizeLine; decide, fun p hp => ?_⟩
      dsimp only
      rw [hm, hm]
      have npm : p ≠ mA := fun z => by rw [z, hus] at hp; cases hp
      generalize ex : (e.1 + j) % (t.sz + 2) = x
      generalize ey : (e.2 + j) % (t.sz + 2) = y
      have s3 := s2.new (o := .lst [.int (x : Nat), .int (y : Nat)]) hp
      have k1 : Tkeep H2 (upd H2 p (.lst [.int (x : Nat), .int (y : Nat)])) := Tkeep.new hp
      have hus3 : (upd H2 p (.lst [.int (x : Nat), .int (y : Nat)])) mA = some (.lst us) := by rw [upd_ne npm.symm]; exact hus
      have hp3 : (upd H2 p (.lst [.int (x : Nat), .int (y : Nat)])) p = some (.lst [.int (x : Nat), .int (y : Nat)]) := upd_same
      generalize (upd H2 p (.lst [.int (x : Nat), .int (y : Nat)])) = H3 at s3 k1 hus3 hp3 ⊢
      refine ⟨_, rfl, .inl ⟨rfl, _, SqL.of hus3⟩, _, rfl, p, [((x : Nat) : Int), ((y : Nat) : Int)], rfl, SqL.of hp3, by simp, fun m hm1 hm2 => ?_⟩
      refine ⟨_, rfl, p, [((x : Nat) : Int), ((y : Nat) : Int)], rfl, SqL.of hp3, by simp, fun m' hm3 hm4 => ?_⟩
      have em : m = ((min x y : Nat) : Int) := by
        have a1 := hm2 _ List.mem_cons_self
        have a2 := hm2 _ (List.mem_cons_of_mem _ List.mem_cons_self)
        have a3 : m = x ∨ m = y := by simpa using hm1
        omega
      have em' : m' = ((max x y : Nat) : Int) := by
        have a1 := hm4 _ List.mem_cons_self
        have a2 := hm4 _ (List.mem_cons_of_mem _ List.mem_cons_self)
        have a3 : m' = x ∨ m' = y := by simpa using hm3
        omega
      subst em em'
      refine ⟨by show 2 ≤ sizeLine; decide, fun p2 hp2 => ?_⟩
      have np2 : p2 ≠ mA := fun z => by rw [z, hus3] at hp2; cases hp2
      refine ⟨mA, _, _, rfl, rfl, by rw [upd_ne np2.symm]; exact hus3, bigl (by omega), ?_⟩
      have k2 : Tkeep H3 (upd H3 p2 (.tup [.int ((min x y : Nat) : Int), .int ((max x y : Nat) : Int)])) := Tkeep.new hp2
      have k3 : Tkeep (upd H3 p2 (.tup [.int ((min x y : Nat) : Int), .int ((max x y : Nat) : Int)])) (upd (upd H3 p2 (.tup [.int ((min x y : Nat) : Int), .int ((max x y : Nat) : Int)])) mA (.lst (us ++ [.ref p2]))) := Tkeep.lst (by rw [upd_ne np2.symm]; exact hus3)
      refine ⟨⟨_, _, _, rfl⟩, (s3.new hp2).mut rm_same, _, upd_same, by rw [List.length_append, List.length_singleton, ul], ?_⟩
      rw [List.take_succ, he, show (Option.some e).toList = [e] from rfl, List.map_append, List.map_append]
      exact (tu.keep ((k1.trans k2).trans k3)).snoc (ns := cun (nrm (t.sz + 2) j e)) (k3 _ _ (by rw [upd_same]; unfold nrm; rw [ex, ey]; rfl))
    · rintro σ H2 ⟨⟨x0, y0, z0, rfl⟩, s2, us, hus, ul, tu⟩
      rw [wl, List.take_length] at tu
      have sC := sB.trans s2
      refine ⟨_, rfl, a, _, rfl, .inr (sC.rdT ha.rd).sq, _, rfl, mA, us, wh j t, _, b, by rw [ivs_len, hl, wh_sz]; rfl, hus, tu, wh_ne j ht, by rw [wh_sz]; exact hz, wh_cuts ht hj c1, fun p H' hp sm tk => ?_⟩
      exact q p H' (sC.free hp) (sC.trans sm) tk
abbrev s_corners_beneath : Stmt := top 32
theorem sc_corners_beneath : FnScope ["shared", "low", "high", "corners", "here", "far", "cut"] ["shared", "low", "high"] (C8.fnScope s_corners_beneath) := C8.fnScope_by (by decide +kernel)
def sp_corners_beneath : Sp := fun vs H Q _ => ∃ (l : Addr) (ws : List V) (S : List Cut) (lo hi : Nat), vs = [.ref l, .int (lo : Nat), .int (hi : Nat)] ∧ H l = some (.lst ws) ∧ Tups H ws (S.map cun) ∧ lo < hi ∧ hi ≤ 2000 ∧
  ∀ (p : Addr) (H' : Hp), H p = none → Same H H' → H' p = some (.tup (nvs (cb S lo hi))) → Q (.ref p) H'
theorem ivs_nvs (l : List Nat) : nvs l = ivs (l.map fun j => ((j : Nat) : Int)) := by
  unfold nvs ivs
  rw [List.map_map]
  rfl
theorem atI_last (xs : List V) (x : V) : atI (xs ++ [x]) (-1) = some x := by
  unfold atI ixN
  rw [if_neg (by omega), if_pos (by rw [List.length_append, List.length_singleton]; omega)]
  show (xs ++ [x])[_]? = _
  have e : (-1 + (((xs ++ [x]).length : Nat) : Int)).toNat = xs.length := by rw [List.length_append, List.length_singleton]; omega
  first
    | (rw [e, List.getElem?_append_right (Nat.le_refl _), Nat.sub_self]; rfl)
    | (rw [show ((((xs ++ [x]).length : Nat) : Int) + -1).toNat = xs.length by rw [List.length_append, List.length_singleton]; omega, List.getElem?_append_right (Nat.le_refl _), Nat.sub_self]; rfl)
theorem ok_corners_beneath (G : Gs mg) (F : Df K mg "corners_beneath" s_corners_beneath ["shared", "low", "high"]) : CalN P w K mg base 1 "corners_beneath" sp_corners_beneath := by
  refine F.cal sc_corners_beneath (fun vs H Q E h => ?_) (fun f cdv A outer s H vs Q E hr h => ?_)
  · obtain ⟨l, ws, S, lo, hi, rfl, _⟩ := h
    rfl
  · obtain ⟨l, ws, S, lo, hi, rfl, hl, tp, hlo, hhi, q⟩ := h
    have wl : ws.length = S.length := by rw [tp.len, List.length_map]
    have i0 : ∀ e : Cut, atI (ivs (cun e)) 0 = some (V.int (e.1 : Nat)) := fun e => rfl
    have i1 : ∀ e : Cut, atI (ivs (cun e)) 1 = some (V.int (e.2 : Nat)) := fun e => rfl
    have ch : Ch S lo hi lo (cb S lo hi) := cbl_ch _ _ (by omega) (by omega)
    refine ⟨_, (pss_cons (ps_set (i := 3) sc_corners_beneath.nd rfl (Or.inl rfl) (pe_lst (pa_cons (pv 1) pa_nil)))
      (pss_cons (ps_while PassesOwn.never (pt_cmpR op_lt (pe_ix ix_list (pv 3) (pe_un un_neg pe_int) (fun _ _ => rfl)) (pv 2) (nomark _)) (pss_cons (ps_set (i := 4) sc_corners_beneath.nd rfl (Or.inl rfl) (pe_ix ix_list (pv 3) (pe_un un_neg pe_int) (fun _ _ => rfl)))
      (pss_cons (ps_set (i := 5) sc_corners_beneath.nd rfl (Or.inl rfl) (pe_op op_add (pv 4) pe_int))
      (pss_cons (ps_for PassesOwn.never rfl (pi_list (pv 0)) (pg_name (i := 6) sc_corners_beneath.nd rfl (Or.inl rfl)) (pss_one (ps_if (PW.pt (pw_and (pt_cmpR op_eq (pe_ix ix_tup (pv 6) pe_int (fun _ _ => rfl)) (pv 4) (nomark _)) (pw_and (pt_cmpR op_gt (pe_ix ix_tup (pv 6) pe_int (fun _ _ => rfl)) (pv 5) (nomark _)) (pw_and (pt_cmpR op_le (pe_ix ix_tup (pv 6) pe_int (fun _ _ => rfl)) (pv 2) (nomark _)) (pw_and1 (pt_cmpR (op_neT (hu64 hr)) (pv 6) (pe_tup (pa_cons (pv 1) (pa_cons (pv 2) pa_nil))) (nomark _))))))) (pss_one (ps_set (i := 5) sc_corners_beneath.nd rfl (Or.inl rfl) (pe_ix ix_tup (pv 6) pe_int (fun _ _ => rfl)))) pss_nil)))
      (pss_one (ps_expr (pe_bm PySem.F.plainAttrs_list PySem.F.slot_list_append PySem.F.type_list_append mt_append (pv 3) (pa_cons (pv 5) pa_nil))))))))
      (pss_one (ps_ret (pe_callTy call_tupX (by rfl) G.tuple (by decide +kernel) (pa_cons (pv 3) pa_nil)))))), ?_⟩
    refine ⟨_, rfl, by show 1 ≤ sizeLine; decide, fun cA hcA => ?_⟩
    have s0 := (Same.refl H).new (o := .lst [.int (lo : Nat)]) hcA
    refine ⟨fun m σ H1 => ∃ (pre : List Nat) (here : Nat) (l' : List Nat), m = hi - here ∧ cb S lo hi = pre ++ l' ∧ Ch S lo hi here l' ∧ pre.length ≤ here ∧ (∃ x y z, σ = [some (.ref l), some (.int (lo : Nat)), some (.int (hi : Nat)), some (.ref cA), x, y, z]) ∧ Same H H1 ∧ H1 cA = some (.lst (nvs (pre ++ [here]))),
      ⟨_, [], lo, _, rfl, rfl, ch, Nat.zero_le _, ⟨_, _, _, rfl⟩, s0, upd_same⟩, ?_⟩
    rintro m σ H1 ⟨pre, here, l', rfl, ecb, c, hpre, ⟨x, y, z, rfl⟩, s1, h1⟩
    have hle := c.le
    have elast : atI (nvs (pre ++ [here])) (-1) = some (V.int (here : Nat)) := by
      show atI ((pre ++ [here]).map _) (-1) = _
      rw [List.map_append]
      exact atI_last _ _
    refine ⟨_, rfl, _, rfl, cA, _, _, _, rfl, rfl, SqL.of h1, elast, _, rfl, _, _, rfl, rfl, _, rfl, ?_⟩
    by_cases c1 : here < hi
    · refine iteD1 (by omega) ?_
      obtain ⟨l2, rfl, c2⟩ : ∃ l2, l' = here :: l2 ∧ Ch S lo hi (nxt S lo hi here) l2 := by
        cases c with
        | done => omega
        | step h t => exact ⟨_, rfl, t⟩
      have ng := @nxt_gt S lo hi here
      have nl := @nxt_le S lo hi here c1
      refine ⟨fun σ' H' => ∃ m', m' < hi - here ∧ ∃ (pre : List Nat) (here : Nat) (l' : List Nat), m' = hi - here ∧ cb S lo hi = pre ++ l' ∧ Ch S lo hi here l' ∧ pre.length ≤ here ∧ (∃ x y z, σ' = [some (.ref l), some (.int (lo : Nat)), some (.int (hi : Nat)), some (.ref cA), x, y, z]) ∧ Same H H' ∧ H' cA = some (.lst (nvs (pre ++ [here]))), fun _ _ z => z, ?_⟩
      refine ⟨_, rfl, _, rfl, cA, _, _, _, rfl, rfl, SqL.of h1, elast, ?_⟩
      refine ⟨_, rfl, _, _, rfl, rfl, ?_⟩
      have nlc : l ≠ cA := fun e => by rw [e, hcA] at hl; cases hl
      refine ⟨_, rfl, l, rfl, ⟨_, SqL.of (s1 _ _ hl)⟩, for_list (K := K) (a := l) (xs := ws) (fun i σ H2 => (∃ z, σ = [some (.ref l), some (.int (lo : Nat)), some (.int (hi : Nat)), some (.ref cA), some (.int (here : Nat)), some (.int (((S.take i).foldl (stp lo hi here) (here + 1) : Nat) : Int)), z]) ∧ Same H1 H2) ⟨⟨_, rfl⟩, Same.refl H1⟩ (fun i σ H2 _ ⟨_, s2⟩ => SqL.of (s2 _ _ (s1 _ _ hl))) ?_ ?_⟩
      · rintro i v σ H2 hi' ⟨⟨z, rfl⟩, s2⟩
        obtain ⟨e, c, he, rfl, hc⟩ := tp.get hi'
        have hc2 := s2 _ _ (s1 _ _ hc)
        have estep : (S.take (i + 1)).foldl (stp lo hi here) (here + 1) = stp lo hi here ((S.take i).foldl (stp lo hi here) (here + 1)) e := by
          rw [List.take_succ, he, List.foldl_append]
          rfl
        rw [estep]
        generalize ((S.take i).foldl (stp lo hi here) (here + 1)) = far
        have no : ¬ (e.1 = here ∧ far < e.2 ∧ e.2 ≤ hi ∧ e ≠ (lo, hi)) → stp lo hi here far e = far := fun h => if_neg h
        have yes : (e.1 = here ∧ far < e.2 ∧ e.2 ≤ hi ∧ e ≠ (lo, hi)) → stp lo hi here far e = e.2 := fun h => if_pos h
        refine ⟨_, rfl, c, _, _, _, rfl, rfl, SqT.of hc2, i0 e, _, rfl, rfl, _, rfl, ?_⟩
        by_cases d1 : e.1 = here
        · refine iteD1 (congrArg V.int (by omega)) ?_
          refine ⟨_, rfl, c, _, _, _, rfl, rfl, SqT.of hc2, i1 e, _, rfl, _, _, rfl, rfl, _, rfl, ?_⟩
          by_cases d2 : far < e.2
          · refine iteD1 (by omega) ?_
            refine ⟨_, rfl, c, _, _, _, rfl, rfl, SqT.of hc2, i1 e, _, rfl, _, _, rfl, rfl, _, rfl, ?_⟩
            by_cases d3 : e.2 ≤ hi
            · refine iteD1 (by omega) ?_
              refine ⟨_, rfl, _, rfl, _, rfl, by show 2 ≤ sizeLine; decide, fun p hp => ?_⟩
              have s3 := s2.new (o := .tup [.int (lo : Nat), .int (hi : Nat)]) hp
              refine ⟨c, p, cun e, cun (lo, hi), rfl, rfl, SqT.of (s3 _ _ (s1 _ _ hc)), SqT.of upd_same, _, rfl, ?_⟩
              by_cases d4 : e = (lo, hi)
              · refine iteN0 (by rw [d4]) ?_
                exact ⟨⟨_, by rw [no (fun z => z.2.2.2 d4)]; rfl⟩, s3⟩
              · refine iteN1 (fun z => d4 (cun_inj z)) ?_
                refine ⟨_, rfl, c, _, _, _, rfl, rfl, SqT.of (s3 _ _ (s1 _ _ hc)), i1 e, ?_⟩
                exact ⟨⟨_, by rw [yes ⟨d1, d2, d3, d4⟩]; rfl⟩, s3⟩
            · refine iteD0 (by omega) ?_
              exact ⟨⟨_, by rw [no (fun z => d3 z.2.2.1)]; rfl⟩, s2⟩
          · refine iteD0 (by omega) ?_
            exact ⟨⟨_, by rw [no (fun z => d2 z.2.1)]; rfl⟩, s2⟩
        · refine iteD0 (fun z => d1 (by have := V.int.inj z; omega)) ?_
          exact ⟨⟨_, by rw [no (fun z => d1 z.1)]; rfl⟩, s2⟩
      · rintro σ H2 ⟨⟨z, rfl⟩, s2⟩
        rw [wl, List.take_length]
        have h2 := s2 _ _ h1
        refine ⟨_, rfl, .inl ⟨rfl, _, SqL.of h2⟩, _, rfl, cA, _, _, rfl, rfl, h2, bigl (by rw [List.length_map, List.length_append, List.length_singleton]; omega), ?_⟩
        refine ⟨_, ?_, pre ++ [here], nxt S lo hi here, l2, rfl, by rw [ecb, List.append_assoc]; rfl, c2, by rw [List.length_append, List.length_singleton]; omega, ⟨_, _, _, rfl⟩, (s1.trans s2).mut hcA, ?_⟩
        · omega
        · rw [upd_same]
          show some (HO.lst (nvs (pre ++ [here]) ++ nvs [nxt S lo hi here])) = _
          unfold nvs
          rw [← List.map_append]
    · refine iteD0 (by omega) ?_
      obtain rfl : l' = [here] := by
        cases c with
        | done => rfl
        | step h t => omega
      rw [← ecb, ivs_nvs] at h1
      refine ⟨_, rfl, cA, _, false, rfl, SqL.of h1, fun p H' hp sm tk => ?_⟩
      exact q p H' (s1.free hp) (s1.trans sm) (by rw [ivs_nvs]; exact tk)
end
end Kn

set_option Elab.async false
set_option linter.all false
/-! KnK: the cuts of a piece; other orders of the shared cuts. Plain Lean. -/
namespace Kn
open B

theorem cn_le (K : Nat → Bool) : ∀ x, cn K x ≤ x
  | 0 => Nat.le_refl _
  | x + 1 => by
    have := cn_le K x
    rw [cn]
    split <;> omega
section
variable {S S' : List Cut} {t s : B} {P : Cut} {lo hi : Nat}
theorem Cuts.pcz (h : Cuts S t) (hP : P ∈ tops S t.sz) : (pc S P.1 P.2 t).sz ≤ t.sz := by
  have a := pc_sz h hP rfl
  have b := cn_top (h.sh hP)
  have c := cn_le (kk S P.1 P.2) P.2
  have d := nodes_bd (h.sh hP).top
  omega
/-- a piece's cuts, the whole set apart -/
theorem pc_cuts (h : Cuts S t) (hP : P ∈ tops S t.sz) {es : List Cut} (nd : es.Nodup) (he : ∀ e, e ∈ es ↔ e ∈ nodes t 0 ∧ e ≠ (0, t.sz + 1)) :
    ((es.filter fun e => decide (e.1 ∈ cb S P.1 P.2 ∧ e.2 ∈ cb S P.1 P.2 ∧ e ∉ S)).map fun e => (cn (kk S P.1 P.2) e.1, cn (kk S P.1 P.2) e.2)).Nodup ∧
    ∀ e, e ∈ ((es.filter fun e => decide (e.1 ∈ cb S P.1 P.2 ∧ e.2 ∈ cb S P.1 P.2 ∧ e ∉ S)).map fun e => (cn (kk S P.1 P.2) e.1, cn (kk S P.1 P.2) e.2)) ↔ e ∈ nodes (pc S P.1 P.2 t) 0 ∧ e ≠ (0, (pc S P.1 P.2 t).sz + 1) := by
  have sh := h.sh hP
  have ctop := cn_top sh
  have csz := pc_sz h hP rfl
  have clo : cn (kk S P.1 P.2) P.1 = 0 := cn_low
  have mlo : P.1 ∈ cb S P.1 P.2 := sh.ch.head
  have mhi : P.2 ∈ cb S P.1 P.2 := sh.ch.last
  constructor
  · have : ∀ l : List Cut, l.Nodup → (∀ e ∈ l, e.1 ∈ cb S P.1 P.2 ∧ e.2 ∈ cb S P.1 P.2) → (l.map fun e => (cn (kk S P.1 P.2) e.1, cn (kk S P.1 P.2) e.2)).Nodup := fun l => by
      induction l with
      | nil => intro _ _; exact List.nodup_nil
      | cons a l ih =>
        intro nd b
        obtain ⟨n1, n2⟩ := List.nodup_cons.mp nd
        rw [List.map_cons]
        refine List.nodup_cons.mpr ⟨fun m => ?_, ih n2 fun e he => b e (List.mem_cons_of_mem _ he)⟩
        obtain ⟨d, hd, e⟩ := List.mem_map.mp m
        have b1 := b a List.mem_cons_self
        have b2 := b d (List.mem_cons_of_mem _ hd)
        have x1 := cn_inj sh b2.1 b1.1 (congrArg Prod.fst e)
        have x2 := cn_inj sh b2.2 b1.2 (congrArg Prod.snd e)
        exact n1 ((Prod.ext x1 x2 : d = a) ▸ hd)
    exact this _ (nd.sublist List.filter_sublist) fun e he => by
      have := of_decide_eq_true (List.mem_filter.mp he).2
      exact ⟨this.1, this.2.1⟩
  · intro e
    rw [List.mem_map]
    constructor
    · rintro ⟨d, hd, rfl⟩
      obtain ⟨d1, d2⟩ := List.mem_filter.mp hd
      obtain ⟨d2, d3, d4⟩ := of_decide_eq_true d2
      have d5 := (he d).mp d1
      refine ⟨(pc_nodes sh _).mpr ⟨d.1, d.2, d5.1, d2, d3, .inr d4, rfl⟩, fun z => ?_⟩
      have z1 : cn (kk S P.1 P.2) d.1 = 0 := congrArg Prod.fst z
      have z2 : cn (kk S P.1 P.2) d.2 = _ := congrArg Prod.snd z
      have q1 := cn_inj sh d2 mlo (z1.trans clo.symm)
      have q2 := cn_inj sh d3 mhi (by rw [z2, ctop]; omega)
      have q3 : d = P := Prod.ext q1 q2
      subst q3
      rcases List.mem_cons.mp hP with q | q
      · exact d5.2 q
      · exact d4 q
    · rintro ⟨hm, ne⟩
      obtain ⟨x, y, hn, hx, hy, ho, rfl⟩ := (pc_nodes sh e).mp hm
      have n1 : (x, y) ≠ (P.1, P.2) := fun z => by
        have z1 : x = P.1 := congrArg Prod.fst z
        have z2 : y = P.2 := congrArg Prod.snd z
        subst z1 z2
        refine ne (Prod.ext clo ?_)
        show cn (kk S P.1 P.2) P.2 = _
        rw [ctop]; omega
      have n2 := ho.resolve_left n1
      have b1 := sh.ch.bd x hx
      have b2 := sh.ch.bd y hy
      have b3 := nodes_bd sh.top
      dsimp only at b3
      refine ⟨(x, y), List.mem_filter.mpr ⟨(he _).mpr ⟨hn, fun z => n1 ?_⟩, decide_eq_true ⟨hx, hy, n2⟩⟩, rfl⟩
      have z1 : x = 0 := congrArg Prod.fst z
      have z2 : y = t.sz + 1 := congrArg Prod.snd z
      exact Prod.ext (by dsimp only; omega) (by dsimp only; omega)
/-- the order of the shared cuts does not matter -/
theorem nxt_congr (h : ∀ e, e ∈ S ↔ e ∈ S') {here : Nat} (hl : here < hi) : nxt S lo hi here = nxt S' lo hi here := by
  have go : ∀ {S S' : List Cut}, (∀ e, e ∈ S ↔ e ∈ S') → nxt S lo hi here ≤ nxt S' lo hi here := fun {S S'} h => by
    rcases nxt_src (S := S) (lo := lo) (hi := hi) (here := here) with e | ⟨e1, e2⟩
    · rw [e]
      exact nxt_gt
    · exact nxt_max ((h _).mp e1) (nxt_le hl) e2
  exact Nat.le_antisymm (go h) (go fun e => (h e).symm)
theorem cbl_congr (h : ∀ e, e ∈ S ↔ e ∈ S') : ∀ f here, cbl S lo hi f here = cbl S' lo hi f here
  | 0, here => rfl
  | f + 1, here => by
    show (if here < hi then here :: cbl S lo hi f (nxt S lo hi here) else [here]) = (if here < hi then here :: cbl S' lo hi f (nxt S' lo hi here) else [here])
    by_cases c : here < hi
    · rw [if_pos c, if_pos c, nxt_congr h c, cbl_congr h f]
    · rw [if_neg c, if_neg c]
theorem cb_congr (h : ∀ e, e ∈ S ↔ e ∈ S') (lo hi : Nat) : cb S lo hi = cb S' lo hi := cbl_congr h _ _
theorem pc_congr (h : ∀ e, e ∈ S ↔ e ∈ S') (lo hi : Nat) (t : B) : pc S lo hi t = pc S' lo hi t := by
  unfold pc kk
  rw [cb_congr h]
theorem Cuts.congr (h : ∀ e, e ∈ S ↔ e ∈ S') (nd : S'.Nodup) (c : Cuts S t) : Cuts S' t :=
  ⟨nd, fun e he => c.sub e ((h e).mpr he), fun e he => c.ne e ((h e).mpr he), c.pos⟩
theorem psl_perm (n : Nat) (h : ∀ e, e ∈ S ↔ e ∈ S') (nd : S.Nodup) (nd' : S'.Nodup) : (psl S n).Perm (psl S' n) := by
  have p : S.Perm S' := nodup_perm nd nd' h
  have e : psl S n = (tops S n).filter fun P => decide (3 < (cb S' P.1 P.2).length) := by
    unfold psl
    refine List.filter_congr fun P _ => ?_
    rw [cb_congr h]
  rw [e]
  exact (List.Perm.cons _ p).filter _
end
/-- the shared cuts of s and t -/
def shs (s t : B) : List Cut := (nodes t 0).filter fun e => decide (e ∈ nodes s 0 ∧ e ≠ (0, t.sz + 1))
theorem shs_nd (s t : B) : (shs s t).Nodup := (nodes_nodup t 0).sublist List.filter_sublist
theorem shs_mem {s t : B} (e : Cut) : e ∈ shs s t ↔ e ∈ nodes t 0 ∧ e ∈ nodes s 0 ∧ e ≠ (0, t.sz + 1) := by
  unfold shs
  rw [List.mem_filter, decide_eq_true_iff]
theorem shs_cuts {s t : B} (hs : s ≠ lf) (h : s.sz = t.sz) : Cuts (shs s t) s :=
  ⟨shs_nd s t, fun e he => ((shs_mem e).mp he).2.1, fun e he => by rw [h]; exact ((shs_mem e).mp he).2.2, hs⟩
theorem shs_cuts' {s t : B} (ht : t ≠ lf) : Cuts (shs s t) t :=
  ⟨shs_nd s t, fun e he => ((shs_mem e).mp he).1, fun e he => ((shs_mem e).mp he).2.2, ht⟩
end Kn

set_option Elab.async false
set_option linter.all false
set_option maxRecDepth 100000
set_option maxHeartbeats 1000000
/-! WkJ: part_tree, pieces. -/
namespace Kn
open PySem PySem.Spec PyProof.Rows L2

theorem iteS1 {o : Option V} {v : V} {A B : Prop} (h : o = some v) (ha : A) : if o.isSome = true then A else B := by
  subst h
  exact iteT ha
theorem iteS0 {o : Option V} {A B : Prop} (h : o = none) (hb : B) : if o.isSome = true then A else B := by
  subst h
  exact iteF hb
theorem putK_len' {κ : Type} [DecidableEq κ] (c : List (κ × V)) (k : κ) (x : V) : (putK c k x).length ≤ c.length + 1 := by
  unfold putK
  split
  · rw [List.length_map]; omega
  · rw [List.length_append, List.length_singleton]; exact Nat.le_refl _
/-- the places of the first i corners -/
structure Plc (kvs : List (Key × V)) (C : List Nat) (f : Nat → Nat) (i : Nat) : Prop where
  len : kvs.length ≤ i
  val : ∀ x : Nat, valV kvs (.inl (x : Int)) = if x ∈ C.take i then some (V.int (f x : Nat)) else none
theorem Plc.step {kvs : List (Key × V)} {C : List Nat} {f : Nat → Nat} {i c : Nat} (h : Plc kvs C f i) (hc : C[i]? = some c) (hf : f c = i) : Plc (putK kvs (.inl (c : Int)) (.int (i : Nat))) C f (i + 1) := by
  refine ⟨Nat.le_trans (putK_len' ..) (Nat.succ_le_succ h.len), fun x => ?_⟩
  rw [valV_put, h.val, List.take_succ, hc]
  show _ = if x ∈ C.take i ++ [c] then _ else _
  by_cases e : x = c
  · subst e
    rw [if_pos rfl, if_pos (by simp), hf]
  · rw [if_neg (fun z => e (by have := Sum.inl.inj z; omega))]
    by_cases m : x ∈ C.take i
    · rw [if_pos m, if_pos (by simp [m])]
    · rw [if_neg m, if_neg (by simp [m, e])]
section
variable {P : Program} {w : World} {K : PySem.W.Frag} {mg : Str → Option Value} {base : Heap}
abbrev s_part_tree : Stmt := top 33
theorem sc_part_tree : FnScope ["corners", "shared", "tree", "places", "place", "corner", "cuts", "low", "high"] ["corners", "shared", "tree"] (C8.fnScope s_part_tree) := C8.fnScope_by (by decide +kernel)
def sp_part_tree : Sp := fun vs H Q _ => ∃ (c l a : Addr) (ws : List V) (S : List Cut) (R : Cut) (t : B) (b : Bool), vs = [.ref c, .ref l, .ref a] ∧ H c = some (.tup (nvs (cb S R.1 R.2))) ∧ H l = some (.lst ws) ∧ Tups H ws (S.map cun) ∧ TpF H a (tl t) ∧
  Cuts S t ∧ R ∈ tops S t.sz ∧ 3 < (cb S R.1 R.2).length ∧ t.sz ≤ 1000 ∧
  ∀ (p : Addr) (H' : Hp), H p = none → Same H H' → TpK b H' p (tl (pc S R.1 R.2 t)) → Q (.ref p) H'
theorem ok_part_tree (G : Gs mg) (F : Df K mg "part_tree" s_part_tree ["corners", "shared", "tree"]) (c_cuts_of : CalN P w K mg base 5 "cuts_of" sp_cuts_of) (c_tree_by_cuts : CalN P w K mg base 3 "tree_by_cuts" sp_tree_by_cuts) : CalN P w K mg base 6 "part_tree" sp_part_tree := by
  refine F.cal sc_part_tree (fun vs H Q E h => ?_) (fun f cdv A outer s H vs Q E hr h => ?_)
  · obtain ⟨c, l, a, ws, S, R, t, b, rfl, _⟩ := h
    rfl
  · obtain ⟨c, l, a, ws, S, R, t, b, rfl, hc, hl, tp, ha, hS, hR, h3, hz, q⟩ := h
    have sh := hS.sh hR
    have csz := pc_sz hS hR rfl
    have cle := hS.pcz hR
    have cat : ∀ (i x : Nat), (cb S R.1 R.2)[i]? = some x → cn (kk S R.1 R.2) x = i := fun i x e => by
      have := cn_at sh.ch (Nat.le_refl _) (fun c _ => Iff.rfl) i x e
      rw [this, cn_low, Nat.zero_add]
    generalize hC : cb S R.1 R.2 = C at hc h3 csz cat
    generalize hf : cn (kk S R.1 R.2) = f at cat
    have Cl : (nvs C).length = C.length := List.length_map _
    refine ⟨_, (pss_cons (ps_set (i := 3) sc_part_tree.nd rfl (Or.inl rfl) pe_dnewK)
      (pss_cons (ps_for PassesOwn.never rfl (pi_enumT (by rfl) G.enumerate (pa_cons (pv 0) pa_nil)) (pg_tup rfl (pgs_cons (pg_name (i := 4) sc_part_tree.nd rfl (Or.inl rfl)) (pgs_cons (pg_name (i := 5) sc_part_tree.nd rfl (Or.inl rfl)) pgs_nil))) (pss_one (ps_dput (hu_of hr) (pv 3) (pv 5) (pv 4) rfl)))
      (pss_cons (ps_set (i := 6) sc_part_tree.nd rfl (Or.inl rfl) (pe_lst pa_nil))
      (pss_cons (ps_for PassesOwn.never rfl (pi_list (C8.pe_c c_cuts_of hr (by decide) (by rfl) (pa_cons (pv 2) pa_nil))) (pg_tup rfl (pgs_cons (pg_name (i := 7) sc_part_tree.nd rfl (Or.inl rfl)) (pgs_cons (pg_name (i := 8) sc_part_tree.nd rfl (Or.inl rfl)) pgs_nil))) (pss_one (ps_if (PW.pt (pw_and (pt_cmp (pc_din (hu_of hr) (pv 7) (pv 3))) (pw_and (pt_cmp (pc_din (hu_of hr) (pv 8) (pv 3))) (pw_and1 (pt_cmpR (op_notInT (hu65 hr)) (pe_tup (pa_cons (pv 7) (pa_cons (pv 8) pa_nil))) (pv 1) rfl))))) (pss_one (ps_expr (pe_bm PySem.F.plainAttrs_list PySem.F.slot_list_append PySem.F.type_list_append mt_append (pv 6) (pa_cons (pe_tup (pa_cons (pe_dget (hu_of hr) (pv 3) (pv 7) (fun _ _ => rfl)) (pa_cons (pe_dget (hu_of hr) (pv 3) (pv 8) (fun _ _ => rfl)) pa_nil))) pa_nil)))) pss_nil)))
      (pss_one (ps_ret (C8.pe_c c_tree_by_cuts hr (by decide) (by rfl) (pa_cons (pe_op op_sub (pe_callB call_len_seq (by rfl) G.len PySem.boot_len (pa_cons (pv 0) pa_nil)) pe_int) (pa_cons (pv 6) pa_nil))))))))), ?_⟩
    refine fun kA hkA => ?_
    have s0 := (Same.refl H).new (o := .dK []) hkA
    refine ⟨_, rfl, c, nvs C, rfl, SqT.of (s0 _ _ hc), for_enumT (K := K) (a := c) (xs := nvs C) (fun i σ H1 => (∃ x y, σ = [some (.ref c), some (.ref l), some (.ref a), some (.ref kA), x, y, none, none, none]) ∧ Same H H1 ∧ ∃ kvs, H1 kA = some (.dK kvs) ∧ Plc kvs C f i) ⟨⟨_, _, rfl⟩, s0, [], upd_same, Nat.le_refl _, fun x => rfl⟩ (fun i σ H1 _ ⟨_, s1, _⟩ => SqT.of (s1 _ _ hc)) ?_ ?_⟩
    · rintro i x T σ H1 hi ⟨⟨x0, y0, rfl⟩, s1, kvs, hk, pl⟩ hT
      obtain ⟨c', hc', rfl⟩ : ∃ c', C[i]? = some c' ∧ x = V.int (c' : Nat) := by
        rw [List.getElem?_map] at hi
        cases e : C[i]? with
        | none => rw [e] at hi; cases hi
        | some c' => rw [e] at hi; exact ⟨c', rfl, (Option.some.inj hi).symm⟩
      have hi' : i < C.length := (List.getElem?_eq_some_iff.mp hc').1
      have nkT : kA ≠ T := fun e => by rw [← e, hk] at hT; cases hT
      refine ⟨T, _, rfl, SqT.of upd_same, rfl, _, _, rfl, _, _, rfl, rfl, ?_⟩
      refine ⟨_, rfl, _, rfl, _, rfl, kA, _, rfl, DPut.k (k := .inl (c' : Int)) (by rw [upd_ne nkT]; exact hk) (bigl (by have := pl.len; omega)), ⟨_, _, rfl⟩, (s1.new hT).mut hkA, _, upd_same, pl.step hc' (cat i c' hc')⟩
    · rintro σ H1 ⟨⟨x0, y0, rfl⟩, s1, kvs, hk, pl⟩
      rw [Cl] at pl
      have pv' : ∀ x : Nat, valV kvs (.inl (x : Int)) = if x ∈ C then some (V.int (f x : Nat)) else none := fun x => by rw [pl.val, List.take_length]
      refine ⟨by show 0 ≤ sizeLine; decide, fun cA hcA => ?_⟩
      have s2 := s1.new (o := .lst []) hcA
      have hcA0 : H cA = none := s1.free hcA
      refine ⟨_, rfl, a, t, rfl, s2.tpK ha, hS.pos, hz, fun l2 w2 es H2 hl2 s3 h2 c2 t2 => ?_⟩
      have nck : kA ≠ cA := fun e => by rw [← e, hk] at hcA; cases hcA
      have hca2 : H2 cA = some (.lst []) := s3 _ _ upd_same
      have nl2 : l2 ≠ cA := fun e => by rw [e, upd_same] at hl2; cases hl2
      have hk2 : rm H2 cA kA = some (.dK kvs) := by rw [rm_ne nck]; exact s3 _ _ (by rw [upd_ne nck]; exact hk)
      have h2' : rm H2 cA l2 = some (.lst w2) := by rw [rm_ne nl2]; exact h2
      have t2' := t2.keep (rm_tk hca2)
      have sB : Same H (rm H2 cA) := rm_of (s2.trans s3) hcA0
      have wl : w2.length = es.length := by rw [t2.len, List.length_map]
      have el : es.length ≤ 1000 := by have := cuts_len hS.pos c2.nd c2.mem; omega
      have pcc := pc_cuts hS hR c2.nd c2.mem
      rw [hC, hf] at pcc
      refine ⟨l2, rfl, ⟨_, SqL.of h2⟩, for_list (K := K) (a := l2) (xs := w2) (fun i σ H3 => (∃ x y u v, σ = [some (.ref c), some (.ref l), some (.ref a), some (.ref kA), x, y, some (.ref cA), u, v]) ∧ Same (rm H2 cA) H3 ∧ ∃ us, H3 cA = some (.lst us) ∧ us.length ≤ i ∧
          Tups H3 us ((((es.take i).filter fun e => decide (e.1 ∈ C ∧ e.2 ∈ C ∧ e ∉ S)).map fun e => (f e.1, f e.2)).map cun)) ⟨⟨_, _, _, _, rfl⟩, rm_sub, [], hca2, Nat.le_refl _, .nil⟩ (fun i σ H3 _ ⟨_, s4, _⟩ => SqL.of (s4 _ _ h2')) ?_ ?_⟩
      · rintro i x σ H3 hi ⟨⟨x1, y1, u1, v1, rfl⟩, s4, us, hus, ul, tu⟩
        obtain ⟨e, d, he, rfl, hd⟩ := t2'.get hi
        have hi' : i < es.length := (List.getElem?_eq_some_iff.mp he).1
        have etk : ∀ q : Bool, decide (e.1 ∈ C ∧ e.2 ∈ C ∧ e ∉ S) = q → ((es.take (i + 1)).filter fun e => decide (e.1 ∈ C ∧ e.2 ∈ C ∧ e ∉ S)) = ((es.take i).filter fun e => decide (e.1 ∈ C ∧ e.2 ∈ C ∧ e ∉ S)) ++ (if q then [e] else []) := fun q hq => by
          rw [List.take_succ, he, List.filter_append]
          show _ ++ List.filter _ [e] = _
          rw [List.filter_cons, hq]
          cases q <;> rfl
        refine ⟨d, _, rfl, SqT.of (s4 _ _ hd), rfl, _, _, rfl, _, _, rfl, rfl, ?_⟩
        have hk3 := s4 _ _ hk2
        refine ⟨_, rfl, _, rfl, kA, _, rfl, DGet.k (k := .inl (e.1 : Int)) hk3, _, rfl, ?_⟩
        by_cases m1 : e.1 ∈ C
        · have v1 := (pv' e.1).trans (if_pos m1)
          refine iteS1 v1 ?_
          refine ⟨_, rfl, _, rfl, kA, _, rfl, DGet.k (k := .inl (e.2 : Int)) hk3, _, rfl, ?_⟩
          by_cases m2 : e.2 ∈ C
          · have v2 := (pv' e.2).trans (if_pos m2)
            refine iteS1 v2 ?_
            refine ⟨_, rfl, _, rfl, by show 2 ≤ sizeLine; decide, fun p hp => ?_⟩
            have npc : p ≠ cA := fun z => by rw [z, hus] at hp; cases hp
            have s5 := s4.new (o := .tup [.int (e.1 : Nat), .int (e.2 : Nat)]) hp
            have k1 : Tkeep H3 (upd H3 p (.tup [.int (e.1 : Nat), .int (e.2 : Nat)])) := Tkeep.new hp
            have hus5 : (upd H3 p (.tup [.int (e.1 : Nat), .int (e.2 : Nat)])) cA = some (.lst us) := by rw [upd_ne npc.symm]; exact hus
            have hp5 : (upd H3 p (.tup [.int (e.1 : Nat), .int (e.2 : Nat)])) p = some (.tup (ivs (cun e))) := upd_same
            generalize upd H3 p (.tup [.int (e.1 : Nat), .int (e.2 : Nat)]) = H5 at s5 k1 hus5 hp5 ⊢
            have tS : Tups H5 ws (S.map cun) := (tp.keep (Tkeep.of (sB.trans s4))).keep k1
            refine ⟨_, rfl, p, l, cun e, ws, S.map cun, rfl, rfl, SqT.of hp5, SqL.of ((sB.trans s5) _ _ hl), tS, _, rfl, ?_⟩
            by_cases m3 : e ∈ S
            · refine iteN0 (mem_cun.mpr m3) ?_
              refine ⟨⟨_, _, _, _, rfl⟩, s5, us, hus5, by omega, ?_⟩
              rw [etk false (decide_eq_false fun z => z.2.2 m3), if_neg (by simp), List.append_nil]
              exact tu.keep k1
            · refine iteN1 (fun z => m3 (mem_cun.mp z)) ?_
              have hk5 := s5 _ _ hk2
              refine ⟨_, rfl, .inl ⟨rfl, _, SqL.of hus5⟩, _, rfl, _, rfl, kA, _, rfl, by rw [← v1]; exact DGet.k (k := .inl (e.1 : Int)) hk5, _, rfl, _, rfl, kA, _, rfl, by rw [← v2]; exact DGet.k (k := .inl (e.2 : Int)) hk5, by show 2 ≤ sizeLine; decide, fun p2 hp2 => ?_⟩
              have np2 : p2 ≠ cA := fun z => by rw [z, hus5] at hp2; cases hp2
              have k2 : Tkeep H5 (upd H5 p2 (.tup (ivs (cun (f e.1, f e.2))))) := Tkeep.new hp2
              have k3 : Tkeep (upd H5 p2 (.tup (ivs (cun (f e.1, f e.2))))) (upd (upd H5 p2 (.tup (ivs (cun (f e.1, f e.2))))) cA (.lst (us ++ [.ref p2]))) := Tkeep.lst (by rw [upd_ne np2.symm]; exact hus5)
              refine ⟨cA, _, _, rfl, rfl, by rw [upd_ne np2.symm]; exact hus5, bigl (by omega), ⟨_, _, _, _, rfl⟩, (s5.new hp2).mut rm_same, _, upd_same, by rw [List.length_append, List.length_singleton]; omega, ?_⟩
              rw [etk true (decide_eq_true ⟨m1, m2, m3⟩), if_pos rfl, List.map_append, List.map_append]
              exact (tu.keep ((k1.trans k2).trans k3)).snoc (ns := cun (f e.1, f e.2)) (k3 _ _ upd_same)
          · refine iteS0 ((pv' e.2).trans (if_neg m2)) ?_
            refine ⟨⟨_, _, _, _, rfl⟩, s4, us, hus, by omega, ?_⟩
            rw [etk false (decide_eq_false fun z => m2 z.2.1), if_neg (by simp), List.append_nil]
            exact tu
        · refine iteS0 ((pv' e.1).trans (if_neg m1)) ?_
          refine ⟨⟨_, _, _, _, rfl⟩, s4, us, hus, by omega, ?_⟩
          rw [etk false (decide_eq_false fun z => m1 z.1), if_neg (by simp), List.append_nil]
          exact tu
      · rintro σ H3 ⟨⟨x1, y1, u1, v1, rfl⟩, s4, us, hus, ul, tu⟩
        rw [wl, List.take_length] at tu
        have sC := sB.trans s4
        have csz2 : (((nvs C).length : Nat) : Int) - 2 = (((pc S R.1 R.2 t).sz : Nat) : Int) := by rw [Cl]; omega
        refine ⟨_, rfl, c, _, rfl, .inr (SqT.of (sC _ _ hc)), _, _, rfl, rfl, _, rfl, cA, us, pc S R.1 R.2 t, _, b, by rw [← csz2]; rfl, hus, tu, fun z => by rw [z] at csz; simp only [B.sz] at csz; omega, by omega, ⟨pcc.1, pcc.2⟩, fun p H' hp sm tk => ?_⟩
        exact q p H' (sC.free hp) (sC.trans sm) tk
end
end Kn

set_option Elab.async false
set_option linter.all false
set_option maxRecDepth 100000
set_option maxHeartbeats 1000000
/-! WkK: pieces. -/
namespace Kn
open PySem PySem.Spec PyProof.Rows L2

/-- a piece as it is told -/
def PcV (s t : B) (S : List Cut) (H : Hp) (v : V) (P : Cut) : Prop := ∃ p c m y : Addr, v = .ref p ∧ H p = some (.tup [.ref c, .ref m, .ref y]) ∧ H c = some (.tup (nvs (cb S P.1 P.2))) ∧ H m = some (.tup (ivs (tl (pc S P.1 P.2 s)))) ∧ H y = some (.tup (ivs (tl (pc S P.1 P.2 t))))
theorem PcV.keep {s t : B} {S : List Cut} {H H' : Hp} {v : V} {P : Cut} (k : Tkeep H H') (h : PcV s t S H v P) : PcV s t S H' v P := by
  obtain ⟨p, c, m, y, rfl, h1, h2, h3, h4⟩ := h
  exact ⟨p, c, m, y, rfl, k _ _ h1, k _ _ h2, k _ _ h3, k _ _ h4⟩
theorem PcV.congr {s t : B} {S S' : List Cut} {H : Hp} {v : V} {P : Cut} (e : ∀ x, x ∈ S ↔ x ∈ S') (h : PcV s t S H v P) : PcV s t S' H v P := by
  obtain ⟨p, c, m, y, rfl, h1, h2, h3, h4⟩ := h
  rw [cb_congr e] at h2
  rw [pc_congr e] at h3 h4
  exact ⟨p, c, m, y, rfl, h1, h2, h3, h4⟩
abbrev pcD (s t : B) (S : List Cut) (P : Cut) : PyData := .tuple [tupD ((cb S P.1 P.2).map fun j => ((j : Nat) : Int)), tupD (tl (pc S P.1 P.2 s)), tupD (tl (pc S P.1 P.2 t))]
theorem pcv_dp {K : PySem.W.Frag} {s t : B} {S : List Cut} {H : Hp} : ∀ {vs : List V} {Ps : List Cut}, Paired (PcV s t S H) vs Ps → DpAll K H vs (Ps.map (pcD s t S))
  | _, _, .nil => .nil
  | _, _, .cons r t => by
    obtain ⟨p, c, m, y, rfl, h1, h2, h3, h4⟩ := r
    rw [ivs_nvs] at h2
    exact .cons (.tup (SqT.of h1) (.cons (dp_tup (SqT.of h2)) (.cons (dp_tup (SqT.of h3)) (.cons (dp_tup (SqT.of h4)) .nil)))) (pcv_dp t)
theorem Paired.len' {α β : Type} {R : α → β → Prop} {xs : List α} {ys : List β} (h : Paired R xs ys) : xs.length = ys.length := Paired.length h
section
variable {P : Program} {w : World} {K : PySem.W.Frag} {mg : Str → Option Value} {base : Heap}
abbrev s_pieces : Stmt := top 34
theorem sc_pieces : FnScope ["one", "other", "shared", "found", "low", "high", "corners"] ["one", "other"] (C8.fnScope s_pieces) := C8.fnScope_by (by decide +kernel)
def sp_pieces : Sp := fun vs H Q _ => ∃ (a b : Addr) (s t : B), vs = [.ref a, .ref b] ∧ TpF H a (tl s) ∧ TpF H b (tl t) ∧ s ≠ .lf ∧ s.sz = t.sz ∧ s.sz ≤ 1000 ∧
  ∀ (l : Addr) (ws : List V) (Ps : List Cut) (H' : Hp), H l = none → Same H H' → H' l = some (.lst ws) → Ps.Perm (psl (shs s t) t.sz) → Paired (PcV s t (shs s t) H') ws Ps → Q (.ref l) H'
theorem ok_pieces (G : Gs mg) (F : Df K mg "pieces" s_pieces ["one", "other"]) (c_shared_cuts : CalN P w K mg base 6 "shared_cuts" sp_shared_cuts) (c_corners_beneath : CalN P w K mg base 1 "corners_beneath" sp_corners_beneath) (c_part_tree : CalN P w K mg base 6 "part_tree" sp_part_tree) : CalN P w K mg base 7 "pieces" sp_pieces := by
  refine F.cal sc_pieces (fun vs H Q E h => ?_) (fun f cdv A outer s H vs Q E hr h => ?_)
  · obtain ⟨a, b, s, t, rfl, _⟩ := h
    rfl
  · obtain ⟨a, b, s', t, rfl, ha, hb, hs, hst, hz, q⟩ := h
    have ht : t ≠ .lf := fun e => hs (sz_zero (by rw [hst, e]; rfl))
    have hl : (tl s').length = t.sz := by rw [← hst]; exact par_len s' 0 (-1)
    refine ⟨_, (pss_cons (ps_set (i := 2) sc_pieces.nd rfl (Or.inl rfl) (C8.pe_c c_shared_cuts hr (by decide) (by rfl) (pa_cons (pv 0) (pa_cons (pv 1) pa_nil))))
      (pss_cons (ps_set (i := 3) sc_pieces.nd rfl (Or.inl rfl) (pe_lst pa_nil))
      (pss_cons (ps_for PassesOwn.never rfl (pi_list (pe_op op_cat (pe_lst (pa_cons (pe_tup (pa_cons pe_int (pa_cons (pe_op op_add (pe_callB call_len_seq (by rfl) G.len PySem.boot_len (pa_cons (pv 0) pa_nil)) pe_int) pa_nil))) pa_nil)) (pv 2))) (pg_tup rfl (pgs_cons (pg_name (i := 4) sc_pieces.nd rfl (Or.inl rfl)) (pgs_cons (pg_name (i := 5) sc_pieces.nd rfl (Or.inl rfl)) pgs_nil))) (pss_cons (ps_set (i := 6) sc_pieces.nd rfl (Or.inl rfl) (C8.pe_c c_corners_beneath hr (by decide) (by rfl) (pa_cons (pv 2) (pa_cons (pv 4) (pa_cons (pv 5) pa_nil)))))
      (pss_one (ps_if (pt_cmpR op_gt (pe_callB call_len_seq (by rfl) G.len PySem.boot_len (pa_cons (pv 6) pa_nil)) pe_int (nomark _)) (pss_one (ps_expr (pe_bm PySem.F.plainAttrs_list PySem.F.slot_list_append PySem.F.type_list_append mt_append (pv 3) (pa_cons (pe_tup (pa_cons (pv 6) (pa_cons (C8.pe_c c_part_tree hr (by decide) (by rfl) (pa_cons (pv 6) (pa_cons (pv 2) (pa_cons (pv 0) pa_nil)))) (pa_cons (C8.pe_c c_part_tree hr (by decide) (by rfl) (pa_cons (pv 6) (pa_cons (pv 2) (pa_cons (pv 1) pa_nil)))) pa_nil)))) pa_nil)))) pss_nil))))
      (pss_one (ps_ret (pe_callB (cr_sortD (hu70 hr)) (by rfl) G.sorted (by decide +kernel) (pa_cons (pv 3) pa_nil))))))), ?_⟩
    refine ⟨_, rfl, _, rfl, a, b, s', t, rfl, ha, hb, hs, ht, hz, by omega, fun l ws S H1 hl1 s1 h1 sh tp => ?_⟩
    have eS : ∀ e, e ∈ S ↔ e ∈ shs s' t := fun e => by
      rw [sh.mem, shs_mem, hst]
      exact ⟨fun z => ⟨z.2.1, z.1.1, z.2.2⟩, fun z => ⟨⟨z.2.1, z.2.2⟩, z.1, z.2.2⟩⟩
    have cS : Cuts S s' := (shs_cuts hs hst).congr (fun e => (eS e).symm) sh.nd
    have cT : Cuts S t := (shs_cuts' ht).congr (fun e => (eS e).symm) sh.nd
    have Sl : S.length ≤ 1000 := by
      have := nodup_le (m := nodes s' 0) sh.nd cS.sub
      rw [nodes_len] at this
      omega
    have wl : ws.length = S.length := by rw [tp.len, List.length_map]
    refine ⟨by show 0 ≤ sizeLine; decide, fun fA hfA => ?_⟩
    have hfA0 : H fA = none := s1.free hfA
    have s2 := s1.new (o := .lst []) hfA
    refine ⟨_, rfl, a, _, rfl, .inr (s2.rdT ha.rd).sq, _, _, rfl, rfl, by show 2 ≤ sizeLine; decide, fun i0 hi0 => ?_⟩
    rw [ivs_len, hl]
    have n0 : i0 ≠ fA := fun e => by rw [e, upd_same] at hi0; cases hi0
    refine ⟨by show 1 ≤ sizeLine; decide, fun l0 hl0 => ?_⟩
    have hf3 : (upd (upd H1 fA (.lst [])) i0 (.tup [.int 0, .int ((t.sz : Nat) + 1)])) fA = some (.lst []) := by rw [upd_ne n0.symm, upd_same]
    have hi3 : (upd (upd H1 fA (.lst [])) i0 (.tup [.int 0, .int ((t.sz : Nat) + 1)])) i0 = some (.tup (ivs (cun (0, t.sz + 1)))) := upd_same
    have sA : Same H1 (upd (upd H1 fA (.lst [])) i0 (.tup [.int 0, .int ((t.sz : Nat) + 1)])) := ((Same.refl H1).new hfA).new hi0
    generalize upd (upd H1 fA (.lst [])) i0 (.tup [.int 0, .int ((t.sz : Nat) + 1)]) = H3 at hl0 hf3 hi3 sA ⊢
    have n1 : l0 ≠ fA := fun e => by rw [e, hf3] at hl0; cases hl0
    have sA2 := sA.new (o := .lst [.ref i0]) hl0
    refine ⟨_, rfl, l0, l, [.ref i0], ws, rfl, rfl, upd_same, sA2 _ _ h1, big (by rw [wl, List.length_singleton]; omega), fun l3 hl3 => ?_⟩
    have n2 : l3 ≠ fA := fun e => by rw [e, upd_ne n1.symm, hf3] at hl3; cases hl3
    have sA3 := sA2.new (o := .lst ([.ref i0] ++ ws)) hl3
    have hl3' : (upd (upd H3 l0 (.lst [.ref i0])) l3 (.lst ([.ref i0] ++ ws))) l3 = some (.lst ([.ref i0] ++ ws)) := upd_same
    have hf4 : (upd (upd H3 l0 (.lst [.ref i0])) l3 (.lst ([.ref i0] ++ ws))) fA = some (.lst []) := by rw [upd_ne n2.symm, upd_ne n1.symm, hf3]
    have ni0 : i0 ≠ l0 := fun e => by rw [e, hl0] at hi3; cases hi3
    have hi4 : (upd (upd H3 l0 (.lst [.ref i0])) l3 (.lst ([.ref i0] ++ ws))) i0 = some (.tup (ivs (cun (0, t.sz + 1)))) := by
      rw [upd_ne (fun e => by rw [← e, upd_ne ni0, hi3] at hl3; cases hl3), upd_ne ni0, hi3]
    generalize (upd (upd H3 l0 (.lst [.ref i0])) l3 (.lst ([.ref i0] ++ ws))) = H4 at sA3 hl3' hf4 hi4 ⊢
    have tp4 : Tups H4 ([.ref i0] ++ ws) ((tops S t.sz).map cun) := .cons ⟨i0, rfl, hi4⟩ (tp.keep (Tkeep.of sA3))
    have ul : ([V.ref i0] ++ ws).length = (tops S t.sz).length := by
      show ([V.ref i0] ++ ws).length = (_ :: S).length
      rw [List.length_append, List.length_singleton, List.length_cons, wl]; omega
    have utl : (tops S t.sz).length ≤ 1001 := by show (_ :: S).length ≤ 1001; rw [List.length_cons]; omega
    have sB : Same H (rm H4 fA) := rm_of (s1.trans sA3) hfA0
    have n3 : l3 ≠ fA := n2
    have hl5 : rm H4 fA l3 = some (.lst ([.ref i0] ++ ws)) := by rw [rm_ne n3]; exact hl3'
    have nlf : l ≠ fA := fun e => by rw [e, hfA] at h1; cases h1
    have hll : rm H4 fA l = some (.lst ws) := by rw [rm_ne nlf]; exact sA3 _ _ h1
    have tp5 := tp4.keep (rm_tk hf4)
    have tpS := (tp.keep (Tkeep.of sA3)).keep (rm_tk hf4)
    refine ⟨l3, rfl, ⟨_, SqL.of hl3'⟩, for_list (K := K) (a := l3) (xs := [.ref i0] ++ ws) (fun i σ H5 => (∃ x y z, σ = [some (.ref a), some (.ref b), some (.ref l), some (.ref fA), x, y, z]) ∧ Same (rm H4 fA) H5 ∧ ∃ us, H5 fA = some (.lst us) ∧ us.length ≤ i ∧
        Paired (PcV s' t S H5) us (((tops S t.sz).take i).filter fun P => decide (3 < (cb S P.1 P.2).length))) ⟨⟨_, _, _, rfl⟩, rm_sub, [], hf4, Nat.le_refl _, .nil⟩ (fun i σ H5 _ ⟨_, s5, _⟩ => SqL.of (s5 _ _ hl5)) ?_ ?_⟩
    · rintro i x σ H5 hi ⟨⟨x0, y0, z0, rfl⟩, s5, us, hus, ule, pu⟩
      obtain ⟨R, d, hR, rfl, hd⟩ := tp5.get hi
      have hi' : i < (tops S t.sz).length := (List.getElem?_eq_some_iff.mp hR).1
      have hRm : R ∈ tops S t.sz := List.mem_of_getElem? hR
      have hRs : R ∈ tops S s'.sz := by rw [hst]; exact hRm
      have shR := cT.sh hRm
      have bR := nodes_bd shR.top
      dsimp only at bR
      have ltR := shR.lt
      have etk : ∀ q : Bool, decide (3 < (cb S R.1 R.2).length) = q → (((tops S t.sz).take (i + 1)).filter fun P => decide (3 < (cb S P.1 P.2).length)) = (((tops S t.sz).take i).filter fun P => decide (3 < (cb S P.1 P.2).length)) ++ (if q then [R] else []) := fun q hq => by
        rw [List.take_succ, hR, List.filter_append]
        show _ ++ List.filter _ [R] = _
        rw [List.filter_cons, hq]
        cases q <;> rfl
      refine ⟨d, _, rfl, SqT.of (s5 _ _ hd), rfl, _, _, rfl, _, _, rfl, rfl, ?_⟩
      refine ⟨_, rfl, _, rfl, _, rfl, l, ws, S, R.1, R.2, rfl, s5 _ _ hll, tpS.keep (Tkeep.of s5), by omega, by omega, fun c H6 hc0 s6 hc => ?_⟩
      have s56 := s5.trans s6
      have hus6 := s6 _ _ hus
      have pu6 := Paired.mapP pu fun _ _ z => z.keep (Tkeep.of s6)
      refine ⟨_, rfl, c, _, rfl, .inr (SqT.of hc), _, _, rfl, rfl, _, rfl, ?_⟩
      by_cases m : 3 < (cb S R.1 R.2).length
      · refine iteD1 (by rw [List.length_map]; omega) ?_
        have pcz := cT.pcz hRm
        refine ⟨_, rfl, .inl ⟨rfl, _, SqL.of hus6⟩, _, rfl, _, rfl, _, rfl, _, rfl, c, l, a, ws, S, R, s', false, rfl, hc, s56 _ _ hll, tpS.keep (Tkeep.of s56), (sB.trans s56).tpK ha, cS, hRs, m, hz, fun mA H7 hm0 s7 hm => ?_⟩
        have s57 := s56.trans s7
        refine ⟨_, rfl, _, rfl, _, rfl, c, l, b, ws, S, R, t, false, rfl, s7 _ _ hc, s57 _ _ hll, tpS.keep (Tkeep.of s57), (sB.trans s57).tpK hb, cT, hRm, m, by omega, fun yA H8 hy0 s8 hy => ?_⟩
        have s58 := s57.trans s8
        have hus8 := s8 _ _ (s7 _ _ hus6)
        refine ⟨by show 3 ≤ sizeLine; decide, fun p hp => ?_⟩
        have npf : p ≠ fA := fun z => by rw [z, hus8] at hp; cases hp
        have k1 : Tkeep H8 (upd H8 p (.tup [.ref c, .ref mA, .ref yA])) := Tkeep.new hp
        have k2 : Tkeep (upd H8 p (.tup [.ref c, .ref mA, .ref yA])) (upd (upd H8 p (.tup [.ref c, .ref mA, .ref yA])) fA (.lst (us ++ [.ref p]))) := Tkeep.lst (by rw [upd_ne npf.symm]; exact hus8)
        refine ⟨fA, _, _, rfl, rfl, by rw [upd_ne npf.symm]; exact hus8, bigl (by omega), ⟨_, _, _, rfl⟩, (s58.new hp).mut rm_same, _, upd_same, by rw [List.length_append, List.length_singleton]; omega, ?_⟩
        rw [etk true (decide_eq_true m), if_pos rfl]
        refine Paired.append (Paired.mapP pu6 fun _ _ z => z.keep (((Tkeep.of s7).trans (Tkeep.of s8)).trans (k1.trans k2))) (.cons ⟨p, c, mA, yA, rfl, k2 _ _ upd_same, (k1.trans k2) _ _ (s8 _ _ (s7 _ _ hc)), (k1.trans k2) _ _ (s8 _ _ hm), (k1.trans k2) _ _ hy⟩ .nil)
      · refine iteD0 (by rw [List.length_map]; omega) ?_
        refine ⟨⟨_, _, _, rfl⟩, s56, us, hus6, by omega, ?_⟩
        rw [etk false (decide_eq_false m), if_neg (by simp), List.append_nil]
        exact pu6
    · rintro σ H5 ⟨⟨x0, y0, z0, rfl⟩, s5, us, hus, ule, pu⟩
      rw [ul, List.take_length] at pu
      have dp := pcv_dp (K := K) pu
      refine ⟨_, rfl, fA, us, _, rfl, SqL.of hus, dp, ?_, ?_, ?_, fun ys p hp hn => ?_⟩
      · intro d hd d' hd'
        obtain ⟨x, _, rfl⟩ := List.mem_map.mp hd
        obtain ⟨y, _, rfl⟩ := List.mem_map.mp hd'
        simp only [PySem.W.alike, PySem.W.alikeAll, PySem.W.alike_ints, Bool.and_true]
      · exact .inl fun d hd => by
          obtain ⟨x, _, rfl⟩ := List.mem_map.mp hd
          exact ⟨_, _, rfl⟩
      · intro d hd
        obtain ⟨x, _, rfl⟩ := List.mem_map.mp hd
        simp only [PyData.depth, PyData.depthAll, PySem.W.depth_ints]
        omega
      · obtain ⟨Ps, h2, h3⟩ := Paired.perm hp pu
        have k : Tkeep H5 (upd H5 p (.lst ys)) := Tkeep.new hn
        refine q p ys Ps _ ((sB.trans s5).free hn) ((sB.trans s5).new hn) upd_same (h2.trans (psl_perm t.sz eS sh.nd (shs_nd s' t))) (Paired.mapP h3 fun _ _ z => (z.keep k).congr eS)
end
end Kn

set_option Elab.async false
set_option linter.all false
set_option maxRecDepth 100000
set_option maxHeartbeats 1000000
/-! WkS: {tuple: value}, sorted(a dict whose keys are tuples). -/
namespace Kn
open PySem PySem.Spec PyProof.Rows L2

def tDispT (tk tv : TE) : TE := fun σ H Q => ∀ p, H p = none → tk σ (upd H p (.dT [])) fun x H1 => tv σ H1 fun y H2 => H2 p = some (.dT []) ∧ ∃ (b : Addr) (ks : List L2.Key), x = .ref b ∧ H2 b = some (.tup (ks.map kV)) ∧ Q (.ref p) (upd H2 p (.dT [(ks, y)]))
theorem pe_dispT {X : Cx} {pos : Pos} {k v : Expr} {tk tv : TE} (hu : X.A.units + 1 < cLine) (hk : PE X k tk) (hv : PE X v tv) : PE X (.Dict [some k] [v] pos) (tDispT tk tv) := by
  refine ⟨fun pins s σ H Q I q => ?_⟩
  have hn := I.hok.fresh (Nat.le_refl s.heap.objs.size)
  have I1 := I.laid (a := s.heap.objs.size) (o := .dT []) (h' := s.heap.push { cls := .type "dict", data := .dict #[] }) (t' := s.toks) (fun _ _ q => Heap.get?_push_of_some _ q) (Nat.le_refl _) (dt_empty s.heap I.big)
  have hsh := zip_pairTrees [some k] [v] X.env pos rfl rfl
  rw [arm_eval_Dict, hsh, dictDisplay_pairs (pairTrees [some k] [v] X.env pos) (by simp [pairTrees]) (by simp [pairTrees])]
  refine wpAny_bind (wpAny_standAt (wpAny_bind (wpAny_subDictH (knd := tupleKind (mixKind X.prog X.w)) (show (tupleKind (mixKind X.prog X.w)).room X.A from Nat.lt_of_succ_lt hu) (by simp [pairTrees]) ?_)))
  refine pairTrees_cons_walk (thn (hk.run pins _ σ _ _ I1 (q _ hn)) fun u s1 ⟨x, H1, I2, rx, q1⟩ => thn (hv.run pins s1 σ H1 _ I2 q1) fun w2 s2 ⟨y, H2, I3, ry, q2⟩ => pairTrees_nil_walk ?_)
  obtain ⟨e, b, ks, rfl, eb, q3⟩ := q2
  obtain rfl : u = Value.ref b := rx
  obtain ⟨z, hd, xs, r0, dd⟩ := dt_of I3.hok e
  cases r0
  have key := key_of I3.hok eb
  refine ⟨[(ks, b, w2)], ⟨rfl, rfl, key, trivial⟩, dd, fun h' tk dd' hs => wpAny_pure ⟨.ref s.heap.objs.size, _, ?_, rfl, q3⟩⟩
  have dd2 : h'.DictOfH (tupleKind (mixKind X.prog X.w)) s.heap.objs.size [(ks, b, w2)] := dd'
  obtain ⟨o, es, ep, ho, hx, hdat, hes, his, hnd⟩ := dd2
  refine d_write I3 (by rw [e]; exact True.intro) hs ⟨o, ho⟩ ⟨by show 1 ≤ sizeLine; decide, hd, _, .cons ⟨rfl, ?_, ry⟩ .nil, o, es, ep, ho, hx, hdat, hes, hnd⟩
  rw [upd_ne (ne_of eb e (fun z => nomatch z))]
  exact eb

/-! ### sorted(d), d's keys tuples of ints -/
abbrev kyI (ns : List Int) : List L2.Key := ns.map Sum.inl
theorem kyI_kV (ns : List Int) : (kyI ns).map kV = ivs ns := by
  rw [List.map_map]
  rfl
theorem keyz {H : Hp} : ∀ {kvs : List (List L2.Key × V)} {ks : List (List L2.Key × Addr × Value)} {nss : List (List Int)}, KT H kvs ks → kvs.map (·.1) = nss.map kyI →
    ∃ bs : List (Addr × List Int), bs.map (·.1) = ks.map (·.2.1) ∧ bs.map (·.2) = nss ∧ ∀ b ∈ bs, H b.1 = some (.tup (ivs b.2))
  | [], _, nss, r, e => by
    cases r
    cases nss with
    | nil => exact ⟨[], rfl, rfl, by simp⟩
    | cons => simp at e
  | p :: kvs, _, nss, r, e => by
    cases r with
    | @cons a q as qs h t =>
      cases nss with
      | nil => simp at e
      | cons n nss =>
        rw [List.map_cons, List.map_cons] at e
        obtain ⟨e1, e2⟩ := List.cons.inj e
        obtain ⟨bs, b1, b2, b3⟩ := keyz t e2
        refine ⟨(q.2.1, n) :: bs, by rw [List.map_cons, List.map_cons, b1], by rw [List.map_cons, b2], fun b hb => ?_⟩
        rcases List.mem_cons.mp hb with rfl | hb
        · have := h.2.1
          rw [e1, kyI_kV] at this
          exact this
        · exact b3 b hb
open PySem.W in
theorem each_refs {R : Value → Addr × List Int → Prop} : ∀ (bs : List (Addr × List Int)), (∀ b ∈ bs, R (.ref b.1) b) → EachIs R (bs.map fun b => Value.ref b.1) bs
  | [], _ => .nil
  | b :: bs, h => .cons (h b List.mem_cons_self) (each_refs bs fun c hc => h c (List.mem_cons_of_mem _ hc))
open PySem.W in
theorem each_out {H : Hp} : ∀ {us : List Value} {bs : List (Addr × List Int)}, EachIs (fun u b => u = Value.ref b.1 ∧ H b.1 = some (.tup (ivs b.2))) us bs → Vals (bs.map fun b => V.ref b.1) us ∧ Tups H (bs.map fun b => V.ref b.1) (bs.map (·.2))
  | _, _, .nil => ⟨.nil, .nil⟩
  | _, _, .cons r t => by
    obtain ⟨a, b⟩ := each_out t
    obtain ⟨rfl, h⟩ := r
    exact ⟨.cons rfl a, .cons ⟨_, rfl, h⟩ b⟩
def rSortDT : List V → Hp → VK → Prop := fun xs H Q => ∃ (a : Addr) (kvs : List (List L2.Key × V)) (nss : List (List Int)), xs = [V.ref a] ∧ H a = some (.dT kvs) ∧ kvs.map (·.1) = nss.map kyI ∧ (∀ ns ∈ nss, ns ≠ []) ∧
  ∀ (ys : List V) (mss : List (List Int)) (p : Addr), mss.Perm nss → Tups H ys mss → H p = none → Q (.ref p) (upd H p (.lst ys))
theorem cr_sortDT {X : Cx} (hc : X.calm = true) (hu : X.A.units + 70 < cLine) : CallR X (.builtin "sorted") rSortDT := by
  intro pins s σ H xs us Q I r h
  obtain ⟨a, kvs, nss, rfl, ha, hks, hne, q⟩ := h
  obtain ⟨u, rfl, rx⟩ := r.one
  cases rx
  obtain ⟨z, hs, ks, pr, o, es, ep, ho, hx, hdt, he, hn⟩ := (show ObjOk X.prog X.w H s.heap a (.dT kvs) from I.hok a _ ha)
  have l1 : es.size = ks.length := size_of_entries he
  have l2 : kvs.length = ks.length := Paired.length pr
  obtain ⟨bs, b1, b2, b3⟩ := keyz pr hks
  have lb : bs.length = ks.length := by have := congrArg List.length b1; simpa using this
  refine Calls.call_function_entry PyProof.Rows.kind_sorted PyProof.Rows.plain_sorted PyProof.Rows.entry_sorted (PyProof.Rows.args_sorted1 _) ?_
  unfold Builtin.«sorted»
  refine wpAny_bind (m := checkCount "sorted" 1 1 _) (wpAny_pure ?_)
  refine wpAny_bind (PySem.W.kdu_collect (A := X.A.in1) (kdl_raw hs hx hdt) (I.ok.hd hc) ho (by omega) fun h' tk acc hk it => ?_)
  have ea : acc.toList = ks.map fun x => Value.ref x.2.1 := by
    have hl : acc.toList.length = ks.length := by rw [Array.length_toList, it.1]; exact l1
    apply List.ext_getElem?
    intro j
    rw [List.getElem?_map]
    cases hj : acc.toList[j]? with
    | none =>
      have h1 := List.getElem?_eq_none_iff.mp hj
      rw [List.getElem?_eq_none (by omega)]
      all_goals rfl
    | some v =>
      obtain ⟨en, hen, hv⟩ := it.2 j v (by rw [← Array.getElem?_toList]; exact hj)
      have qe := entry_at he j
      rw [hen] at qe
      cases hb : ks[j]? with
      | none =>
        rw [hb] at qe
        exact nomatch (show some en = none from qe)
      | some b =>
        rw [hb] at qe
        have e2 : en = entryOfKey (tupleKind (mixKind X.prog X.w)) b := Option.some.inj qe
        rw [hv, e2]
        all_goals rfl
  have eb : acc.toList = bs.map fun b => Value.ref b.1 := by
    have e1 : (ks.map fun x => Value.ref x.2.1) = (ks.map (·.2.1)).map Value.ref := by rw [List.map_map]; rfl
    rw [ea, e1, ← b1, List.map_map]
    rfl
  have I1 : Inv X pins σ H { s with heap := h', toks := tk } := I.kept hk
  have hz : bs.length ≤ sizeLine := by omega
  have hal : acc.toList.length = bs.length := by rw [eb, List.length_map]
  refine wpAny_bind (wpAny_newList ?_ (by rw [hal]; exact hz))
  rw [eb] at hal ⊢
  have hoL : (h'.push (seqObj "list" (bs.map fun b => Value.ref b.1).toArray 0)).get? h'.objs.size = some (seqObj "list" (bs.map fun b => Value.ref b.1).toArray 0) := Heap.get?_push_size _ rfl
  show wpAny _ _ _ _ _ { s with heap := h'.push (seqObj "list" (bs.map fun b => Value.ref b.1).toArray 0), toks := tk }
  have keep : ∀ b o, s.heap.get? b = some o → (PySem.W.sortingHeap (h'.push (seqObj "list" (bs.map fun b => Value.ref b.1).toArray 0)) h'.objs.size (bs.map fun b => Value.ref b.1)).get? b = some o := fun b o e =>
    PySem.W.sortingHeap_old (Nat.ne_of_lt (Heap.lt_size (hk _ _ e))) (Heap.get?_push_of_some _ (hk _ _ e))
  have er : PySem.W.EachIs (fun (u : Value) (b : Addr × List Int) => ∃ as, Reads (PySem.W.sortingHeap (h'.push (seqObj "list" (bs.map fun b => Value.ref b.1).toArray 0)) h'.objs.size (bs.map fun b => Value.ref b.1)) u (tupD b.2) as) (bs.map fun b => Value.ref b.1) bs := each_refs bs fun b hb => by
    obtain ⟨as, r⟩ := Dp.reads I (tupD b.2) (.ref b.1) (.ref b.1) (dp_tup (K := X.K) (SqT.of (b3 b hb))) rfl
    exact ⟨as, PyProof.Rows.Reads.keeps keep r⟩
  have e0 : PySem.W.EachIs (fun (u : Value) (b : Addr × List Int) => u = Value.ref b.1 ∧ H b.1 = some (.tup (ivs b.2))) (bs.map fun b => Value.ref b.1) bs := each_refs bs fun b hb => ⟨rfl, b3 b hb⟩
  have al : PySem.W.AllAlike (bs.map fun b => tupD b.2) := PySem.W.AllAlike.of fun b b' => by
    simp only [PySem.W.alike, PySem.W.alikeAll, PySem.W.alike_ints]
  have so : PySem.W.Sortable (bs.map fun b => tupD b.2) := .inl fun d hd => by
    obtain ⟨b, hb, rfl⟩ := List.mem_map.mp hd
    have : b.2 ∈ nss := by rw [← b2]; exact List.mem_map_of_mem hb
    have n0 := hne _ this
    cases e : b.2 with
    | nil => exact absurd e n0
    | cons n ns => exact ⟨.int n, ns.map .int, rfl⟩
  refine wpAny_bind (wpAny_holding (wpAny_call_entry PyProof.Rows.slot_list_sort ⟨_, hoL, rfl⟩ PyProof.Rows.entry_list_sort
    (PySem.W.list_sort_vals (κ := PySem.W.dataKind (PySem.W.sortingHeap (h'.push (seqObj "list" (bs.map fun b => Value.ref b.1).toArray 0)) h'.objs.size (bs.map fun b => Value.ref b.1)) (bs.map fun b => tupD b.2))
      (s := { s with heap := h'.push (seqObj "list" (bs.map fun b => Value.ref b.1).toArray 0), toks := tk }) hoL
      (PySem.W.SortsAt.data (s := { s with heap := PySem.W.sortingHeap (h'.push (seqObj "list" (bs.map fun b => Value.ref b.1).toArray 0)) h'.objs.size (bs.map fun b => Value.ref b.1), toks := tk }) (PySem.W.each_map (fun b : Addr × List Int => tupD b.2) er) al so (PySem.W.bound_map fun b _ => ?_)) (by rw [hal]; exact hz) ⟨_, rfl, ?_⟩) (PyProof.Rows.args_list_sort _)))
  · rw [dep_tup]
    first
      | (show X.A.units + 1 + 1 + 1 < cLine; omega)
      | (show X.A.units + 1 + 1 < cLine; omega)
      | (show X.A.units + 1 < cLine; omega)
      | (show X.A.units + 1 + 1 + 1 + 1 < cLine; omega)
  · have eo := PySem.W.sortVals_data (enc := fun b : Addr × List Int => tupD b.2) false e0 er al
    generalize PySem.W.sortVals _ false (bs.map fun b => Value.ref b.1) (bs.map fun b => Value.ref b.1) = out at eo ⊢
    obtain ⟨e', he'⟩ := PyProof.Rows.sortedHeap_at (vs := bs.map fun b => Value.ref b.1) (out := out.toArray) hoL
    obtain ⟨v1, v2⟩ := each_out eo
    have hp := List.mergeSort_perm bs (PySem.W.dataLe false fun b : Addr × List Int => tupD b.2)
    have hlen : ((bs.mergeSort (PySem.W.dataLe false fun b : Addr × List Int => tupD b.2)).map fun b => V.ref b.1).length ≤ sizeLine := by
      rw [List.length_map, hp.length_eq]; exact hz
    refine wpAny_pure ⟨_, rfl, .ref h'.objs.size, upd H h'.objs.size (.lst _), I1.laid (t' := tk) (fun b u e => ?_) (Nat.le_refl _)
      (show ObjOk X.prog X.w _ _ _ (.lst _) from ⟨hlen, out, e', v1, he'⟩), rfl, q _ _ _ (b2 ▸ hp.map (·.2)) v2 (I1.hok.fresh (Nat.le_refl _))⟩
    have hb : b < h'.objs.size := Heap.lt_size e
    rw [PyProof.Rows.sortedHeap_old (Nat.ne_of_lt hb) (by rw [size_push']; exact Nat.lt_succ_of_lt hb)]
    exact Heap.get?_push_of_some _ e
end Kn

set_option Elab.async false
set_option linter.all false
/-! KnL: all trees of a size, the walk by levels. -/
namespace Kn
open B

theorem par_inj : ∀ {s t : B} {o : Nat} {a : Int}, (a < o ∨ (o : Int) + s.sz ≤ a) → par s o a = par t o a → s = t
  | lf, t, o, a, _, e => by
    have := congrArg List.length e
    rw [par_len, par_len] at this
    exact (sz_zero this.symm).symm
  | nd l r, lf, o, a, _, e => by
    have := congrArg List.length e
    rw [par_len, par_len] at this
    simp only [sz] at this; omega
  | nd l r, nd l' r', o, a, ha, e => by
    have hz := congrArg List.length e
    rw [par_len, par_len] at hz
    have hl : l.sz = l'.sz := by
      have h1 : (par (nd l r) o a)[l.sz]? = some a := par_root
      rw [e] at h1
      rcases par_val h1 with q | q
      · exact q.1
      · rw [hz] at ha; omega
    have e2 : par l o ((o + l.sz : Nat) : Int) ++ a :: par r (o + l.sz + 1) ((o + l.sz : Nat) : Int) = par l' o ((o + l'.sz : Nat) : Int) ++ a :: par r' (o + l'.sz + 1) ((o + l'.sz : Nat) : Int) := e
    rw [← hl] at e2
    obtain ⟨e3, e4⟩ := List.append_inj e2 (by rw [par_len, par_len, hl])
    have e5 := (List.cons.inj e4).2
    rw [par_inj (.inr (by omega)) e3, par_inj (.inl (by omega)) e5]
theorem tl_inj {s t : B} (e : par s 0 (-1) = par t 0 (-1)) : s = t := par_inj (.inl (by omega)) e
/-- all trees of a size -/
def allF : Nat → Nat → List B
  | _, 0 => [lf]
  | 0, _ + 1 => []
  | f + 1, n + 1 => (List.range (n + 1)).flatMap fun i => (allF f i).flatMap fun l => (allF f (n - i)).map fun r => nd l r
theorem allF_mem : ∀ (t : B) (f : Nat), t.sz ≤ f → t ∈ allF f t.sz
  | lf, f, _ => by
    cases f <;> exact List.mem_cons_self
  | nd l r, f, h => by
    simp only [sz] at h
    cases f with
    | zero => omega
    | succ f =>
      have e : (nd l r).sz = (l.sz + r.sz) + 1 := by simp only [sz]; omega
      rw [e]
      show _ ∈ (List.range (l.sz + r.sz + 1)).flatMap fun i => (allF f i).flatMap fun l' => (allF f (l.sz + r.sz - i)).map fun r' => nd l' r'
      refine List.mem_flatMap.mpr ⟨l.sz, List.mem_range.mpr (by omega), List.mem_flatMap.mpr ⟨l, allF_mem l f (by omega), List.mem_map.mpr ⟨r, ?_, rfl⟩⟩⟩
      rw [show l.sz + r.sz - l.sz = r.sz by omega]
      exact allF_mem r f (by omega)
theorem allF_len {n : Nat} (h : n ≤ 6) : (allF n n).length ≤ 132 := by
  have : n = 0 ∨ n = 1 ∨ n = 2 ∨ n = 3 ∨ n = 4 ∨ n = 5 ∨ n = 6 := by omega
  rcases this with rfl | rfl | rfl | rfl | rfl | rfl | rfl <;> decide +kernel
theorem nbs_mem {s s' : B} : s' ∈ nbs s ↔ Adj s s' := by
  unfold nbs
  rw [List.mem_filterMap]
  constructor
  · rintro ⟨k, _, h⟩
    exact (up_turn s 0 k s' h).1
  · intro a
    obtain ⟨k, h⟩ := adj_up a
    exact ⟨k, List.mem_range.mpr (up_lt _ _ _ h), h⟩
/-- the levels found so far: d the level of the edge, i trees of the edge and j neighbours of the next one told -/
structure Bq (t : B) (d L0 : Nat) (lv : List (B × Nat)) (edge beh : List B) (i j : Nat) : Prop where
  nd : (lv.map (·.1)).Nodup
  val : ∀ e ∈ lv, e.1.sz = t.sz ∧ e.2 = dist e.1 t
  low : ∀ s : B, s.sz = t.sz → dist s t ≤ d → s ∈ lv.map (·.1)
  top : ∀ s ∈ lv.map (·.1), dist s t ≤ d + 1
  edg : ∀ s : B, s ∈ edge ↔ s.sz = t.sz ∧ dist s t = d
  bhd : ∀ s : B, s ∈ beh ↔ s ∈ lv.map (·.1) ∧ dist s t = d + 1
  ln : lv.length = L0 + beh.length
  don : ∀ s ∈ edge.take i, ∀ s' ∈ nbs s, s' ∈ lv.map (·.1)
  cur : ∀ s : B, edge[i]? = some s → ∀ s' ∈ (nbs s).take j, s' ∈ lv.map (·.1)
section
variable {t s s' : B} {d L0 i j : Nat} {lv : List (B × Nat)} {edge beh : List B}
theorem bq_start (t : B) : Bq t 0 1 [(t, 0)] [t] [] 0 0 where
  nd := List.nodup_cons.mpr ⟨by simp, List.nodup_nil⟩
  val := fun e he => by
    rw [List.mem_singleton.mp he]
    exact ⟨rfl, (dist_self t).symm⟩
  low := fun s hs h => by
    rw [dist_zero hs (Nat.le_zero.mp h)]
    exact List.mem_cons_self
  top := fun s hs => by
    have : s = t := by simpa using hs
    rw [this, dist_self]; omega
  edg := fun s => by
    constructor
    · intro h
      rw [List.mem_singleton.mp h]
      exact ⟨rfl, dist_self t⟩
    · rintro ⟨a, b⟩
      rw [dist_zero a b]
      exact List.mem_cons_self
  bhd := fun s => by
    constructor
    · intro h; simp at h
    · rintro ⟨a, b⟩
      have : s = t := by simpa using a
      rw [this, dist_self] at b
      omega
  ln := rfl
  don := fun s h => by simp at h
  cur := fun s _ s' h => by simp at h
theorem Bq.len (B : Bq t d L0 lv edge beh i j) : lv.length ≤ (allF t.sz t.sz).length := by
  have := nodup_le (m := allF t.sz t.sz) B.nd fun s hs => by
    obtain ⟨e, he, rfl⟩ := List.mem_map.mp hs
    rw [← (B.val e he).1]
    exact allF_mem e.1 _ (Nat.le_refl _)
  rw [List.length_map] at this
  exact this
theorem Bq.adj (B : Bq t d L0 lv edge beh i j) (h1 : edge[i]? = some s) (h2 : (nbs s)[j]? = some s') : s'.sz = t.sz ∧ dist s t = d ∧ s ∈ lv.map (·.1) ∧ dist s' t ≤ d + 1 := by
  have hs := (B.edg s).mp (List.mem_of_getElem? h1)
  have a := nbs_mem.mp (List.mem_of_getElem? h2)
  refine ⟨a.sz.symm.trans hs.1, hs.2, B.low s hs.1 (by omega), ?_⟩
  have := (dist_adj hs.1 a).1
  omega
theorem take_snoc {α : Type} {l : List α} {j : Nat} {x : α} (h : l[j]? = some x) : l.take (j + 1) = l.take j ++ [x] := by
  rw [List.take_succ, h]
  rfl
theorem Bq.add (B : Bq t d L0 lv edge beh i j) (h1 : edge[i]? = some s) (h2 : (nbs s)[j]? = some s') (h3 : s' ∉ lv.map (·.1)) : Bq t d L0 (lv ++ [(s', d + 1)]) edge (beh ++ [s']) i (j + 1) := by
  obtain ⟨z, e, m, le⟩ := B.adj h1 h2
  have e1 : dist s' t = d + 1 := by
    have : ¬ dist s' t ≤ d := fun q => h3 (B.low s' z q)
    omega
  have mem : ∀ {x : Kn.B}, x ∈ (lv ++ [(s', d + 1)]).map (·.1) ↔ x ∈ lv.map (·.1) ∨ x = s' := fun {x} => by
    rw [List.map_append, List.mem_append]
    simp
  refine ⟨?_, fun e he => ?_, fun x hx q => mem.mpr (.inl (B.low x hx q)), fun x hx => ?_, B.edg, fun x => ?_, ?_, fun x hx y hy => mem.mpr (.inl (B.don x hx y hy)), fun x hx y hy => ?_⟩
  · rw [List.map_append]
    refine List.nodup_append.mpr ⟨B.nd, List.nodup_cons.mpr ⟨by simp, List.nodup_nil⟩, fun a ha b hb q => ?_⟩
    have : b = s' := by simpa using hb
    exact h3 (this ▸ q ▸ ha)
  · rcases List.mem_append.mp he with he | he
    · exact B.val e he
    · rw [List.mem_singleton.mp he]
      exact ⟨z, e1.symm⟩
  · rcases mem.mp hx with q | q
    · exact B.top x q
    · rw [q, e1]; exact Nat.le_refl _
  · rw [mem, List.mem_append, B.bhd x]
    constructor
    · rintro (q | q)
      · exact ⟨.inl q.1, q.2⟩
      · have : x = s' := by simpa using q
        rw [this]; exact ⟨.inr rfl, e1⟩
    · rintro ⟨q | q, r⟩
      · exact .inl ⟨q, r⟩
      · exact .inr (by simp [q])
  · rw [List.length_append, List.length_append, B.ln]
    simp only [List.length_singleton]; omega
  · have : x = s := Option.some.inj (hx.symm.trans h1)
    subst this
    rw [take_snoc h2] at hy
    rcases List.mem_append.mp hy with q | q
    · exact mem.mpr (.inl (B.cur x h1 y q))
    · exact mem.mpr (.inr (by simpa using q))
theorem Bq.skip (B : Bq t d L0 lv edge beh i j) (h1 : edge[i]? = some s) (h2 : (nbs s)[j]? = some s') (h3 : s' ∈ lv.map (·.1)) : Bq t d L0 lv edge beh i (j + 1) := by
  refine ⟨B.nd, B.val, B.low, B.top, B.edg, B.bhd, B.ln, B.don, fun x hx y hy => ?_⟩
  have : x = s := Option.some.inj (hx.symm.trans h1)
  subst this
  rw [take_snoc h2] at hy
  rcases List.mem_append.mp hy with q | q
  · exact B.cur x h1 y q
  · have : y = s' := by simpa using q
    rw [this]; exact h3
theorem Bq.next (B : Bq t d L0 lv edge beh i j) (h1 : edge[i]? = some s) (h2 : j = (nbs s).length) : Bq t d L0 lv edge beh (i + 1) 0 := by
  refine ⟨B.nd, B.val, B.low, B.top, B.edg, B.bhd, B.ln, fun x hx y hy => ?_, fun x _ y hy => by simp at hy⟩
  rw [take_snoc h1] at hx
  rcases List.mem_append.mp hx with q | q
  · exact B.don x q y hy
  · have : x = s := by simpa using q
    subst this
    exact B.cur x h1 y (by rw [h2, List.take_length]; exact hy)
theorem Bq.round (B : Bq t d L0 lv edge beh i j) (h : i = edge.length) : Bq t (d + 1) lv.length lv beh [] 0 0 := by
  have hi : ∀ s : Kn.B, s.sz = t.sz → dist s t = d + 1 → s ∈ lv.map (·.1) := fun s hs e => by
    obtain ⟨s', a, q⟩ := dist_down hs (by omega)
    have : s' ∈ edge := (B.edg s').mpr ⟨a.sz.symm.trans hs, by omega⟩
    exact B.don s' (by rw [h, List.take_length]; exact this) s (nbs_mem.mpr a.symm)
  refine ⟨B.nd, B.val, fun s hs q => ?_, fun s hs => Nat.le_succ_of_le (B.top s hs), fun s => ?_, fun s => ?_, rfl, fun s hs => by simp at hs, fun s _ y hy => by simp at hy⟩
  · by_cases c : dist s t ≤ d
    · exact B.low s hs c
    · exact hi s hs (by omega)
  · rw [B.bhd]
    constructor
    · rintro ⟨a, b⟩
      obtain ⟨e, he, rfl⟩ := List.mem_map.mp a
      exact ⟨(B.val e he).1, b⟩
    · rintro ⟨a, b⟩
      exact ⟨hi s a b, b⟩
  · constructor
    · intro q; simp at q
    · rintro ⟨a, b⟩
      have := B.top s a
      omega
/-- all levels of t's size -/
structure LvOk (t : B) (lv : List (B × Nat)) : Prop where
  nd : (lv.map (·.1)).Nodup
  val : ∀ e ∈ lv, e.1.sz = t.sz ∧ e.2 = dist e.1 t
  all : ∀ s : B, s.sz = t.sz → s ∈ lv.map (·.1)
theorem Bq.fin (B : Bq t d L0 lv [] beh i j) : LvOk t lv := by
  refine ⟨B.nd, B.val, fun s hs => B.low s hs ?_⟩
  have : ∀ (k : Nat) (s : Kn.B), s.sz = t.sz → dist s t = d + k → False := fun k => by
    induction k with
    | zero => intro s hs e; exact absurd ((B.edg s).mpr ⟨hs, by omega⟩) (by simp)
    | succ k ih =>
      intro s hs e
      obtain ⟨s', a, q⟩ := dist_down hs (by omega)
      exact ih s' (a.sz.symm.trans hs) (by omega)
  refine Nat.le_of_not_lt fun q => this (dist s t - d) s hs (by omega)
end
end Kn

set_option Elab.async false
set_option linter.all false
set_option maxRecDepth 100000
set_option maxHeartbeats 1000000
/-! WkL: levels_by_tree, levels_of, apart_by. -/
namespace Kn
open PySem PySem.Spec PyProof.Rows L2

abbrev kvL (lv : List (B × Nat)) : List (List L2.Key × V) := lv.map fun e => (kyI (tl e.1), V.int (e.2 : Nat))
theorem kyI_inj : ∀ {a b : List Int}, kyI a = kyI b → a = b
  | [], [], _ => rfl
  | [], _ :: _, h => by simp at h
  | _ :: _, [], h => by simp at h
  | x :: xs, y :: ys, h => by
    unfold kyI at h
    rw [List.map_cons, List.map_cons] at h
    obtain ⟨h1, h2⟩ := List.cons.inj h
    rw [Sum.inl.inj h1, kyI_inj h2]
theorem kvL_not {s : B} : ∀ {lv : List (B × Nat)}, s ∉ lv.map (·.1) → valV (kvL lv) (kyI (tl s)) = none
  | [], _ => rfl
  | e :: lv, h => by
    show valV ((kyI (tl e.1), V.int (e.2 : Nat)) :: kvL lv) _ = _
    rw [valV_neg fun z => h (by rw [← tl_inj (kyI_inj z)]; exact List.mem_cons_self)]
    exact kvL_not fun z => h (List.mem_cons_of_mem _ z)
theorem kvL_in {s t : B} : ∀ {lv : List (B × Nat)}, (∀ e ∈ lv, e.2 = dist e.1 t) → s ∈ lv.map (·.1) → valV (kvL lv) (kyI (tl s)) = some (.int (dist s t : Nat))
  | [], _, h => by simp at h
  | e :: lv, v, h => by
    show valV ((kyI (tl e.1), V.int (e.2 : Nat)) :: kvL lv) _ = _
    by_cases c : e.1 = s
    · rw [valV_pos (by rw [c]), v e List.mem_cons_self, c]
    · rw [valV_neg fun z => c (tl_inj (kyI_inj z))]
      refine kvL_in (fun x hx => v x (List.mem_cons_of_mem _ hx)) ?_
      rcases List.mem_cons.mp h with q | q
      · exact absurd q.symm c
      · exact q
theorem key_tl {H : Hp} {p : Addr} {s : B} (h : H p = some (.tup (ivs (tl s)))) : H p = some (.tup ((kyI (tl s)).map kV)) := by
  rw [kyI_kV]
  exact h
section
variable {P : Program} {w : World} {K : PySem.W.Frag} {mg : Str → Option Value} {base : Heap}
abbrev s_levels_by_tree : Stmt := top 35
theorem sc_levels_by_tree : FnScope ["tree", "known", "edge", "behind", "here", "near"] ["tree"] (C8.fnScope s_levels_by_tree) := C8.fnScope_by (by decide +kernel)
def sp_levels_by_tree : Sp := fun vs H Q _ => ∃ (a : Addr) (t : B), vs = [.ref a] ∧ H a = some (.tup (ivs (tl t))) ∧ t.sz ≤ 6 ∧
  ∀ (d : Addr) (lv : List (B × Nat)) (H' : Hp), H d = none → Same H H' → H' d = some (.dT (kvL lv)) → LvOk t lv → Q (.ref d) H'
theorem ok_levels_by_tree (G : Gs mg) (F : Df K mg "levels_by_tree" s_levels_by_tree ["tree"]) (c_neighbours : CalN P w K mg base 3 "neighbours" sp_neighbours) : CalN P w K mg base 4 "levels_by_tree" sp_levels_by_tree := by
  refine F.cal sc_levels_by_tree (fun vs H Q E h => ?_) (fun f cdv A outer s H vs Q E hr h => ?_)
  · obtain ⟨a, t, rfl, _⟩ := h
    rfl
  · obtain ⟨a, t, rfl, ha, hz, q⟩ := h
    have hl : (tl t).length = t.sz := par_len t 0 (-1)
    have hA := allF_len hz
    refine ⟨_, (pss_cons (ps_if (pt_cmpR op_gt (pe_callB call_len_seq (by rfl) G.len PySem.boot_len (pa_cons (pv 0) pa_nil)) (C8.pe_gc (by rfl) G.most) (nomark _)) (pss_one ps_never) pss_nil)
      (pss_cons (ps_set (i := 1) sc_levels_by_tree.nd rfl (Or.inl rfl) (pe_dispT (hu_of hr) (pv 0) pe_int))
      (pss_cons (ps_set (i := 2) sc_levels_by_tree.nd rfl (Or.inl rfl) (pe_lst (pa_cons (pv 0) pa_nil)))
      (pss_cons (ps_while PassesOwn.never (pt_truth (pv 2) (by intro _; rfl)) (pss_cons (ps_set (i := 3) sc_levels_by_tree.nd rfl (Or.inl rfl) (pe_lst pa_nil))
      (pss_cons (ps_for PassesOwn.never rfl (pi_list (pv 2)) (pg_name (i := 4) sc_levels_by_tree.nd rfl (Or.inl rfl)) (pss_one (ps_for PassesOwn.never rfl (pi_list (C8.pe_c c_neighbours hr (by decide) (by rfl) (pa_cons (pv 4) pa_nil))) (pg_name (i := 5) sc_levels_by_tree.nd rfl (Or.inl rfl)) (pss_one (ps_if (pt_cmp (pc_dnotin (hu_of hr) (pv 5) (pv 1))) (pss_cons (ps_dput (hu_of hr) (pv 1) (pv 5) (pe_op op_add (pe_dget (hu_of hr) (pv 1) (pv 4) (fun _ _ => rfl)) pe_int) rfl)
      (pss_one (ps_expr (pe_bm PySem.F.plainAttrs_list PySem.F.slot_list_append PySem.F.type_list_append mt_append (pv 3) (pa_cons (pv 5) pa_nil))))) pss_nil)))))
      (pss_one (ps_set (i := 2) sc_levels_by_tree.nd rfl (Or.inl rfl) (pv 3))))))
      (pss_one (ps_ret (pv 1))))))), ?_⟩
    refine ⟨_, rfl, a, _, rfl, .inr (SqT.of ha), _, _, rfl, rfl, _, rfl, iteD0 (by rw [ivs_len, hl]; omega) ?_⟩
    refine fun kA hkA => ?_
    have n0 : a ≠ kA := fun e => by rw [e, hkA] at ha; cases ha
    refine ⟨_, rfl, upd_same, a, kyI (tl t), rfl, key_tl (by rw [upd_ne n0]; exact ha), ?_⟩
    have s0 : Same H (upd (upd H kA (.dT [])) kA (.dT [(kyI (tl t), V.int 0)])) := ((Same.refl H).new hkA).mut hkA
    have hk0 : (upd (upd H kA (.dT [])) kA (.dT [(kyI (tl t), V.int 0)])) kA = some (.dT (kvL [(t, 0)])) := upd_same
    generalize (upd (upd H kA (.dT [])) kA (.dT [(kyI (tl t), V.int 0)])) = H0 at s0 hk0 ⊢
    refine ⟨_, rfl, by show 1 ≤ sizeLine; decide, fun eA heA => ?_⟩
    have n1 : kA ≠ eA := fun e => by rw [← e, hk0] at heA; cases heA
    have s1 := s0.new (o := .lst [.ref a]) heA
    refine ⟨fun m σ H1 => ∃ (d : Nat) (lv : List (B × Nat)) (edge : List B) (eA : Addr) (us : List V), m = 2 * ((allF t.sz t.sz).length - lv.length) + (if edge = [] then 0 else 1) ∧ Bq t d lv.length lv edge [] 0 0 ∧
        (∃ x y z, σ = [some (.ref a), some (.ref kA), some (.ref eA), x, y, z]) ∧ Same H H1 ∧ H1 kA = some (.dT (kvL lv)) ∧ H1 eA = some (.lst us) ∧ Tups H1 us (edge.map tl),
      ⟨_, 0, [(t, 0)], [t], eA, [.ref a], rfl, bq_start t, ⟨_, _, _, rfl⟩, s1, by rw [upd_ne n1]; exact hk0, upd_same, .cons ⟨a, rfl, s1 _ _ ha⟩ .nil⟩, ?_⟩
    rintro m σ H1 ⟨d, lv, edge, eA, us, rfl, Bk, ⟨x0, y0, z0, rfl⟩, s2, hk, he, tp⟩
    clear s1 n1 heA
    have ul : us.length = edge.length := by rw [tp.len, List.length_map]
    refine ⟨_, rfl, !us.isEmpty, .inl ⟨us, SqL.of he, rfl⟩, ?_⟩
    by_cases c0 : edge = []
    · subst c0
      have : us = [] := List.length_eq_zero_iff.mp ul
      subst this
      refine iteF ?_
      exact ⟨_, rfl, q kA lv H1 hkA s2 hk Bk.fin⟩
    · have nel : (!us.isEmpty) = true := by
        cases us with
        | nil => exact absurd (List.length_eq_zero_iff.mp ul.symm) c0
        | cons => rfl
      rw [nel]
      refine iteT ?_
      refine ⟨fun σ' H' => ∃ m', m' < 2 * ((allF t.sz t.sz).length - lv.length) + (if edge = [] then 0 else 1) ∧ ∃ (d : Nat) (lv : List (B × Nat)) (edge : List B) (eA : Addr) (us : List V), m' = 2 * ((allF t.sz t.sz).length - lv.length) + (if edge = [] then 0 else 1) ∧ Bq t d lv.length lv edge [] 0 0 ∧
        (∃ x y z, σ' = [some (.ref a), some (.ref kA), some (.ref eA), x, y, z]) ∧ Same H H' ∧ H' kA = some (.dT (kvL lv)) ∧ H' eA = some (.lst us) ∧ Tups H' us (edge.map tl), fun _ _ z => z, ?_⟩
      rw [if_neg c0]
      refine ⟨by show 0 ≤ sizeLine; decide, fun bA hbA => ?_⟩
      have nkb : kA ≠ bA := fun e => by rw [← e, hk] at hbA; cases hbA
      have neb : eA ≠ bA := fun e => by rw [← e, he] at hbA; cases hbA
      have nek : eA ≠ kA := fun e => by rw [e, hk] at he; cases he
      have hbA0 : H bA = none := s2.free hbA
      have s3 := s2.new (o := .lst []) hbA
      have hk3 : (upd H1 bA (.lst [])) kA = some (.dT (kvL lv)) := by rw [upd_ne nkb]; exact hk
      have he3 : (upd H1 bA (.lst [])) eA = some (.lst us) := by rw [upd_ne neb]; exact he
      have hb3 : (upd H1 bA (.lst [])) bA = some (.lst []) := upd_same
      have tp3 := tp.keep (Tkeep.new (o := .lst []) hbA)
      generalize upd H1 bA (.lst []) = H2 at s3 hk3 he3 hb3 tp3 ⊢
      have rk : ∀ {H3 : Hp}, H3 kA = some (.dT (kvL lv)) → True := fun _ => trivial
      have tkB : ∀ {H3 : Hp} {kv : List (List L2.Key × V)} {ub : List V}, H3 kA = some (.dT kv) → H3 bA = some (.lst ub) → Tkeep H3 (rm (rm H3 kA) bA) := fun {H3 kv ub} h1 h2 => fun c xs e => by
        rw [rm_ne (ne_of e h2 (by intro z; cases z)), rm_ne (ne_of e h1 (by intro z; cases z))]
        exact e
      have rel : ∀ {Ha Hb : Hp}, Same Ha Hb → Ha kA = none → Ha bA = none → Same Ha (rm (rm Hb kA) bA) := fun h h1 h2 => rm_of (rm_of h h1) h2
      have sub : ∀ {Ha : Hp}, Same (rm (rm Ha kA) bA) Ha := rm_sub.trans rm_sub
      have rnk : ∀ {Ha : Hp}, rm (rm Ha kA) bA kA = none := fun {Ha} => by rw [rm_ne nkb]; exact rm_same
      have rnb : ∀ {Ha : Hp}, rm (rm Ha kA) bA bA = none := rm_same
      have ro : ∀ {Ha : Hp} {x : Addr}, x ≠ kA → x ≠ bA → rm (rm Ha kA) bA x = Ha x := fun h1 h2 => by rw [rm_ne h2, rm_ne h1]
      have sB : Same H (rm (rm H2 kA) bA) := rel s3 hkA hbA0
      have heB : rm (rm H2 kA) bA eA = some (.lst us) := by rw [ro nek neb]; exact he3
      have tpB := tp3.keep (tkB hk3 hb3)
      generalize hB : rm (rm H2 kA) bA = HB at sB heB tpB
      have hBk : HB kA = none := by rw [← hB]; exact rnk
      have hBb : HB bA = none := by rw [← hB]; exact rnb
      refine ⟨_, rfl, eA, rfl, ⟨_, SqL.of he3⟩, for_list (K := K) (a := eA) (xs := us) (fun i σ H3 => (∃ y z, σ = [some (.ref a), some (.ref kA), some (.ref eA), some (.ref bA), y, z]) ∧ Same HB H3 ∧ ∃ lv' beh ub, Bq t d lv.length lv' edge beh i 0 ∧ H3 kA = some (.dT (kvL lv')) ∧ H3 bA = some (.lst ub) ∧ Tups H3 ub (beh.map tl))
        ⟨⟨_, _, rfl⟩, by rw [← hB]; exact sub, lv, [], [], Bk, hk3, hb3, .nil⟩ (fun i σ H3 _ ⟨_, s4, _⟩ => SqL.of (s4 _ _ heB)) ?_ ?_⟩
      · rintro i x σ H3 hi ⟨⟨y1, z1, rfl⟩, s4, lv', beh, ub, Bk', hk4, hb4, tb4⟩
        obtain ⟨s', c, hs', rfl, hc⟩ := tpB.get hi
        have hsm := (Bk'.edg s').mp (List.mem_of_getElem? hs')
        refine ⟨_, rfl, c, s', rfl, .inl (s4 _ _ hc), by omega, fun l ws H4 hl4 s5 h5 t5 => ?_⟩
        have wl : ws.length = (nbs s').length := by rw [t5.len, List.length_map]
        have hk5 := s5 _ _ hk4
        have hb5 := s5 _ _ hb4
        have nlk : l ≠ kA := fun e => by rw [e, hk4] at hl4; cases hl4
        have nlb : l ≠ bA := fun e => by rw [e, hb4] at hl4; cases hl4
        have sB5 : Same HB (rm (rm H4 kA) bA) := rel (s4.trans s5) hBk hBb
        have h5' : rm (rm H4 kA) bA l = some (.lst ws) := by rw [ro nlk nlb]; exact h5
        have t5' := t5.keep (tkB hk5 hb5)
        have tb5 := tb4.keep (Tkeep.of s5)
        generalize hC : rm (rm H4 kA) bA = HC at sB5 h5' t5'
        have hCk : HC kA = none := by rw [← hC]; exact rnk
        have hCb : HC bA = none := by rw [← hC]; exact rnb
        refine ⟨l, rfl, ⟨_, SqL.of h5⟩, for_list (K := K) (a := l) (xs := ws) (fun j σ H5 => (∃ z, σ = [some (.ref a), some (.ref kA), some (.ref eA), some (.ref bA), some (.ref c), z]) ∧ Same HC H5 ∧ ∃ lv' beh ub, Bq t d lv.length lv' edge beh i j ∧ H5 kA = some (.dT (kvL lv')) ∧ H5 bA = some (.lst ub) ∧ Tups H5 ub (beh.map tl))
          ⟨⟨_, rfl⟩, by rw [← hC]; exact sub, lv', beh, ub, Bk', hk5, hb5, tb5⟩ (fun j σ H5 _ ⟨_, s6, _⟩ => SqL.of (s6 _ _ h5')) ?_ ?_⟩
        · rintro j x σ H5 hj ⟨⟨z2, rfl⟩, s6, lv2, beh2, ub2, B2, hk6, hb6, tb6⟩
          obtain ⟨n, p, hn, rfl, hp⟩ := t5'.get hj
          have hp6 := s6 _ _ hp
          have hc6 := s6 _ _ (sB5 _ _ hc)
          have vals : ∀ e ∈ lv2, e.2 = dist e.1 t := fun e he => (B2.val e he).2
          have ln := B2.len
          refine ⟨_, rfl, _, rfl, kA, _, rfl, DGet.t (k := kyI (tl n)) hk6 (key_tl hp6), _, rfl, ?_⟩
          by_cases m : n ∈ lv2.map (·.1)
          · rw [kvL_in vals m]
            refine iteF ?_
            exact ⟨⟨_, rfl⟩, s6, lv2, beh2, ub2, B2.skip hs' hn m, hk6, hb6, tb6⟩
          · rw [kvL_not m]
            refine iteT ?_
            obtain ⟨a1, a2, a3, a4⟩ := B2.adj hs' hn
            have g := DGet.t (k := kyI (tl s')) hk6 (key_tl hc6)
            rw [kvL_in vals a3] at g
            refine ⟨_, rfl, _, rfl, kA, _, rfl, g, _, _, rfl, rfl, ?_⟩
            refine ⟨_, rfl, _, rfl, kA, _, rfl, DPut.t (k := kyI (tl n)) hk6 (key_tl hp6) (bigl (by rw [List.length_map]; omega)), ?_⟩
            rw [putK_new _ (kvL_not m)]
            have ub2l : ub2.length ≤ 132 := by
              have := B2.ln
              have : ub2.length = beh2.length := by rw [tb6.len, List.length_map]
              omega
            have k1 : Tkeep H5 (upd H5 kA (.dT (kvL lv2 ++ [(kyI (tl n), V.int (((dist s' t : Nat) : Int) + 1))]))) := Tkeep.dT hk6
            have hb7 : (upd H5 kA (.dT (kvL lv2 ++ [(kyI (tl n), V.int (((dist s' t : Nat) : Int) + 1))]))) bA = some (.lst ub2) := by rw [upd_ne nkb.symm]; exact hb6
            have k2 : Tkeep (upd H5 kA (.dT (kvL lv2 ++ [(kyI (tl n), V.int (((dist s' t : Nat) : Int) + 1))]))) (upd (upd H5 kA (.dT (kvL lv2 ++ [(kyI (tl n), V.int (((dist s' t : Nat) : Int) + 1))]))) bA (.lst (ub2 ++ [.ref p]))) := Tkeep.lst hb7
            refine ⟨_, rfl, .inl ⟨rfl, _, SqL.of hb7⟩, _, rfl, bA, _, _, rfl, rfl, hb7, bigl (by omega), ?_⟩
            refine ⟨⟨_, rfl⟩, (s6.mut hCk).mut hCb, lv2 ++ [(n, d + 1)], beh2 ++ [n], ub2 ++ [.ref p], B2.add hs' hn m, ?_, upd_same, ?_⟩
            · rw [upd_ne nkb, upd_same, a2]
              show _ = some (HO.dT (List.map _ (lv2 ++ _)))
              rw [List.map_append]
              rfl
            · rw [List.map_append]
              exact (tb6.keep (k1.trans k2)).snoc (k2 _ _ (k1 _ _ hp6))
        · rintro σ H5 ⟨⟨z2, rfl⟩, s6, lv2, beh2, ub2, B2, hk6, hb6, tb6⟩
          exact ⟨⟨_, _, rfl⟩, sB5.trans s6, lv2, beh2, ub2, B2.next hs' wl, hk6, hb6, tb6⟩
      · rintro σ H3 ⟨⟨y1, z1, rfl⟩, s4, lv', beh, ub, Bk', hk4, hb4, tb4⟩
        have B3 := Bk'.round ul
        have l1 := Bk'.ln
        have l2 := Bk'.len
        refine ⟨_, rfl, _, ?_, d + 1, lv', beh, bA, ub, rfl, B3, ⟨_, _, _, rfl⟩, sB.trans s4, hk4, hb4, tb4⟩
        by_cases e : beh = []
        · rw [if_pos e]
          rw [e, List.length_nil] at l1
          omega
        · rw [if_neg e]
          have : beh.length ≠ 0 := fun z => e (List.length_eq_zero_iff.mp z)
          omega
end
end Kn

set_option Elab.async false
set_option linter.all false
set_option maxRecDepth 100000
set_option maxHeartbeats 1000000
/-! WkM: levels_of, apart_by. -/
namespace Kn
open PySem PySem.Spec PyProof.Rows L2

/-- all pieces of s and t have six knots at most -/
def Sml (s t : B) : Prop := ∀ P ∈ psl (shs s t) t.sz, (pc (shs s t) P.1 P.2 s).sz ≤ 6
theorem perm_sum {l l' : List Nat} (h : l.Perm l') : l.sum = l'.sum := by
  induction h with
  | nil => rfl
  | cons x _ ih => rw [List.sum_cons, List.sum_cons, ih]
  | swap x y l => simp only [List.sum_cons]; omega
  | trans _ _ a b => exact a.trans b
section
variable {P : Program} {w : World} {K : PySem.W.Frag} {mg : Str → Option Value} {base : Heap}
abbrev s_levels_of : Stmt := top 36
theorem sc_levels_of : FnScope ["tree", "known", "place"] ["tree"] (C8.fnScope s_levels_of) := C8.fnScope_by (by decide +kernel)
def sp_levels_of : Sp := fun vs H Q _ => ∃ (a : Addr) (t : B), vs = [.ref a] ∧ H a = some (.tup (ivs (tl t))) ∧ t ≠ .lf ∧ t.sz ≤ 6 ∧ ∀ (l : Addr) (H' : Hp), Same H H' → Q (.ref l) H'
theorem ok_levels_of (G : Gs mg) (F : Df K mg "levels_of" s_levels_of ["tree"]) (c_levels_by_tree : CalN P w K mg base 4 "levels_by_tree" sp_levels_by_tree) : CalN P w K mg base 5 "levels_of" sp_levels_of := by
  refine F.cal sc_levels_of (fun vs H Q E h => ?_) (fun f cdv A outer s H vs Q E hr h => ?_)
  · obtain ⟨a, t, rfl, _⟩ := h
    rfl
  · obtain ⟨a, t, rfl, ha, ht, hz, q⟩ := h
    refine ⟨_, (pss_cons (ps_set (i := 1) sc_levels_of.nd rfl (Or.inr rfl) (C8.pe_c c_levels_by_tree hr (by decide) (by rfl) (pa_cons (pv 0) pa_nil)))
      (pss_one (ps_ret (pe_lc (own := [("place", 2)]) rfl sc_levels_of.nd (pi_list (pe_callB (cr_sortDT rfl (hu70 hr)) (by rfl) G.sorted (by decide +kernel) (pa_cons (pv 1) pa_nil))) (blkOk_by (N := ["tree", "known", "place"]) (sc := C8.fnScope s_levels_of) (own := [("place", 2)]) (by decide +kernel)) (fun _ _ _ _ _ => (pg_name (i := 2) sc_levels_of.nd rfl (Or.inl rfl))) (fun _ _ _ _ _ => pts_nil) (fun _ _ _ _ _ => (pe_tup (pa_cons (pv 2) (pa_cons (pe_dget (hu_of hr) (pv 1) (pv 2) (fun _ _ => rfl)) pa_nil)))))))), ?_⟩
    refine ⟨_, rfl, a, t, rfl, ha, hz, fun d lv H1 hd0 s1 hd L => ?_⟩
    have ks : ∀ e ∈ lv, e.1.sz = t.sz := fun e he => (L.val e he).1
    have ll : lv.length ≤ 132 := by
      have := nodup_le (m := allF t.sz t.sz) L.nd fun s hs => by
        obtain ⟨e, he, rfl⟩ := List.mem_map.mp hs
        rw [← (L.val e he).1]
        exact allF_mem e.1 _ (Nat.le_refl _)
      rw [List.length_map] at this
      have := allF_len hz
      omega
    refine ⟨_, rfl, d, kvL lv, lv.map fun e => tl e.1, rfl, hd, by rw [List.map_map, List.map_map]; rfl, fun ns hns => ?_, fun ys mss p hp ht hn => ?_⟩
    · obtain ⟨e, he, rfl⟩ := List.mem_map.mp hns
      intro z
      have := congrArg List.length z
      rw [par_len, ks e he] at this
      exact ht (sz_zero this)
    · have s2 := s1.new (o := .lst ys) hn
      have hp2 : (upd H1 p (.lst ys)) p = some (.lst ys) := upd_same
      have t2 := ht.keep (Tkeep.new (o := .lst ys) hn)
      have ndp : d ≠ p := fun e => by rw [← e, hd] at hn; cases hn
      have hd2 : (upd H1 p (.lst ys)) d = some (.dT (kvL lv)) := by rw [upd_ne ndp]; exact hd
      generalize upd H1 p (.lst ys) = H2 at s2 hp2 t2 hd2 ⊢
      have yl : ys.length ≤ 132 := by rw [t2.len, hp.length_eq, List.length_map]; exact ll
      refine ⟨p, rfl, ⟨_, SqL.of hp2⟩, fun D hD => lc_list (K := K) (a := p) (xs := ys) (fun i H3 => Same H2 H3 ∧ ∃ us : List V, H3 D = some (.lst us) ∧ us.length ≤ i) ⟨(Same.refl H2).new hD, [], upd_same, Nat.le_refl _⟩ (fun i H3 _ ⟨s3, _⟩ => SqL.of (s3 _ _ hp2)) ?_ ?_⟩
      · rintro i x H3 hi ⟨s3, us, h3, hu⟩
        obtain ⟨ns, e1, c, rfl, hc⟩ := Paired.at1 t2 hi
        have hi' : i < ys.length := (List.getElem?_eq_some_iff.mp hi).1
        obtain ⟨e, he, rfl⟩ := List.mem_map.mp (hp.mem_iff.mp (List.mem_of_getElem? e1))
        have g := DGet.t (k := kyI (tl e.1)) (s3 _ _ hd2) (key_tl (s3 _ _ hc))
        rw [kvL_in (fun e he => (L.val e he).2) (List.mem_map_of_mem he)] at g
        refine ⟨rfl, _, rfl, _, rfl, _, rfl, d, _, rfl, g, by show 2 ≤ sizeLine; decide, fun q hq => ?_⟩
        have nqD : q ≠ D := fun z => by rw [z, h3] at hq; cases hq
        exact ⟨us, by rw [upd_ne nqD.symm]; exact h3, bigl (by omega), (s3.new hq).mut hD, _, upd_same, by rw [List.length_append, List.length_singleton]; omega⟩
      · rintro H3 ⟨s3, us, h3, hu⟩
        exact q D H3 (s2.trans s3)
abbrev s_apart_by : Stmt := top 38
theorem sc_apart_by : FnScope ["one", "other", "total", "corners", "mine", "yours"] ["one", "other"] (C8.fnScope s_apart_by) := C8.fnScope_by (by decide +kernel)
def sp_apart_by : Sp := fun vs H Q _ => ∃ (a b : Addr) (s t : B), vs = [.ref a, .ref b] ∧ TpF H a (tl s) ∧ TpF H b (tl t) ∧ s ≠ .lf ∧ s.sz = t.sz ∧ s.sz ≤ 1000 ∧ Sml s t ∧ ∀ H', Same H H' → Q (.int (dist s t : Nat)) H'
theorem ok_apart_by (G : Gs mg) (F : Df K mg "apart_by" s_apart_by ["one", "other"]) (c_levels_by_tree : CalN P w K mg base 4 "levels_by_tree" sp_levels_by_tree) (c_pieces : CalN P w K mg base 7 "pieces" sp_pieces) : CalN P w K mg base 8 "apart_by" sp_apart_by := by
  refine F.cal sc_apart_by (fun vs H Q E h => ?_) (fun f cdv A outer s H vs Q E hr h => ?_)
  · obtain ⟨a, b, s, t, rfl, _⟩ := h
    rfl
  · obtain ⟨a, b, s', t, rfl, ha, hb, hs, hst, hz, sm, q⟩ := h
    have ht : t ≠ .lf := fun e => hs (sz_zero (by rw [hst, e]; rfl))
    have cS := shs_cuts (t := t) hs hst
    have cT := shs_cuts' (s := s') ht
    refine ⟨_, (pss_cons (ps_set (i := 2) sc_apart_by.nd rfl (Or.inl rfl) pe_int)
      (pss_cons (ps_for PassesOwn.never rfl (pi_list (C8.pe_c c_pieces hr (by decide) (by rfl) (pa_cons (pv 0) (pa_cons (pv 1) pa_nil)))) (pg_tup rfl (pgs_cons (pg_name (i := 3) sc_apart_by.nd rfl (Or.inl rfl)) (pgs_cons (pg_name (i := 4) sc_apart_by.nd rfl (Or.inl rfl)) (pgs_cons (pg_name (i := 5) sc_apart_by.nd rfl (Or.inl rfl)) pgs_nil)))) (pss_one (ps_set (i := 2) sc_apart_by.nd rfl (Or.inl rfl) (pe_op op_add (pv 2) (pe_dget (hu_of hr) (C8.pe_c c_levels_by_tree hr (by decide) (by rfl) (pa_cons (pv 5) pa_nil)) (pv 4) (fun _ _ => rfl))))))
      (pss_one (ps_ret (pv 2))))), ?_⟩
    refine ⟨_, rfl, _, rfl, a, b, s', t, rfl, ha, hb, hs, hst, hz, fun l ws Ps H1 hl0 s1 h1 hp pp => ?_⟩
    have wl : ws.length = Ps.length := Paired.length pp
    refine ⟨l, rfl, ⟨_, SqL.of h1⟩, for_list (K := K) (a := l) (xs := ws) (fun i σ H2 => (∃ x y z, σ = [some (.ref a), some (.ref b), some (.int (((Ps.take i).map fun P => dist (pc (shs s' t) P.1 P.2 s') (pc (shs s' t) P.1 P.2 t)).sum : Nat)), x, y, z]) ∧ Same H1 H2) ⟨⟨_, _, _, rfl⟩, Same.refl H1⟩ (fun i σ H2 _ ⟨_, s2⟩ => SqL.of (s2 _ _ h1)) ?_ ?_⟩
    · rintro i x σ H2 hi ⟨⟨x0, y0, z0, rfl⟩, s2⟩
      obtain ⟨R, hR, p, c, m, y, rfl, e1, e2, e3, e4⟩ := Paired.at1 pp hi
      have hRm : R ∈ psl (shs s' t) t.sz := hp.mem_iff.mp (List.mem_of_getElem? hR)
      have hRt := psl_sub hRm
      have hRs : R ∈ tops (shs s' t) s'.sz := by rw [hst]; exact hRt
      have szz := pc_szz cT hRt hst rfl
      have s6 := sm R hRm
      refine ⟨p, _, rfl, SqT.of (s2 _ _ e1), rfl, _, _, rfl, _, _, rfl, _, _, rfl, rfl, ?_⟩
      refine ⟨_, rfl, _, rfl, y, _, rfl, s2 _ _ e4, by omega, fun d lv H3 hd0 s3 hd L => ?_⟩
      have g := DGet.t (k := kyI (tl (pc (shs s' t) R.1 R.2 s'))) hd (key_tl (s3 _ _ (s2 _ _ e3)))
      rw [kvL_in (fun e he => (L.val e he).2) (L.all _ szz)] at g
      refine ⟨_, rfl, d, _, rfl, g, _, _, rfl, rfl, ?_⟩
      have es : ((Ps.take (i + 1)).map fun P => dist (pc (shs s' t) P.1 P.2 s') (pc (shs s' t) P.1 P.2 t)).sum = ((Ps.take i).map fun P => dist (pc (shs s' t) P.1 P.2 s') (pc (shs s' t) P.1 P.2 t)).sum + dist (pc (shs s' t) R.1 R.2 s') (pc (shs s' t) R.1 R.2 t) := by
        rw [take_snoc hR, List.map_append, List.sum_append]
        simp only [List.map_cons, List.map_nil, List.sum_cons, List.sum_nil, Nat.add_zero]
      exact ⟨⟨some (.ref c), some (.ref m), some (.ref y), by rw [es]; rfl⟩, s2.trans s3⟩
    · rintro σ H2 ⟨⟨x0, y0, z0, rfl⟩, s2⟩
      rw [wl, List.take_length]
      refine ⟨_, rfl, ?_⟩
      have e : (Ps.map fun P => dist (pc (shs s' t) P.1 P.2 s') (pc (shs s' t) P.1 P.2 t)).sum = dist s' t := by
        rw [perm_sum (hp.map _), ← far_dist cS cT hst.symm]
        unfold far
        rw [hst]
      rw [e]
      exact q H2 (s1.trans s2)
end
end Kn

set_option Elab.async false
set_option linter.all false
set_option maxRecDepth 100000
set_option maxHeartbeats 1000000
/-! WkN: class Journey. -/
namespace Kn
open PySem PySem.Spec PyProof.Rows L2

theorem TpK.rm {b : Bool} {H : Hp} {j a C dx : Addr} {fs : List (Str × V)} {ns : List Int} (hj : H j = some (.ins C dx fs)) (h : TpK b H a ns) : TpK b (rm H j) a ns := by
  cases b with
  | true =>
    obtain ⟨o, h1, h2, e⟩ := h
    exact ⟨o, h1, h2, by rw [rm_ne (ne_of e hj (by intro z; cases z))]; exact e⟩
  | false =>
    have e : H a = some (.tup (ivs ns)) := h
    show Kn.rm H j a = _
    rw [rm_ne (ne_of e hj (by intro z; cases z))]
    exact e
/-- a part of a journey: its corners, the levels of what it is there -/
def PtV (s t : B) (H : Hp) (v : V) (P : Cut) : Prop := ∃ (p c d : Addr) (lv : List (B × Nat)), v = .ref p ∧ H p = some (.tup [.ref c, .ref d]) ∧ H c = some (.tup (nvs (cb (shs s t) P.1 P.2))) ∧ H d = some (.dT (kvL lv)) ∧ LvOk (pc (shs s t) P.1 P.2 t) lv
theorem PtV.same {s t : B} {H H' : Hp} {v : V} {P : Cut} (k : Same H H') (h : PtV s t H v P) : PtV s t H' v P := by
  obtain ⟨p, c, d, lv, rfl, h1, h2, h3, h4⟩ := h
  exact ⟨p, c, d, lv, rfl, k _ _ h1, k _ _ h2, k _ _ h3, h4⟩
theorem PtV.lst {s t : B} {H : Hp} {v : V} {P : Cut} {q : Addr} {ys : List V} {o : HO} (k : H q = some (.lst ys)) (h : PtV s t H v P) : PtV s t (upd H q o) v P := by
  obtain ⟨p, c, d, lv, rfl, h1, h2, h3, h4⟩ := h
  exact ⟨p, c, d, lv, rfl, by rw [upd_ne (ne_of h1 k (by intro z; cases z))]; exact h1, by rw [upd_ne (ne_of h2 k (by intro z; cases z))]; exact h2, by rw [upd_ne (ne_of h3 k (by intro z; cases z))]; exact h3, h4⟩
theorem kps : ¬ (("parts" : Str) = "shared") := by decide +kernel
def flJ (pA sA : Addr) : List (Str × V) := putF "shared" (.ref sA) (putF "parts" (.ref pA) [])
theorem flJ_parts (pA sA : Addr) : (flJ pA sA).lookup ("parts" : Str) = some (.ref pA) := by
  unfold flJ
  rw [lookup_putF, if_neg kps, lookup_putF, if_pos rfl]
theorem flJ_shared (pA sA : Addr) : (flJ pA sA).lookup ("shared" : Str) = some (.ref sA) := by
  unfold flJ
  rw [lookup_putF, if_pos rfl]
theorem flJ_no (pA sA : Addr) {m : Str} (h1 : ¬ m = "shared") (h2 : ¬ m = "parts") : (flJ pA sA).lookup m = none := by
  unfold flJ
  rw [lookup_putF, if_neg h1, lookup_putF, if_neg h2]
  all_goals rfl
/-- a journey from s to t stands at j -/
structure JAt (C : Addr) (s t : B) (H : Hp) (j dx pA sA : Addr) (vs ws : List V) (S Ps : List Cut) : Prop where
  ob : H j = some (.ins C dx (flJ pA sA))
  hp : H pA = some (.lst vs)
  hs : H sA = some (.lst ws)
  tp : Tups H ws (S.map cun)
  eS : ∀ e, e ∈ S ↔ e ∈ shs s t
  nd : S.Nodup
  pm : Ps.Perm (psl (shs s t) t.sz)
  pp : Paired (PtV s t H) vs Ps
theorem JAt.same {C : Addr} {s t : B} {H H' : Hp} {j dx pA sA : Addr} {vs ws : List V} {S Ps : List Cut} (k : Same H H') (h : JAt C s t H j dx pA sA vs ws S Ps) : JAt C s t H' j dx pA sA vs ws S Ps :=
  ⟨k _ _ h.ob, k _ _ h.hp, k _ _ h.hs, h.tp.keep (Tkeep.of k), h.eS, h.nd, h.pm, Paired.mapP h.pp fun _ _ z => z.same k⟩
/-- what the walk asks of the class -/
structure Jt (K : PySem.W.Frag) (C : Addr) : Prop where
  cl : Cls K C
  nP : NoAttr K C "parts"
  nS : NoAttr K C "shared"
structure MkJ (K : PySem.W.Frag) (mg : Str → Option Value) (C : Addr) (st : Stmt) (ps : List Str) : Prop where
  ex : ∃ (f : Addr) (fd : FuncData), Mk K C f ∧ mg "Journey" = some (.ref C) ∧ C8.Fun K "__init__" "Journey.__init__" st f fd ∧ Binds K fd ps []
structure MtJ (K : PySem.W.Frag) (C : Addr) (m qual : Str) (st : Stmt) (ps : List Str) : Prop where
  ex : ∃ (f : Addr) (fd : FuncData), Meth K C m f ∧ C8.Fun K m qual st f fd ∧ Binds K fd ps []
section
variable {P : Program} {w : World} {K : PySem.W.Frag} {mg : Str → Option Value} {base : Heap}
abbrev s_Journey___init__ : Stmt := inClass (top 39) 0
theorem sc_Journey___init__ : FnScope ["self", "one", "other", "corners", "mine", "yours"] ["self", "one", "other"] (C8.fnScope s_Journey___init__) := C8.fnScope_by (by decide +kernel)
def sp_J_init (C : Addr) : Sp := fun vs H Q _ => ∃ (j a b dx : Addr) (s t : B), vs = [.ref j, .ref a, .ref b] ∧ H j = some (.ins C dx []) ∧ TpF H a (tl s) ∧ TpF H b (tl t) ∧ s ≠ .lf ∧ s.sz = t.sz ∧ s.sz ≤ 1000 ∧ Sml s t ∧
  ∀ (pA sA : Addr) (vs ws : List V) (S Ps : List Cut) (H' : Hp), Same (rm H j) H' → JAt C s t H' j dx pA sA vs ws S Ps → Q .non H'
theorem ok_J_init {C : Addr} (G : Gs mg) (T : Jt K C) (F : MkJ K mg C s_Journey___init__ ["self", "one", "other"]) (c_shared_cuts : CalN P w K mg base 6 "shared_cuts" sp_shared_cuts) (c_pieces : CalN P w K mg base 7 "pieces" sp_pieces) (c_levels_by_tree : CalN P w K mg base 4 "levels_by_tree" sp_levels_by_tree) :
    C8.Mak P w K mg base 8 "Journey" C (sp_J_init C) [] := by
  obtain ⟨f, fd, M, hm, F, b⟩ := F.ex
  refine C8.mak0 M hm F b .nil sc_Journey___init__ (fun vs H Q E h => ?_) (fun cdv A outer s H vs Q E hr h => ?_)
  · obtain ⟨j, a, b, dx, s, t, rfl, _⟩ := h
    rfl
  · obtain ⟨j, a, b, dx, s', t, rfl, hj, ha, hb, hs, hst, hz, sm, q⟩ := h
    have ht : t ≠ .lf := fun e => hs (sz_zero (by rw [hst, e]; rfl))
    have cS := shs_cuts (t := t) hs hst
    have cT := shs_cuts' (s := s') ht
    have ha0 := TpK.rm hj ha
    have hb0 := TpK.rm hj hb
    refine ⟨_, (pss_cons (ps_fld (pv 0) (pe_lst pa_nil) rfl)
      (pss_cons (ps_fld (pv 0) (C8.pe_c c_shared_cuts hr (by decide) (by rfl) (pa_cons (pv 1) (pa_cons (pv 2) pa_nil))) rfl)
      (pss_one (ps_for PassesOwn.never rfl (pi_list (C8.pe_c c_pieces hr (by decide) (by rfl) (pa_cons (pv 1) (pa_cons (pv 2) pa_nil)))) (pg_tup rfl (pgs_cons (pg_name (i := 3) sc_Journey___init__.nd rfl (Or.inl rfl)) (pgs_cons (pg_name (i := 4) sc_Journey___init__.nd rfl (Or.inl rfl)) (pgs_cons (pg_name (i := 5) sc_Journey___init__.nd rfl (Or.inl rfl)) pgs_nil)))) (pss_one (ps_expr (pe_bm PySem.F.plainAttrs_list PySem.F.slot_list_append PySem.F.type_list_append mt_append (pe_fld (pv 0) rfl) (pa_cons (pe_tup (pa_cons (pv 3) (pa_cons (C8.pe_c c_levels_by_tree hr (by decide) (by rfl) (pa_cons (pv 5) pa_nil)) pa_nil))) pa_nil)))))))), ?_⟩
    refine ⟨by show 0 ≤ sizeLine; decide, fun pA hpA => ?_⟩
    have njp : j ≠ pA := ne_of_none hj hpA
    have hpA0 : rm H j pA = none := by rw [rm_ne njp.symm]; exact hpA
    refine ⟨_, rfl, j, C, dx, [], rfl, by rw [upd_ne njp]; exact hj, T.cl, T.nP, by show 0 < 1000; decide, ?_⟩
    have s1 : Same (rm H j) (upd (upd H pA (.lst [])) j (.ins C dx (putF "parts" (.ref pA) []))) := ((rm_sub (H := H) (p := j)).new hpA).mut rm_same
    have hj1 : (upd (upd H pA (.lst [])) j (.ins C dx (putF "parts" (.ref pA) []))) j = some (.ins C dx (putF "parts" (.ref pA) [])) := upd_same
    have hp1 : (upd (upd H pA (.lst [])) j (.ins C dx (putF "parts" (.ref pA) []))) pA = some (.lst []) := by rw [upd_ne njp.symm, upd_same]
    generalize (upd (upd H pA (.lst [])) j (.ins C dx (putF "parts" (.ref pA) []))) = H1 at s1 hj1 hp1 ⊢
    refine ⟨_, rfl, _, rfl, a, b, s', t, rfl, s1.tpK ha0, s1.tpK hb0, hs, ht, hz, by omega, fun sA ws S H2 hsA s2 h2 sh tp => ?_⟩
    have hj2 := s2 _ _ hj1
    have hp2 := s2 _ _ hp1
    have njs : sA ≠ j := fun e => by rw [e, hj1] at hsA; cases hsA
    refine ⟨_, rfl, j, C, dx, _, rfl, hj2, T.cl, T.nS, by show 1 < 1000; decide, ?_⟩
    have s3 : Same (rm H j) (upd H2 j (.ins C dx (flJ pA sA))) := (s1.trans s2).mut rm_same
    have eS : ∀ e, e ∈ S ↔ e ∈ shs s' t := fun e => by
      rw [sh.mem, shs_mem, hst]
      exact ⟨fun z => ⟨z.2.1, z.1.1, z.2.2⟩, fun z => ⟨⟨z.2.1, z.2.2⟩, z.1, z.2.2⟩⟩
    have hj3 : (upd H2 j (.ins C dx (flJ pA sA))) j = some (.ins C dx (flJ pA sA)) := upd_same
    have hp3 : (upd H2 j (.ins C dx (flJ pA sA))) pA = some (.lst []) := by rw [upd_ne njp.symm]; exact hp2
    have hs3 : (upd H2 j (.ins C dx (flJ pA sA))) sA = some (.lst ws) := by rw [upd_ne njs]; exact h2
    have tp3 := tp.keep (Tkeep.ins (o := .ins C dx (flJ pA sA)) hj2)
    show _
    generalize eH3 : (upd H2 j (.ins C dx (flJ pA sA))) = H3 at s3 hj3 hp3 hs3 tp3
    have eH3' : (upd H2 j (.ins C dx (putF "shared" (.ref sA) (putF "parts" (.ref pA) [])))) = H3 := eH3
    rw [eH3']
    refine ⟨_, rfl, _, rfl, a, b, s', t, rfl, s3.tpK ha0, s3.tpK hb0, hs, hst, hz, fun l us Ps H4 hl0 s4 h4 hpm pp => ?_⟩
    have hj4 := s4 _ _ hj3
    have hp4 := s4 _ _ hp3
    have hs4 := s4 _ _ hs3
    have tp4 := tp3.keep (Tkeep.of s4)
    have nlp : l ≠ pA := fun e => by rw [e, hp3] at hl0; cases hl0
    have nsp : sA ≠ pA := fun e => by rw [e, hp1] at hsA; cases hsA
    have sB : Same (rm H j) (rm H4 pA) := rm_of (s3.trans s4) hpA0
    have hjB : rm H4 pA j = some (.ins C dx (flJ pA sA)) := by rw [rm_ne njp]; exact hj4
    have hlB : rm H4 pA l = some (.lst us) := by rw [rm_ne nlp]; exact h4
    have hsB : rm H4 pA sA = some (.lst ws) := by rw [rm_ne nsp]; exact hs4
    have tpB := tp4.keep (rm_tk hp4)
    have ppB := Paired.mapP pp fun _ _ z => z.keep (rm_tk hp4)
    have ul : us.length = Ps.length := Paired.length pp
    have pl : Ps.length ≤ 1001 := by
      rw [hpm.length_eq]
      have h1 : (psl (shs s' t) t.sz).length ≤ (tops (shs s' t) t.sz).length := List.length_filter_le _ _
      have h2 := nodup_le (m := nodes t 0) (shs_nd s' t) cT.sub
      rw [nodes_len] at h2
      have h3 : (tops (shs s' t) t.sz).length = (shs s' t).length + 1 := rfl
      omega
    refine ⟨l, rfl, ⟨_, SqL.of h4⟩, for_list (K := K) (a := l) (xs := us) (fun i σ H5 => (∃ x y z, σ = [some (.ref j), some (.ref a), some (.ref b), x, y, z]) ∧ Same (rm H4 pA) H5 ∧ ∃ vs, H5 pA = some (.lst vs) ∧ vs.length ≤ i ∧ Paired (PtV s' t H5) vs (Ps.take i)) ⟨⟨_, _, _, rfl⟩, rm_sub, [], hp4, Nat.le_refl _, .nil⟩ (fun i σ H5 _ ⟨_, s5, _⟩ => SqL.of (s5 _ _ hlB)) ?_ ?_⟩
    · rintro i x σ H5 hi ⟨⟨x0, y0, z0, rfl⟩, s5, vs, hvs, vl, pv⟩
      obtain ⟨R, hR, p, c, m, y, rfl, e1, e2, e3, e4⟩ := Paired.at1 ppB hi
      have hi' : i < Ps.length := (List.getElem?_eq_some_iff.mp hR).1
      have hRm : R ∈ psl (shs s' t) t.sz := hpm.mem_iff.mp (List.mem_of_getElem? hR)
      have hRt := psl_sub hRm
      have szz := pc_szz cT hRt hst rfl
      have s6 := sm R hRm
      refine ⟨p, _, rfl, SqT.of (s5 _ _ e1), rfl, _, _, rfl, _, _, rfl, _, _, rfl, rfl, ?_⟩
      refine ⟨_, rfl, j, C, dx, _, _, rfl, s5 _ _ hjB, T.cl, T.nP, flJ_parts _ _, .inl ⟨rfl, _, SqL.of hvs⟩, _, rfl, _, rfl, y, _, rfl, s5 _ _ e4, by omega, fun d lv H6 hd0 s6' hd L => ?_⟩
      refine ⟨by show 2 ≤ sizeLine; decide, fun q2 hq2 => ?_⟩
      have hvs6 := s6' _ _ hvs
      have nq : q2 ≠ pA := fun e => by rw [e, hvs6] at hq2; cases hq2
      have s7 : Same H6 (upd H6 q2 (.tup [.ref c, .ref d])) := (Same.refl H6).new hq2
      have hvs7 := s7 _ _ hvs6
      refine ⟨pA, _, _, rfl, rfl, hvs7, bigl (by omega), ⟨_, _, _, rfl⟩, ((s5.trans s6').trans s7).mut rm_same, _, upd_same, by rw [List.length_append, List.length_singleton]; omega, ?_⟩
      rw [take_snoc hR]
      refine Paired.append (Paired.mapP pv fun _ _ z => (z.same (s6'.trans s7)).lst hvs7) (.cons (PtV.lst hvs7 ⟨q2, c, d, lv, rfl, upd_same, s7 _ _ (s6' _ _ (s5 _ _ e2)), s7 _ _ hd, L⟩) .nil)
    · rintro σ H5 ⟨⟨x0, y0, z0, rfl⟩, s5, vs, hvs, vl, pv⟩
      rw [ul, List.take_length] at pv
      exact q pA sA vs ws S Ps H5 (sB.trans s5) ⟨s5 _ _ hjB, hvs, s5 _ _ hsB, tpB.keep (Tkeep.of s5), eS, sh.nd, hpm, pv⟩
abbrev s_Journey_far : Stmt := inClass (top 39) 1
theorem sc_Journey_far : FnScope ["self", "tree", "total", "corners", "known"] ["self", "tree"] (C8.fnScope s_Journey_far) := C8.fnScope_by (by decide +kernel)
def sp_J_far (C : Addr) : Sp := fun vs H Q _ => ∃ (j a dx pA sA : Addr) (s t u : B) (vs' ws : List V) (S Ps : List Cut), vs = [.ref j, .ref a] ∧ JAt C s t H j dx pA sA vs' ws S Ps ∧ TpF H a (tl u) ∧ u.sz = t.sz ∧ t ≠ .lf ∧ t.sz ≤ 1000 ∧ Cuts (shs s t) u ∧
  ∀ H', Same H H' → Q (.int (far (shs s t) t.sz u t : Nat)) H'
theorem ok_J_far {C : Addr} (G : Gs mg) (T : Jt K C) (F : MtJ K C "far" "Journey.far" s_Journey_far ["self", "tree"]) (c_part_tree : CalN P w K mg base 6 "part_tree" sp_part_tree) :
    C8.Met P w K mg base 7 C "far" (sp_J_far C) [] := by
  obtain ⟨f, fd, M, F, b⟩ := F.ex
  refine C8.met0 T.cl M F b sc_Journey_far (fun vs H Q E h => ?_) (fun cdv A outer s H vs Q E hr h => ?_)
  · obtain ⟨j, a, dx, pA, sA, s, t, u, vs', ws, S, Ps, rfl, _⟩ := h
    rfl
  · obtain ⟨j, a, dx, pA, sA, s', t, u, vs', ws, S, Ps, rfl, J, ha, hz, ht, hz2, cu, q⟩ := h
    have cT := shs_cuts' (s := s') ht
    refine ⟨_, (pss_cons (ps_set (i := 2) sc_Journey_far.nd rfl (Or.inl rfl) pe_int)
      (pss_cons (ps_for PassesOwn.never rfl (pi_list (pe_fld (pv 0) rfl)) (pg_tup rfl (pgs_cons (pg_name (i := 3) sc_Journey_far.nd rfl (Or.inl rfl)) (pgs_cons (pg_name (i := 4) sc_Journey_far.nd rfl (Or.inl rfl)) pgs_nil))) (pss_one (ps_set (i := 2) sc_Journey_far.nd rfl (Or.inl rfl) (pe_op op_add (pv 2) (pe_dget (hu_of hr) (pv 4) (C8.pe_c c_part_tree hr (by decide) (by rfl) (pa_cons (pv 3) (pa_cons (pe_fld (pv 0) rfl) (pa_cons (pv 1) pa_nil)))) (fun _ _ => rfl))))))
      (pss_one (ps_ret (pv 2))))), ?_⟩
    refine ⟨_, rfl, j, C, dx, _, _, rfl, J.ob, T.cl, T.nP, flJ_parts _ _, pA, rfl, ⟨_, SqL.of J.hp⟩, for_list (K := K) (a := pA) (xs := vs') (fun i σ H2 => (∃ x y, σ = [some (.ref j), some (.ref a), some (.int (((Ps.take i).map fun P => dist (pc (shs s' t) P.1 P.2 u) (pc (shs s' t) P.1 P.2 t)).sum : Nat)), x, y]) ∧ Same H H2) ⟨⟨_, _, rfl⟩, Same.refl H⟩ (fun i σ H2 _ ⟨_, s2⟩ => SqL.of (s2 _ _ J.hp)) ?_ ?_⟩
    · rintro i x σ H2 hi ⟨⟨x0, y0, rfl⟩, s2⟩
      obtain ⟨R, hR, p, c, d, lv, rfl, e1, e2, e3, L⟩ := Paired.at1 J.pp hi
      have hRm : R ∈ psl (shs s' t) t.sz := J.pm.mem_iff.mp (List.mem_of_getElem? hR)
      have hRt := psl_sub hRm
      have hRl : 3 < (cb (shs s' t) R.1 R.2).length := of_decide_eq_true (List.mem_filter.mp hRm).2
      have szz := pc_szz cT hRt hz rfl
      have hRu : R ∈ tops S u.sz := by
        rw [hz]
        rcases List.mem_cons.mp hRt with e | e
        · rw [e]; exact List.mem_cons_self
        · exact List.mem_cons_of_mem _ ((J.eS _).mpr e)
      have cuS : Cuts S u := cu.congr (fun e => (J.eS e).symm) J.nd
      have J2 := J.same s2
      have ecb : cb S R.1 R.2 = cb (shs s' t) R.1 R.2 := cb_congr J.eS _ _
      have epc : pc S R.1 R.2 u = pc (shs s' t) R.1 R.2 u := pc_congr J.eS _ _ _
      refine ⟨p, _, rfl, SqT.of (s2 _ _ e1), rfl, _, _, rfl, _, _, rfl, rfl, ?_⟩
      refine ⟨_, rfl, _, rfl, _, rfl, _, rfl, j, C, dx, _, _, rfl, J2.ob, T.cl, T.nS, flJ_shared _ _, _, rfl, c, sA, a, ws, S, R, u, false, rfl, by rw [ecb]; exact s2 _ _ e2, J2.hs, J2.tp, s2.tpK ha, cuS, hRu, by rw [ecb]; exact hRl, by omega, fun m H3 hm0 s3 hm => ?_⟩
      rw [epc] at hm
      have g := DGet.t (k := kyI (tl (pc (shs s' t) R.1 R.2 u))) (s3 _ _ (s2 _ _ e3)) (key_tl hm)
      rw [kvL_in (fun e he => (L.val e he).2) (L.all _ szz)] at g
      refine ⟨d, _, rfl, g, _, _, rfl, rfl, ?_⟩
      have es : ((Ps.take (i + 1)).map fun P => dist (pc (shs s' t) P.1 P.2 u) (pc (shs s' t) P.1 P.2 t)).sum = ((Ps.take i).map fun P => dist (pc (shs s' t) P.1 P.2 u) (pc (shs s' t) P.1 P.2 t)).sum + dist (pc (shs s' t) R.1 R.2 u) (pc (shs s' t) R.1 R.2 t) := by
        rw [take_snoc hR, List.map_append, List.sum_append]
        simp only [List.map_cons, List.map_nil, List.sum_cons, List.sum_nil, Nat.add_zero]
      exact ⟨⟨some (.ref c), some (.ref d), by rw [es]; rfl⟩, s2.trans s3⟩
    · rintro σ H2 ⟨⟨x0, y0, rfl⟩, s2⟩
      rw [Paired.length J.pp, List.take_length]
      refine ⟨_, rfl, ?_⟩
      have e : (Ps.map fun P => dist (pc (shs s' t) P.1 P.2 u) (pc (shs s' t) P.1 P.2 t)).sum = far (shs s' t) t.sz u t := perm_sum (J.pm.map _)
      rw [e]
      exact q H2 s2
end
end Kn

set_option Elab.async false
set_option linter.all false
set_option maxRecDepth 100000
set_option maxHeartbeats 1000000
/-! WkO: next_knot, fewest_turns, apart_paper, shows_apart. -/
namespace Kn
open PySem PySem.Spec PyProof.Rows L2

theorem pt_never {X : Cx} {e : Expr} : PT X e (fun _ _ _ => False) := ⟨fun _ _ _ _ _ _ h => h.elim⟩
/-- a row of turns -/
inductive Ups : B → List Nat → B → Prop
  | nil (t : B) : Ups t [] t
  | cons {s s' t : B} {k : Nat} {ks : List Nat} : up s k = some s' → Ups s' ks t → Ups s (k :: ks) t
theorem Ups.snoc {s u u' : B} {k : Nat} {ks : List Nat} (h : Ups s ks u) (e : up u k = some u') : Ups s (ks ++ [k]) u' := by
  induction h with
  | nil t => exact .cons e (.nil _)
  | cons e1 _ ih => exact .cons e1 (ih e)
theorem Ups.walk {s t : B} {ks : List Nat} (h : Ups s ks t) : Walk ks.length s t := by
  induction h with
  | nil t => exact .nil t
  | cons e _ ih => exact .cons (up_turn _ 0 _ _ e).1 ih
section
variable {P : Program} {w : World} {K : PySem.W.Frag} {mg : Str → Option Value} {base : Heap}
abbrev s_Journey_next_knot : Stmt := inClass (top 39) 2
theorem sc_Journey_next_knot : FnScope ["self", "tree", "here", "knot"] ["self", "tree"] (C8.fnScope s_Journey_next_knot) := C8.fnScope_by (by decide +kernel)
def sp_J_next (C : Addr) : Sp := fun vs H Q _ => ∃ (j a dx pA sA : Addr) (s t u : B) (vs' ws : List V) (S Ps : List Cut), vs = [.ref j, .ref a] ∧ JAt C s t H j dx pA sA vs' ws S Ps ∧ TpF H a (tl u) ∧ u.sz = t.sz ∧ t ≠ .lf ∧ t.sz ≤ 1000 ∧ Cuts (shs s t) u ∧
  (far (shs s t) t.sz u t = 0 → ∀ H', Same H H' → Q .non H') ∧ ∀ k u' g, up u k = some u' → (nodes u 0)[k]? = some g → g ∉ shs s t → far (shs s t) t.sz u' t + 1 = far (shs s t) t.sz u t → ∀ H', Same H H' → Q (.int (k : Nat)) H'
theorem ok_J_next {C : Addr} (G : Gs mg) (T : Jt K C) (F : MtJ K C "next_knot" "Journey.next_knot" s_Journey_next_knot ["self", "tree"]) (m_far : C8.Met P w K mg base 7 C "far" (sp_J_far C) []) (c_cuts_exchanged : CalN P w K mg base 6 "cuts_exchanged" sp_cuts_exchanged) (c_turned : CalN P w K mg base 2 "turned" sp_turned) :
    C8.Met P w K mg base 8 C "next_knot" (sp_J_next C) [] := by
  obtain ⟨f, fd, M, F, b⟩ := F.ex
  refine C8.met0 T.cl M F b sc_Journey_next_knot (fun vs H Q E h => ?_) (fun cdv A outer s H vs Q E hr h => ?_)
  · obtain ⟨j, a, dx, pA, sA, s, t, u, vs', ws, S, Ps, rfl, _⟩ := h
    rfl
  · obtain ⟨j, a, dx, pA, sA, s', t, u, vs', ws, S, Ps, rfl, J, ha, hz, ht, hz2, cu, q0, q1⟩ := h
    have hl : (tl u).length = u.sz := par_len u 0 (-1)
    have fno : (flJ pA sA).lookup ("far" : Str) = none := flJ_no _ _ (by decide +kernel) (by decide +kernel)
    refine ⟨_, (pss_cons (ps_set (i := 2) sc_Journey_next_knot.nd rfl (Or.inl rfl) (C8.pe_mt m_far hr (by decide) (pv 0) (pa_cons (pv 1) pa_nil)))
      (pss_cons (ps_for PassesOwn.never rfl (pi_range1 (by rfl) G.range (pa_cons (pe_callB call_len_seq (by rfl) G.len PySem.boot_len (pa_cons (pv 1) pa_nil)) pa_nil)) (pg_name (i := 3) sc_Journey_next_knot.nd rfl (Or.inl rfl)) (pss_one (ps_if (PW.pt (pw_and (pt_cmpR op_ge (pe_ix ix_tup (pv 1) (pv 3) (fun _ _ => rfl)) pe_int (nomark _)) (pw_and1 (pt_cmpR (op_notInT (hu65 hr)) (pe_ix ix_tup (C8.pe_c c_cuts_exchanged hr (by decide) (by rfl) (pa_cons (pv 1) (pa_cons (pv 3) pa_nil))) pe_int (fun _ _ => rfl)) (pe_fld (pv 0) rfl) rfl)))) (pss_one (ps_if (pt_cmpR op_lt (C8.pe_mt m_far hr (by decide) (pv 0) (pa_cons (C8.pe_c c_turned hr (by decide) (by rfl) (pa_cons (pv 1) (pa_cons (pv 3) pa_nil))) pa_nil)) (pv 2) (nomark _)) (pss_one (ps_ret (pv 3))) pss_nil)) pss_nil)))
      (pss_one (ps_ret pe_non)))), ?_⟩
    refine ⟨_, rfl, j, dx, _, rfl, J.ob, fno, _, rfl, j, a, dx, pA, sA, s', t, u, vs', ws, S, Ps, rfl, J, ha, hz, ht, hz2, cu, fun H1 s1 => ?_⟩
    refine ⟨_, rfl, a, _, rfl, .inr (s1.tpK ha).rd.sq, _, rfl, by rw [ivs_len]; omega, by rw [ivs_len]; omega,
      for_range (lo := 0) (n := (((ivs (tl u)).length : Nat) : Int).toNat) (fun i σ H2 => (∃ v, σ = [some (.ref j), some (.ref a), some (.int (far (shs s' t) t.sz u t : Nat)), v]) ∧ Same H H2 ∧ ∀ k u' g, k < i → up u k = some u' → (nodes u 0)[k]? = some g → g ∉ shs s' t → ¬ far (shs s' t) t.sz u' t < far (shs s' t) t.sz u t) ⟨⟨_, rfl⟩, s1, fun k u' g h => by omega⟩ ?_ ?_⟩
    · rintro i σ H2 hi ⟨⟨v, rfl⟩, s2, no⟩
      have hi' : i < u.sz := by rw [ivs_len] at hi; omega
      have e0 : (0 : Int) + (i : Nat) = ((i : Nat) : Int) := Int.zero_add _
      rw [e0]
      have keep : ∀ {H' : Hp} {v : Option V}, Same H H' → (∀ u' g, up u i = some u' → (nodes u 0)[i]? = some g → g ∉ shs s' t → ¬ far (shs s' t) t.sz u' t < far (shs s' t) t.sz u t) →
          (∃ v', [some (V.ref j), some (V.ref a), some (V.int (far (shs s' t) t.sz u t : Nat)), v] = [some (V.ref j), some (V.ref a), some (V.int (far (shs s' t) t.sz u t : Nat)), v']) ∧ Same H H' ∧ ∀ k u' g, k < i + 1 → up u k = some u' → (nodes u 0)[k]? = some g → g ∉ shs s' t → ¬ far (shs s' t) t.sz u' t < far (shs s' t) t.sz u t := fun {H' v} sm h => by
        refine ⟨⟨_, rfl⟩, sm, fun k u' g hk h1 h2 h3 => ?_⟩
        by_cases c : k = i
        · subst c; exact h u' g h1 h2 h3
        · exact no k u' g (by omega) h1 h2 h3
      rcases up_iff hi' with ⟨_, e2, e3⟩ | ⟨_, v', e2, u', hu⟩
      · refine ⟨_, rfl, _, rfl, a, _, _, _, rfl, rfl, (s2.tpK ha).rd.sq, atI_ivs e2, _, _, rfl, rfl, _, rfl, iteD0 (by omega) ?_⟩
        exact keep s2 fun u' g h => by rw [e3] at h; cases h
      · refine ⟨_, rfl, _, rfl, a, _, _, _, rfl, rfl, (s2.tpK ha).rd.sq, atI_ivs e2, _, _, rfl, rfl, _, rfl, iteD1 (by omega) ?_⟩
        obtain ⟨adj, g, c, TT, hg⟩ := up_turn u 0 i u' hu
        have J2 := J.same s2
        refine ⟨_, rfl, _, rfl, a, u, u', i, g, rfl, s2.tpK ha, by omega, hu, hg, fun p c1 c2 H3 s3 h3 hc1 => ?_⟩
        have J3 := J2.same s3
        refine ⟨p, _, _, _, rfl, rfl, SqT.of h3, rfl, ?_⟩
        refine ⟨_, rfl, j, C, dx, _, _, rfl, J3.ob, T.cl, T.nS, flJ_shared _ _, c1, sA, cun g, ws, S.map cun, rfl, rfl, SqT.of hc1, SqL.of J3.hs, J3.tp, _, rfl, ?_⟩
        by_cases m : g ∈ shs s' t
        · refine iteN0 (mem_cun.mpr ((J.eS g).mpr m)) ?_
          exact keep (s2.trans s3) fun u2 g2 h1 h2 h3 => absurd (by rw [hg] at h2; exact Option.some.inj h2 ▸ m) h3
        · refine iteN1 (fun z => m ((J.eS g).mp (mem_cun.mp z))) ?_
          have cu' : Cuts (shs s' t) u' := cu.turn adj TT m
          refine ⟨_, rfl, j, dx, _, rfl, J3.ob, fno, _, rfl, _, rfl, a, u, u', i, true, rfl, (s3.tpK (s2.tpK ha)).rd, by omega, hu, fun p2 H4 hp2 s4 h4 => ?_⟩
          have J4 := J3.same s4
          refine ⟨j, p2, dx, pA, sA, s', t, u', vs', ws, S, Ps, rfl, J4, h4, by rw [← adj.sz]; exact hz, ht, hz2, cu', fun H5 s5 => ?_⟩
          have s25 := ((s2.trans s3).trans s4).trans s5
          refine ⟨_, rfl, _, _, rfl, rfl, _, rfl, ?_⟩
          by_cases lt : far (shs s' t) t.sz u' t < far (shs s' t) t.sz u t
          · refine iteD1 (by omega) ?_
            have h2 := far_two cu (o := t) hz.symm adj
            rw [hz] at h2
            exact ⟨_, rfl, q1 i u' g hu hg m (by omega) H5 s25⟩
          · refine iteD0 (by omega) ?_
            exact keep s25 fun u2 g2 h1 h2 h3 => by
              rw [hu] at h1
              cases h1
              exact lt
    · rintro σ H2 ⟨⟨v, rfl⟩, s2, no⟩
      refine q0 ?_ H2 s2
      refine Classical.byContradiction fun ne => ?_
      have := down cu (o := t) hz.symm (by rw [hz]; exact ne)
      obtain ⟨k, u', g, h1, h2, h3, h4⟩ := this
      rw [hz] at h4
      have hk := up_lt _ _ _ h1
      exact no k u' g (by rw [ivs_len]; omega) h1 h2 h3 (by omega)
abbrev s_fewest_turns : Stmt := top 40
theorem sc_fewest_turns : FnScope ["one", "other", "journey", "knots", "knot"] ["one", "other"] (C8.fnScope s_fewest_turns) := C8.fnScope_by (by decide +kernel)
def sp_fewest_turns : Sp := fun vs H Q _ => ∃ (a b : Addr) (s t : B), vs = [.ref a, .ref b] ∧ TpF H a (tl s) ∧ TpF H b (tl t) ∧ s ≠ .lf ∧ s.sz = t.sz ∧ s.sz ≤ 1000 ∧ dist s t ≤ 1000 ∧ Sml s t ∧
  ∀ (l : Addr) (ks : List Nat) (H' : Hp), Same H H' → H' l = some (.lst (nvs ks)) → Ups s ks t → ks.length = dist s t → Q (.ref l) H'
theorem ok_fewest_turns {C : Addr} (G : Gs mg) (T : Jt K C) (F : Df K mg "fewest_turns" s_fewest_turns ["one", "other"]) (mk_Journey : C8.Mak P w K mg base 8 "Journey" C (sp_J_init C) []) (m_next_knot : C8.Met P w K mg base 8 C "next_knot" (sp_J_next C) []) (c_turned : CalN P w K mg base 2 "turned" sp_turned) : CalN P w K mg base 10 "fewest_turns" sp_fewest_turns := by
  refine F.cal sc_fewest_turns (fun vs H Q E h => ?_) (fun f cdv A outer s H vs Q E hr h => ?_)
  · obtain ⟨a, b, s, t, rfl, _⟩ := h
    rfl
  · obtain ⟨a, b, s', t, rfl, ha, hb, hs, hst, hz, hd, sm, q⟩ := h
    have ht : t ≠ .lf := fun e => hs (sz_zero (by rw [hst, e]; rfl))
    have cS := shs_cuts (t := t) hs hst
    have cT := shs_cuts' (s := s') ht
    have f0 : far (shs s' t) t.sz s' t = dist s' t := by rw [← far_dist cS cT hst.symm, hst]
    have fno : ∀ pA sA : Addr, (flJ pA sA).lookup ("next_knot" : Str) = none := fun pA sA => flJ_no _ _ (by decide +kernel) (by decide +kernel)
    refine ⟨_, (pss_cons (ps_set (i := 2) sc_fewest_turns.nd rfl (Or.inl rfl) (C8.pe_mk mk_Journey hr (by decide) (by rfl) (pa_cons (pv 0) (pa_cons (pv 1) pa_nil))))
      (pss_cons (ps_set (i := 3) sc_fewest_turns.nd rfl (Or.inl rfl) (pe_lst pa_nil))
      (pss_cons (ps_set (i := 4) sc_fewest_turns.nd rfl (Or.inl rfl) (C8.pe_mt m_next_knot hr (by decide) (pv 2) (pa_cons (pv 0) pa_nil)))
      (pss_cons (ps_while PassesOwn.never (pt_cmp (pc_notN (pv 4))) (pss_cons (ps_expr (pe_bm PySem.F.plainAttrs_list PySem.F.slot_list_append PySem.F.type_list_append mt_append (pv 3) (pa_cons (pv 4) pa_nil)))
      (pss_cons (ps_set (i := 0) sc_fewest_turns.nd rfl (Or.inl rfl) (C8.pe_c c_turned hr (by decide) (by rfl) (pa_cons (pv 0) (pa_cons (pv 4) pa_nil))))
      (pss_one (ps_set (i := 4) sc_fewest_turns.nd rfl (Or.inl rfl) (C8.pe_mt m_next_knot hr (by decide) (pv 2) (pa_cons (pv 0) pa_nil)))))))
      (pss_one (ps_ret (pv 3))))))), ?_⟩
    refine ⟨_, rfl, _, rfl, fun j dx hj hdx ndj => ?_⟩
    have s1 : Same H (upd (upd H dx (.own j)) j (.ins C dx [])) := ((Same.refl H).new hdx).new (by rw [upd_ne ndj.symm]; exact hj)
    refine ⟨j, a, b, dx, s', t, rfl, upd_same, s1.tpK ha, s1.tpK hb, hs, hst, hz, sm, fun pA sA vs' ws S Ps H1 s2 J => ⟨rfl, ?_⟩⟩
    have s3 : Same H H1 := (rm_of s1 hj).trans s2
    refine ⟨by show 0 ≤ sizeLine; decide, fun kA hkA => ?_⟩
    have hkA0 : H kA = none := s3.free hkA
    have s4 : Same H1 (upd H1 kA (.lst [])) := (Same.refl H1).new hkA
    have J4 := J.same s4
    have ha4 := (s3.trans s4).tpK ha
    have sB0 : Same H1 (rm (upd H1 kA (.lst [])) kA) := rm_of s4 hkA
    have hk4 : (upd H1 kA (.lst [])) kA = some (.lst []) := upd_same
    have JB := J.same sB0
    generalize hHB : rm (upd H1 kA (.lst [])) kA = HB at sB0 JB
    have hBk : HB kA = none := by rw [← hHB]; exact rm_same
    have sBs : Same HB (upd H1 kA (.lst [])) := by rw [← hHB]; exact rm_sub
    generalize (upd H1 kA (.lst [])) = H4 at s4 J4 ha4 hk4 sBs ⊢
    let Inv' : List Nat → B → Option V → Hp → Prop := fun ks u v H5 => Ups s' ks u ∧ u.sz = t.sz ∧ Cuts (shs s' t) u ∧ far (shs s' t) t.sz u t + ks.length = dist s' t ∧
      ((far (shs s' t) t.sz u t = 0 ∧ v = some .non) ∨ ∃ k u' g, v = some (.int (k : Nat)) ∧ up u k = some u' ∧ (nodes u 0)[k]? = some g ∧ g ∉ shs s' t ∧ far (shs s' t) t.sz u' t + 1 = far (shs s' t) t.sz u t)
    have go : ∀ (aA : Addr) (ks : List Nat) (u : B) (v0 : Option V) (H5 : Hp), Same HB H5 → H5 kA = some (.lst (nvs ks)) → TpF H5 aA (tl u) → Ups s' ks u → u.sz = t.sz → Cuts (shs s' t) u → far (shs s' t) t.sz u t + ks.length = dist s' t →
        ∀ (Q' : VK), (∀ v H6, Same HB H6 → H6 kA = some (.lst (nvs ks)) → TpF H6 aA (tl u) → Inv' ks u (some v) H6 → Q' v H6) → sp_J_next C [.ref j, .ref aA] H5 Q' C8.E0 := fun aA ks u v0 H5 h1 h2 h3 h4 h5 h6 h7 Q' k => by
      have J5 := JB.same h1
      refine ⟨j, aA, dx, pA, sA, s', t, u, vs', ws, S, Ps, rfl, J5, h3, h5, ht, by omega, h6, fun e H' sm => ?_, fun k' u' g g1 g2 g3 g4 H' sm => ?_⟩
      · exact k .non H' (h1.trans sm) (sm _ _ h2) (sm.tpK h3) ⟨h4, h5, h6, h7, .inl ⟨e, rfl⟩⟩
      · exact k _ H' (h1.trans sm) (sm _ _ h2) (sm.tpK h3) ⟨h4, h5, h6, h7, .inr ⟨k', u', g, rfl, g1, g2, g3, g4⟩⟩
    refine ⟨_, rfl, j, dx, _, rfl, J4.ob, fno _ _, _, rfl, ?_⟩
    unfold tNil
    refine (go a [] s' none H4 sBs hk4 ha4 (.nil _) hst cS (by rw [f0]; rfl) _ fun v H5 s5 hk5 ha5 iv => ?_)
    refine ⟨fun m σ H6 => ∃ aA ks u v, m = far (shs s' t) t.sz u t ∧ σ = [some (.ref aA), some (.ref b), some (.ref j), some (.ref kA), v] ∧ Same HB H6 ∧ H6 kA = some (.lst (nvs ks)) ∧ TpF H6 aA (tl u) ∧ Inv' ks u v H6,
      ⟨_, a, [], s', some v, rfl, rfl, s5, hk5, ha5, iv⟩, ?_⟩
    rintro m σ H6 ⟨aA, ks, u, v, rfl, rfl, s6, hk6, ha6, iv⟩
    obtain ⟨i1, i2, i3, i4, ⟨i5, rfl⟩ | ⟨k, u', g, rfl, g1, g2, g3, g4⟩⟩ := iv
    · refine ⟨_, rfl, _, rfl, iteF ?_⟩
      refine ⟨_, rfl, ?_⟩
      have e := there i3 cT i2.symm (by rw [i2]; exact i5)
      subst e
      exact q kA ks H6 (s3.trans (sB0.trans s6)) hk6 i1 (by omega)
    · refine ⟨_, rfl, _, rfl, iteT ?_⟩
      refine ⟨fun σ' H' => ∃ m', m' < far (shs s' t) t.sz u t ∧ ∃ aA ks u v, m' = far (shs s' t) t.sz u t ∧ σ' = [some (.ref aA), some (.ref b), some (.ref j), some (.ref kA), v] ∧ Same HB H' ∧ H' kA = some (.lst (nvs ks)) ∧ TpF H' aA (tl u) ∧ Inv' ks u v H', fun _ _ z => z, ?_⟩
      obtain ⟨adj, g', c, TT, hg⟩ := up_turn u 0 k u' g1
      have eg : g' = g := Option.some.inj (hg.symm.trans g2)
      subst eg
      refine ⟨_, rfl, .inl ⟨rfl, _, SqL.of hk6⟩, _, rfl, kA, _, _, rfl, rfl, hk6, bigl (by rw [List.length_map]; omega), ?_⟩
      have s7 : Same HB (upd H6 kA (.lst (nvs (ks ++ [k])))) := s6.mut hBk
      have ha7 : TpF (upd H6 kA (.lst (nvs (ks ++ [k])))) aA (tl u) := by
        obtain ⟨o, h1, h2, e⟩ := ha6
        exact ⟨o, h1, h2, by rw [upd_ne (ne_of e hk6 (by intro z; cases z))]; exact e⟩
      have hk7 : (upd H6 kA (.lst (nvs (ks ++ [k])))) kA = some (.lst (nvs (ks ++ [k]))) := upd_same
      have ek : (nvs ks ++ [V.int ((k : Nat) : Int)]) = nvs (ks ++ [k]) := by
        unfold nvs
        rw [List.map_append]
        rfl
      rw [ek]
      generalize (upd H6 kA (.lst (nvs (ks ++ [k])))) = H7 at s7 ha7 hk7 ⊢
      refine ⟨_, rfl, _, rfl, aA, u, u', k, true, rfl, ha7.rd, by omega, g1, fun p H8 hp s8 h8 => ?_⟩
      have s78 := s7.trans s8
      have J8 := JB.same s78
      refine ⟨_, rfl, j, dx, _, rfl, J8.ob, fno _ _, _, rfl, ?_⟩
      refine (go p (ks ++ [k]) u' none H8 s78 (s8 _ _ hk7) h8 (i1.snoc g1) (by rw [← adj.sz]; exact i2) (i3.turn adj TT g3) (by rw [List.length_append, List.length_singleton]; omega) _ fun v H9 s9 hk9 ha9 iv => ?_)
      exact ⟨_, by omega, p, ks ++ [k], u', some v, rfl, rfl, s9, hk9, ha9, iv⟩
end
end Kn

set_option Elab.async false
set_option linter.all false
set_option maxRecDepth 100000
set_option maxHeartbeats 1000000
/-! WkP: apart_paper, shows_apart, the law's plain helpers. -/
namespace Kn
open PySem PySem.Spec PyProof.Rows L2

section
variable {P : Program} {w : World} {K : PySem.W.Frag} {mg : Str → Option Value} {base : Heap}
abbrev s_apart_paper : Stmt := top 42
theorem sc_apart_paper : FnScope ["one", "other", "knots", "corners", "mine", "yours"] ["one", "other"] (C8.fnScope s_apart_paper) := C8.fnScope_by (by decide +kernel)
def sp_apart_paper : Sp := fun vs H Q _ => ∃ (a b : Addr) (s t : B), vs = [.ref a, .ref b] ∧ TpF H a (tl s) ∧ TpF H b (tl t) ∧ s ≠ .lf ∧ s.sz = t.sz ∧ s.sz ≤ 1000 ∧ dist s t ≤ 1000 ∧ Sml s t ∧
  ∀ (p l l2 : Addr) (ks : List Nat) (H' : Hp), Same H H' → H' p = some (.tup [.ref l, .ref l2]) → H' l = some (.lst (nvs ks)) → ks.length = dist s t → Q (.ref p) H'
theorem ok_apart_paper (G : Gs mg) (F : Df K mg "apart_paper" s_apart_paper ["one", "other"]) (c_fewest_turns : CalN P w K mg base 10 "fewest_turns" sp_fewest_turns) (c_levels_of : CalN P w K mg base 5 "levels_of" sp_levels_of) (c_pieces : CalN P w K mg base 7 "pieces" sp_pieces) : CalN P w K mg base 11 "apart_paper" sp_apart_paper := by
  refine F.cal sc_apart_paper (fun vs H Q E h => ?_) (fun f cdv A outer s H vs Q E hr h => ?_)
  · obtain ⟨a, b, s, t, rfl, _⟩ := h
    rfl
  · obtain ⟨a, b, s', t, rfl, ha, hb, hs, hst, hz, hd, sm, q⟩ := h
    have ht : t ≠ .lf := fun e => hs (sz_zero (by rw [hst, e]; rfl))
    have cT := shs_cuts' (s := s') ht
    refine ⟨_, (pss_cons (ps_set (i := 2) sc_apart_paper.nd rfl (Or.inl rfl) (C8.pe_c c_fewest_turns hr (by decide) (by rfl) (pa_cons (pv 0) (pa_cons (pv 1) pa_nil))))
      (pss_one (ps_ret (pe_tup (pa_cons (pv 2) (pa_cons (pe_lc (own := [("corners", 3), ("mine", 4), ("yours", 5)]) (g := (gTup K 3 (gCons (gName 3) (gCons (gName 4) (gCons (gName 5) gNil))))) rfl sc_apart_paper.nd (pi_list (C8.pe_c c_pieces hr (by decide) (by rfl) (pa_cons (pv 0) (pa_cons (pv 1) pa_nil)))) (blkOk_by (N := ["one", "other", "knots", "corners", "mine", "yours"]) (sc := C8.fnScope s_apart_paper) (own := [("corners", 3), ("mine", 4), ("yours", 5)]) (by decide +kernel)) (fun _ _ _ _ _ => (pg_tup rfl (pgs_cons (pg_name (i := 3) sc_apart_paper.nd rfl (Or.inl rfl)) (pgs_cons (pg_name (i := 4) sc_apart_paper.nd rfl (Or.inl rfl)) (pgs_cons (pg_name (i := 5) sc_apart_paper.nd rfl (Or.inl rfl)) pgs_nil))))) (fun _ _ _ _ _ => pts_nil) (fun _ _ _ _ _ => (C8.pe_c c_levels_of hr (by decide) (by rfl) (pa_cons (pv 5) pa_nil)))) pa_nil)))))), ?_⟩
    refine ⟨_, rfl, _, rfl, a, b, s', t, rfl, ha, hb, hs, hst, hz, hd, sm, fun l ks H1 s1 h1 up' kl => ?_⟩
    refine ⟨_, rfl, _, rfl, _, rfl, a, b, s', t, rfl, s1.tpK ha, s1.tpK hb, hs, hst, hz, fun l2 ws Ps H2 hl0 s2 h2 hpm pp => ?_⟩
    have wl : ws.length = Ps.length := Paired.length pp
    have pl : Ps.length ≤ 1001 := by
      rw [hpm.length_eq]
      have h1 : (psl (shs s' t) t.sz).length ≤ (tops (shs s' t) t.sz).length := List.length_filter_le _ _
      have h2 := nodup_le (m := nodes t 0) (shs_nd s' t) cT.sub
      rw [nodes_len] at h2
      have h3 : (tops (shs s' t) t.sz).length = (shs s' t).length + 1 := rfl
      omega
    refine ⟨l2, rfl, ⟨_, SqL.of h2⟩, fun D hD => lc_list (K := K) (a := l2) (xs := ws) (fun i H3 => Same H2 H3 ∧ ∃ us : List V, H3 D = some (.lst us) ∧ us.length ≤ i) ⟨(Same.refl H2).new hD, [], upd_same, Nat.le_refl _⟩ (fun i H3 _ ⟨s3, _⟩ => SqL.of (s3 _ _ h2)) ?_ ?_⟩
    · rintro i x H3 hi ⟨s3, us, h3, hu⟩
      obtain ⟨R, hR, p, c, m, y, rfl, e1, e2, e3, e4⟩ := Paired.at1 pp hi
      have hi' : i < Ps.length := (List.getElem?_eq_some_iff.mp hR).1
      have hRm : R ∈ psl (shs s' t) t.sz := hpm.mem_iff.mp (List.mem_of_getElem? hR)
      have hRt := psl_sub hRm
      have hRl : 3 < (cb (shs s' t) R.1 R.2).length := of_decide_eq_true (List.mem_filter.mp hRm).2
      have psz := pc_sz cT hRt rfl
      have szz := pc_szz cT hRt hst rfl
      have s6 := sm R hRm
      refine ⟨p, _, rfl, SqT.of (s3 _ _ e1), rfl, _, _, rfl, _, _, rfl, _, _, rfl, rfl, rfl, ?_⟩
      refine ⟨_, rfl, y, _, rfl, s3 _ _ e4, fun z => by rw [z] at psz; simp only [B.sz] at psz; omega, by omega, fun l3 H4 s4 => ?_⟩
      exact ⟨us, s4 _ _ h3, bigl (by omega), (s3.trans s4).mut hD, _, upd_same, by rw [List.length_append, List.length_singleton]; omega⟩
    · rintro H3 ⟨s3, us, h3, hu⟩
      refine ⟨by show 2 ≤ sizeLine; decide, fun p hp => ?_⟩
      have s4 := (s2.trans s3).new (o := .tup [.ref l, .ref D]) hp
      exact q p l D ks _ (s1.trans s4) upd_same (s4 _ _ h1) kl
abbrev s_shows_apart : Stmt := top 44
theorem sc_shows_apart : FnScope ["one", "other", "number", "paper", "knots", "levels", "parts", "total", "part", "some"] ["one", "other", "number", "paper"] (C8.fnScope s_shows_apart) := C8.fnScope_by (by decide +kernel)
def sp_shows_apart : Sp := fun vs H Q _ => ∃ (x y : V) (z : Int) (p l l2 : Addr) (ks : List Nat), vs = [x, y, .int z, .ref p] ∧ H p = some (.tup [.ref l, .ref l2]) ∧ H l = some (.lst (nvs ks)) ∧ ((ks.length : Nat) : Int) ≠ z ∧ Q (.bl false) H
theorem ok_shows_apart (G : Gs mg) (F : Df K mg "shows_apart" s_shows_apart ["one", "other", "number", "paper"]) : CalN P w K mg base 1 "shows_apart" sp_shows_apart := by
  refine F.cal sc_shows_apart (fun vs H Q E h => ?_) (fun f cdv A outer s H vs Q E hr h => ?_)
  · obtain ⟨x, y, z, p, l, l2, ks, rfl, _⟩ := h
    rfl
  · obtain ⟨x, y, z, p, l, l2, ks, rfl, hp, hl, hne, q⟩ := h
    refine ⟨_, (pss_cons (ps_asg (pv 3) (pg_tup rfl (pgs_cons (pg_name (i := 4) sc_shows_apart.nd rfl (Or.inl rfl)) (pgs_cons (pg_name (i := 5) sc_shows_apart.nd rfl (Or.inl rfl)) pgs_nil))))
      (pss_cons (ps_if (PW.pt (pw_or (pt_cmpR op_ne (pe_callB call_len_seq (by rfl) G.len PySem.boot_len (pa_cons (pv 4) pa_nil)) (pv 2) (nomark _)) (pw_or1 pt_never))) (pss_one (ps_ret pe_bl)) pss_nil)
      pss_never)), ?_⟩
    refine ⟨_, rfl, p, _, rfl, SqT.of hp, rfl, _, _, rfl, _, _, rfl, rfl, ?_⟩
    refine ⟨_, rfl, l, _, rfl, .inl (SqL.of hl), _, rfl, rfl, _, rfl, ?_⟩
    refine iteN1 (fun e => hne (by have := V.int.inj e; rw [List.length_map] at this; exact this)) ?_
    exact iteT q
abbrev s__law_cell : Stmt := top 46
theorem sc__law_cell : FnScope ["script", "k"] ["script", "k"] (C8.fnScope s__law_cell) := C8.fnScope_by (by decide +kernel)
def sp__law_cell (K : PySem.W.Frag) : Sp := fun vs H Q _ => ∃ (a : Addr) (ns : List Int) (k : Nat), vs = [.ref a, .int (k : Nat)] ∧ SqL K H a (ivs ns) ∧ Q (.int (ns[k]?.getD 0)) H
theorem ok__law_cell (G : Gs mg) (F : Df K mg "_law_cell" s__law_cell ["script", "k"]) : CalN P w K mg base 1 "_law_cell" (sp__law_cell K) := by
  refine F.cal sc__law_cell (fun vs H Q E h => ?_) (fun f cdv A outer s H vs Q E hr h => ?_)
  · obtain ⟨a, ns, k, rfl, _⟩ := h
    rfl
  · obtain ⟨a, ns, k, rfl, ha, q⟩ := h
    refine ⟨_, (pss_cons (ps_if (pt_cmpR op_lt (pv 1) (pe_callB call_len_seq (by rfl) G.len PySem.boot_len (pa_cons (pv 0) pa_nil)) (nomark _)) (pss_one (ps_ret (pe_ix ix_list (pv 0) (pv 1) (fun _ _ => rfl)))) pss_nil)
      (pss_one (ps_ret pe_int))), ?_⟩
    refine ⟨_, rfl, _, rfl, a, _, rfl, .inl ha, _, _, rfl, rfl, _, rfl, ?_⟩
    rw [ivs_len]
    by_cases c : k < ns.length
    · refine iteD1 (by omega) ?_
      have e : ns[k]? = some ns[k] := List.getElem?_eq_getElem c
      rw [e] at q
      exact ⟨_, rfl, _, rfl, a, _, _, _, rfl, rfl, ha, atI_ivs e, q⟩
    · refine iteD0 (by omega) ?_
      rw [List.getElem?_eq_none (by omega)] at q
      exact q
abbrev s__law_whole : Stmt := top 47
theorem sc__law_whole : FnScope ["found"] ["found"] (C8.fnScope s__law_whole) := C8.fnScope_by (by decide +kernel)
def sp__law_whole : Sp := fun vs H Q _ => ∃ (z : Int), vs = [.int z] ∧ Q (.bl true) H
theorem ok__law_whole (G : Gs mg) (F : Df K mg "_law_whole" s__law_whole ["found"]) : CalN P w K mg base 1 "_law_whole" sp__law_whole := by
  refine F.cal sc__law_whole (fun vs H Q E h => ?_) (fun f cdv A outer s H vs Q E hr h => ?_)
  · obtain ⟨z, rfl, _⟩ := h
    rfl
  · obtain ⟨z, rfl, q⟩ := h
    refine ⟨_, (pss_one (ps_ret (pe_and (pe_callB call_isi (by rfl) G.isinstance (by decide +kernel) (pa_cons (pv 0) (pa_cons (pe_bltn (v := .ty "int") (by rfl) G.int (by decide +kernel) rfl) pa_nil))) (pe_one (pe_not (pe_callB call_isi (by rfl) G.isinstance (by decide +kernel) (pa_cons (pv 0) (pa_cons (pe_bltn (v := .ty "bool") (by rfl) G.bool (by decide +kernel) rfl) pa_nil)))))))), ?_⟩
    refine ⟨_, rfl, _, _, _, _, true, rfl, .ty "int", .base (.int z), kit_ty (by decide +kernel), true, rfl, ?_⟩
    refine iteT ?_
    exact ⟨_, rfl, _, _, _, _, false, rfl, .ty "bool", .base (.int z), kit_ty (by decide +kernel), false, rfl, q⟩
abbrev s__law_size : Stmt := top 56
theorem sc__law_size : FnScope ["script", "cell"] ["script"] (C8.fnScope s__law_size) := C8.fnScope_by (by decide +kernel)
def sp__law_size (K : PySem.W.Frag) : Sp := fun vs H Q _ => ∃ (a : Addr) (ns : List Int), vs = [.ref a] ∧ SqL K H a (ivs ns) ∧ ∀ (n : Nat) (H' : Hp), 1 ≤ n → n ≤ 40 → Same H H' → Q (.int (n : Nat)) H'
theorem ok__law_size (G : Gs mg) (F : Df K mg "_law_size" s__law_size ["script"]) (c__law_cell : CalN P w K mg base 1 "_law_cell" (sp__law_cell K)) : CalN P w K mg base 2 "_law_size" (sp__law_size K) := by
  refine F.cal sc__law_size (fun vs H Q E h => ?_) (fun f cdv A outer s H vs Q E hr h => ?_)
  · obtain ⟨a, ns, rfl, _⟩ := h
    rfl
  · obtain ⟨a, ns, rfl, ha, q⟩ := h
    refine ⟨_, (pss_cons (ps_set (i := 1) sc__law_size.nd rfl (Or.inl rfl) (C8.pe_c c__law_cell hr (by decide) (by rfl) (pa_cons (pv 0) (pa_cons pe_int pa_nil))))
      (pss_one (ps_ret (pe_ix ix_list (pe_lst (pa_cons (pe_op op_add pe_int (pe_op op_mod (pe_op op_fdiv (pv 1) pe_int) pe_int)) (pa_cons (pe_op op_add pe_int (pe_op op_mod (pe_op op_fdiv (pv 1) pe_int) pe_int)) (pa_cons (pe_op op_add pe_int (pe_op op_mod (pe_op op_fdiv (pv 1) pe_int) pe_int)) pa_nil)))) (pe_op op_mod (pv 1) pe_int) (fun _ _ => rfl))))), ?_⟩
    refine ⟨_, rfl, a, ns, 0, rfl, ha, ?_⟩
    generalize (ns[0]?.getD 0) = cell
    refine ⟨_, rfl, _, _, rfl, rfl, ⟨by decide, by decide⟩, _, _, rfl, rfl, (by show (0 : Int) < 6; decide), _, _, rfl, rfl, ?_⟩
    refine ⟨_, rfl, _, _, rfl, rfl, ⟨by decide, by decide⟩, _, _, rfl, rfl, (by show (0 : Int) < 40; decide), _, _, rfl, rfl, ?_⟩
    refine ⟨_, rfl, _, _, rfl, rfl, ⟨by decide, by decide⟩, _, _, rfl, rfl, (by show (0 : Int) < 3; decide), _, _, rfl, rfl, ?_⟩
    refine ⟨by show 3 ≤ sizeLine; decide, fun p hp => ?_⟩
    dsimp only
    refine ⟨_, rfl, _, _, rfl, rfl, (by show (0 : Int) < 3; decide), ?_⟩
    have s1 := (Same.refl H).new (o := .lst [.int (1 + cell / 3 % 6), .int (1 + cell / 3 % 40), .int (3 + cell / 3 % 3)]) hp
    have h0 : cell % 3 = 0 ∨ cell % 3 = 1 ∨ cell % 3 = 2 := by omega
    have fin : ∀ z : Int, 1 ≤ z → z ≤ 40 → Q (.int z) (upd H p (.lst [.int (1 + cell / 3 % 6), .int (1 + cell / 3 % 40), .int (3 + cell / 3 % 3)])) := fun z h1 h2 => by
      have := q z.toNat _ (by omega) (by omega) s1
      rw [Int.toNat_of_nonneg (by omega)] at this
      exact this
    dsimp only
    rcases h0 with e | e | e
    · rw [e]
      exact ⟨p, _, _, _, rfl, rfl, SqL.of upd_same, rfl, fin _ (by omega) (by omega)⟩
    · rw [e]
      exact ⟨p, _, _, _, rfl, rfl, SqL.of upd_same, rfl, fin _ (by omega) (by omega)⟩
    · rw [e]
      exact ⟨p, _, _, _, rfl, rfl, SqL.of upd_same, rfl, fin _ (by omega) (by omega)⟩
end
end Kn

set_option Elab.async false
set_option linter.all false
set_option maxRecDepth 100000
set_option maxHeartbeats 1000000
/-! WkQ: the law's turns. -/
namespace Kn
open PySem PySem.Spec PyProof.Rows L2

/-- the law's own turned, i places told -/
structure Ltr (ns b0 L : List Int) (k ab i : Nat) : Prop where
  len : L.length = ns.length
  at_ : ∀ j : Nat, j < ns.length → L[j]? = if j < i ∧ ns[j]? = some (k : Int) ∧ (k < j ↔ k < ab) then some (ab : Int) else b0[j]?
theorem ltr_end {t t' : B} {k ab : Nat} {g : Int} {L : List Int} (U : UpPar t t' 0 k (-1) ab g) (hz : t.sz = t'.sz) (hk : k < t.sz) (h : Ltr (tl t) (((tl t).set k g).set ab (k : Int)) L k ab t.sz) : L = tl t' := by
  have hl : (tl t).length = t.sz := par_len t 0 (-1)
  have hl' : (tl t').length = t.sz := by rw [par_len, ← hz]
  have hab := U.hi
  have hne := U.ne
  have lo : (-1 : Int) < ((0 : Nat) : Int) ∨ ((0 : Nat) : Int) + t.sz ≤ -1 := .inl (by omega)
  apply List.ext_getElem?
  intro j
  by_cases hj : j < t.sz
  · rw [h.at_ j (by rw [hl]; exact hj), U.all j]
    have e0 : ∀ m : Nat, ((0 + m : Nat) : Int) = ((m : Nat) : Int) := fun m => by rw [Nat.zero_add]
    have hkk : (par t 0 (-1))[k]? = some ((ab : Nat) : Int) := U.hk
    have b0 : (((tl t).set k g).set ab (k : Int))[j]? = if j = ab then some (k : Int) else if j = k then some g else (tl t)[j]? := by
      rw [List.getElem?_set, List.length_set]
      by_cases c : ab = j
      · rw [if_pos c, if_pos (by omega), if_pos c.symm]
      · rw [if_neg c, if_neg (fun z => c z.symm), List.getElem?_set]
        by_cases d : k = j
        · rw [if_pos d, if_pos (by omega), if_pos d.symm]
        · rw [if_neg d, if_neg (fun z => d z.symm)]
    rw [b0]
    by_cases c1 : j = k
    · subst c1
      rw [if_pos rfl, if_neg, if_neg (fun z => hne (by omega)), if_pos rfl]
      rintro ⟨_, z, _⟩
      rw [hkk] at z
      have := Option.some.inj z
      omega
    · simp only [if_neg c1, Nat.zero_add]
      by_cases c2 : j = ab
      · subst c2
        rw [if_neg]
        · simp only [if_true]
        rintro ⟨_, z, _⟩
        exact par_cyc (t := t) (o := 0) (a := -1) (i := k) (j := j) lo hk hj (by rw [e0]; exact hkk) (by rw [e0]; exact z)
      · simp only [if_neg c2]
        by_cases c3 : (tl t)[j]? = some (k : Int) ∧ (k < j ↔ k < ab)
        · rw [if_pos ⟨hj, c3.1, c3.2⟩, if_pos c3]
        · rw [if_neg (fun z => c3 ⟨z.2.1, z.2.2⟩), if_neg c3]
  · rw [List.getElem?_eq_none (by rw [h.len, hl]; omega), List.getElem?_eq_none (by rw [hl']; omega)]
section
variable {P : Program} {w : World} {K : PySem.W.Frag} {mg : Str → Option Value} {base : Heap}
abbrev s__law_turned : Stmt := top 54
theorem sc__law_turned : FnScope ["tree", "knot", "behind", "above", "other"] ["tree", "knot"] (C8.fnScope s__law_turned) := C8.fnScope_by (by decide +kernel)
theorem ok__law_turned (G : Gs mg) (F : Df K mg "_law_turned" s__law_turned ["tree", "knot"]) : CalN P w K mg base 1 "_law_turned" sp_turned := by
  refine F.cal sc__law_turned (fun vs H Q E h => ?_) (fun f cdv A outer s H vs Q E hr h => ?_)
  · obtain ⟨a, t, t', k, b, rfl, _⟩ := h
    rfl
  · obtain ⟨a, t, t', k, b, rfl, ha, hz, hu, q⟩ := h
    obtain ⟨ab, g, U⟩ := up_par (o := 0) (a := -1) hu (.inl (by omega))
    have hk : k < t.sz := up_lt _ _ _ hu
    have hab := U.hi
    have hne := U.ne
    have hl : (tl t).length = t.sz := par_len t 0 (-1)
    have hkk : (tl t)[k]? = some ((ab : Nat) : Int) := U.hk
    have hg : (tl t)[ab]? = some g := U.hg
    have hsz := (up_turn t 0 k t' hu).1.sz
    refine ⟨_, (pss_cons (ps_set (i := 2) sc__law_turned.nd rfl (Or.inl rfl) (pe_callTy call_list_of (by rfl) G.list (by decide +kernel) (pa_cons (pv 0) pa_nil)))
      (pss_cons (ps_set (i := 3) sc__law_turned.nd rfl (Or.inl rfl) (pe_ix ix_tup (pv 0) (pv 1) (fun _ _ => rfl)))
      (pss_cons (ps_asg (pe_ix ix_tup (pv 0) (pv 3) (fun _ _ => rfl)) (pg_sub (pv 2) (pv 1) set_list))
      (pss_cons (ps_asg (pv 1) (pg_sub (pv 2) (pv 3) set_list))
      (pss_cons (ps_for PassesOwn.never rfl (pi_range1 (by rfl) G.range (pa_cons (pe_callB call_len_seq (by rfl) G.len PySem.boot_len (pa_cons (pv 0) pa_nil)) pa_nil)) (pg_name (i := 4) sc__law_turned.nd rfl (Or.inl rfl)) (pss_one (ps_if (PW.pt (pw_and (pt_cmpR op_eq (pe_ix ix_tup (pv 0) (pv 4) (fun _ _ => rfl)) (pv 1) (nomark _)) (pw_and1 (pt_cmpR op_eq (pe_cmpR op_gt (pv 4) (pv 1) (nomark _)) (pe_cmpR op_gt (pv 3) (pv 1) (nomark _)) (nomark _))))) (pss_one (ps_asg (pv 3) (pg_sub (pv 2) (pv 4) set_list))) pss_nil)))
      (pss_one (ps_ret (pe_callTy call_tupX (by rfl) G.tuple (by decide +kernel) (pa_cons (pv 2) pa_nil))))))))), ?_⟩
    refine ⟨_, rfl, a, _, rfl, .inr ha.sq, fun l hl0 => ?_⟩
    have nal : ∀ {H1 : Hp} {o : HO}, Same H H1 → RdT (upd H1 l o) a (tl t) := fun {H1 o} s1 => (s1.mut hl0).rdT ha
    refine ⟨_, rfl, _, rfl, a, _, _, _, rfl, rfl, (nal (Same.refl H)).sq, atI_ivs hkk, ?_⟩
    refine ⟨_, rfl, _, rfl, a, _, _, _, rfl, rfl, (nal (Same.refl H)).sq, atI_ivs hg, _, rfl, _, rfl, l, _, _, k, rfl, rfl, upd_same, ixN_of (by rw [ivs_len]; omega), ?_⟩
    refine ⟨_, rfl, _, rfl, _, rfl, l, _, _, ab, rfl, rfl, upd_same, ixN_of (by rw [List.length_set, ivs_len]; omega), ?_⟩
    rw [upd_upd, upd_upd, ivs_set, ivs_set]
    have sl : Same H (upd H l (.lst (ivs (((tl t).set k g).set ab (k : Int))))) := (Same.refl H).new hl0
    refine ⟨_, rfl, a, _, rfl, .inr (nal (Same.refl H)).sq, _, rfl, by rw [ivs_len]; omega, by rw [ivs_len]; omega,
      for_range (lo := 0) (n := (((ivs (tl t)).length : Nat) : Int).toNat) (fun i σ H2 => (∃ v, σ = [some (.ref a), some (.int (k : Nat)), some (.ref l), some (.int (ab : Nat)), v]) ∧ Same H H2 ∧ ∃ L, H2 l = some (.lst (ivs L)) ∧ Ltr (tl t) (((tl t).set k g).set ab (k : Int)) L k ab i) ⟨⟨_, rfl⟩, sl, _, upd_same, by rw [List.length_set, List.length_set], fun j _ => by rw [if_neg (fun z => Nat.not_lt_zero _ z.1)]⟩ ?_ ?_⟩
    · rintro i σ H2 hi ⟨⟨v, rfl⟩, s2, L, h2, lt⟩
      have hi' : i < t.sz := by rw [ivs_len] at hi; omega
      have e0 : (0 : Int) + (i : Nat) = ((i : Nat) : Int) := Int.zero_add _
      rw [e0]
      obtain ⟨z, hzz⟩ : ∃ z, (tl t)[i]? = some z := ⟨_, List.getElem?_eq_getElem (by omega)⟩
      have skip : ¬ ((tl t)[i]? = some (k : Int) ∧ (k < i ↔ k < ab)) → Ltr (tl t) (((tl t).set k g).set ab (k : Int)) L k ab (i + 1) := fun h => by
        refine ⟨lt.len, fun j hj => ?_⟩
        rw [lt.at_ j hj]
        by_cases e : j = i
        · subst e
          rw [if_neg (fun z => Nat.lt_irrefl _ z.1), if_neg (fun z => h z.2)]
        · by_cases c : j < i ∧ (tl t)[j]? = some (k : Int) ∧ (k < j ↔ k < ab)
          · rw [if_pos c, if_pos ⟨by omega, c.2⟩]
          · rw [if_neg c, if_neg (fun z => c ⟨by omega, z.2⟩)]
      refine ⟨_, rfl, _, rfl, a, _, _, _, rfl, rfl, (s2.rdT ha).sq, atI_ivs hzz, _, rfl, rfl, _, rfl, ?_⟩
      by_cases c1 : z = (k : Int)
      · refine iteD1 (by rw [c1]) ?_
        refine ⟨_, rfl, _, rfl, _, _, rfl, rfl, _, rfl, _, rfl, _, _, rfl, rfl, rfl, _, rfl, ?_⟩
        by_cases c2 : (k < i ↔ k < ab)
        · refine iteD1 (congrArg V.bl (decide_eq_decide.mpr (by omega))) ?_
          refine ⟨_, rfl, _, rfl, _, rfl, l, _, _, i, rfl, rfl, h2, ixN_of (by rw [ivs_len, lt.len]; omega), ?_⟩
          rw [ivs_set]
          refine ⟨⟨_, rfl⟩, s2.mut hl0, _, upd_same, by rw [List.length_set]; exact lt.len, fun j hj => ?_⟩
          rw [List.getElem?_set]
          by_cases e : i = j
          · subst e
            rw [if_pos rfl, if_pos (by rw [lt.len]; exact hj), if_pos ⟨by omega, by rw [hzz, c1], c2⟩]
          · rw [if_neg e, lt.at_ j hj]
            by_cases c : j < i ∧ (tl t)[j]? = some (k : Int) ∧ (k < j ↔ k < ab)
            · rw [if_pos c, if_pos ⟨by omega, c.2⟩]
            · rw [if_neg c, if_neg (fun z => c ⟨by omega, z.2⟩)]
        · refine iteD0 (fun z => c2 ?_) ?_
          · have := decide_eq_decide.mp (V.bl.inj z)
            omega
          · exact ⟨⟨_, rfl⟩, s2, L, h2, skip fun z => c2 z.2⟩
      · refine iteD0 (fun e => c1 (V.int.inj e)) ?_
        exact ⟨⟨_, rfl⟩, s2, L, h2, skip fun e => c1 (by have := e.1; rw [hzz] at this; exact Option.some.inj this)⟩
    · rintro σ H2 ⟨⟨v, rfl⟩, s2, L, h2, lt⟩
      have en : (((ivs (tl t)).length : Nat) : Int).toNat = t.sz := by rw [ivs_len]; omega
      rw [en] at lt
      rw [ltr_end U hsz hk lt] at h2
      refine ⟨_, rfl, l, _, b, rfl, SqL.of h2, fun p H' hp sm tp => ?_⟩
      exact q p H' (s2.free hp) (s2.trans sm) tp
abbrev s__law_gone : Stmt := top 57
theorem sc__law_gone : FnScope ["tree", "cells", "cell", "knot"] ["tree", "cells"] (C8.fnScope s__law_gone) := C8.fnScope_by (by decide +kernel)
def sp__law_gone (K : PySem.W.Frag) : Sp := fun vs H Q _ => ∃ (a c : Addr) (s : B) (ns : List Int), vs = [.ref a, .ref c] ∧ TpF H a (tl s) ∧ s ≠ .lf ∧ s.sz ≤ 1000 ∧ SqL K H c (ivs ns) ∧ ∀ (p : Addr) (t : B) (m : Nat) (H' : Hp), Same H H' → TpF H' p (tl t) → Walk m s t → m ≤ ns.length → Q (.ref p) H'
theorem sq_same {K : PySem.W.Frag} {H H' : Hp} {c : Addr} {xs : List V} (k : Same H H') (h : SqL K H c xs) : SqL K H' c xs := k.seq h
theorem ok__law_gone (G : Gs mg) (F : Df K mg "_law_gone" s__law_gone ["tree", "cells"]) (c__law_turned : CalN P w K mg base 1 "_law_turned" sp_turned) : CalN P w K mg base 2 "_law_gone" (sp__law_gone K) := by
  refine F.cal sc__law_gone (fun vs H Q E h => ?_) (fun f cdv A outer s H vs Q E hr h => ?_)
  · obtain ⟨a, c, s, ns, rfl, _⟩ := h
    rfl
  · obtain ⟨a, c, s', ns, rfl, ha, hs, hz, hc, q⟩ := h
    have hzp := sz_pos hs
    refine ⟨_, (pss_cons (ps_for PassesOwn.never rfl (pi_list (pv 1)) (pg_name (i := 2) sc__law_gone.nd rfl (Or.inl rfl)) (pss_cons (ps_set (i := 3) sc__law_gone.nd rfl (Or.inl rfl) (pe_op op_mod (pe_op op_fdiv (pe_op op_mod (pv 2) pe_int) pe_int) (pe_callB call_len_seq (by rfl) G.len PySem.boot_len (pa_cons (pv 0) pa_nil))))
      (pss_one (ps_if (pt_cmpR op_ge (pe_ix ix_tup (pv 0) (pv 3) (fun _ _ => rfl)) pe_int (nomark _)) (pss_one (ps_set (i := 0) sc__law_gone.nd rfl (Or.inl rfl) (C8.pe_c c__law_turned hr (by decide) (by rfl) (pa_cons (pv 0) (pa_cons (pv 3) pa_nil))))) pss_nil))))
      (pss_one (ps_ret (pv 0)))), ?_⟩
    refine ⟨_, rfl, c, rfl, ⟨_, hc⟩, for_list (K := K) (a := c) (xs := ivs ns) (fun i σ H2 => (∃ p t m x y, σ = [some (.ref p), some (.ref c), x, y] ∧ TpF H2 p (tl t) ∧ Walk m s' t ∧ m ≤ i) ∧ Same H H2) ⟨⟨a, s', 0, _, _, rfl, ha, .nil s', Nat.le_refl _⟩, Same.refl H⟩ (fun i σ H2 _ ⟨_, s2⟩ => sq_same s2 hc) ?_ ?_⟩
    · rintro i v σ H2 hi ⟨⟨p, t, m, x, y, rfl, hp, wk, hm⟩, s2⟩
      obtain ⟨cell, rfl, _⟩ := at_ivs hi
      have tz := wk.sz
      have hl : (tl t).length = t.sz := par_len t 0 (-1)
      refine ⟨_, rfl, _, _, rfl, rfl, (by show (0 : Int) < 2305843009213693951; decide), _, _, rfl, rfl, ⟨by decide, by decide⟩, _, rfl, p, _, rfl, .inr hp.rd.sq, _, _, rfl, rfl, (by rw [ivs_len, hl]; omega), ?_⟩
      dsimp only
      rw [ivs_len, hl]
      have h0 := Int.emod_nonneg (cell % 2305843009213693951 / 7) (show (t.sz : Int) ≠ 0 by omega)
      have h1 := Int.emod_lt_of_pos (cell % 2305843009213693951 / 7) (show 0 < (t.sz : Int) by omega)
      obtain ⟨k, hk⟩ : ∃ k : Nat, cell % 2305843009213693951 / 7 % (t.sz : Int) = (k : Int) := ⟨_, (Int.toNat_of_nonneg h0).symm⟩
      rw [hk] at h1 ⊢
      have hk' : k < t.sz := by omega
      rcases up_iff hk' with ⟨_, e2, _⟩ | ⟨_, v', e2, t', hu⟩
      · refine ⟨_, rfl, _, rfl, p, _, _, _, rfl, rfl, hp.rd.sq, atI_ivs e2, _, _, rfl, rfl, _, rfl, iteD0 (by omega) ?_⟩
        exact ⟨⟨p, t, m, _, _, rfl, hp, wk, by omega⟩, s2⟩
      · refine ⟨_, rfl, _, rfl, p, _, _, _, rfl, rfl, hp.rd.sq, atI_ivs e2, _, _, rfl, rfl, _, rfl, iteD1 (by omega) ?_⟩
        refine ⟨_, rfl, _, rfl, p, t, t', k, true, rfl, hp.rd, by omega, hu, fun p2 H3 hp2 s3 h3 => ?_⟩
        exact ⟨⟨p2, t', m + 1, _, _, rfl, h3, wk.trans (.one (up_turn t 0 k t' hu).1), by omega⟩, s2.trans s3⟩
    · rintro σ H2 ⟨⟨p, t, m, x, y, rfl, hp, wk, hm⟩, s2⟩
      rw [ivs_len] at hm
      exact ⟨_, rfl, q p t m H2 s2 hp wk hm⟩
abbrev s__law_walked : Stmt := top 59
theorem sc__law_walked : FnScope ["tree", "knots", "knot"] ["tree", "knots"] (C8.fnScope s__law_walked) := C8.fnScope_by (by decide +kernel)
def sp__law_walked : Sp := fun vs H Q _ => ∃ (a l : Addr) (s t : B) (ks : List Nat), vs = [.ref a, .ref l] ∧ TpF H a (tl s) ∧ s.sz ≤ 1000 ∧ H l = some (.lst (nvs ks)) ∧ Ups s ks t ∧ ∀ (p : Addr) (H' : Hp), Same H H' → TpF H' p (tl t) → Q (.ref p) H'
theorem Ups.at {s t : B} {ks : List Nat} (h : Ups s ks t) : ∀ i, ∃ u, Ups s (ks.take i) u ∧ Ups u (ks.drop i) t := by
  induction h with
  | nil t => intro i; rw [List.take_nil, List.drop_nil]; exact ⟨t, .nil t, .nil t⟩
  | cons e h ih =>
    intro i
    cases i with
    | zero => exact ⟨_, .nil _, .cons e h⟩
    | succ i =>
      obtain ⟨u, a, b⟩ := ih i
      exact ⟨u, .cons e a, b⟩
theorem ok__law_walked (G : Gs mg) (F : Df K mg "_law_walked" s__law_walked ["tree", "knots"]) (c__law_whole : CalN P w K mg base 1 "_law_whole" sp__law_whole) (c__law_turned : CalN P w K mg base 1 "_law_turned" sp_turned) : CalN P w K mg base 2 "_law_walked" sp__law_walked := by
  refine F.cal sc__law_walked (fun vs H Q E h => ?_) (fun f cdv A outer s H vs Q E hr h => ?_)
  · obtain ⟨a, l, s, t, ks, rfl, _⟩ := h
    rfl
  · obtain ⟨a, l, s', t, ks, rfl, ha, hz, hll, hU, q⟩ := h
    refine ⟨_, (pss_cons (ps_for PassesOwn.never rfl (pi_list (pv 1)) (pg_name (i := 2) sc__law_walked.nd rfl (Or.inl rfl)) (pss_cons (ps_if (PW.pt (pw_or (pt_not (pt_val (C8.pe_c c__law_whole hr (by decide) (by rfl) (pa_cons (pv 2) pa_nil)))) (pw_or (pt_cmpR op_lt (pv 2) pe_int (nomark _)) (pw_or (pt_cmpR op_ge (pv 2) (pe_callB call_len_seq (by rfl) G.len PySem.boot_len (pa_cons (pv 0) pa_nil)) (nomark _)) (pw_or1 (pt_cmpR op_lt (pe_ix ix_tup (pv 0) (pv 2) (fun _ _ => rfl)) pe_int (nomark _))))))) (pss_one (ps_ret pe_non)) pss_nil)
      (pss_one (ps_set (i := 0) sc__law_walked.nd rfl (Or.inl rfl) (C8.pe_c c__law_turned hr (by decide) (by rfl) (pa_cons (pv 0) (pa_cons (pv 2) pa_nil)))))))
      (pss_one (ps_ret (pv 0)))), ?_⟩
    refine ⟨_, rfl, l, rfl, ⟨_, SqL.of hll⟩, for_list (K := K) (a := l) (xs := nvs ks) (fun i σ H2 => (∃ p u x, σ = [some (.ref p), some (.ref l), x] ∧ TpF H2 p (tl u) ∧ u.sz = s'.sz ∧ Ups u (ks.drop i) t) ∧ Same H H2) ⟨⟨a, s', _, rfl, ha, rfl, hU⟩, Same.refl H⟩ (fun i σ H2 _ ⟨_, s2⟩ => SqL.of (s2 _ _ hll)) ?_ ?_⟩
    · rintro i v σ H2 hi ⟨⟨p, u, x, rfl, hp, uz, hu⟩, s2⟩
      obtain ⟨k, hk, rfl⟩ : ∃ k, ks[i]? = some k ∧ v = V.int (k : Nat) := by
        rw [List.getElem?_map] at hi
        cases e : ks[i]? with
        | none => rw [e] at hi; cases hi
        | some c' => rw [e] at hi; exact ⟨c', rfl, (Option.some.inj hi).symm⟩
      have hi' : i < ks.length := (List.getElem?_eq_some_iff.mp hk).1
      have ed : ks.drop i = k :: ks.drop (i + 1) := by
        rw [List.drop_eq_getElem_cons hi']
        congr 1
        exact (List.getElem?_eq_some_iff.mp hk).2
      rw [ed] at hu
      cases hu with
      | @cons _ u' _ _ _ hup hrest =>
        have hk' := up_lt _ _ _ hup
        have hl : (tl u).length = u.sz := par_len u 0 (-1)
        obtain ⟨adj, _⟩ := up_turn u 0 k u' hup
        rcases up_iff hk' with ⟨_, _, e3⟩ | ⟨_, v', e2, _⟩
        · rw [hup] at e3; cases e3
        · refine ⟨_, rfl, _, rfl, true, rfl, iteF ?_⟩
          refine ⟨_, rfl, _, _, rfl, rfl, _, rfl, iteD0 (by omega) ?_⟩
          refine ⟨_, rfl, _, rfl, p, _, rfl, .inr hp.rd.sq, _, _, rfl, rfl, _, rfl, iteD0 (by rw [ivs_len, hl]; omega) ?_⟩
          refine ⟨_, rfl, _, rfl, p, _, _, _, rfl, rfl, hp.rd.sq, atI_ivs e2, _, _, rfl, rfl, _, rfl, iteD0 (by omega) ?_⟩
          refine ⟨_, rfl, _, rfl, p, u, u', k, true, rfl, hp.rd, by omega, hup, fun p2 H3 hp2 s3 h3 => ?_⟩
          exact ⟨⟨p2, u', _, rfl, h3, by rw [← adj.sz]; exact uz, hrest⟩, s2.trans s3⟩
    · rintro σ H2 ⟨⟨p, u, x, rfl, hp, uz, hu⟩, s2⟩
      have ed : ks.drop (nvs ks).length = [] := by rw [List.length_map, List.drop_length]
      rw [ed] at hu
      cases hu
      exact ⟨_, rfl, q p H2 s2 hp⟩
abbrev s__law_apart : Stmt := top 60
theorem sc__law_apart : FnScope ["one", "other", "far"] ["one", "other"] (C8.fnScope s__law_apart) := C8.fnScope_by (by decide +kernel)
theorem ok__law_apart (G : Gs mg) (F : Df K mg "_law_apart" s__law_apart ["one", "other"]) (c_apart_by : CalN P w K mg base 8 "apart_by" sp_apart_by) : CalN P w K mg base 9 "_law_apart" sp_apart_by := by
  refine F.cal sc__law_apart (fun vs H Q E h => ?_) (fun f cdv A outer s H vs Q E hr h => ?_)
  · obtain ⟨a, b, s, t, rfl, _⟩ := h
    rfl
  · obtain ⟨a, b, s', t, rfl, ha, hb, hs, hst, hz, sm, q⟩ := h
    refine ⟨_, (pss_cons (ps_set (i := 2) sc__law_apart.nd rfl (Or.inl rfl) pe_non)
      (pss_cons (ps_try_thru0 (pss_one (ps_set (i := 2) sc__law_apart.nd rfl (Or.inl rfl) (C8.pe_c c_apart_by hr (by decide) (by rfl) (pa_cons (pv 0) (pa_cons (pv 1) pa_nil))))))
      (pss_one (ps_ret (pv 2))))), ?_⟩
    exact ⟨_, rfl, _, rfl, a, b, s', t, rfl, ha, hb, hs, hst, hz, sm, fun H1 s1 => ⟨_, rfl, q H1 s1⟩⟩
end
end Kn

set_option Elab.async false
set_option linter.all false
set_option maxRecDepth 100000
set_option maxHeartbeats 1000000
/-! WkU: a lambda as a key. -/
namespace Kn
open PySem PySem.Spec PyProof.Rows L2 LamX

/-- a call of a lambda with one parameter -/
theorem lam1 {prog : Program} {w : World} {A : Around} {s : Shared} {f c' : Addr} {qual p : Str} {params : Arguments} {body : Expr} {scope : Scope} {cl : List (Str × Addr)} {pm ctv u : Value} {Q : Value → Shared → Prop} {E : Value → Shared → Prop}
    (hf : s.heap.get? f = some (PySem.W.kla_obj "<lambda>" qual params body scope cl pm c' ctv)) (hcd : s.heap.CodeRec (.ref c') qual) (hroom : A.depth < recursionLimit) (nl : s.heap.NoLimit)
    (hk : scope.kind = .function) (hco : scope.isCoroutine = false) (hgen : scope.isGenerator = false) (hcell : ∀ x ∈ scope.names, x.2 ≠ .cell) (hp : scope.names.lookup p = some .local)
    (hbind : bindArgs (PySem.W.kla_fn "<lambda>" qual params body scope cl pm (.ref c') ctv) ⟨[u], []⟩ = pure [(p, u)])
    (h : ∀ h₁ : Heap, (∀ b o, s.heap.get? b = some o → h₁.get? b = some o) → h₁.Ns s.heap.objs.size (fun y => [(p, u)].reverse.lookup y) →
      wpAny (model prog w) (A.deeper (PySem.W.envX qual scope s.heap.objs.size f (.ref c') cl)) (eval body (PySem.W.envX qual scope s.heap.objs.size f (.ref c') cl)) Q (fun _ _ => False) { s with heap := h₁, toks := s.toks + 1 }) :
    wpAny (model prog w) A (call (.ref f) [u]) Q E s := by
  refine wpAny_call ?_
  refine PySem.W.kla_callFunE hroom hf rfl hco hgen rfl hcd ?_
  rw [hbind]
  refine wpAny_pure (wpAny_newFunctionEnv hcell (fun y hy => ?_) (fun h₁ hns hsb => ⟨nl.fresh _ hsb, ?_⟩) hk)
  · have : y = (p, u) := by simpa using hy
    rw [this]
    exact hp
  · show codeAny _ _ (.expr body (PySem.W.envX qual scope s.heap.objs.size f (.ref c') cl)) _ _
    have kp : ∀ b o, s.heap.get? b = some o → h₁.get? b = some o := fun b o e => hsb.extBut b o (Nat.ne_of_lt (Heap.lt_size e)) (Heap.get?_push_of_some _ e)
    exact PySem.W.kla_codeExpr (wpAny_mono (h h₁ kp hns) (fun v s' q => q) fun e s' q => q.elim)
section
variable {prog : Program} {w : World} {A : Around} {E : Value → Shared → Prop} {s : Shared} {L f l cc : Addr} {qual : Str} {scope : Scope} {cl : List (Str × Addr)} {cdv : Value} {Q : Value → Shared → Prop} {p1 p2 p3 p4 p5 : Pos} {a b : Str}
/-- (xs[k], k) in a lambda: xs captured, k its parameter -/
theorem body_pair {kk : Nat} {k : Nat} {t : Tok} {its : Array Value} {x : Value} (hk : scope.kind = .function) (ha : scope.names.lookup a = some .free) (hb : scope.names.lookup b = some .local) (hcl : cl.lookup a = some cc)
    (hc : s.heap.IsCell cc (some (.ref l))) (hl : s.heap.IsList l its) (hx : its[k]? = some x) (hz : its.size ≤ sizeLine) (hn : s.heap.Ns L (fun y => [(b, Value.int (k : Int) t)].reverse.lookup y))
    (h : Q (.ref s.heap.objs.size) { s with heap := s.heap.push { cls := .type "tuple", data := .seq #[x, .int (k : Int) t] } })
    (d1 : (a == ("__debug__" : Str)) = false := by decide) (d2 : (a == ("__classdict__" : Str)) = false := by decide) (d3 : (b == ("__debug__" : Str)) = false := by decide) :
    wpAny (model prog w) A (eval (.Tuple [.Subscript (.Name a p1) (.Name b p2) p3, .Name b p4] kk p5) (PySem.W.envX qual scope L f cdv cl)) Q E s := by
  have vb : (fun y => [(b, Value.int (k : Int) t)].reverse.lookup y) b = some (.int (k : Int) t) := by simp
  have nb : ∀ {p : Pos} {Q' : Value → Shared → Prop}, Q' (.int (k : Int) t) s → wpAny (model prog w) A (eval (.Name b p) (PySem.W.envX qual scope L f cdv cl)) Q' E s := fun {p Q'} q =>
    wpAny_Name (wpAny_loadName_local hk hb hn vb q) d3
  have hkz : k < its.size := (Array.getElem?_eq_some_iff.mp hx).1
  refine wpAny_Tuple_spliced ?_
  show wpAny _ _ (spliced ((false, eval (.Subscript (.Name a p1) (.Name b p2) p3) _) :: [(false, eval (.Name b p4) _)])) _ _ _
  refine Calls.spliced_cons ?_
  refine Subscript_ (wpAny_Name (wpAny_loadName_free hk ha hcl hc ?_ d2) d1)
  refine nb ?_
  refine item_listR hl (by omega) (by have := line63; omega) (by rw [Int.toNat_natCast]; exact hx) ?_
  refine Calls.spliced_cons (nb (Calls.spliced_nil ⟨by show 2 ≤ sizeLine; decide, h⟩))
/-- d[k] in a lambda -/
theorem body_get {k : Int} {t : Tok} {vs : List (L2.Key × Value)} {x : Value} (hk : scope.kind = .function) (ha : scope.names.lookup a = some .free) (hb : scope.names.lookup b = some .local) (hcl : cl.lookup a = some cc)
    (hc : s.heap.IsCell cc (some (.ref l))) (hl : s.heap.DictOf (mixKind prog w) l vs) (hx : valueAt vs (.inl k) = some x) (hn : s.heap.Ns L (fun y => [(b, Value.int k t)].reverse.lookup y))
    (h : Q x { s with toks := s.toks + 1 })
    (d1 : (a == ("__debug__" : Str)) = false := by decide) (d2 : (a == ("__classdict__" : Str)) = false := by decide) (d3 : (b == ("__debug__" : Str)) = false := by decide) :
    wpAny (model prog w) A (eval (.Subscript (.Name a p1) (.Name b p2) p3) (PySem.W.envX qual scope L f cdv cl)) Q E s := by
  have vb : (fun y => [(b, Value.int k t)].reverse.lookup y) b = some (.int k t) := by simp
  refine subD_of PySem.F.slot_dict_getitem.lookup (fun _ _ => rfl) (wpAny_Name (wpAny_loadName_free hk ha hcl hc ?_ d2) d1)
  refine wpAny_Name (wpAny_loadName_local hk hb hn vb ?_) d3
  exact ⟨hl.typeIs, wpAny_getItem_of (kV_is (k := .inl k) ⟨t, rfl⟩) hl.mapOf hx h⟩
end
/-! ### sorted(range(n), key=lambda k: (xs[k], k)) -/
def RgO (r : Addr) (n : Nat) : HO := .ext fun h => ∃ t u v, IsRange h r 0 (n : Int) 1 t u v
def tRgO (ta : TE) : TE := fun σ H Q => ta σ H fun x H1 => ∃ n : Nat, x = .int (n : Nat) ∧ ∀ r, H1 r = none → Q (.ref r) (upd H1 r (RgO r n))
theorem pe_rangeO {X : Cx} {a : Expr} {ta : TE} {p pos : Pos} (hg : Gl X "range") (hm : X.mg "range" = none) (ha : PE X a ta) (na : starEach [a] X.env = (false, eval a X.env) :: starEach [] X.env := by rfl) : PE X (.Call (.Name "range" p) [a] [] pos) (tRgO ta) := by
  refine ⟨fun pins s σ H Q I h => ?_⟩
  refine Call_ (ld_blt I hg hm boot_range (PyProof.Rows.callWith_type1 (one_arg ha I h (fun v s2 x H2 I2 r q => ?_) na) na))
  obtain ⟨n, rfl, q⟩ := q
  obtain ⟨t, rfl⟩ := r
  have nw := I2.hok.fresh (Nat.le_refl s2.heap.objs.size)
  refine call_range_1 ⟨.ref s2.heap.objs.size, upd H2 s2.heap.objs.size (RgO s2.heap.objs.size n), I2.laid (fun b u e => Heap.get?_push_of_some _ e) (Nat.le_refl _) ?_, rfl, q _ nw⟩
  refine ⟨⟨_, _, _, IsRange.new _ _ _ _ _ _ _⟩, ⟨_, Heap.get?_push_size _ rfl⟩, fun h1 h2 ⟨t, u, v, e⟩ k => ⟨t, u, v, k _ e⟩⟩
theorem rgO_ne {r : Addr} {n : Nat} (ps : Array Value) : RgO r n ≠ .tbl ps := fun z => by
  unfold RgO at z
  cases z
theorem ItemsOf.get {P : Nat → Value → Prop} {acc : Array Value} {n : Nat} (h : ItemsOf P acc n) {i : Nat} {v : Value} (e : acc.toList[i]? = some v) : P i v := h.2 i v (by rw [← Array.getElem?_toList]; exact e)
open PySem.W in
theorem each_range : ∀ {vs : List Value} {o n : Nat}, vs.length = n → (∀ i v, vs[i]? = some v → ∃ t, v = Value.int ((o + i : Nat) : Int) t) → EachIs (fun (v : Value) (j : Nat) => ∃ t, v = Value.int (j : Int) t) vs (List.range' o n)
  | [], o, n, h, _ => by
    have : n = 0 := h.symm
    subst this
    exact .nil
  | v :: vs, o, n, h, k => by
    obtain ⟨m, rfl⟩ : ∃ m, n = m + 1 := ⟨vs.length, by simpa using h.symm⟩
    rw [List.range'_succ]
    refine .cons (k 0 v rfl) (each_range (by simpa using h) fun i w e => ?_)
    obtain ⟨t, q⟩ := k (i + 1) w (by simpa using e)
    exact ⟨t, by rw [q, show o + 1 + i = o + (i + 1) by omega]⟩
open PySem.W in
theorem each_nvs : ∀ {us : List Value} {js : List Nat}, EachIs (fun (v : Value) (j : Nat) => ∃ t, v = Value.int (j : Int) t) us js → Vals (nvs js) us
  | _, _, .nil => .nil
  | _, _, .cons r t => .cons r (each_nvs t)
/-- the key of j -/
abbrev keyD (L : List Int) (j : Nat) : PyData := .tuple [.int (L.getD j 0), .int (j : Int)]
def tSortLam (T : List (Addr × Str)) (K : PySem.W.Frag) (i : Nat) (te : TE) : TE := fun σ H Q => te σ H fun x H1 => ∃ (r l : Addr) (n : Nat) (L : List Int), x = .ref r ∧ H1 r = some (RgO r n) ∧ n ≤ 1000 ∧ σ[i]? = some (some (.ref l)) ∧ SqL K H1 l (ivs L) ∧ n ≤ L.length ∧ Tabs T H1 ∧
  ∀ (ys : List Nat) (p : Addr) (H2 : Hp), ys.Perm (List.range n) → ExtN H1 H2 → Tabs T H2 → H2 p = some (.lst (nvs ys)) → Q (.ref p) H2
theorem pe_sortLam {X : Cx} {T : List (Addr × Str)} {c P : Addr} {k i : Nat} {e : Expr} {te : TE} {a b : Str} {params : Arguments} {scope : Scope} {p p1 p2 p3 p4 p5 lp kp pos : Pos} {kk : Nat}
    (hcalm : X.calm = true) (hr : Room k X.A) (TB : TabB X.base X.mg c P) (hcode : X.env.code = .ref c) (hmT : (P, X.env.qual ++ "<lambda>") ∈ T) (huT : ∀ q ∈ T, q.1 = P → q.2 = X.env.qual ++ "<lambda>")
    (hg : Gl X "sorted") (hm : X.mg "sorted" = none) (hN : X.N[i]? = some a) (hac : X.env.scope.names.lookup a = some .cell) (he : PE X e te)
    (hdef : defaultsOf params X.env = ([], [])) (hki : scope.kind = .function) (hco : scope.isCoroutine = false) (hgen : scope.isGenerator = false) (hcell : ∀ x ∈ scope.names, x.2 ≠ .cell)
    (hfr : ∀ y ∈ scope.names, y.2 = .free → X.env.scope.names.lookup y.1 = some .cell) (hla : scope.names.lookup a = some .free) (hlb : scope.names.lookup b = some .local) (hclo : (cloFrom X.env.cells scope.names []).lookup a = X.env.cells.lookup a)
    (hbind : ∀ (cl : List (Str × Addr)) (pm cv ctv u : Value), bindArgs (PySem.W.kla_fn "<lambda>" (X.env.qual ++ "<lambda>") params (.Tuple [.Subscript (.Name a p1) (.Name b p2) p3, .Name b p4] kk p5) scope cl pm cv ctv) ⟨[u], []⟩ = pure [(b, u)])
    (d1 : (a == ("__debug__" : Str)) = false := by decide) (d2 : (a == ("__classdict__" : Str)) = false := by decide) (d3 : (b == ("__debug__" : Str)) = false := by decide)
    (hst : starEach [e] X.env = (false, eval e X.env) :: starEach [] X.env := by rfl)
    (hkw : (backToKw pos (keywordEach [⟨some "key", .Lambda params (.Tuple [.Subscript (.Name a p1) (.Name b p2) p3, .Name b p4] kk p5) scope lp, kp⟩] X.env)) = [(some (Str.ofString "key"), do let v ← eval (.Lambda params (.Tuple [.Subscript (.Name a p1) (.Name b p2) p3, .Name b p4] kk p5) scope lp) X.env; standAt pos; pure v)] := by rfl) :
    PE X (.Call (.Name "sorted" p) [e] [⟨some "key", .Lambda params (.Tuple [.Subscript (.Name a p1) (.Name b p2) p3, .Name b p4] kk p5) scope lp, kp⟩] pos) (tSortLam T X.K i te) := by
  refine ⟨fun pins s σ H Q I h => ?_⟩
  refine wpAny_Call_Name_kw (ld_blt I hg hm (by decide +kernel : bootBuiltins "sorted" = some (.builtin "sorted")) ?_ (by decide) (by decide))
  refine PyProof.Rows.callWith_kw (one_arg he I h (fun u s1 x H1 I1 rx q1 => ?_) hst) (by rw [hst]; rfl) (by rw [hst]; rfl) (by rw [hkw]; rfl) (by rw [hkw]; rfl)
  obtain ⟨r, l, n, L, rfl, hr1, hn, hs, hL, hnL, hT, q⟩ := q1
  obtain rfl : u = Value.ref r := rx
  rw [hkw]
  show wpAny _ _ (evalAll [do let v ← eval (.Lambda params (.Tuple [.Subscript (.Name a p1) (.Name b p2) p3, .Name b p4] kk p5) scope lp) X.env; standAt pos; pure v]) _ _ s1
  have hfree : ∀ y ∈ scope.names, y.2 = .free → ∃ c, X.env.cells.lookup y.1 = some c := fun y hy e => I1.ok.has _ (.inl (hfr y hy e))
  refine wpAny_evalAll_cons (wpAny_bind (lam_make2 I1 TB hcode hmT huT hT hdef hfree fun f c' pm ctv H2 s2 I2 hE hT2 hf hfn hff hco2 => wpAny_bind (wpAny_standAt (wpAny_pure (wpAny_evalAll_nil ?_)))))
  show wpAny _ _ (call (.builtin "sorted") [.ref r] [(Str.ofString "key", .ref f)]) _ _ s2
  obtain ⟨⟨t0, u0, v0, hrg⟩, _, _⟩ := I2.hok r _ (hE _ _ hr1 rgO_ne)
  obtain ⟨⟨oc, cvs, ct, hoc, hdc, hvc⟩, _, _⟩ := I2.hok c' _ hco2
  have hL2 : SqL X.K H2 l (ivs L) := by
    rcases hL with (z | ⟨o, z⟩) | z
    · exact .inl (.inl (hE _ _ z (by intro ps w; cases w)))
    · exact .inl (.inr ⟨o, hE _ _ z (by intro ps w; cases w)⟩)
    · exact .inr z
  obtain ⟨its, rv, pl, hz⟩ := I2.list hL2
  have ilen : its.length = L.length := by rw [← rv.length, List.length_map]
  obtain ⟨m0, hns0, hloc⟩ := I2.loc
  obtain ⟨w0, rw0, lk⟩ := hloc i a (.ref l) hN hs (.inr (.inl hac))
  obtain rfl : w0 = Value.ref l := rw0
  obtain ⟨cc, hcc, hcv⟩ : ∃ cc, X.env.cells.lookup a = some cc ∧ s2.heap.IsCell cc (some (.ref l)) := by
    rcases lk with ⟨z, _⟩ | ⟨_, cc, h1, h2⟩
    · have z : X.env.scope.names.lookup a = some .local := z
      rw [hac] at z
      cases z
    · exact ⟨cc, h1, h2⟩
  refine call_function_entry_kw kind_sorted plain_sorted entry_sorted (ksk_s1 _ _) ?_
  unfold Builtin.«sorted»
  refine wpAny_bind (m := checkCount "sorted" 1 1 _) (wpAny_pure ?_)
  obtain ⟨b1, b2, b3, b4, b5⟩ := RgOk.of_le (a := 0) (b := (n : Int)) (by omega) (by omega) (by omega) (by omega)
  refine wpAny_bind (collect_range (n := n) (A := X.A.in1) (I2.ok.hd hcalm) hrg (small_one b1 b2 b3 b4) (by rw [rangeSize_nat]; omega) (by omega) fun h' tk acc hk it => ?_)
  have al : acc.toList.length = n := by rw [Array.length_toList, it.1]
  refine wpAny_bind (wpAny_newList ?_ (by rw [al]; exact big (by omega)))
  have hoL : (h'.push (seqObj "list" acc.toList.toArray 0)).get? h'.objs.size = some (seqObj "list" acc.toList.toArray 0) := Heap.get?_push_size _ rfl
  show wpAny _ _ _ _ _ { s2 with heap := h'.push (seqObj "list" acc.toList.toArray 0), toks := tk }
  have e0 : PySem.W.EachIs (fun (v : Value) (j : Nat) => ∃ t, v = Value.int (j : Int) t) acc.toList (List.range' 0 n) := each_range al fun i v e => by
    obtain ⟨t, q⟩ := ItemsOf.get it e
    exact ⟨t, by rw [q]; congr 1; omega⟩
  have kold : ∀ {g : Heap}, PySem.W.KeepsBut h'.objs.size (h'.push (seqObj "list" acc.toList.toArray 0)) g → ∀ b o, s2.heap.get? b = some o → g.get? b = some o := fun {g} kb b o e => kb b o (Nat.ne_of_lt (Heap.lt_size (hk _ _ e))) (Heap.get?_push_of_some _ (hk _ _ e))
  refine wpAny_bind (wpAny_holding (wpAny_call_entry_kw PyProof.Rows.slot_list_sort ⟨_, hoL, rfl⟩ PyProof.Rows.entry_list_sort ?body (ksk_l1 _ _)))
  case body =>
    show wpAny (model X.prog X.w) X.A.in1.in1 (Builtin.«list.sort» ⟨[.ref h'.objs.size], [(Str.ofString "key", .ref f)]⟩) _ _ _
    rw [ksk_t1]
    refine PySem.W.keyH_tree (kz := (List.range' 0 n).map (keyD L)) (s := { s2 with heap := h'.push (seqObj "list" acc.toList.toArray 0), toks := tk }) hoL (by rw [List.length_map, List.length_range', al]) (by rw [al]; exact big (by omega))
      (PySem.W.AllAlike.of fun x y => by simp only [PySem.W.alike, PySem.W.alikeAll, Bool.and_true]) (.inl fun d hd => ?_) (PySem.W.bound_map fun j _ => ?_)
      (PySem.W.keyH_turns (s := { s2 with heap := h'.push (seqObj "list" acc.toList.toArray 0), toks := tk }) e0 fun v j hv hj h2 tk2 kb => ?_) fun h3 tk3 out c3 kb ho ko => ⟨_, rfl, ?_⟩
    · obtain ⟨j, _, rfl⟩ := List.mem_map.mp hd
      exact ⟨_, _, rfl⟩
    · have := hr.un
      simp only [PyData.depth, PyData.depthAll]
      show X.A.units + 1 + 1 + _ < cLine
      omega
    · -- one call of the key
      obtain ⟨t, rfl⟩ := hv
      have hjn : j < n := by
        have := (List.mem_range'_1.mp hj).2
        omega
      have old := kold kb
      obtain ⟨x, hx⟩ : ∃ x, its[j]? = some x := ⟨_, List.getElem?_eq_getElem (by omega)⟩
      obtain ⟨z, tz, hLz, rfl⟩ : ∃ z tz, L[j]? = some z ∧ x = Value.int z tz := by
        have hLj : j < L.length := by omega
        have e1 : (ivs L)[j]? = some (.int L[j]) := ivs_at (List.getElem?_eq_getElem hLj)
        obtain ⟨w1, h1, h2⟩ := rv.get e1
        obtain ⟨tz, rfl⟩ := h2
        exact ⟨L[j], tz, List.getElem?_eq_getElem hLj, Option.some.inj (hx.symm.trans h1)⟩
      refine lam1 (s := { s2 with heap := h2, toks := tk2 }) (old _ _ hf) ⟨c', oc, cvs, ct, rfl, old _ _ hoc, hdc, hvc⟩ (by have := hr.dp; show X.A.depth < recursionLimit; omega) (I2.nolimit.keeps fun b o e => old b o e) hki hco hgen hcell hlb (hbind _ _ _ _ _) fun h₁ k1 ns1 => ?_
      refine body_pair (s := { s2 with heap := h₁, toks := tk2 + 1 }) (its := its.toArray) (l := l) hki hla hlb (hclo.trans hcc) ?_ ?_ (by simpa using hx) (by rw [List.size_toArray, ilen]; rw [ivs_len] at hz; exact hz) ns1 ?_ d1 d2 d3
      · obtain ⟨o, ho, hd⟩ := hcv
        exact ⟨o, k1 _ _ (old _ _ ho), hd⟩
      · exact pl.isList.at fun o e => k1 _ _ (old _ _ e)
      · refine ⟨_, _, rfl, fun b o e => Heap.get?_push_of_some _ (k1 b o e), ?_⟩
        have eD : L.getD j 0 = z := by rw [List.getD_eq_getElem?_getD, hLz]; rfl
        rw [keyD, eD]
        exact .tuple (as := []) (n := 0) (Heap.get?_push_size _ rfl) rfl rfl (.cons (as := []) (bs := []) (.int _ _) (.cons (as := []) (bs := []) (.int _ _) .nil))
    · -- sorted
      have ee := PySem.W.keyedOut_each (keyD L) ko e0
      have hp := List.mergeSort_perm (List.range' 0 n) (PySem.W.dataLe false (keyD L))
      have hperm : ((List.range' 0 n).mergeSort (PySem.W.dataLe false (keyD L))).Perm (List.range n) := by rw [List.range_eq_range']; exact hp
      have I3 : Inv X pins σ H2 { s2 with heap := h', toks := tk } := I2.kept hk
      have nw : H2 h'.objs.size = none := I3.hok.fresh (Nat.le_refl _)
      have hlen : (nvs ((List.range' 0 n).mergeSort (PySem.W.dataLe false (keyD L)))).length ≤ sizeLine := by
        rw [List.length_map, hp.length_eq, List.length_range']
        exact big (by omega)
      refine wpAny_pure ⟨_, rfl, .ref h'.objs.size, upd H2 h'.objs.size (.lst (nvs ((List.range' 0 n).mergeSort (PySem.W.dataLe false (keyD L))))), I3.laid (t' := tk3) (fun b o e => kb b o (Nat.ne_of_lt (Heap.lt_size e)) (Heap.get?_push_of_some _ e)) (Nat.le_refl _) ⟨hlen, out, c3, each_nvs ee, ho⟩, rfl, ?_⟩
      refine q _ _ _ hperm (fun b o e ne => ?_) (hT2.ext fun b o e => ?_) upd_same
      · have e2 := hE b o e ne
        rw [upd_ne (ne_of_none e2 nw)]
        exact e2
      · rw [upd_ne (ne_of_none e nw)]
        exact e
end Kn

set_option Elab.async false
set_option linter.all false
set_option maxRecDepth 100000
set_option maxHeartbeats 1000000
/-! WkV: max(xs, key=lambda x: d[x]). -/
namespace Kn
open PySem PySem.Spec PyProof.Rows L2 LamX

theorem ext_sqL {K : PySem.W.Frag} {H H' : Hp} {l : Addr} {xs : List V} (hE : ExtN H H') (h : SqL K H l xs) : SqL K H' l xs := by
  rcases h with (z | ⟨o, z⟩) | z
  · exact .inl (.inl (hE _ _ z (by intro ps w; cases w)))
  · exact .inl (.inr ⟨o, hE _ _ z (by intro ps w; cases w)⟩)
  · exact .inr z
def tMaxLam (T : List (Addr × Str)) (K : PySem.W.Frag) (i : Nat) (te : TE) : TE := fun σ H Q => te σ H fun x H1 => ∃ (l d : Addr) (xs : List Int) (kvs : List (L2.Key × V)) (τ : Int → Int), x = .ref l ∧ SqL K H1 l (ivs xs) ∧ xs ≠ [] ∧ σ[i]? = some (some (.ref d)) ∧ H1 d = some (.dK kvs) ∧ (∀ x ∈ xs, valV kvs (.inl x) = some (.int (τ x))) ∧ Tabs T H1 ∧
  ∀ (m : Int) (H2 : Hp), m ∈ xs → (∀ y ∈ xs, τ y ≤ τ m) → ExtN H1 H2 → Tabs T H2 → Q (.int m) H2
theorem pe_maxLam {X : Cx} {T : List (Addr × Str)} {c P : Addr} {k i : Nat} {e : Expr} {te : TE} {a b : Str} {params : Arguments} {scope : Scope} {p p1 p2 p3 lp kp pos : Pos}
    (hcalm : X.calm = true) (hr : Room k X.A) (TB : TabB X.base X.mg c P) (hcode : X.env.code = .ref c) (hmT : (P, X.env.qual ++ "<lambda>") ∈ T) (huT : ∀ q ∈ T, q.1 = P → q.2 = X.env.qual ++ "<lambda>")
    (hg : Gl X "max") (hm : X.mg "max" = none) (hN : X.N[i]? = some a) (hac : X.env.scope.names.lookup a = some .cell) (he : PE X e te)
    (hdef : defaultsOf params X.env = ([], [])) (hki : scope.kind = .function) (hco : scope.isCoroutine = false) (hgen : scope.isGenerator = false) (hcell : ∀ x ∈ scope.names, x.2 ≠ .cell)
    (hfr : ∀ y ∈ scope.names, y.2 = .free → X.env.scope.names.lookup y.1 = some .cell) (hla : scope.names.lookup a = some .free) (hlb : scope.names.lookup b = some .local) (hclo : (cloFrom X.env.cells scope.names []).lookup a = X.env.cells.lookup a)
    (hbind : ∀ (cl : List (Str × Addr)) (pm cv ctv u : Value), bindArgs (PySem.W.kla_fn "<lambda>" (X.env.qual ++ "<lambda>") params (.Subscript (.Name a p1) (.Name b p2) p3) scope cl pm cv ctv) ⟨[u], []⟩ = pure [(b, u)])
    (d1 : (a == ("__debug__" : Str)) = false := by decide) (d2 : (a == ("__classdict__" : Str)) = false := by decide) (d3 : (b == ("__debug__" : Str)) = false := by decide)
    (hst : starEach [e] X.env = (false, eval e X.env) :: starEach [] X.env := by rfl)
    (hkw : (backToKw pos (keywordEach [⟨some "key", .Lambda params (.Subscript (.Name a p1) (.Name b p2) p3) scope lp, kp⟩] X.env)) = [(some (Str.ofString "key"), do let v ← eval (.Lambda params (.Subscript (.Name a p1) (.Name b p2) p3) scope lp) X.env; standAt pos; pure v)] := by rfl) :
    PE X (.Call (.Name "max" p) [e] [⟨some "key", .Lambda params (.Subscript (.Name a p1) (.Name b p2) p3) scope lp, kp⟩] pos) (tMaxLam T X.K i te) := by
  refine ⟨fun pins s σ H Q I h => ?_⟩
  refine wpAny_Call_Name_kw (ld_blt I hg hm (by decide +kernel : bootBuiltins "max" = some (.builtin "max")) ?_ (by decide) (by decide))
  refine PyProof.Rows.callWith_kw (one_arg he I h (fun u s1 x H1 I1 rx q1 => ?_) hst) (by rw [hst]; rfl) (by rw [hst]; rfl) (by rw [hkw]; rfl) (by rw [hkw]; rfl)
  obtain ⟨l, d, xs, kvs, τ, rfl, hL, hne, hs, hd, hkv, hT, q⟩ := q1
  obtain rfl : u = Value.ref l := rx
  rw [hkw]
  show wpAny _ _ (evalAll [do let v ← eval (.Lambda params (.Subscript (.Name a p1) (.Name b p2) p3) scope lp) X.env; standAt pos; pure v]) _ _ s1
  have hfree : ∀ y ∈ scope.names, y.2 = .free → ∃ c, X.env.cells.lookup y.1 = some c := fun y hy e => I1.ok.has _ (.inl (hfr y hy e))
  refine wpAny_evalAll_cons (wpAny_bind (lam_make2 I1 TB hcode hmT huT hT hdef hfree fun f c' pm ctv H2 s2 I2 hE hT2 hf hfn hff hco2 => wpAny_bind (wpAny_standAt (wpAny_pure (wpAny_evalAll_nil ?_)))))
  show wpAny _ _ (call (.builtin "max") [.ref l] [(Str.ofString "key", .ref f)]) _ _ s2
  obtain ⟨⟨oc, cvs, ct, hoc, hdc, hvc⟩, _, _⟩ := I2.hok c' _ hco2
  obtain ⟨its, rv, pl, hz⟩ := I2.list (ext_sqL hE hL)
  have ilen : its.length = xs.length := by rw [← rv.length, List.length_map]
  obtain ⟨zk, hdd, vs, rel, dd⟩ := dk_of I2.hok (hE _ _ hd (by intro ps w; cases w))
  obtain ⟨m0, hns0, hloc⟩ := I2.loc
  obtain ⟨w0, rw0, lk⟩ := hloc i a (.ref d) hN hs (.inr (.inl hac))
  obtain rfl : w0 = Value.ref d := rw0
  obtain ⟨cc, hcc, hcv⟩ : ∃ cc, X.env.cells.lookup a = some cc ∧ s2.heap.IsCell cc (some (.ref d)) := by
    rcases lk with ⟨z, _⟩ | ⟨_, cc, h1, h2⟩
    · have z : X.env.scope.names.lookup a = some .local := z
      rw [hac] at z
      cases z
    · exact ⟨cc, h1, h2⟩
  have hlt : l < s2.heap.objs.size := by obtain ⟨_, e, _⟩ := pl.isList; exact Heap.lt_size e
  have item : ∀ (j : Nat) (v : Value), its.toArray[j]? = some v → ∃ t, v = Value.int (xs.getD j 0) t ∧ xs.getD j 0 ∈ xs := fun j v e => by
    have e' : its[j]? = some v := by simpa using e
    have hj : j < xs.length := by rw [← ilen]; exact (List.getElem?_eq_some_iff.mp e').1
    have e1 : (ivs xs)[j]? = some (.int xs[j]) := ivs_at (List.getElem?_eq_getElem hj)
    obtain ⟨w1, h1, h2⟩ := rv.get e1
    obtain ⟨t, rfl⟩ := h2
    have eg : xs.getD j 0 = xs[j] := by rw [List.getD_eq_getElem?_getD, List.getElem?_eq_getElem hj]; rfl
    rw [eg]
    exact ⟨t, Option.some.inj (e'.symm.trans h1), List.getElem_mem hj⟩
  refine call_max_walkK (wpAny_pyIter_list pl.isList ?_)
  have hsz : its.toArray.size = xs.length := by rw [List.size_toArray, ilen]
  have W := (Walks.list (prog := X.prog) (w := X.w) (A := X.A.in1) (I2.ok.hd hcalm) s2.heap.objs.size l (Nat.ne_of_lt hlt) its.toArray).toS
  refine ⟨s2.heap.objs.size, _, _, _, _, _, _, (fun s' => ∃ h' tk, s' = { s2 with heap := h', toks := tk } ∧ ∀ b o, s2.heap.get? b = some o → h'.get? b = some o), (fun j ky _ => ∃ t, ky = Value.int (τ (xs.getD j 0)) t), (fun i j => decide (τ (xs.getD i 0) > τ (xs.getD j 0))), rfl, W, ?_, ?_, ?_, ?_, ?_, ?_⟩
  · exact ⟨⟨_, Heap.get?_push_size _ rfl, rfl, rfl⟩, pl.isList.at fun o e => Heap.get?_push_of_some _ e⟩
  · intro x hx
    show x < (s2.heap.push _).objs.size
    rw [size_push']
    rcases List.mem_cons.mp hx with e | hx
    · rw [e]; exact Nat.lt_succ_self _
    · rw [List.mem_singleton.mp hx]; exact Nat.lt_succ_of_lt hlt
  · rw [hsz]
    exact List.length_pos_iff.mpr hne
  · refine ⟨fun s s' ⟨h1, t1, e, k1⟩ mv => ?_, fun _ _ _ _ h _ => h, fun j v s4 o Q' E' hj hP hJ hSt hS hQ' => ?_, fun i j ki kj s4 Q' E' _ hi hj hQ' => ?_⟩
    · subst e
      have e3 := Moved.eq_with mv
      refine ⟨s'.heap, s'.toks, e3, fun b o eb => mv.heap b o (fun hb => ?_) (k1 b o eb)⟩
      have lb := Heap.lt_size eb
      rcases List.mem_cons.mp hb with z | hb
      · have z : b = (s2.heap.push { cls := .type "list_iterator", data := .fields #[.ref l, .int 0 0] }).objs.size := z
        rw [size_push'] at z
        rw [z] at lb
        exact absurd lb (Nat.not_lt.mpr (Nat.le_succ _))
      · rw [List.mem_singleton.mp hb] at lb
        exact absurd lb (Nat.lt_irrefl _)
    · -- one call of the key
      obtain ⟨h4, tk4, rfl, k4⟩ := hJ
      obtain ⟨t, rfl, hmem⟩ := item j v hP
      obtain ⟨x, hx, rx⟩ := RelO.some_of (v := .int (τ (xs.getD j 0))) (o := valueAt vs (.inl (xs.getD j 0))) (by rw [← hkv _ hmem]; exact rel.val _)
      obtain ⟨tx, rfl⟩ := rx
      refine lam1 (s := { s2 with heap := h4, toks := tk4 }) (k4 _ _ hf) ⟨c', oc, cvs, ct, rfl, k4 _ _ hoc, hdc, hvc⟩ (by have := hr.dp; show X.A.depth < recursionLimit; omega) (I2.nolimit.keeps fun b o e => k4 b o e) hki hco hgen hcell hlb (hbind _ _ _ _ _) fun h₁ k1 ns1 => ?_
      refine body_get (s := { s2 with heap := h₁, toks := tk4 + 1 }) (l := d) (vs := vs) hki hla hlb (hclo.trans hcc) ?_ ?_ hx ns1 ?_ d1 d2 d3
      · obtain ⟨oo, ho, hdd⟩ := hcv
        exact ⟨oo, k1 _ _ (k4 _ _ ho), hdd⟩
      · exact dd.at' fun o e => k1 _ _ (k4 _ _ e)
      · exact hQ' _ _ ⟨h₁, tk4 + 1 + 1, rfl, fun b o e => k1 _ _ (k4 _ _ e)⟩ (W.frame (j + 1) { s2 with heap := h4, toks := tk4 } h₁ (tk4 + 1 + 1) hSt (by show tk4 ≤ tk4 + 1 + 1; omega) fun b _ o e => k1 _ _ e) (k1 _ _ hS) ⟨tx, rfl⟩ fun _ _ h => h
    · exact CmpOf.ints_gt (prog := X.prog) (w := X.w) (A := X.A.in1) (P := fun i v => ∃ t, v = Value.int (τ (xs.getD i 0)) t) (fun i => τ (xs.getD i 0)) (fun i v h => h) i j _ _ _ _ _ hi hj hQ'
  · exact ⟨_, s2.toks, rfl, fun b o e => Heap.get?_push_of_some _ e⟩
  · rintro v s' hP ⟨h', tk, rfl, k1⟩
    obtain ⟨b1, b2⟩ := argBest_gt (fun i => τ (xs.getD i 0)) (its.toArray.size - 1)
    obtain ⟨t, rfl, hmem⟩ := item _ _ hP
    refine ⟨.int _, H2, I2.kept k1, ⟨t, rfl⟩, q _ H2 hmem (fun y hy => ?_) hE hT2⟩
    obtain ⟨j, hj, rfl⟩ := List.getElem_of_mem hy
    have := b2 j (by rw [hsz]; omega)
    have eg : xs.getD j 0 = xs[j] := by rw [List.getD_eq_getElem?_getD, List.getElem?_eq_getElem hj]; rfl
    rw [eg] at this
    exact this
end Kn

set_option Elab.async false
set_option linter.all false
/-! KnM: the law's trees: by arms, by turns. Plain Lean. -/
namespace Kn
open B

/-- the arms from k on are nested -/
def Brk (A : Nat → Nat) (k n : Nat) : Prop := ∀ i, k ≤ i → i < n → i + A i < n ∧ ∀ j, i < j → j ≤ i + A i → j + A j ≤ i + A i
def Wy (A : Nat → Nat) (k n w : Nat) : Prop := k + w < n ∧ ∀ j, k < j → j ≤ k + w → j + A j ≤ k + w
theorem wy_zero {A : Nat → Nat} {k n : Nat} (h : k < n) : Wy A k n 0 := ⟨h, fun j a b => by omega⟩
theorem wy_step {A : Nat → Nat} {k n w : Nat} (b : Brk A (k + 1) n) (h : Wy A k n w) (hl : k + w + 1 < n) : Wy A k n (w + 1 + A (k + w + 1)) := by
  obtain ⟨b1, b2⟩ := b (k + w + 1) (by omega) hl
  refine ⟨by omega, fun j h1 h2 => ?_⟩
  by_cases c : j ≤ k + w
  · have := h.2 j h1 c; omega
  · by_cases d : j = k + w + 1
    · subst d; omega
    · have := b2 j (by omega) (by omega); omega
theorem brk_set {A A' : Nat → Nat} {k n w : Nat} (b : Brk A (k + 1) n) (h : Wy A k n w) (e1 : A' k = w) (e2 : ∀ j, j ≠ k → A' j = A j) : Brk A' k n := by
  intro i hi hn
  by_cases c : i = k
  · subst c
    rw [e1]
    refine ⟨h.1, fun j h1 h2 => ?_⟩
    rw [e2 j (by omega)]
    exact h.2 j h1 h2
  · obtain ⟨b1, b2⟩ := b i (by omega) hn
    rw [e2 i c]
    refine ⟨b1, fun j h1 h2 => ?_⟩
    rw [e2 j (by omega)]
    exact b2 j h1 h2
/-- each root is the first knot whose arm reaches the end -/
def RootOk (A : Nat → Nat) : B → Nat → Prop
  | lf, _ => True
  | nd l r, f => (f + l.sz) + A (f + l.sz) + 1 = f + (nd l r).sz ∧ (∀ j, f ≤ j → j < f + l.sz → j + A j + 1 ≠ f + (nd l r).sz) ∧ RootOk A l f ∧ RootOk A r (f + l.sz + 1)
theorem arm_tree {A : Nat → Nat} : ∀ (m f : Nat), (∀ j, f ≤ j → j < f + m → j + A j < f + m) → (∀ i j, f ≤ i → i < j → j < f + m → j ≤ i + A i → j + A j ≤ i + A i) → ∃ t, t.sz = m ∧ RootOk A t f := fun m => by
  induction m using Nat.strongRecOn with
  | ind m ih =>
    intro f h1 h2
    by_cases hm : m = 0
    · subst hm
      exact ⟨lf, rfl, trivial⟩
    · have ex : ∃ j, f ≤ j ∧ j < f + m ∧ j + A j + 1 = f + m := ⟨f + m - 1, by omega, by omega, by have := h1 (f + m - 1) (by omega) (by omega); omega⟩
      obtain ⟨ρ, ⟨a1, a2, a3⟩, mn⟩ := least ex
      obtain ⟨l, hl, ol⟩ := ih (ρ - f) (by omega) f (fun j b1 b2 => by
        refine Nat.lt_of_not_le fun z => ?_
        have c := h2 j ρ b1 (by omega) a2 (by omega)
        have d := h1 j b1 (by omega)
        have := mn j ⟨b1, by omega, by omega⟩
        omega) (fun i j b1 b2 b3 b4 => h2 i j b1 b2 (by omega) b4)
      obtain ⟨r, hr, or'⟩ := ih (f + m - ρ - 1) (by omega) (ρ + 1) (fun j b1 b2 => by have := h1 j (by omega) (by omega); omega) (fun i j b1 b2 b3 b4 => h2 i j (by omega) b2 (by omega) b4)
      have hz : (nd l r).sz = m := by rw [sz_nd, hl, hr]; omega
      have ef : f + l.sz = ρ := by omega
      refine ⟨nd l r, hz, ?_⟩
      show _ ∧ _ ∧ _ ∧ _
      rw [hz, ef]
      exact ⟨a3, fun j b1 b2 b3 => by have := mn j ⟨b1, by omega, b3⟩; omega, ol, or'⟩
theorem rootOk_sb {A : Nat → Nat} {t u : B} {o o' : Nat} (h : Sb t o u o') : RootOk A t o → RootOk A u o' := by
  induction h with
  | here t o => exact id
  | left r _ ih => exact fun h => ih h.2.2.1
  | right l _ ih => exact fun h => ih h.2.2.2
theorem root_first {A : Nat → Nat} {l r : B} {f : Nat} (h : RootOk A (nd l r) f) : ∃ rest, (List.range' f (nd l r).sz).filter (fun k => decide (k + A k + 1 = f + (nd l r).sz)) = (f + l.sz) :: rest := by
  obtain ⟨h1, h2, _⟩ := h
  have e : List.range' f (nd l r).sz = List.range' f l.sz ++ (f + l.sz) :: List.range' (f + l.sz + 1) r.sz := by
    rw [show (nd l r).sz = l.sz + (1 + r.sz) by simp only [sz]; omega, ← List.range'_append_1, Nat.add_comm 1 r.sz, List.range'_succ]
  refine ⟨(List.range' (f + l.sz + 1) r.sz).filter (fun k => decide (k + A k + 1 = f + (nd l r).sz)), ?_⟩
  have hp : (fun k => decide (k + A k + 1 = f + (nd l r).sz)) (f + l.sz) = true := decide_eq_true h1
  rw [e, List.filter_append, List.filter_cons_of_pos (p := fun k => decide (k + A k + 1 = f + (nd l r).sz)) hp]
  have : (List.range' f l.sz).filter (fun k => decide (k + A k + 1 = f + (nd l r).sz)) = [] := by
    refine List.filter_eq_nil_iff.mpr fun k hk => ?_
    have := List.mem_range'_1.mp hk
    have := h2 k this.1 this.2
    simpa using this
  rw [this, List.nil_append]
/-- an interval that is left, empty ones among them -/
abbrev Itm := Nat × Nat × Int
def cvI (is : List Itm) : List Item := (is.filter fun s => decide (s.2.1 ≠ 0)).map fun s => (s.1, s.1 + s.2.1 + 1, s.2.2)
theorem cvI_app (a b : List Itm) : cvI (a ++ b) = cvI a ++ cvI b := by
  unfold cvI
  rw [List.filter_append, List.map_append]
theorem cvI_push {l r : B} {f : Nat} : cvI [(f, l.sz, ((f + l.sz : Nat) : Int)), (f + l.sz + 1, r.sz, ((f + l.sz : Nat) : Int))] = push l r f := by
  unfold cvI push
  by_cases hl : l = lf <;> by_cases hr : r = lf
  · simp [hl, hr, sz]
  · have := sz_pos hr
    have h2 : r.sz ≠ 0 := by omega
    simp [hl, hr, h2, sz]
    omega
  · have := sz_pos hl
    have h2 : l.sz ≠ 0 := by omega
    simp [hl, hr, h2, sz]
  · have := sz_pos hl
    have := sz_pos hr
    have h2 : l.sz ≠ 0 := by omega
    have h3 : r.sz ≠ 0 := by omega
    simp [hl, hr, h2, h3, sz]
    omega
def msI (is : List Itm) : Nat := (is.map fun s => 3 * s.2.1 + 1).sum
theorem msI_app (a b : List Itm) : msI (a ++ b) = msI a + msI b := by
  unfold msI
  rw [List.map_append, List.sum_append]
theorem msI_len (a : List Itm) : a.length ≤ msI a := by
  induction a with
  | nil => exact Nat.zero_le _
  | cons x a ih =>
    have : msI (x :: a) = 3 * x.2.1 + 1 + msI a := by unfold msI; rw [List.map_cons, List.sum_cons]
    rw [List.length_cons]; omega

/-! ### by turns -/
/-- each root is the earliest knot of its part -/
def MinOk (τ : Nat → Nat) : B → Nat → Prop
  | lf, _ => True
  | nd l r, f => (∀ j, f ≤ j → j < f + (nd l r).sz → j ≠ f + l.sz → τ (f + l.sz) < τ j) ∧ MinOk τ l f ∧ MinOk τ r (f + l.sz + 1)
theorem min_tree {τ : Nat → Nat} : ∀ (m f : Nat), (∀ i j, f ≤ i → i < f + m → f ≤ j → j < f + m → τ i = τ j → i = j) → ∃ t, t.sz = m ∧ MinOk τ t f := fun m => by
  induction m using Nat.strongRecOn with
  | ind m ih =>
    intro f h
    by_cases hm : m = 0
    · subst hm
      exact ⟨lf, rfl, trivial⟩
    · have ex : ∃ v, ∃ j, f ≤ j ∧ j < f + m ∧ τ j = v := ⟨_, f, Nat.le_refl _, by omega, rfl⟩
      obtain ⟨v, ⟨ρ, a1, a2, a3⟩, mn⟩ := least ex
      obtain ⟨l, hl, ol⟩ := ih (ρ - f) (by omega) f (fun i j b1 b2 b3 b4 e => h i j b1 (by omega) b3 (by omega) e)
      obtain ⟨r, hr, or'⟩ := ih (f + m - ρ - 1) (by omega) (ρ + 1) (fun i j b1 b2 b3 b4 e => h i j (by omega) (by omega) (by omega) (by omega) e)
      have hz : (nd l r).sz = m := by rw [sz_nd, hl, hr]; omega
      have ef : f + l.sz = ρ := by omega
      refine ⟨nd l r, hz, ?_⟩
      show _ ∧ _ ∧ _
      rw [hz, ef]
      refine ⟨fun j b1 b2 b3 => ?_, ol, or'⟩
      have c := mn (τ j) ⟨j, b1, b2, rfl⟩
      rcases Nat.lt_or_ge (τ ρ) (τ j) with z | z
      · exact z
      · exact absurd (h ρ j a1 a2 b1 b2 (by omega)) (fun e => b3 e.symm)
/-- whom a knot hangs on whose part is f .. e - 1 -/
def lat (τ : Nat → Nat) (n f e : Nat) : Int := if f = 0 then (if e = n then -1 else (e : Int)) else if e = n then (f : Int) - 1 else if τ (f - 1) < τ e then (e : Int) else (f : Int) - 1
structure Blk (τ : Nat → Nat) (n k f e : Nat) : Prop where
  lo : f ≤ k
  hi : k < e
  le : e ≤ n
  lf : f = 0 ∨ τ (f - 1) < τ k
  rt : e = n ∨ τ e < τ k
  all : ∀ j, f ≤ j → j < e → j ≠ k → τ k < τ j
theorem min_par {τ : Nat → Nat} {n : Nat} : ∀ (t : B) (f : Nat) (a : Int), MinOk τ t f → f + t.sz ≤ n → (∀ j, f ≤ j → j < f + t.sz → f = 0 ∨ τ (f - 1) < τ j) → (∀ j, f ≤ j → j < f + t.sz → f + t.sz = n ∨ τ (f + t.sz) < τ j) → a = lat τ n f (f + t.sz) →
    ∀ k, k < t.sz → ∃ f' e', Blk τ n (f + k) f' e' ∧ (par t f a)[k]? = some (lat τ n f' e')
  | lf, f, a, _, _, _, _, _, k, hk => by simp only [sz] at hk; omega
  | nd l r, f, a, h, hn, hL, hR, ha, k, hk => by
    obtain ⟨h1, h2, h3⟩ := h
    have hz : (nd l r).sz = l.sz + 1 + r.sz := rfl
    rcases Nat.lt_trichotomy k l.sz with c | c | c
    · obtain ⟨f', e', B, q⟩ := min_par (τ := τ) (n := n) l f ((f + l.sz : Nat) : Int) h2 (by omega) (fun j b1 b2 => hL j b1 (by omega)) (fun j b1 b2 => .inr (h1 j b1 (by omega) (by omega))) (by
        unfold lat
        by_cases e : f = 0
        · rw [if_pos e, if_neg (by omega)]
        · rw [if_neg e, if_neg (by omega), if_pos ((hL (f + l.sz) (by omega) (by omega)).resolve_left e)]) k c
      exact ⟨f', e', B, by rw [par_left c]; exact q⟩
    · subst c
      refine ⟨f, f + (nd l r).sz, ⟨by omega, by omega, hn, hL _ (by omega) (by omega), hR _ (by omega) (by omega), fun j b1 b2 b3 => h1 j b1 b2 b3⟩, ?_⟩
      rw [par_root, ha]
    · obtain ⟨f', e', B, q⟩ := min_par (τ := τ) (n := n) r (f + l.sz + 1) ((f + l.sz : Nat) : Int) h3 (by omega) (fun j b1 b2 => .inr (by rw [Nat.add_sub_cancel]; exact h1 j (by omega) (by omega) (by omega)))
        (fun j b1 b2 => by
          have e : f + l.sz + 1 + r.sz = f + (nd l r).sz := by omega
          rw [e]
          exact hR j (by omega) (by omega)) (by
        have e0 : f + l.sz + 1 + r.sz = f + (nd l r).sz := by omega
        unfold lat
        rw [e0, if_neg (by omega)]
        by_cases e : f + (nd l r).sz = n
        · rw [if_pos e]; omega
        · have := (hR (f + l.sz) (by omega) (by omega)).resolve_left e
          rw [if_neg e, Nat.add_sub_cancel, if_neg (by omega)]; omega) (k - l.sz - 1) (by omega)
      refine ⟨f', e', ?_, by rw [par_right c]; exact q⟩
      rw [show f + l.sz + 1 + (k - l.sz - 1) = f + k by omega] at B
      exact B
end Kn

set_option Elab.async false
set_option linter.all false
set_option maxRecDepth 100000
set_option maxHeartbeats 1000000
/-! WkW: the law's slots, its trees by arms. -/
namespace Kn
open PySem PySem.Spec PyProof.Rows L2

theorem sh_ints (ns : List Int) : SeqAt.shaped (.list (ns.map .int)) = true := by
  have h2 : PyData.depth (.list (ns.map .int)) ≤ 64 := by
    rw [PyData.depth, PySem.W.depth_ints]
    omega
  show (PyData.canLay0 (.list (ns.map .int)) && decide (PyData.depth (.list (ns.map .int)) ≤ 64)) = true
  rw [decide_eq_true h2, PyData.canLay0, lay_ivs]
  rfl
/-- xs != [] -/
def rNeL (K : PySem.W.Frag) : R2 := fun x y H Q => ∃ a b xs ds, x = .ref a ∧ y = .ref b ∧ SqL K H a xs ∧ DpAll K H xs ds ∧ SeqAt.shaped (.list ds) = true ∧ SqL K H b [] ∧ Q (.bl (!ds.isEmpty)) H
theorem op_neL {X : Cx} (hu : X.A.units + 64 < cLine) : OpR X (compareOp .NotEq) (rNeL X.K) := fun pins s σ H x y v u Q I rx ry h => by
  obtain ⟨a, b, xs, ds, rfl, rfl, ha, hd, hs, hb, q⟩ := h
  refine op_neD hu pins s σ H _ _ v u Q I rx ry ⟨_, _, .lst ha hd, .lst hb .nil, hs, by rfl, ?_⟩
  have e : PyData.eqv (.list ds) (.list []) = ds.isEmpty := by
    rw [PyData.eqv]
    cases ds with
    | nil => simp [PyData.eqvAll]
    | cons => simp [PyData.eqvAll]
  rw [e]
  exact q
abbrev trI (s : Itm) : List Int := [(s.1 : Int), (s.1 : Int) + (s.2.1 : Int) - 1, s.2.2]
theorem atI_nlast (pre : List Nat) (w : Nat) : atI (nvs (pre ++ [w])) (-1) = some (V.int (w : Nat)) := by
  show atI ((pre ++ [w]).map _) (-1) = _
  rw [List.map_append]
  exact atI_last _ _
theorem nvs_snoc (l : List Nat) (w : Nat) : nvs l ++ [V.int ((w : Nat) : Int)] = nvs (l ++ [w]) := by
  unfold nvs
  rw [List.map_append]
  rfl
theorem nvs_set (l : List Nat) (i w : Nat) : (nvs l).set i (V.int ((w : Nat) : Int)) = nvs (l.set i w) := (List.map_set ..).symm
theorem getD_at {l : List Nat} {i : Nat} (h : i < l.length) : l[i]? = some (l.getD i 0) := by
  rw [List.getD_eq_getElem?_getD, List.getElem?_eq_getElem h]
  rfl
section
variable {P : Program} {w : World} {K : PySem.W.Frag} {mg : Str → Option Value} {base : Heap}
abbrev s__law_slots : Stmt := top 48
theorem sc__law_slots : FnScope ["script", "many", "start", "k", "slots", "at", "mixed_in"] ["script", "many", "start"] (C8.fnScope s__law_slots) := C8.fnScope_by (by decide +kernel)
def sp__law_slots (K : PySem.W.Frag) : Sp := fun vs H Q _ => ∃ (a : Addr) (n : Nat) (ns : List Int), vs = [.ref a, .int (n : Nat), .int 1] ∧ SqL K H a (ivs ns) ∧ 1 ≤ n ∧ n ≤ 40 ∧ ns.length ≤ 1000 ∧
  ∀ (l : Addr) (L : List Int) (H' : Hp), H l = none → Same H H' → H' l = some (.lst (ivs L)) → L.length = n → Q (.ref l) H'
theorem ok__law_slots (G : Gs mg) (F : Df K mg "_law_slots" s__law_slots ["script", "many", "start"]) : CalN P w K mg base 1 "_law_slots" (sp__law_slots K) := by
  refine F.cal sc__law_slots (fun vs H Q E h => ?_) (fun f cdv A outer s H vs Q E hr h => ?_)
  · obtain ⟨a, n, ns, rfl, _⟩ := h
    rfl
  · obtain ⟨a, n, ns, rfl, ha, hn1, hn2, hl, q⟩ := h
    refine ⟨_, (pss_cons (ps_setLc (i := 4) (own := [("k", 3)]) rfl sc__law_slots.nd rfl rfl (sw_true rfl rfl rfl (by decide +kernel)) (pi_range1 (by rfl) G.range (pa_cons (pv 1) pa_nil)) (blkOk_by (N := ["script", "many", "start", "k", "slots", "at", "mixed_in"]) (sc := C8.fnScope s__law_slots) (own := [("k", 3)]) (by decide +kernel)) (fun _ _ _ _ _ => (pg_name (i := 3) sc__law_slots.nd rfl (Or.inl rfl))) (fun _ _ _ _ _ => pts_nil) (fun _ _ _ _ _ => (pe_op op_mod (pe_op op_add (pe_op op_add (pe_op op_mul (pe_op op_mul (pv 3) (pv 3)) pe_int) (pe_op op_mul pe_int (pv 3))) pe_int) pe_int)))
      (pss_cons (ps_for PassesOwn.never rfl (pi_range2 (by rfl) G.range (pa_cons (pv 2) (pa_cons (pe_callB call_len_seq (by rfl) G.len PySem.boot_len (pa_cons (pv 0) pa_nil)) pa_nil))) (pg_name (i := 3) sc__law_slots.nd rfl (Or.inl rfl)) (pss_cons (ps_set (i := 5) sc__law_slots.nd rfl (Or.inl rfl) (pe_op op_mod (pe_op op_sub (pv 3) (pv 2)) (pv 1)))
      (pss_cons (ps_set (i := 6) sc__law_slots.nd rfl (Or.inl rfl) (pe_op op_add (pe_op op_mul (pe_ix ix_list (pv 4) (pv 5) (fun _ _ => rfl)) pe_int) (pe_op op_mod (pe_ix ix_list (pv 0) (pv 3) (fun _ _ => rfl)) pe_int)))
      (pss_cons (ps_set (i := 6) sc__law_slots.nd rfl (Or.inl rfl) (pe_op op_mod (pv 6) pe_int))
      (pss_one (ps_asg (pe_op op_mod (pe_op op_mul (pv 6) (pv 6)) pe_int) (pg_sub (pv 4) (pv 5) set_list)))))))
      (pss_one (ps_ret (pv 4))))), ?_⟩
    refine ⟨_, rfl, _, rfl, by omega, by omega, fun D hD => lc_range (lo := 0) (n := ((n : Nat) : Int).toNat) (fun i H1 => Same H H1 ∧ ∃ L : List Int, H1 D = some (.lst (ivs L)) ∧ L.length = i) ⟨(Same.refl H).new hD, [], upd_same, rfl⟩ ?_ ?_⟩
    · rintro i H1 hi ⟨s1, L, h1, hL⟩
      refine ⟨rfl, ?_⟩
      refine ⟨_, rfl, _, rfl, _, _, rfl, rfl, .inl ⟨by omega, by omega⟩, _, _, rfl, rfl, .inr ⟨by decide, by decide⟩, _, rfl, _, _, rfl, rfl, .inl ⟨by decide, by decide⟩, _, _, rfl, rfl, _, _, rfl, rfl, _, _, rfl, rfl, (by show (0 : Int) < 1009; decide), ?_⟩
      refine ⟨ivs L, h1, bigl (by rw [ivs_len]; omega), s1.mut hD, L ++ [((0 + ((i : Nat) : Int)) * (0 + ((i : Nat) : Int)) * 7919 + 31 * (0 + ((i : Nat) : Int)) + 5) % 1009], ?_, by rw [List.length_append, List.length_singleton, hL]⟩
      rw [upd_same]
      show some (HO.lst (ivs L ++ ivs [((0 + ((i : Nat) : Int)) * (0 + ((i : Nat) : Int)) * 7919 + 31 * (0 + ((i : Nat) : Int)) + 5) % 1009])) = _
      unfold ivs
      rw [← List.map_append]
    · rintro H1 ⟨s1, L, h1, hL⟩
      have hL : L.length = n := by rw [hL]; omega
      refine ⟨_, rfl, _, rfl, a, _, rfl, .inl (sq_same s1 ha), 1, _, rfl, ⟨by omega, by omega, by omega, by rw [ivs_len]; omega⟩, for_range (lo := 1) (n := (((ivs ns).length : Int) - 1).toNat)
        (fun i σ H2 => (∃ x y z, σ = [some (.ref a), some (.int (n : Nat)), some (.int 1), x, some (.ref D), y, z]) ∧ Same H H2 ∧ ∃ L : List Int, H2 D = some (.lst (ivs L)) ∧ L.length = n) ⟨⟨_, _, _, rfl⟩, s1, L, h1, hL⟩ ?_ ?_⟩
      · rintro i σ H2 hi ⟨⟨x0, y0, z0, rfl⟩, s2, L2, h2, hL2⟩
        rw [ivs_len] at hi
        have hi' : 1 + i < ns.length := by omega
        have e1 : (1 : Int) + (i : Nat) = ((1 + i : Nat) : Int) := by omega
        rw [e1]
        have ek : (((1 + i : Nat) : Int) - 1) % (n : Int) = ((i % n : Nat) : Int) := by
          rw [show ((1 + i : Nat) : Int) - 1 = ((i : Nat) : Int) by omega]
          exact (Int.natCast_emod i n).symm
        have hk : i % n < n := Nat.mod_lt _ (by omega)
        obtain ⟨z, hz⟩ : ∃ z, L2[i % n]? = some z := ⟨_, List.getElem?_eq_getElem (by omega)⟩
        obtain ⟨c, hc⟩ : ∃ c, ns[1 + i]? = some c := ⟨_, List.getElem?_eq_getElem hi'⟩
        refine ⟨_, rfl, _, rfl, _, _, rfl, rfl, _, rfl, _, _, rfl, rfl, (by omega), ?_⟩
        dsimp only
        rw [ek]
        refine ⟨_, rfl, _, rfl, D, _, _, _, rfl, rfl, SqL.of h2, atI_ivs hz, _, _, rfl, rfl, .inr ⟨by decide, by decide⟩, _, rfl, _, rfl, a, _, _, _, rfl, rfl, sq_same s2 ha, atI_ivs hc, _, _, rfl, rfl, (by show (0 : Int) < 2305843009213693951; decide), _, _, rfl, rfl, ?_⟩
        dsimp only
        refine ⟨_, rfl, _, _, rfl, rfl, (by show (0 : Int) < 2147483647; decide), ?_⟩
        dsimp only
        generalize z * 1000003 + c % 2305843009213693951 = m
        have m0 := Int.emod_nonneg m (show (2147483647 : Int) ≠ 0 by decide)
        have m1 := Int.emod_lt_of_pos m (show (0 : Int) < 2147483647 by decide)
        refine ⟨_, rfl, _, rfl, _, _, rfl, rfl, .inl ⟨by omega, by omega⟩, _, _, rfl, rfl, (by show (0 : Int) < 1000000007; decide), _, rfl, _, rfl, D, _, _, i % n, rfl, rfl, h2, ixN_of (by rw [ivs_len]; omega), ?_⟩
        rw [ivs_set]
        exact ⟨⟨_, _, _, rfl⟩, s2.mut hD, _, upd_same, by rw [List.length_set]; exact hL2⟩
      · rintro σ H2 ⟨⟨x0, y0, z0, rfl⟩, s2, L2, h2, hL2⟩
        exact ⟨_, rfl, q D L2 H2 hD s2 h2 hL2⟩
abbrev s__law_by_arms : Stmt := top 50
theorem sc__law_by_arms : FnScope ["slots", "many", "knot", "arms", "ways", "above", "left", "first", "last", "over_it", "ends"] ["slots"] (C8.fnScope s__law_by_arms) := C8.fnScope_by (by decide +kernel)
def sp__law_by_arms : Sp := fun vs H Q _ => ∃ (l : Addr) (sl : List Int), vs = [.ref l] ∧ H l = some (.lst (ivs sl)) ∧ 1 ≤ sl.length ∧ sl.length ≤ 40 ∧ ∀ (p : Addr) (t : B) (H' : Hp), Same H H' → t.sz = sl.length → TpF H' p (tl t) → Q (.ref p) H'
theorem ok__law_by_arms (G : Gs mg) (F : Df K mg "_law_by_arms" s__law_by_arms ["slots"]) : CalN P w K mg base 1 "_law_by_arms" sp__law_by_arms := by
  refine F.cal sc__law_by_arms (fun vs H Q E h => ?_) (fun f cdv A outer s H vs Q E hr h => ?_)
  · obtain ⟨l, sl, rfl, _⟩ := h
    rfl
  · obtain ⟨l, sl, rfl, hl, hn1, hn2, q⟩ := h
    generalize hn : sl.length = n at hn1 hn2 q
    have Ln : ((ivs sl).length : Int) = (n : Int) := by rw [ivs_len, hn]
    refine ⟨_, (pss_cons (ps_set (i := 1) sc__law_by_arms.nd rfl (Or.inl rfl) (pe_callB call_len_seq (by rfl) G.len PySem.boot_len (pa_cons (pv 0) pa_nil)))
      (pss_cons (ps_set (i := 3) sc__law_by_arms.nd rfl (Or.inr rfl) (pe_lc (own := [("knot", 2)]) rfl sc__law_by_arms.nd (pi_list (pv 0)) (blkOk_by (N := ["slots", "many", "knot", "arms", "ways", "above", "left", "first", "last", "over_it", "ends"]) (sc := C8.fnScope s__law_by_arms) (own := [("knot", 2)]) (by decide +kernel)) (fun _ _ _ _ _ => (pg_name (i := 2) sc__law_by_arms.nd rfl (Or.inl rfl))) (fun _ _ _ _ _ => pts_nil) (fun _ _ _ _ _ => pe_int)))
      (pss_cons (ps_for PassesOwn.never rfl (pi_revR (by rfl) G.reversed (prg_1 (by rfl) G.range (pv 1))) (pg_name (i := 2) sc__law_by_arms.nd rfl (Or.inl rfl)) (pss_cons (ps_set (i := 4) sc__law_by_arms.nd rfl (Or.inl rfl) (pe_lst (pa_cons pe_int pa_nil)))
      (pss_cons (ps_while PassesOwn.never (pt_cmpR op_lt (pe_op op_add (pv 2) (pe_ix ix_list (pv 4) (pe_un un_neg pe_int) (fun _ _ => rfl))) (pe_op op_sub (pv 1) pe_int) (nomark _)) (pss_one (ps_expr (pe_bm PySem.F.plainAttrs_list PySem.F.slot_list_append PySem.F.type_list_append mt_append (pv 4) (pa_cons (pe_op op_add (pe_op op_add (pe_ix ix_list (pv 4) (pe_un un_neg pe_int) (fun _ _ => rfl)) pe_int) (pe_ix ix_list (pv 3) (pe_op op_add (pe_op op_add (pv 2) (pe_ix ix_list (pv 4) (pe_un un_neg pe_int) (fun _ _ => rfl))) pe_int) (fun _ _ => rfl))) pa_nil)))))
      (pss_one (ps_asg (pe_ix ix_list (pv 4) (pe_op op_mod (pe_op op_fdiv (pe_ix ix_list (pv 0) (pv 2) (fun _ _ => rfl)) pe_int) (pe_callB call_len_seq (by rfl) G.len PySem.boot_len (pa_cons (pv 4) pa_nil))) (fun _ _ => rfl)) (pg_sub (pv 3) (pv 2) set_list))))))
      (pss_cons (ps_setLc (i := 5) (own := [("knot", 2)]) rfl sc__law_by_arms.nd rfl rfl (sw_true rfl rfl rfl (by decide +kernel)) (pi_list (pv 3)) (blkOk_by (N := ["slots", "many", "knot", "arms", "ways", "above", "left", "first", "last", "over_it", "ends"]) (sc := C8.fnScope s__law_by_arms) (own := [("knot", 2)]) (by decide +kernel)) (fun _ _ _ _ _ => (pg_name (i := 2) sc__law_by_arms.nd rfl (Or.inl rfl))) (fun _ _ _ _ _ => pts_nil) (fun _ _ _ _ _ => (pe_un un_neg pe_int)))
      (pss_cons (ps_set (i := 6) sc__law_by_arms.nd rfl (Or.inl rfl) (pe_lst (pa_cons (pe_tup (pa_cons pe_int (pa_cons (pe_op op_sub (pv 1) pe_int) (pa_cons (pe_un un_neg pe_int) pa_nil)))) pa_nil)))
      (pss_cons (ps_while PassesOwn.never (pt_cmpR (op_neL (hu64 hr)) (pv 6) (pe_lst pa_nil) (nomark _)) (pss_cons (ps_asg (pe_bm0 PySem.F.plainAttrs_list PySem.F.slot_list_pop PySem.F.type_list_pop mt_pop (pv 6)) (pg_tup rfl (pgs_cons (pg_name (i := 7) sc__law_by_arms.nd rfl (Or.inl rfl)) (pgs_cons (pg_name (i := 8) sc__law_by_arms.nd rfl (Or.inr rfl)) (pgs_cons (pg_name (i := 9) sc__law_by_arms.nd rfl (Or.inl rfl)) pgs_nil)))))
      (pss_one (ps_if (pt_cmpR op_le (pv 7) (pv 8) (nomark _)) (pss_cons (ps_setLc (i := 10) (own := [("knot", 2)]) rfl sc__law_by_arms.nd rfl rfl (sw_true rfl rfl rfl (by decide +kernel)) (pi_range2 (by rfl) G.range (pa_cons (pv 7) (pa_cons (pe_op op_add (pv 8) pe_int) pa_nil))) (blkOk_by (N := ["slots", "many", "knot", "arms", "ways", "above", "left", "first", "last", "over_it", "ends"]) (sc := C8.fnScope s__law_by_arms) (own := [("knot", 2)]) (by decide +kernel)) (fun _ _ _ _ _ => (pg_name (i := 2) sc__law_by_arms.nd rfl (Or.inl rfl))) (fun _ _ _ _ _ => (pts_one (pt_cmpR op_eq (pe_op op_add (pv 2) (pe_ix (r := rIxL K) ix_list (pv 3) (pv 2) (fun _ _ => rfl))) (pv 8) (nomark _)))) (fun _ _ _ _ _ => (pv 2)))
      (pss_cons (ps_asg (pv 9) (pg_sub (pv 5) (pe_ix ix_list (pv 10) pe_int (fun _ _ => rfl)) set_list))
      (pss_cons (ps_expr (pe_bm PySem.F.plainAttrs_list PySem.F.slot_list_append PySem.F.type_list_append mt_append (pv 6) (pa_cons (pe_tup (pa_cons (pv 7) (pa_cons (pe_op op_sub (pe_ix ix_list (pv 10) pe_int (fun _ _ => rfl)) pe_int) (pa_cons (pe_ix ix_list (pv 10) pe_int (fun _ _ => rfl)) pa_nil)))) pa_nil)))
      (pss_one (ps_expr (pe_bm PySem.F.plainAttrs_list PySem.F.slot_list_append PySem.F.type_list_append mt_append (pv 6) (pa_cons (pe_tup (pa_cons (pe_op op_add (pe_ix ix_list (pv 10) pe_int (fun _ _ => rfl)) pe_int) (pa_cons (pv 8) (pa_cons (pe_ix ix_list (pv 10) pe_int (fun _ _ => rfl)) pa_nil)))) pa_nil))))))) pss_nil))))
      (pss_one (ps_ret (pe_callTy call_tupX (by rfl) G.tuple (by decide +kernel) (pa_cons (pv 5) pa_nil)))))))))), ?_⟩
    refine ⟨_, rfl, l, _, rfl, .inl (SqL.of hl), ?_⟩
    rw [Ln]
    refine ⟨_, rfl, l, rfl, ⟨_, SqL.of hl⟩, fun aA haA => lc_list (K := K) (a := l) (xs := ivs sl) (fun i H1 => Same H H1 ∧ H1 aA = some (.lst (nvs (List.replicate i 0)))) ⟨(Same.refl H).new haA, upd_same⟩ (fun i H1 _ ⟨s1, _⟩ => SqL.of (s1 _ _ hl)) ?_ ?_⟩
    · rintro i x H1 hi ⟨s1, h1⟩
      have hi' : i < sl.length := by
        have := (List.getElem?_eq_some_iff.mp hi).1
        rw [ivs_len] at this
        exact this
      refine ⟨rfl, _, h1, bigl (by rw [List.length_map, List.length_replicate]; omega), s1.mut haA, ?_⟩
      rw [upd_same, List.replicate_succ', ← nvs_snoc]
      rfl
    · rintro H1 ⟨s1, h1⟩
      rw [ivs_len, hn] at h1
      refine ⟨_, rfl, _, rfl, by omega, by omega, by omega, by omega, for_rangeC (lo := 0 + ((((n : Nat) : Int) - 0).toNat : Nat) - 1) (c := -1) (n := (((n : Nat) : Int) - 0).toNat)
        (fun i σ H2 => (∃ x y, σ = [some (.ref l), some (.int (n : Nat)), x, some (.ref aA), y, none, none, none, none, none, none]) ∧ Same H H2 ∧ ∃ ar : List Nat, H2 aA = some (.lst (nvs ar)) ∧ ar.length = n ∧ Brk (fun j => ar.getD j 0) (n - i) n)
        ⟨⟨_, _, rfl⟩, s1, _, h1, List.length_replicate, fun i a b => by omega⟩ ?_ ?_⟩
      · rintro i σ H2 hi ⟨⟨x0, y0, rfl⟩, s2, ar, h2, arl, br⟩
        have hi' : i < n := by omega
        obtain ⟨k, hk⟩ : ∃ k : Nat, k + 1 + i = n := ⟨n - 1 - i, by omega⟩
        have ek : (0 : Int) + ((((n : Nat) : Int) - 0).toNat : Nat) - 1 + ((i : Nat) : Int) * -1 = ((k : Nat) : Int) := by omega
        rw [ek]
        have br : Brk (fun j => ar.getD j 0) (k + 1) n := by rw [show k + 1 = n - i by omega]; exact br
        refine ⟨by show 1 ≤ sizeLine; decide, fun wA hwA => ?_⟩
        have nwa : aA ≠ wA := fun e => by rw [← e, h2] at hwA; cases hwA
        have hwA0 : H wA = none := s2.free hwA
        have s3 := s2.new (o := .lst [.int 0]) hwA
        refine ⟨fun m σ H3 => ∃ (pre : List Nat) (v : Nat), m = n - v ∧ (∀ x ∈ pre ++ [v], Wy (fun j => ar.getD j 0) k n x) ∧ pre.length ≤ v ∧ σ = [some (.ref l), some (.int (n : Nat)), some (.int (k : Nat)), some (.ref aA), some (.ref wA), none, none, none, none, none, none] ∧ Same H H3 ∧ H3 aA = some (.lst (nvs ar)) ∧ H3 wA = some (.lst (nvs (pre ++ [v]))),
          ⟨_, [], 0, rfl, fun x hx => by
            have : x = 0 := by simpa using hx
            rw [this]; exact wy_zero (by omega), Nat.zero_le _, rfl, s3, by rw [upd_ne nwa]; exact h2, upd_same⟩, ?_⟩
        rintro m σ H3 ⟨pre, v, rfl, wy, pl, rfl, s4, ha3, hw3⟩
        have wv := wy v (by simp)
        refine ⟨_, rfl, _, rfl, _, rfl, wA, _, _, _, rfl, rfl, SqL.of hw3, atI_nlast pre v, _, _, rfl, rfl, _, rfl, _, _, rfl, rfl, _, _, rfl, rfl, _, rfl, ?_⟩
        by_cases c : k + v + 1 < n
        · refine iteD1 (by omega) ?_
          have e1 : ((k : Nat) : Int) + ((v : Nat) : Int) + 1 = ((k + v + 1 : Nat) : Int) := by omega
          have st := wy_step br wv c
          refine ⟨fun σ' H' => ∃ m', m' < n - v ∧ ∃ (pre : List Nat) (v : Nat), m' = n - v ∧ (∀ x ∈ pre ++ [v], Wy (fun j => ar.getD j 0) k n x) ∧ pre.length ≤ v ∧ σ' = [some (.ref l), some (.int (n : Nat)), some (.int (k : Nat)), some (.ref aA), some (.ref wA), none, none, none, none, none, none] ∧ Same H H' ∧ H' aA = some (.lst (nvs ar)) ∧ H' wA = some (.lst (nvs (pre ++ [v]))), fun _ _ z => z, ?_⟩
          refine ⟨_, rfl, .inl ⟨rfl, _, SqL.of hw3⟩, _, rfl, _, rfl, wA, _, _, _, rfl, rfl, SqL.of hw3, atI_nlast pre v, _, _, rfl, rfl, _, rfl, _, rfl, _, rfl, _, rfl, wA, _, _, _, rfl, rfl, SqL.of hw3, atI_nlast pre v, _, _, rfl, rfl, _, _, rfl, rfl, aA, _, _, .int ((ar.getD (k + v + 1) 0 : Nat) : Int), rfl, rfl, SqL.of ha3, ?_, _, _, rfl, rfl, ?_⟩
          · show atI (nvs ar) (((k : Nat) : Int) + ((v : Nat) : Int) + 1) = _
            rw [e1]
            exact atI_of (nvs_at (getD_at (by omega)))
          · dsimp only
            have e2 : ((v : Nat) : Int) + 1 + ((ar.getD (k + v + 1) 0 : Nat) : Int) = ((v + 1 + ar.getD (k + v + 1) 0 : Nat) : Int) := by omega
            rw [e2]
            refine ⟨wA, _, _, rfl, rfl, hw3, bigl (by rw [List.length_map, List.length_append, List.length_singleton]; have := wv.1; omega), ?_⟩
            rw [nvs_snoc]
            refine ⟨n - (v + 1 + ar.getD (k + v + 1) 0), by omega, pre ++ [v], v + 1 + ar.getD (k + v + 1) 0, rfl, fun x hx => ?_, by rw [List.length_append, List.length_singleton]; omega, rfl, s4.mut hwA0, by rw [upd_ne nwa]; exact ha3, upd_same⟩
            rcases List.mem_append.mp hx with hx | hx
            · exact wy x hx
            · rw [List.mem_singleton.mp hx]
              exact st
        · refine iteD0 (by omega) ?_
          obtain ⟨z, hz⟩ : ∃ z, sl[k]? = some z := ⟨_, List.getElem?_eq_getElem (by omega)⟩
          have wl0 : (nvs (pre ++ [v])).length = pre.length + 1 := by rw [List.length_map, List.length_append, List.length_singleton]
          have h0 := Int.emod_nonneg (z / 7) (show ((pre.length + 1 : Nat) : Int) ≠ 0 by omega)
          have h9 := Int.emod_lt_of_pos (z / 7) (show 0 < ((pre.length + 1 : Nat) : Int) by omega)
          obtain ⟨ix, hix⟩ : ∃ ix : Nat, z / 7 % ((pre.length + 1 : Nat) : Int) = (ix : Int) := ⟨_, (Int.toNat_of_nonneg h0).symm⟩
          obtain ⟨x, hx⟩ : ∃ x, (pre ++ [v])[ix]? = some x := ⟨_, List.getElem?_eq_getElem (by rw [List.length_append, List.length_singleton]; omega)⟩
          refine ⟨_, rfl, _, rfl, _, rfl, l, _, _, _, rfl, rfl, SqL.of (s4 _ _ hl), atI_ivs hz, _, _, rfl, rfl, ⟨by decide, by decide⟩, _, rfl, wA, _, rfl, .inl (SqL.of hw3), _, _, rfl, rfl, (by rw [wl0]; omega), wA, _, _, .int (x : Nat), rfl, rfl, SqL.of hw3, ?_, ?_⟩
          · show atI (nvs (pre ++ [v])) (z / 7 % ((nvs (pre ++ [v])).length : Int)) = _
            rw [wl0, hix]
            exact atI_of (nvs_at hx)
          · refine ⟨_, rfl, _, rfl, aA, _, _, k, rfl, rfl, ha3, ixN_of (by rw [List.length_map]; omega), ?_⟩
            rw [nvs_set]
            refine ⟨⟨_, _, rfl⟩, s4.mut haA, _, upd_same, by rw [List.length_set]; exact arl, ?_⟩
            rw [show n - (i + 1) = k by omega]
            refine brk_set br (wy x (List.mem_of_getElem? hx)) ?_ fun j hj => ?_
            · show (ar.set k x).getD k 0 = x
              rw [List.getD_eq_getElem?_getD, List.getElem?_set_self (by omega)]
              rfl
            · show (ar.set k x).getD j 0 = ar.getD j 0
              rw [List.getD_eq_getElem?_getD, List.getD_eq_getElem?_getD, List.getElem?_set_ne (fun e => hj e.symm)]
      · rintro σ H2 ⟨⟨x0, y0, rfl⟩, s2, ar, h2, arl, br⟩
        have br : Brk (fun j => ar.getD j 0) 0 n := by rw [show n - (((n : Nat) : Int) - 0).toNat = 0 by omega] at br; exact br
        obtain ⟨t, tz, ro⟩ := arm_tree (A := fun j => ar.getD j 0) n 0 (fun j _ h => by rw [Nat.zero_add]; exact (br j (Nat.zero_le _) (by omega)).1) (fun i j _ h1 h2 h3 => (br i (Nat.zero_le _) (by omega)).2 j h1 h3)
        have tne : t ≠ .lf := fun e => by rw [e] at tz; simp only [B.sz] at tz; omega
        refine ⟨_, rfl, aA, rfl, ⟨_, SqL.of h2⟩, fun bA hbA => lc_list (K := K) (a := aA) (xs := nvs ar) (fun i H3 => Same H H3 ∧ H3 aA = some (.lst (nvs ar)) ∧ H3 bA = some (.lst (ivs (List.replicate i (-1))))) ?_ (fun i H3 _ ⟨_, h, _⟩ => SqL.of h) ?_ ?_⟩
        · exact ⟨s2.new hbA, by rw [upd_ne (fun e => by rw [← e, h2] at hbA; cases hbA)]; exact h2, upd_same⟩
        · rintro i x H3 hi ⟨s3, ha3, hb3⟩
          have hi' : i < n := by
            have := (List.getElem?_eq_some_iff.mp hi).1
            rw [List.length_map, arl] at this
            exact this
          have nab : aA ≠ bA := fun e => by rw [← e, h2] at hbA; cases hbA
          refine ⟨rfl, _, rfl, _, hb3, bigl (by rw [ivs_len, List.length_replicate]; omega), s3.mut (s2.free hbA), by rw [upd_ne nab]; exact ha3, ?_⟩
          rw [upd_same, List.replicate_succ']
          show some (HO.lst (ivs (List.replicate i (-1)) ++ ivs [-1])) = _
          unfold ivs
          rw [← List.map_append]
        · rintro H3 ⟨s3, ha3, hb3⟩
          rw [List.length_map, arl] at hb3
          have hbA0 : H bA = none := s2.free hbA
          refine ⟨_, rfl, _, _, rfl, rfl, _, rfl, by show 3 ≤ sizeLine; decide, fun i0 hi0 => ?_⟩
          have s4 := s3.new (o := .tup [.int 0, .int ((n : Nat) - 1), .int (-1)]) hi0
          refine ⟨by show 1 ≤ sizeLine; decide, fun lA hlA => ?_⟩
          have hlA0 : H lA = none := s4.free hlA
          have nai : aA ≠ i0 := fun e => by rw [← e, ha3] at hi0; cases hi0
          have nbi : bA ≠ i0 := fun e => by rw [← e, hb3] at hi0; cases hi0
          have ha4 : (upd H3 i0 (.tup [.int 0, .int ((n : Nat) - 1), .int (-1)])) aA = some (.lst (nvs ar)) := by rw [upd_ne nai]; exact ha3
          have hb4 : (upd H3 i0 (.tup [.int 0, .int ((n : Nat) - 1), .int (-1)])) bA = some (.lst (ivs (List.replicate n (-1)))) := by rw [upd_ne nbi]; exact hb3
          have nal : aA ≠ lA := fun e => by rw [← e, ha4] at hlA; cases hlA
          have nbl : bA ≠ lA := fun e => by rw [← e, hb4] at hlA; cases hlA
          have nil' : i0 ≠ lA := fun e => by rw [← e, upd_same] at hlA; cases hlA
          have nab : aA ≠ bA := fun e => by rw [← e, h2] at hbA; cases hbA
          have s5 := s4.new (o := .lst [.ref i0]) hlA
          have cv0 : cvI [(0, n, -1)] = [(0, t.sz + 1, -1)] := by
            unfold cvI
            have : n ≠ 0 := by omega
            simp [this, tz]
          refine ⟨fun m σ H5 => ∃ (is : List Itm) (told : List Int) (us : List V), m = msI is ∧ Stk t told (cvI is) ∧ msI is ≤ 3 * n + 1 ∧ (∃ x y a1 a2 a3 a4, σ = [some (.ref l), some (.int (n : Nat)), x, some (.ref aA), y, some (.ref bA), some (.ref lA), a1, a2, a3, a4]) ∧ Same H H5 ∧ H5 aA = some (.lst (nvs ar)) ∧ H5 bA = some (.lst (ivs told)) ∧ H5 lA = some (.lst us) ∧ Tups H5 us (is.map trI),
            ⟨_, [(0, n, -1)], List.replicate n (-1), [.ref i0], rfl, by rw [cv0]; exact stk_start tne (by rw [List.length_replicate, tz]), by simp [msI], ⟨_, _, _, _, _, _, rfl⟩, s5, by rw [upd_ne nal]; exact ha4, by rw [upd_ne nbl]; exact hb4, upd_same, .cons ⟨i0, rfl, by rw [upd_ne nil', upd_same]; show some (HO.tup [.int 0, .int ((n : Nat) - 1), .int (-1)]) = some (HO.tup [.int ((0 : Nat) : Int), .int (((0 : Nat) : Int) + (n : Int) - 1), .int (-1)]); congr 5; omega⟩ .nil⟩, ?_⟩
          rintro m σ H5 ⟨is, told, us, rfl, S, hms, ⟨x1, y1, a1, a2, a3, a4, rfl⟩, s6, ha5, hb5, hl5, tu⟩
          have ul : us.length = is.length := by rw [tu.len, List.length_map]
          refine ⟨_, rfl, by show 0 ≤ sizeLine; decide, fun z0 hz0 => ?_⟩
          have nza : aA ≠ z0 := fun e => by rw [← e, ha5] at hz0; cases hz0
          have nzb : bA ≠ z0 := fun e => by rw [← e, hb5] at hz0; cases hz0
          have nzl : lA ≠ z0 := fun e => by rw [← e, hl5] at hz0; cases hz0
          have s7 := s6.new (o := .lst []) hz0
          have ha6 : (upd H5 z0 (.lst [])) aA = some (.lst (nvs ar)) := by rw [upd_ne nza]; exact ha5
          have hb6 : (upd H5 z0 (.lst [])) bA = some (.lst (ivs told)) := by rw [upd_ne nzb]; exact hb5
          have hl6 : (upd H5 z0 (.lst [])) lA = some (.lst us) := by rw [upd_ne nzl]; exact hl5
          have hz6 : (upd H5 z0 (.lst [])) z0 = some (.lst []) := upd_same
          have tu6 := tu.keep (Tkeep.new (o := .lst []) hz0)
          generalize upd H5 z0 (.lst []) = H6 at s7 ha6 hb6 hl6 hz6 tu6 ⊢
          refine ⟨lA, z0, us, _, rfl, rfl, SqL.of hl6, dp_tups tu6, sh_tups _, SqL.of hz6, _, rfl, ?_⟩
          rcases List.eq_nil_or_concat is with e | ⟨is', it, e⟩
          · subst e
            refine iteF ?_
            refine ⟨_, rfl, bA, told, true, rfl, SqL.of hb6, fun p H' hp sm tk => ?_⟩
            rw [stk_end S] at tk
            exact q p t H' (s7.trans sm) tz tk
          · rw [List.concat_eq_append] at e
            subst e
            obtain ⟨f0, mm, ab⟩ := it
            have ne : (!(((is' ++ [(f0, mm, ab)]).map trI).map tupD).isEmpty) = true := by simp
            rw [ne]
            refine iteT ?_
            rcases List.eq_nil_or_concat us with e | ⟨us', x, e⟩
            · subst e
              rw [List.length_append] at ul
              simp at ul
            · rw [List.concat_eq_append] at e
              subst e
              have ul' : us'.length = is'.length := by rw [List.length_append, List.length_append] at ul; simpa using ul
              obtain ⟨it, c, hit, rfl, hc⟩ := tu6.get (i := us'.length) (x := x) (by rw [List.getElem?_append_right (Nat.le_refl _), Nat.sub_self]; rfl)
              rw [ul', List.getElem?_append_right (Nat.le_refl _), Nat.sub_self] at hit
              have : it = (f0, mm, ab) := (Option.some.inj hit).symm
              subst this
              have hc : H6 c = some (.tup [.int ((f0 : Nat) : Int), .int (((f0 : Nat) : Int) + ((mm : Nat) : Int) - 1), .int ab]) := hc
              have tu' : Tups H6 us' (is'.map trI) := by
                rw [List.map_append] at tu6
                have : ∀ {xs : List V} {ys : List (List Int)} {x y}, xs.length = ys.length → Tups H6 (xs ++ [x]) (ys ++ [y]) → Tups H6 xs ys := by
                  intro xs
                  induction xs with
                  | nil =>
                    intro ys x y h _
                    have : ys = [] := List.length_eq_zero_iff.mp h.symm
                    subst this
                    exact .nil
                  | cons a xs ih =>
                    intro ys x y h k
                    cases ys with
                    | nil => simp at h
                    | cons b ys =>
                      cases k with
                      | cons r t => exact .cons r (ih (by simpa using h) t)
                exact this (by rw [ul', List.length_map]) tu6
              have hlast : (us' ++ [V.ref c])[(us' ++ [V.ref c]).length - 1]? = some (V.ref c) := by
                rw [List.length_append, List.length_singleton, Nat.add_sub_cancel, List.getElem?_append_right (Nat.le_refl _), Nat.sub_self]
                rfl
              have mI : msI (is' ++ [(f0, mm, ab)]) = msI is' + (3 * mm + 1) := by rw [msI_app]; simp [msI]
              refine ⟨fun σ' H' => ∃ m', m' < msI (is' ++ [(f0, mm, ab)]) ∧ ∃ (is : List Itm) (told : List Int) (us : List V), m' = msI is ∧ Stk t told (cvI is) ∧ msI is ≤ 3 * n + 1 ∧ (∃ x y a1 a2 a3 a4, σ' = [some (.ref l), some (.int (n : Nat)), x, some (.ref aA), y, some (.ref bA), some (.ref lA), a1, a2, a3, a4]) ∧ Same H H' ∧ H' aA = some (.lst (nvs ar)) ∧ H' bA = some (.lst (ivs told)) ∧ H' lA = some (.lst us) ∧ Tups H' us (is.map trI), fun _ _ z => z, ?_⟩
              refine ⟨_, rfl, .inl ⟨rfl, _, SqL.of hl6⟩, lA, _, _, rfl, rfl, hl6, hlast, ?_⟩
              rw [List.dropLast_concat]
              have k1 : Tkeep H6 (upd H6 lA (.lst us')) := Tkeep.lst hl6
              refine ⟨c, _, rfl, SqT.of (k1 _ _ hc), rfl, _, _, rfl, _, _, rfl, _, _, rfl, rfl, ?_⟩
              have s8 : Same H (upd H6 lA (.lst us')) := s7.mut hlA0
              have ha8 : (upd H6 lA (.lst us')) aA = some (.lst (nvs ar)) := by rw [upd_ne nal]; exact ha6
              have hb8 : (upd H6 lA (.lst us')) bA = some (.lst (ivs told)) := by rw [upd_ne nbl]; exact hb6
              have hl8 : (upd H6 lA (.lst us')) lA = some (.lst us') := upd_same
              have tu8 := tu'.keep k1
              generalize upd H6 lA (.lst us') = H8 at s8 ha8 hb8 hl8 tu8 ⊢
              refine ⟨_, rfl, _, rfl, _, _, rfl, rfl, _, rfl, ?_⟩
              by_cases hm0 : mm = 0
              · subst hm0
                refine iteD0 (by omega) ?_
                refine ⟨msI is', by omega, is', told, us', rfl, ?_, by omega, ⟨_, _, _, _, _, _, rfl⟩, s8, ha8, hb8, hl8, tu8⟩
                rw [cvI_app] at S
                have : cvI [(f0, 0, ab)] = [] := by simp [cvI]
                rw [this, List.append_nil] at S
                exact S
              · refine iteD1 (by omega) ?_
                rw [cvI_app] at S
                have cv1 : cvI [(f0, mm, ab)] = [(f0, f0 + mm + 1, ab)] := by simp [cvI, hm0]
                rw [cv1] at S
                obtain ⟨l', r', hsb, ehi, hab⟩ := S.items (f0, f0 + mm + 1, ab) (List.mem_append_right _ List.mem_cons_self)
                simp only at hsb ehi hab
                have emm : mm = (B.nd l' r').sz := by omega
                subst emm
                have bd := hsb.bd
                have szn : (B.nd l' r').sz = l'.sz + 1 + r'.sz := rfl
                obtain ⟨rest, hfirst⟩ := root_first (rootOk_sb hsb ro)
                refine ⟨_, rfl, _, rfl, _, _, rfl, rfl, _, _, rfl, ⟨by omega, by omega, by omega, by omega⟩, fun D hD => ?_⟩
                have en : (((f0 : Nat) : Int) + (((B.nd l' r').sz : Nat) : Int) - 1 + 1 - ((f0 : Nat) : Int)).toNat = (B.nd l' r').sz := by omega
                rw [en]
                refine lc_range (lo := ((f0 : Nat) : Int)) (n := (B.nd l' r').sz) (fun i H9 => Same H8 H9 ∧ H9 D = some (.lst (nvs ((List.range' f0 i).filter fun k => decide (k + ar.getD k 0 + 1 = f0 + (B.nd l' r').sz))))) ⟨(Same.refl H8).new hD, upd_same⟩ ?_ ?_
                · rintro i H9 hi ⟨s9, h9⟩
                  have e0 : ((f0 : Nat) : Int) + ((i : Nat) : Int) = ((f0 + i : Nat) : Int) := by omega
                  rw [e0]
                  have hg : ar[f0 + i]? = some (ar.getD (f0 + i) 0) := getD_at (by omega)
                  refine ⟨rfl, _, rfl, _, rfl, _, rfl, aA, _, _, _, rfl, rfl, SqL.of (s9 _ _ ha8), atI_of (nvs_at hg), _, _, rfl, rfl, _, rfl, rfl, _, rfl, ?_⟩
                  have esn : List.range' f0 (i + 1) = List.range' f0 i ++ [f0 + i] := by rw [List.range'_concat]; simp
                  by_cases cc : f0 + i + ar.getD (f0 + i) 0 + 1 = f0 + (B.nd l' r').sz
                  · refine iteD1 (congrArg V.int (by omega)) ?_
                    refine ⟨_, rfl, _, h9, bigl ?_, s9.mut hD, ?_⟩
                    · rw [List.length_map]
                      have := List.length_filter_le (fun k => decide (k + ar.getD k 0 + 1 = f0 + (B.nd l' r').sz)) (List.range' f0 i)
                      rw [List.length_range'] at this
                      omega
                    · rw [upd_same, nvs_snoc, esn, List.filter_append]
                      have : [f0 + i].filter (fun k => decide (k + ar.getD k 0 + 1 = f0 + (B.nd l' r').sz)) = [f0 + i] := by
                        rw [List.filter_cons, if_pos (decide_eq_true cc), List.filter_nil]
                      rw [this]
                  · refine iteD0 (fun e => cc (by have := V.int.inj e; omega)) ?_
                    refine ⟨s9, ?_⟩
                    rw [esn, List.filter_append]
                    have : [f0 + i].filter (fun k => decide (k + ar.getD k 0 + 1 = f0 + (B.nd l' r').sz)) = [] := by
                      rw [List.filter_cons, if_neg (by simpa using cc), List.filter_nil]
                    rw [this, List.append_nil]
                    exact h9
                · rintro H9 ⟨s9, h9⟩
                  rw [hfirst] at h9
                  have at0 : atI (nvs ((f0 + l'.sz) :: rest)) 0 = some (V.int ((f0 + l'.sz : Nat) : Int)) := atI_of (i := 0) rfl
                  have hb9 := s9 _ _ hb8
                  have ndb : D ≠ bA := fun e => by rw [e, hb8] at hD; cases hD
                  have ndl : D ≠ lA := fun e => by rw [e, hl8] at hD; cases hD
                  have S2 := stk_step (l := l') (r := r') (by rw [← ehi]; exact S) hsb hab
                  refine ⟨_, rfl, _, rfl, _, rfl, D, _, _, _, rfl, rfl, SqL.of h9, at0, bA, _, _, f0 + l'.sz, rfl, rfl, hb9, ixN_of (by rw [ivs_len, S.len]; omega), ?_⟩
                  rw [ivs_set]
                  have sA : Same H (upd H9 bA (.lst (ivs (told.set (f0 + l'.sz) ab)))) := (s8.trans s9).mut hbA0
                  have k2 : Tkeep H9 (upd H9 bA (.lst (ivs (told.set (f0 + l'.sz) ab)))) := Tkeep.lst hb9
                  have haA1 : (upd H9 bA (.lst (ivs (told.set (f0 + l'.sz) ab)))) aA = some (.lst (nvs ar)) := by rw [upd_ne nab]; exact s9 _ _ ha8
                  have hbA1 : (upd H9 bA (.lst (ivs (told.set (f0 + l'.sz) ab)))) bA = some (.lst (ivs (told.set (f0 + l'.sz) ab))) := upd_same
                  have hlA1 : (upd H9 bA (.lst (ivs (told.set (f0 + l'.sz) ab)))) lA = some (.lst us') := by rw [upd_ne nbl.symm]; exact s9 _ _ hl8
                  have hDA1 : (upd H9 bA (.lst (ivs (told.set (f0 + l'.sz) ab)))) D = some (.lst (nvs ((f0 + l'.sz) :: rest))) := by rw [upd_ne ndb]; exact h9
                  have tuA := (tu8.keep (Tkeep.of s9)).keep k2
                  generalize (upd H9 bA (.lst (ivs (told.set (f0 + l'.sz) ab)))) = HA at sA haA1 hbA1 hlA1 hDA1 tuA ⊢
                  have usl : us'.length ≤ 1000 := by
                    have := msI_len is'
                    omega
                  refine ⟨_, rfl, .inl ⟨rfl, _, SqL.of hlA1⟩, _, rfl, _, rfl, D, _, _, _, rfl, rfl, SqL.of hDA1, at0, _, _, rfl, rfl, _, rfl, D, _, _, _, rfl, rfl, SqL.of hDA1, at0, by show 3 ≤ sizeLine; decide, fun p1 hp1 => ?_⟩
                  have np1 : p1 ≠ lA := fun e => by rw [e, hlA1] at hp1; cases hp1
                  have np1a : aA ≠ p1 := fun e => by rw [← e, haA1] at hp1; cases hp1
                  have np1b : bA ≠ p1 := fun e => by rw [← e, hbA1] at hp1; cases hp1
                  have np1d : D ≠ p1 := fun e => by rw [← e, hDA1] at hp1; cases hp1
                  refine ⟨lA, _, _, rfl, rfl, by rw [upd_ne np1.symm]; exact hlA1, bigl (by omega), ?_⟩
                  dsimp only
                  have et1 : [V.int ((f0 : Nat) : Int), V.int (((f0 + l'.sz : Nat) : Int) - 1), V.int ((f0 + l'.sz : Nat) : Int)] = ivs (trI (f0, l'.sz, ((f0 + l'.sz : Nat) : Int))) := by
                    show _ = [V.int ((f0 : Nat) : Int), V.int (((f0 : Nat) : Int) + ((l'.sz : Nat) : Int) - 1), V.int ((f0 + l'.sz : Nat) : Int)]
                    rw [show ((f0 + l'.sz : Nat) : Int) - 1 = ((f0 : Nat) : Int) + ((l'.sz : Nat) : Int) - 1 by omega]
                  rw [et1]
                  have k3 : Tkeep HA (upd HA p1 (.tup (ivs (trI (f0, l'.sz, ((f0 + l'.sz : Nat) : Int)))))) := Tkeep.new hp1
                  have k4 : Tkeep (upd HA p1 (.tup (ivs (trI (f0, l'.sz, ((f0 + l'.sz : Nat) : Int)))))) (upd (upd HA p1 (.tup (ivs (trI (f0, l'.sz, ((f0 + l'.sz : Nat) : Int)))))) lA (.lst (us' ++ [.ref p1]))) := Tkeep.lst (by rw [upd_ne np1.symm]; exact hlA1)
                  have sB := (sA.new (o := .tup (ivs (trI (f0, l'.sz, ((f0 + l'.sz : Nat) : Int))))) hp1).mut (o := .lst (us' ++ [.ref p1])) hlA0
                  have haB : (upd (upd HA p1 (.tup (ivs (trI (f0, l'.sz, ((f0 + l'.sz : Nat) : Int)))))) lA (.lst (us' ++ [.ref p1]))) aA = some (.lst (nvs ar)) := by rw [upd_ne nal, upd_ne np1a]; exact haA1
                  have hbB : (upd (upd HA p1 (.tup (ivs (trI (f0, l'.sz, ((f0 + l'.sz : Nat) : Int)))))) lA (.lst (us' ++ [.ref p1]))) bA = some (.lst (ivs (told.set (f0 + l'.sz) ab))) := by rw [upd_ne nbl, upd_ne np1b]; exact hbA1
                  have hDB : (upd (upd HA p1 (.tup (ivs (trI (f0, l'.sz, ((f0 + l'.sz : Nat) : Int)))))) lA (.lst (us' ++ [.ref p1]))) D = some (.lst (nvs ((f0 + l'.sz) :: rest))) := by rw [upd_ne ndl, upd_ne np1d]; exact hDA1
                  have hlB : (upd (upd HA p1 (.tup (ivs (trI (f0, l'.sz, ((f0 + l'.sz : Nat) : Int)))))) lA (.lst (us' ++ [.ref p1]))) lA = some (.lst (us' ++ [.ref p1])) := upd_same
                  have tuB := (tuA.keep (k3.trans k4)).snoc (ns := trI (f0, l'.sz, ((f0 + l'.sz : Nat) : Int))) (k4 _ _ upd_same)
                  generalize (upd (upd HA p1 (.tup (ivs (trI (f0, l'.sz, ((f0 + l'.sz : Nat) : Int)))))) lA (.lst (us' ++ [.ref p1]))) = HB at sB haB hbB hDB hlB tuB ⊢
                  refine ⟨_, rfl, .inl ⟨rfl, _, SqL.of hlB⟩, _, rfl, D, _, _, _, rfl, rfl, SqL.of hDB, at0, _, _, rfl, rfl, _, rfl, _, rfl, D, _, _, _, rfl, rfl, SqL.of hDB, at0, by show 3 ≤ sizeLine; decide, fun p2 hp2 => ?_⟩
                  have np2 : p2 ≠ lA := fun e => by rw [e, hlB] at hp2; cases hp2
                  have np2a : aA ≠ p2 := fun e => by rw [← e, haB] at hp2; cases hp2
                  have np2b : bA ≠ p2 := fun e => by rw [← e, hbB] at hp2; cases hp2
                  refine ⟨lA, _, _, rfl, rfl, by rw [upd_ne np2.symm]; exact hlB, bigl (by rw [List.length_append, List.length_singleton]; omega), ?_⟩
                  dsimp only
                  have et2 : [V.int (((f0 + l'.sz : Nat) : Int) + 1), V.int (((f0 : Nat) : Int) + (((B.nd l' r').sz : Nat) : Int) - 1), V.int ((f0 + l'.sz : Nat) : Int)] = ivs (trI (f0 + l'.sz + 1, r'.sz, ((f0 + l'.sz : Nat) : Int))) := by
                    show _ = [V.int ((f0 + l'.sz + 1 : Nat) : Int), V.int (((f0 + l'.sz + 1 : Nat) : Int) + ((r'.sz : Nat) : Int) - 1), V.int ((f0 + l'.sz : Nat) : Int)]
                    rw [show ((f0 + l'.sz : Nat) : Int) + 1 = ((f0 + l'.sz + 1 : Nat) : Int) by omega, show ((f0 : Nat) : Int) + (((B.nd l' r').sz : Nat) : Int) - 1 = ((f0 + l'.sz + 1 : Nat) : Int) + ((r'.sz : Nat) : Int) - 1 by omega]
                  rw [et2]
                  have k5 : Tkeep HB (upd HB p2 (.tup (ivs (trI (f0 + l'.sz + 1, r'.sz, ((f0 + l'.sz : Nat) : Int)))))) := Tkeep.new hp2
                  have k6 : Tkeep (upd HB p2 (.tup (ivs (trI (f0 + l'.sz + 1, r'.sz, ((f0 + l'.sz : Nat) : Int)))))) (upd (upd HB p2 (.tup (ivs (trI (f0 + l'.sz + 1, r'.sz, ((f0 + l'.sz : Nat) : Int)))))) lA (.lst (us' ++ [.ref p1] ++ [.ref p2]))) := Tkeep.lst (by rw [upd_ne np2.symm]; exact hlB)
                  have tuC := (tuB.keep (k5.trans k6)).snoc (ns := trI (f0 + l'.sz + 1, r'.sz, ((f0 + l'.sz : Nat) : Int))) (k6 _ _ upd_same)
                  have mC : msI (is' ++ [(f0, l'.sz, ((f0 + l'.sz : Nat) : Int)), (f0 + l'.sz + 1, r'.sz, ((f0 + l'.sz : Nat) : Int))]) = msI is' + (3 * l'.sz + 1 + (3 * r'.sz + 1)) := by rw [msI_app]; simp [msI]
                  refine ⟨_, ?_, is' ++ [(f0, l'.sz, ((f0 + l'.sz : Nat) : Int)), (f0 + l'.sz + 1, r'.sz, ((f0 + l'.sz : Nat) : Int))], told.set (f0 + l'.sz) ab, us' ++ [.ref p1] ++ [.ref p2], rfl, ?_, ?_, ⟨_, _, _, _, _, _, rfl⟩, (sB.new hp2).mut hlA0, by rw [upd_ne nal, upd_ne np2a]; exact haB, by rw [upd_ne nbl, upd_ne np2b]; exact hbB, upd_same, ?_⟩
                  · rw [mC, mI]; omega
                  · rw [cvI_app, cvI_push]
                    exact S2
                  · rw [mC]; omega
                  · rw [List.map_append]
                    have : [(f0, l'.sz, ((f0 + l'.sz : Nat) : Int)), (f0 + l'.sz + 1, r'.sz, ((f0 + l'.sz : Nat) : Int))].map trI = [trI (f0, l'.sz, ((f0 + l'.sz : Nat) : Int))] ++ [trI (f0 + l'.sz + 1, r'.sz, ((f0 + l'.sz : Nat) : Int))] := rfl
                    rw [this, ← List.append_assoc]
                    exact tuC
end
end Kn

set_option Elab.async false
set_option linter.all false
/-! KnN: whom a knot hangs on, by its nearest neighbours told earlier. Plain Lean. -/
namespace Kn
open B

/-- the nearest of l below and above k, and none nearer -/
structure Near (l : List Nat) (k n : Nat) (x y : Int) : Prop where
  x1 : x = -1 ∨ ∃ o ∈ l, (o : Int) = x ∧ o < k
  x2 : ∀ o ∈ l, o < k → (o : Int) ≤ x
  y1 : y = n ∨ ∃ o ∈ l, (o : Int) = y ∧ ¬ o < k
  y2 : ∀ o ∈ l, ¬ o < k → y ≤ o
theorem near_nil (k n : Nat) : Near [] k n (-1) n := ⟨.inl rfl, by simp, .inl rfl, by simp⟩
theorem Near.lo {l : List Nat} {k n : Nat} {x y : Int} (h : Near l k n x y) {o : Nat} (ho : o < k) : Near (l ++ [o]) k n (if (o : Int) > x then (o : Int) else x) y := by
  refine ⟨?_, fun p hp hk => ?_, ?_, fun p hp hk => ?_⟩
  · split
    · exact .inr ⟨o, by simp, rfl, ho⟩
    · rcases h.x1 with e | ⟨p, hp, e⟩
      · exact .inl e
      · exact .inr ⟨p, by simp [hp], e⟩
  · rcases List.mem_append.mp hp with hp | hp
    · have := h.x2 p hp hk
      split <;> omega
    · have : p = o := by simpa using hp
      subst this
      split <;> omega
  · rcases h.y1 with e | ⟨p, hp, e⟩
    · exact .inl e
    · exact .inr ⟨p, by simp [hp], e⟩
  · rcases List.mem_append.mp hp with hp | hp
    · exact h.y2 p hp hk
    · have : p = o := by simpa using hp
      omega
theorem Near.hi {l : List Nat} {k n : Nat} {x y : Int} (h : Near l k n x y) {o : Nat} (ho : ¬ o < k) : Near (l ++ [o]) k n x (if (o : Int) < y then (o : Int) else y) := by
  refine ⟨?_, fun p hp hk => ?_, ?_, fun p hp hk => ?_⟩
  · rcases h.x1 with e | ⟨p, hp, e⟩
    · exact .inl e
    · exact .inr ⟨p, by simp [hp], e⟩
  · rcases List.mem_append.mp hp with hp | hp
    · exact h.x2 p hp hk
    · have : p = o := by simpa using hp
      omega
  · split
    · exact .inr ⟨o, by simp, rfl, ho⟩
    · rcases h.y1 with e | ⟨p, hp, e⟩
      · exact .inl e
      · exact .inr ⟨p, by simp [hp], e⟩
  · rcases List.mem_append.mp hp with hp | hp
    · have := h.y2 p hp hk
      split <;> omega
    · have : p = o := by simpa using hp
      subst this
      split <;> omega
section
variable {τ : Nat → Nat} {l : List Nat} {k n f e : Nat} {x y : Int}
theorem near_blk (B : Blk τ n k f e) (hl : ∀ o, o ∈ l ↔ o < n ∧ τ o < τ k) (h : Near l k n x y) : x = (f : Int) - 1 ∧ y = (e : Int) := by
  have h1 := B.lo; have h2 := B.hi; have h3 := B.le
  refine ⟨?_, ?_⟩
  · rcases h.x1 with ex | ⟨o, ho, ex, ok⟩
    · by_cases hf : f = 0
      · omega
      · have := h.x2 (f - 1) ((hl _).mpr ⟨by omega, B.lf.resolve_left hf⟩) (by omega)
        omega
    · have ot := (hl o).mp ho
      by_cases c : f ≤ o
      · have := B.all o c (by omega) (by omega)
        omega
      · have hf : f ≠ 0 := by omega
        have := h.x2 (f - 1) ((hl _).mpr ⟨by omega, B.lf.resolve_left hf⟩) (by omega)
        omega
  · rcases h.y1 with ey | ⟨o, ho, ey, ok⟩
    · by_cases he : e = n
      · omega
      · have := h.y2 e ((hl _).mpr ⟨by omega, B.rt.resolve_left he⟩) (by omega)
        omega
    · have ot := (hl o).mp ho
      have nk : o ≠ k := fun z => by rw [z] at ot; omega
      by_cases c : o < e
      · have := B.all o (by omega) c nk
        omega
      · by_cases he : e = n
        · omega
        · have := h.y2 e ((hl _).mpr ⟨by omega, B.rt.resolve_left he⟩) (by omega)
          omega
/-- which of the two are told -/
theorem near_ends (B : Blk τ n k f e) (hl : ∀ o, o ∈ l ↔ o < n ∧ τ o < τ k) (inj : ∀ i j, i < n → j < n → τ i = τ j → i = j) {p : Int → Bool} (hp : ∀ z : Int, p z = true ↔ ∃ o ∈ l, (o : Int) = z) :
    ([(f : Int) - 1, (e : Int)].filter p = [] → lat τ n f e = -1) ∧
    ∀ m : Int, m ∈ [(f : Int) - 1, (e : Int)].filter p → (∀ z ∈ [(f : Int) - 1, (e : Int)].filter p, (τ z.toNat : Int) ≤ (τ m.toNat : Int)) → m = lat τ n f e := by
  have h1 := B.lo; have h2 := B.hi; have h3 := B.le
  have pf : f = 0 → p ((f : Int) - 1) = false := fun hf => by
    refine Bool.eq_false_iff.mpr fun z => ?_
    obtain ⟨o, _, e⟩ := (hp _).mp z
    omega
  have pf' : f ≠ 0 → p ((f : Int) - 1) = true := fun hf => (hp _).mpr ⟨f - 1, (hl _).mpr ⟨by omega, B.lf.resolve_left hf⟩, by omega⟩
  have pe : e = n → p (e : Int) = false := fun he => by
    refine Bool.eq_false_iff.mpr fun z => ?_
    obtain ⟨o, ho, e'⟩ := (hp _).mp z
    have := (hl o).mp ho
    omega
  have pe' : e ≠ n → p (e : Int) = true := fun he => (hp _).mpr ⟨e, (hl _).mpr ⟨by omega, B.rt.resolve_left he⟩, rfl⟩
  unfold lat
  by_cases hf : f = 0 <;> by_cases he : e = n
  · rw [List.filter_cons, pf hf, List.filter_cons, pe he]
    simp [hf, he]
  · rw [List.filter_cons, pf hf, List.filter_cons, pe' he]
    simp [hf, he]
  · rw [List.filter_cons, pf' hf, List.filter_cons, pe he]
    simp [hf, he]
  · rw [List.filter_cons, pf' hf, List.filter_cons, pe' he]
    rw [if_neg hf, if_neg he]
    refine ⟨by simp, fun m hm hz => ?_⟩
    have ne : τ (f - 1) ≠ τ e := fun z => by have := inj (f - 1) e (by omega) (by omega) z; omega
    have e1 : ((f : Int) - 1).toNat = f - 1 := by omega
    have e2 : ((e : Int)).toNat = e := by omega
    have z1 := hz ((f : Int) - 1) (by simp)
    have z2 := hz (e : Int) (by simp)
    rw [e1] at z1
    rw [e2] at z2
    have hm : m = (f : Int) - 1 ∨ m = (e : Int) := by simpa using hm
    rcases hm with rfl | rfl
    · rw [e1] at z2
      rw [if_neg (by omega)]
    · rw [e2] at z1
      rw [if_pos (by omega)]
end
/-- the turns of a permutation -/
theorem perm_tau {ord : List Nat} {n : Nat} (h : ord.Perm (List.range n)) : ∃ τ : Nat → Nat, (∀ i k, ord[i]? = some k → k < n ∧ τ k = i) ∧ (∀ k, k < n → ord[τ k]? = some k) := by
  have nd : ord.Nodup := h.nodup_iff.mpr List.nodup_range
  refine ⟨fun k => ord.idxOf k, fun i k e => ?_, fun k hk => ?_⟩
  · have hm := List.mem_of_getElem? e
    obtain ⟨hi, e'⟩ := List.getElem?_eq_some_iff.mp e
    refine ⟨List.mem_range.mp (h.mem_iff.mp hm), ?_⟩
    have h1 := List.idxOf_lt_length_of_mem hm
    have h2 : ord[ord.idxOf k] = k := List.getElem_idxOf h1
    exact (List.getElem_inj nd).mp (h2.trans e'.symm)
  · have hm : k ∈ ord := h.mem_iff.mpr (List.mem_range.mpr hk)
    have h1 := List.idxOf_lt_length_of_mem hm
    rw [List.getElem?_eq_getElem h1, List.getElem_idxOf h1]
end Kn

set_option Elab.async false
set_option linter.all false
set_option maxRecDepth 100000
set_option maxHeartbeats 1000000
/-! WkX: the law's trees by turns. -/
namespace Kn
open PySem PySem.Spec PyProof.Rows L2 LamX

/-- a def of the module whose code object is known -/
structure DfC (K : PySem.W.Frag) (mg : Str → Option Value) (x : Str) (st : Stmt) (ps : List Str) (c : Addr) : Prop where
  ex : ∃ (f : Addr) (fd : FuncData), C8.Def K mg x st f fd ∧ Binds K fd ps [] ∧ fd.code = .ref c
section
variable {P : Program} {w : World} {K : PySem.W.Frag} {mg : Str → Option Value} {base : Heap}
theorem DfC.cal {x : Str} {st : Stmt} {N ps : List Str} {k : Nat} {sp : Sp} {c : Addr} (F : DfC K mg x st ps c) (S : FnScope N ps (C8.fnScope st)) (len : ∀ vs H Q E, sp vs H Q E → vs.length = ps.length)
    (hbody : ∀ (f : Addr) (A : Around) (outer : List Env) (s : Shared) (H : Hp) (vs : List V) (Q : VK) (E : XK), Room k (A.deeper (envOfC x (C8.fnScope st) s.heap.objs.size f (.ref c))) → sp vs H Q E →
      ∃ t, PSs (cxOf C8.CX0 P w K mg base N x (C8.fnScope st) f (.ref c) A outer s H E).nox (C8.fnBody st) t ∧ t { nx := fun _ H' => Q .non H', rt := Q } (start N vs) H) : CalN P w K mg base (k + 1) x sp := by
  obtain ⟨f, fd, D, b, hc⟩ := F.ex
  refine ⟨f, fd, ps, [], ?_, D.mgf, D.kp, b, .nil⟩
  obtain ⟨oc, od, dV, kV, doc, pm, an, cdv, ct, osl, rfl, lk, hcd⟩ := D.fn.ex
  have e : cdv = .ref c := hc
  subst e
  refine fn_of lk hcd S len fun A outer s H vs Q E hr hsp => ?_
  obtain ⟨t, h, q⟩ := hbody f A outer s H vs Q E hr hsp
  exact ⟨t, h.nox, q⟩
end
/-! ### heaps apart from tables -/
theorem exN_same {H H' : Hp} (s : Same H H') : ExtN H H' := fun b o h _ => s b o h
theorem exN_new {H H1 : Hp} {p : Addr} {o : HO} (s : ExtN H H1) (h : H1 p = none) : ExtN H (upd H1 p o) := fun b u e n => by
  rw [upd_ne (ne_of_none (s b u e n) h)]
  exact s b u e n
theorem exN_mut {H H1 : Hp} {p : Addr} {o : HO} (s : ExtN H H1) (h : H p = none) : ExtN H (upd H1 p o) := fun b u e n => by
  rw [upd_ne (ne_of_none e h)]
  exact s b u e n
theorem lst_ne {xs : List V} (ps : Array Value) : HO.lst xs ≠ .tbl ps := fun z => by cases z
theorem dK_ne {xs : List (L2.Key × V)} (ps : Array Value) : HO.dK xs ≠ .tbl ps := fun z => by cases z
theorem tup_ne {xs : List V} (ps : Array Value) : HO.tup xs ≠ .tbl ps := fun z => by cases z
theorem tabs_new {T : List (Addr × Str)} {H : Hp} {p : Addr} {o : HO} (t : Tabs T H) (h : H p = none) : Tabs T (upd H p o) := t.ext fun b u e => by
  rw [upd_ne (ne_of_none e h)]
  exact e
/-- a list or a dict is written -/
theorem tabs_mut {T : List (Addr × Str)} {H : Hp} {p : Addr} {o u : HO} (t : Tabs T H) (h : H p = some u) (hu : (∃ xs, u = .lst xs) ∨ ∃ xs, u = .dK xs) : Tabs T (upd H p o) := fun q hq => by
  obtain ⟨ps, h1, h2, h3⟩ := t q hq
  have ne1 : ∀ {b : Addr} {x : HO}, H b = some x → (∀ xs, x ≠ .lst xs) → (∀ xs, x ≠ .dK xs) → b ≠ p := fun {b x} e n1 n2 z => by
    rw [z, h] at e
    rcases hu with ⟨xs, rfl⟩ | ⟨xs, rfl⟩
    · exact n1 xs (Option.some.inj e).symm
    · exact n2 xs (Option.some.inj e).symm
  refine ⟨ps, by rw [upd_ne (ne1 h1 (by intro xs z; cases z) (by intro xs z; cases z))]; exact h1, h2, fun pos cv hc => ?_⟩
  obtain ⟨c, e1, e2⟩ := h3 pos cv hc
  refine ⟨c, e1, ?_⟩
  have : c ≠ p := ne1 e2 (by intro xs z; unfold CodeO at z; cases z) (by intro xs z; unfold CodeO at z; cases z)
  rw [upd_ne this]
  exact e2
theorem fr2 {sc : Scope} {a b : Str} (h : sc.names.lookup a = some .cell) : ∀ y ∈ [(b, NameKind.local), (a, NameKind.free)], y.2 = .free → sc.names.lookup y.1 = some .cell := by
  intro y hy e
  rcases List.mem_cons.mp hy with rfl | hy
  · cases e
  · rcases List.mem_cons.mp hy with rfl | hy
    · exact h
    · cases hy
/-- a loop over a locked dict's keys -/
theorem for_keys {d : Addr} {o : Obj} {kvs : List (L2.Key × V)} {g : TG} {tb : L2.TS} {D : Ends} {σ : L2.St} {H : Hp} (Pv : Nat → L2.St → Hp → Prop) (h0 : Pv 0 σ H) (hq : ∀ i σ H, Pv i σ H → H d = some (.frz o (.dK kvs)))
    (hs : ∀ i k v σ H, kvs[i]? = some (k, v) → Pv i σ H → g (kV k) σ H fun σ2 H2 => tb { D with nx := Pv (i + 1), ct := Pv (i + 1), bk := D.nx } σ2 H2) (hd : ∀ σ H, Pv kvs.length σ H → D.nx σ H) :
    ∃ W : Nat → Nat → L2.St → Hp → Prop, (∃ m, W 0 m σ H) ∧ ∀ i m σ H, W i m σ H →
      ((Itk d o kvs).stop i H ∧ D.nx σ H) ∨ ((Itk d o kvs).go i H ∧ ∃ N : L2.St → Hp → Prop, (∀ σ' H', N σ' H' → ∃ m', m' < m ∧ W (i + 1) m' σ' H') ∧ ∀ v H', (Itk d o kvs).yld i H v H' → g v σ H' fun σ2 H2 => tb { D with nx := N, ct := N, bk := D.nx } σ2 H2) := by
  refine ⟨fun i m σ H => m = kvs.length - i ∧ i ≤ kvs.length ∧ Pv i σ H, ⟨kvs.length, rfl, Nat.zero_le _, h0⟩, ?_⟩
  rintro i m σ H ⟨rfl, hi, p⟩
  have q := hq i σ H p
  by_cases hlt : i < kvs.length
  · refine .inr ⟨⟨q, hlt⟩, Pv (i + 1), fun σ' H' p' => ⟨kvs.length - (i + 1), by omega, rfl, hlt, p'⟩, fun v H' y => ?_⟩
    obtain ⟨rfl, k, v', h1, rfl⟩ := y
    exact hs i k v' σ _ h1 p
  · have e : i = kvs.length := by omega
    subst e
    exact .inl ⟨⟨q, Nat.le_refl _⟩, hd σ H p⟩
/-- the turns told: of the knots of l -/
structure Tns (τ : Nat → Nat) (kvs : List (L2.Key × V)) (l : List Nat) : Prop where
  keys : kvs.map (·.1) = l.map fun k : Nat => (Sum.inl (k : Int) : L2.Key)
  val : ∀ k ∈ l, valV kvs (.inl (k : Int)) = some (V.int (τ k : Nat))
  non : ∀ z : Int, (∀ k ∈ l, (k : Int) ≠ z) → valV kvs (.inl z) = none
theorem Tns.put {τ : Nat → Nat} {kvs : List (L2.Key × V)} {l : List Nat} {k i : Nat} (h : Tns τ kvs l) (hk : k ∉ l) (e : τ k = i) : Tns τ (putK kvs (.inl (k : Int)) (.int (i : Nat))) (l ++ [k]) := by
  have ne : ∀ j ∈ l, (j : Int) ≠ (k : Int) := fun j hj e => by
    have : j = k := by omega
    exact hk (this ▸ hj)
  have hn : valV kvs (.inl (k : Int)) = none := h.non _ ne
  refine ⟨?_, fun j hj => ?_, fun z hz => ?_⟩
  · rw [putK_new _ hn, List.map_append, List.map_append, h.keys]
    rfl
  · rw [valV_put]
    rcases List.mem_append.mp hj with hj | hj
    · rw [if_neg (fun e => ne j hj (Sum.inl.inj e))]
      exact h.val j hj
    · have : j = k := by simpa using hj
      subst this
      rw [if_pos rfl, e]
  · rw [valV_put, if_neg (fun e => hz k (by simp) (Sum.inl.inj e).symm)]
    exact h.non z fun j hj => hz j (by simp [hj])
section
variable {P : Program} {w : World} {K : PySem.W.Frag} {mg : Str → Option Value} {base : Heap}
abbrev s__law_hung : Stmt := top 49
theorem sc__law_hung : FnScope ["order", "knot", "above", "turn", "near", "other", "ends", "turns"] ["order"] (C8.fnScope s__law_hung) := C8.fnScope_by (by decide +kernel)
def sp__law_hung (T : List (Addr × Str)) : Sp := fun vs H Q _ => ∃ (a : Addr) (n : Nat) (ord : List Nat), vs = [.ref a] ∧ H a = some (.lst (nvs ord)) ∧ ord.Perm (List.range n) ∧ 1 ≤ n ∧ n ≤ 40 ∧ Tabs T H ∧
  ∀ (p : Addr) (t : B) (H' : Hp), ExtN H H' → Tabs T H' → t.sz = n → TpF H' p (tl t) → Q (.ref p) H'
theorem ok__law_hung {T : List (Addr × Str)} {c Pt : Addr} (G : Gs mg) (F : DfC K mg "_law_hung" s__law_hung ["order"] c) (TB : TabB base mg c Pt) (hmT : (Pt, (("_law_hung" : Str) ++ ".<locals>.") ++ "<lambda>") ∈ T) (huT : ∀ q ∈ T, q.1 = Pt → q.2 = (("_law_hung" : Str) ++ ".<locals>.") ++ "<lambda>") :
    CalN P w K mg base 1 "_law_hung" (sp__law_hung T) := by
  refine F.cal sc__law_hung (fun vs H Q E h => ?_) (fun f A outer s H vs Q E hr h => ?_)
  · obtain ⟨a, n, ord, rfl, _⟩ := h
    rfl
  · obtain ⟨a, n, ord, rfl, ha, pm, hn1, hn2, hT, q⟩ := h
    obtain ⟨τ, hτ1, hτ2⟩ := perm_tau pm
    have ol : ord.length = n := by rw [pm.length_eq, List.length_range]
    have inj : ∀ i j, i < n → j < n → τ i = τ j → i = j := fun i j hi hj e => by
      have h1 := hτ2 i hi
      have h2 := hτ2 j hj
      rw [e] at h1
      exact Option.some.inj (h1.symm.trans h2)
    obtain ⟨t, tz, mok⟩ := min_tree (τ := τ) n 0 (fun i j _ hi _ hj e => inj i j (by omega) (by omega) e)
    have mpar := min_par (τ := τ) (n := n) t 0 (-1) mok (by omega) (fun j _ _ => .inl rfl) (fun j _ _ => .inl (by omega)) (by unfold lat; rw [if_pos rfl, if_pos (by omega)])
    refine ⟨_, (pss_cons (ps_setLc (i := 2) (own := [("knot", 1)]) rfl sc__law_hung.nd rfl rfl (sw_true rfl rfl rfl (by decide +kernel)) (pi_list (pv 0)) (blkOk_by (N := ["order", "knot", "above", "turn", "near", "other", "ends", "turns"]) (sc := C8.fnScope s__law_hung) (own := [("knot", 1)]) (by decide +kernel)) (fun _ _ _ _ _ => (pg_name (i := 1) sc__law_hung.nd rfl (Or.inl rfl))) (fun _ _ _ _ _ => pts_nil) (fun _ _ _ _ _ => (pe_un un_neg pe_int)))
      (pss_cons (ps_set (i := 7) sc__law_hung.nd rfl (Or.inr rfl) pe_dnewK)
      (pss_cons (ps_for PassesOwn.never rfl (pi_enum (by rfl) G.enumerate (pa_cons (pv 0) pa_nil)) (pg_tup rfl (pgs_cons (pg_name (i := 3) sc__law_hung.nd rfl (Or.inl rfl)) (pgs_cons (pg_name (i := 1) sc__law_hung.nd rfl (Or.inl rfl)) pgs_nil))) (pss_cons (ps_set (i := 4) sc__law_hung.nd rfl (Or.inl rfl) (pe_lst (pa_cons (pe_un un_neg pe_int) (pa_cons (pe_callB call_len_seq (by rfl) G.len PySem.boot_len (pa_cons (pv 0) pa_nil)) pa_nil))))
      (pss_cons (ps_lock (ps_for PassesOwn.never rfl (pi_keys (pv 7)) (pg_name (i := 5) sc__law_hung.nd rfl (Or.inl rfl)) (pss_one (ps_if (pt_cmpR op_lt (pv 5) (pv 1) (nomark _)) (pss_one (ps_asg (pe_callB (call_max2 rfl) (by rfl) G.max (by decide +kernel) (pa_cons (pe_ix ix_list (pv 4) pe_int (fun _ _ => rfl)) (pa_cons (pv 5) pa_nil))) (pg_sub (pv 4) pe_int set_list))) (pss_one (ps_asg (pe_callB (call_min2 rfl) (by rfl) G.min (by decide +kernel) (pa_cons (pe_ix ix_list (pv 4) pe_int (fun _ _ => rfl)) (pa_cons (pv 5) pa_nil))) (pg_sub (pv 4) pe_int set_list)))))))
      (pss_cons (ps_setLc (i := 6) (own := [("other", 5)]) rfl sc__law_hung.nd rfl rfl (sw_true rfl rfl rfl (by decide +kernel)) (pi_list (pv 4)) (blkOk_by (N := ["order", "knot", "above", "turn", "near", "other", "ends", "turns"]) (sc := C8.fnScope s__law_hung) (own := [("other", 5)]) (by decide +kernel)) (fun _ _ _ _ _ => (pg_name (i := 5) sc__law_hung.nd rfl (Or.inl rfl))) (fun _ _ _ _ _ => (pts_one (pt_cmp (pc_din (hu_of hr) (pv 5) (pv 7))))) (fun _ _ _ _ _ => (pv 5)))
      (C8.pss_cut (ps_if (pt_cmpR (op_neL (hu64 hr)) (pv 6) (pe_lst pa_nil) (nomark _)) (pss_one (ps_asg (pe_maxLam (T := T) (c := c) (i := 7) (a := "turns") (b := "other") rfl hr TB rfl hmT huT (by rfl) G.max rfl rfl (pv 6) rfl rfl rfl rfl (by decide +kernel) (fr2 rfl) rfl rfl rfl (fun _ _ _ _ _ => rfl)) (pg_sub (pv 2) (pv 1) set_list))) pss_nil)
      (pss_one (ps_dput (hu_of hr) (pv 7) (pv 1) (pv 3) rfl)))))))
      (pss_one (ps_ret (pe_callTy call_tupX (by rfl) G.tuple (by decide +kernel) (pa_cons (pv 2) pa_nil))))))), ?_⟩
    refine ⟨_, rfl, a, rfl, ⟨_, SqL.of ha⟩, fun bA hbA => lc_list (K := K) (a := a) (xs := nvs ord) (fun i H1 => Same H H1 ∧ H1 bA = some (.lst (ivs (List.replicate i (-1))))) ⟨(Same.refl H).new hbA, upd_same⟩ (fun i H1 _ ⟨s1, _⟩ => SqL.of (s1 _ _ ha)) ?_ ?_⟩
    · rintro i x H1 hi ⟨s1, h1⟩
      have hi' : i < n := by
        have := (List.getElem?_eq_some_iff.mp hi).1
        rw [List.length_map, ol] at this
        exact this
      refine ⟨rfl, _, rfl, _, h1, bigl (by rw [ivs_len, List.length_replicate]; omega), s1.mut hbA, ?_⟩
      rw [upd_same, List.replicate_succ']
      show some (HO.lst (ivs (List.replicate i (-1)) ++ ivs [-1])) = _
      unfold ivs
      rw [← List.map_append]
    · rintro H1 ⟨s1, h1⟩
      rw [List.length_map, ol] at h1
      refine fun tA htA => ?_
      have nbt : bA ≠ tA := fun e => by rw [← e, h1] at htA; cases htA
      have htA0 : H tA = none := s1.free htA
      have s2 := s1.new (o := .dK []) htA
      have hb2 : (upd H1 tA (.dK [])) bA = some (.lst (ivs (List.replicate n (-1)))) := by rw [upd_ne nbt]; exact h1
      have ht2 : (upd H1 tA (.dK [])) tA = some (.dK []) := upd_same
      generalize upd H1 tA (.dK []) = H2 at s2 hb2 ht2 ⊢
      have hT2 : Tabs T H2 := hT.ext s2
      have tl_at : ∀ k, k < n → ∃ f' e', Blk τ n k f' e' ∧ (tl t)[k]? = some (lat τ n f' e') := fun k hk => by
        obtain ⟨f', e', B, e⟩ := mpar k (by omega)
        rw [Nat.zero_add] at B
        exact ⟨f', e', B, e⟩
      refine ⟨_, rfl, a, nvs ord, rfl, SqL.of (s2 _ _ ha), for_enum (K := K) (a := a) (xs := nvs ord) (fun i σ H3 => (∃ x y z v u, σ = [some (.ref a), x, some (.ref bA), y, z, v, u, some (.ref tA)]) ∧ ExtN H H3 ∧ Tabs T H3 ∧ ∃ told kvs, H3 bA = some (.lst (ivs told)) ∧ H3 tA = some (.dK kvs) ∧ Tns τ kvs (ord.take i) ∧ told.length = n ∧
          (∀ j ∈ ord.take i, told[j]? = (tl t)[j]?) ∧ ∀ j, j < n → j ∉ ord.take i → told[j]? = some (-1))
        ⟨⟨_, _, _, _, _, rfl⟩, exN_same s2, hT2, _, [], hb2, ht2, ⟨rfl, by simp, fun z _ => rfl⟩, List.length_replicate, by simp, fun j hj _ => by rw [List.getElem?_replicate, if_pos hj]⟩ (fun i σ H3 _ ⟨_, s3, _⟩ => SqL.of (s3 _ _ ha lst_ne)) ?_ ?_⟩
      · rintro i x T0 σ H3 hi ⟨⟨x0, y0, z0, v0, u0, rfl⟩, s3, hT3, told, kvs, hb3, ht3, tn, tll, td1, td2⟩ hT0
        obtain ⟨k, hk, rfl⟩ : ∃ k, ord[i]? = some k ∧ x = V.int (k : Nat) := by
          rw [List.getElem?_map] at hi
          cases e : ord[i]? with
          | none => rw [e] at hi; cases hi
          | some c' => rw [e] at hi; exact ⟨c', rfl, (Option.some.inj hi).symm⟩
        have hi' : i < n := by rw [← ol]; exact (List.getElem?_eq_some_iff.mp hk).1
        obtain ⟨hkn, hτk⟩ := hτ1 i k hk
        have lin : ∀ o, o ∈ ord.take i ↔ o < n ∧ τ o < τ k := fun o => by
          constructor
          · intro m
            obtain ⟨j, hj, e⟩ := List.getElem_of_mem m
            have hj2 : j < i := by rw [List.length_take] at hj; omega
            rw [List.getElem_take] at e
            have := hτ1 j o (by rw [List.getElem?_eq_getElem (by omega), e])
            omega
          · rintro ⟨h1, h2⟩
            have h3 := hτ2 o h1
            refine List.mem_of_getElem? (i := τ o) ?_
            rw [List.getElem?_take_of_lt (by omega)]
            exact h3
        have kl : k ∉ ord.take i := fun m => by have := (lin k).mp m; omega
        refine ⟨T0, _, rfl, SqT.of upd_same, rfl, _, _, rfl, _, _, rfl, rfl, ?_⟩
        have n0b : bA ≠ T0 := fun e => by rw [← e, hb3] at hT0; cases hT0
        have n0t : tA ≠ T0 := fun e => by rw [← e, ht3] at hT0; cases hT0
        have s4 : ExtN H (upd H3 T0 (.tup [.int (i : Nat), .int (k : Nat)])) := exN_new s3 hT0
        have hT4 : Tabs T (upd H3 T0 (.tup [.int (i : Nat), .int (k : Nat)])) := tabs_new hT3 hT0
        have hb4 : (upd H3 T0 (.tup [.int (i : Nat), .int (k : Nat)])) bA = some (.lst (ivs told)) := by rw [upd_ne n0b]; exact hb3
        have ht4 : (upd H3 T0 (.tup [.int (i : Nat), .int (k : Nat)])) tA = some (.dK kvs) := by rw [upd_ne n0t]; exact ht3
        generalize upd H3 T0 (.tup [.int (i : Nat), .int (k : Nat)]) = H4 at s4 hT4 hb4 ht4 ⊢
        refine ⟨_, rfl, _, rfl, a, _, rfl, .inl (SqL.of (s4 _ _ ha lst_ne)), by show 2 ≤ sizeLine; decide, fun nA hnA => ?_⟩
        rw [List.length_map, ol]
        have nnb : bA ≠ nA := fun e => by rw [← e, hb4] at hnA; cases hnA
        have nnt : tA ≠ nA := fun e => by rw [← e, ht4] at hnA; cases hnA
        have s5 : ExtN H (upd H4 nA (.lst [.int (-1), .int (n : Nat)])) := exN_new s4 hnA
        have hT5 : Tabs T (upd H4 nA (.lst [.int (-1), .int (n : Nat)])) := tabs_new hT4 hnA
        have hb5 : (upd H4 nA (.lst [.int (-1), .int (n : Nat)])) bA = some (.lst (ivs told)) := by rw [upd_ne nnb]; exact hb4
        have ht5 : (upd H4 nA (.lst [.int (-1), .int (n : Nat)])) tA = some (.dK kvs) := by rw [upd_ne nnt]; exact ht4
        have hn5 : (upd H4 nA (.lst [.int (-1), .int (n : Nat)])) nA = some (.lst (ivs [-1, (n : Int)])) := upd_same
        generalize upd H4 nA (.lst [.int (-1), .int (n : Nat)]) = H5 at s5 hT5 hb5 ht5 hn5 ⊢
        refine ⟨tA, _, ht5, trivial, fun od => ?_⟩
        have kvl : kvs.length = (ord.take i).length := by have := congrArg List.length tn.keys; simpa using this
        refine ⟨_, rfl, tA, od, rfl, .inl ⟨kvs, upd_same, for_keys (d := tA) (o := od) (kvs := kvs) (fun j σ H6 => (∃ v, σ = [some (.ref a), some (.int (k : Nat)), some (.ref bA), some (.int (i : Nat)), some (.ref nA), v, u0, some (.ref tA)]) ∧ H6 tA = some (.frz od (.dK kvs)) ∧ (∀ b, b ≠ nA → b ≠ tA → H6 b = H5 b) ∧ ∃ x y, H6 nA = some (.lst (ivs [x, y])) ∧ Near ((ord.take i).take j) k n x y)
          ⟨⟨_, rfl⟩, upd_same, fun b _ h => by rw [upd_ne h], -1, n, by rw [upd_ne nnt.symm]; exact hn5, near_nil k n⟩ (fun j σ H6 ⟨_, h, _⟩ => h) ?_ ?_⟩⟩
        · rintro j kk vv σ H6 hj ⟨⟨v, rfl⟩, h6, k6, x, y, hn6, nr⟩
          obtain ⟨o, ho, rfl⟩ : ∃ o, (ord.take i)[j]? = some o ∧ kk = .inl (o : Int) := by
            have e1 : (kvs.map (·.1))[j]? = some kk := by rw [List.getElem?_map, hj]; rfl
            rw [tn.keys, List.getElem?_map] at e1
            cases e : (ord.take i)[j]? with
            | none => rw [e] at e1; cases e1
            | some o => rw [e] at e1; exact ⟨o, rfl, (Option.some.inj e1).symm⟩
          have est : (ord.take i).take (j + 1) = (ord.take i).take j ++ [o] := take_snoc ho
          refine ⟨_, rfl, _, rfl, _, _, rfl, rfl, _, rfl, ?_⟩
          by_cases ok : o < k
          · refine iteD1 (by omega) ?_
            refine ⟨_, rfl, nA, _, _, _, rfl, rfl, SqL.of hn6, rfl, _, rfl, _, _, rfl, _, rfl, nA, _, _, 0, rfl, rfl, hn6, rfl, ?_⟩
            refine ⟨⟨_, rfl⟩, by rw [upd_ne nnt]; exact h6, fun b h1 h2 => by rw [upd_ne h1]; exact k6 b h1 h2, _, y, upd_same, ?_⟩
            rw [est]
            exact nr.lo ok
          · refine iteD0 (by omega) ?_
            refine ⟨_, rfl, nA, _, _, _, rfl, rfl, SqL.of hn6, rfl, _, rfl, _, _, rfl, _, rfl, nA, _, _, 1, rfl, rfl, hn6, rfl, ?_⟩
            refine ⟨⟨_, rfl⟩, by rw [upd_ne nnt]; exact h6, fun b h1 h2 => by rw [upd_ne h1]; exact k6 b h1 h2, x, _, upd_same, ?_⟩
            rw [est]
            exact nr.hi ok
        · rintro σ H6 ⟨⟨v, rfl⟩, h6, k6, x, y, hn6, nr⟩
          rw [kvl, List.take_length] at nr
          refine ⟨h6, ?_⟩
          obtain ⟨f', e', Bk, elat⟩ := tl_at k hkn
          obtain ⟨rfl, rfl⟩ := near_blk Bk lin nr
          have s7 : ExtN H (upd H6 tA (.dK kvs)) := fun b o e ne => by
            by_cases hb : b = tA
            · rw [hb, htA0] at e; cases e
            · rw [upd_ne hb]
              by_cases hb2 : b = nA
              · subst hb2
                exact absurd (s4 _ _ e ne) (by rw [hnA]; intro z; cases z)
              · rw [k6 b hb2 hb]
                exact s5 b o e ne
          have htA1 : (upd H6 tA (.dK kvs)) tA = some (.dK kvs) := upd_same
          have hbA1 : (upd H6 tA (.dK kvs)) bA = some (.lst (ivs told)) := by rw [upd_ne nbt, k6 _ nnb nbt]; exact hb5
          have hnA1 : (upd H6 tA (.dK kvs)) nA = some (.lst (ivs [(f' : Int) - 1, (e' : Int)])) := by rw [upd_ne nnt.symm]; exact hn6
          have hT7 : Tabs T (upd H6 tA (.dK kvs)) := fun q hq => by
            obtain ⟨ps, h1, h2, h3⟩ := hT5 q hq
            have kk : ∀ {b : Addr} {x : HO}, H5 b = some x → (∀ xs, x ≠ .lst xs) → (∀ xs, x ≠ .dK xs) → (upd H6 tA (.dK kvs)) b = some x := fun {b x} e n1 n2 => by
              have b1 : b ≠ nA := fun z => by rw [z, hn5] at e; exact n1 _ (Option.some.inj e).symm
              have b2 : b ≠ tA := fun z => by rw [z, ht5] at e; exact n2 _ (Option.some.inj e).symm
              rw [upd_ne b2, k6 b b1 b2]
              exact e
            refine ⟨ps, kk h1 (by intro xs z; cases z) (by intro xs z; cases z), h2, fun pos cv hc => ?_⟩
            obtain ⟨c, e1, e2⟩ := h3 pos cv hc
            exact ⟨c, e1, kk e2 (by intro xs z; unfold CodeO at z; cases z) (by intro xs z; unfold CodeO at z; cases z)⟩
          show (tSeq _ _) _ _ (upd H6 tA (.dK kvs))
          generalize upd H6 tA (.dK kvs) = H7 at s7 htA1 hbA1 hnA1 hT7 ⊢
          clear h6 k6 hn6 H6
          have pp : ∀ z : Int, (valV kvs (.inl z)).isSome = true ↔ ∃ o ∈ ord.take i, (o : Int) = z := fun z => by
            by_cases hz : ∃ o ∈ ord.take i, (o : Int) = z
            · obtain ⟨o, ho, rfl⟩ := hz
              refine ⟨fun _ => ⟨o, ho, rfl⟩, fun _ => ?_⟩
              rw [tn.val o ho]
              rfl
            · refine ⟨fun h => ?_, fun h => absurd h hz⟩
              rw [tn.non z fun o ho e => hz ⟨o, ho, e⟩] at h
              cases h
          obtain ⟨ne1, ne2⟩ := near_ends Bk lin inj (p := fun z => (valV kvs (.inl z)).isSome) pp
          refine ⟨_, rfl, nA, rfl, ⟨_, SqL.of hnA1⟩, fun D hD => lc_list (K := K) (a := nA) (xs := ivs [(f' : Int) - 1, (e' : Int)]) (fun j H8 => Same H7 H8 ∧ H8 D = some (.lst (ivs (([(f' : Int) - 1, (e' : Int)].take j).filter fun z => (valV kvs (.inl z)).isSome))))
            ⟨(Same.refl H7).new hD, upd_same⟩ (fun j H8 _ ⟨s8, _⟩ => SqL.of (s8 _ _ hnA1)) ?_ ?_⟩
          · rintro j x H8 hj ⟨s8, h8⟩
            obtain ⟨z, hz, rfl⟩ : ∃ z, [(f' : Int) - 1, (e' : Int)][j]? = some z ∧ x = .int z := by
              unfold ivs at hj
              rw [List.getElem?_map] at hj
              cases e : [(f' : Int) - 1, (e' : Int)][j]? with
              | none => rw [e] at hj; cases hj
              | some c' => rw [e] at hj; exact ⟨c', rfl, (Option.some.inj hj).symm⟩
            refine ⟨rfl, _, rfl, _, rfl, tA, _, rfl, DGet.k (k := .inl z) (s8 _ _ htA1), _, rfl, ?_⟩
            cases hv : (valV kvs (.inl z)).isSome with
            | true =>
              rw [if_pos rfl]
              refine ⟨_, rfl, _, h8, bigl ?_, s8.mut hD, ?_⟩
              · rw [ivs_len]
                have e1 := List.length_filter_le (fun z => (valV kvs (.inl z)).isSome) ([(f' : Int) - 1, (e' : Int)].take j)
                have e2 : ([(f' : Int) - 1, (e' : Int)].take j).length ≤ 2 := by rw [List.length_take]; exact Nat.min_le_right _ _
                omega
              · rw [upd_same, take_snoc hz, List.filter_append, List.filter_cons, if_pos hv]
                unfold ivs
                rw [List.map_append]
                rfl
            | false =>
              rw [if_neg (by decide)]
              refine ⟨s8, ?_⟩
              rw [take_snoc hz, List.filter_append, List.filter_cons, if_neg (by rw [hv]; decide), List.filter_nil, List.append_nil]
              exact h8
          · rintro H8 ⟨s8, h8⟩
            rw [show (ivs [(f' : Int) - 1, (e' : Int)]).length = 2 from rfl, List.take_of_length_le (by show 2 ≤ 2; omega)] at h8
            have s9 : ExtN H H8 := fun b o e ne => s8 _ _ (s7 b o e ne)
            have hT8 : Tabs T H8 := hT7.ext s8
            have ht8 := s8 _ _ htA1
            have hb8 := s8 _ _ hbA1
            generalize hes : [(f' : Int) - 1, (e' : Int)].filter (fun z => (valV kvs (.inl z)).isSome) = es at h8 ne1 ne2
            have eson : ∀ z ∈ es, ∃ o ∈ ord.take i, (o : Int) = z := fun z hz => (pp z).mp (by rw [← hes] at hz; exact (List.mem_filter.mp hz).2)
            clear hes s8 hD htA1 hbA1 hnA1 hT7 s7
            refine ⟨fun σ' H9 => (∃ v u, σ' = [some (.ref a), some (.int (k : Nat)), some (.ref bA), some (.int (i : Nat)), some (.ref nA), v, u, some (.ref tA)]) ∧ ExtN H H9 ∧ Tabs T H9 ∧ H9 tA = some (.dK kvs) ∧ ∃ told', H9 bA = some (.lst (ivs told')) ∧ told'.length = n ∧ told'[k]? = (tl t)[k]? ∧ ∀ j, j ≠ k → told'[j]? = told[j]?, ?_, ?_⟩
            · -- if ends != []
              refine ⟨_, rfl, by show 0 ≤ sizeLine; decide, fun z0 hz0 => ?_⟩
              have s10 : ExtN H (upd H8 z0 (.lst [])) := exN_new s9 hz0
              have hT10 : Tabs T (upd H8 z0 (.lst [])) := tabs_new hT8 hz0
              have nz : ∀ {b : Addr} {o : HO}, H8 b = some o → (upd H8 z0 (.lst [])) b = some o := fun {b o} e => by rw [upd_ne (ne_of_none e hz0)]; exact e
              have h10 := nz h8
              have ht10 := nz ht8
              have hb10 := nz hb8
              have hz10 : (upd H8 z0 (.lst [])) z0 = some (.lst []) := upd_same
              generalize upd H8 z0 (.lst []) = H10 at s10 hT10 h10 ht10 hb10 hz10 ⊢
              refine ⟨D, z0, _, _, rfl, rfl, SqL.of h10, dp_ivs _, sh_ints _, SqL.of hz10, _, rfl, ?_⟩
              cases hem : es with
              | nil =>
                subst hem
                have e1 := ne1 rfl
                refine ⟨⟨_, _, rfl⟩, s10, hT10, ht10, told, hb10, tll, ?_, fun j _ => rfl⟩
                rw [elat, td2 k hkn kl, e1]
              | cons e0 er =>
                rw [← hem]
                have hne : es ≠ [] := by rw [hem]; simp
                have : (!(List.map PyData.int es).isEmpty) = true := by rw [hem]; rfl
                rw [if_pos this]
                refine ⟨_, rfl, D, tA, es, kvs, (fun z => ((τ z.toNat : Nat) : Int)), rfl, SqL.of h10, hne, rfl, ht10, fun z hz => ?_, hT10, fun m H11 hm hle hE hT11 => ?_⟩
                · obtain ⟨o, ho, rfl⟩ := eson z hz
                  rw [tn.val o ho]
                  show _ = some (V.int ((τ ((o : Int)).toNat : Nat) : Int))
                  rw [Int.toNat_natCast]
                · have em : m = lat τ n f' e' := ne2 m hm hle
                  have hb11 := hE _ _ hb10 lst_ne
                  have ht11 := hE _ _ ht10 dK_ne
                  have s11 : ExtN H H11 := fun b o e ne => hE _ _ (s10 b o e ne) ne
                  refine ⟨_, rfl, _, rfl, bA, _, _, k, rfl, rfl, hb11, ixN_of (by rw [ivs_len]; omega), ?_⟩
                  refine ⟨⟨_, _, rfl⟩, exN_mut s11 hbA, tabs_mut hT11 hb11 (.inl ⟨_, rfl⟩), by rw [upd_ne nbt.symm]; exact ht11, told.set k m, ?_, by rw [List.length_set]; exact tll, ?_, fun j hj => ?_⟩
                  · rw [upd_same, ivs_set]
                  · rw [List.getElem?_set_self (by omega), elat, em]
                  · rw [List.getElem?_set_ne (Ne.symm hj)]
            · rintro σ' H9 ⟨⟨v9, u9, rfl⟩, s9', hT9, ht9, told', hb9, tll', tk', to'⟩
              refine ⟨_, rfl, _, rfl, _, rfl, tA, _, rfl, DPut.k (k := .inl (k : Int)) ht9 (bigl (by rw [kvl, List.length_take]; omega)), ?_⟩
              have et := take_snoc hk
              refine ⟨⟨_, _, _, _, _, rfl⟩, exN_mut s9' htA0, tabs_mut hT9 ht9 (.inr ⟨_, rfl⟩), told', _, by rw [upd_ne nbt]; exact hb9, upd_same, ?_, tll', fun j hj => ?_, fun j hj hj2 => ?_⟩
              · rw [et]
                exact tn.put kl hτk
              · rw [et] at hj
                by_cases e : j = k
                · rw [e]; exact tk'
                · rw [to' j e]
                  rcases List.mem_append.mp hj with hj | hj
                  · exact td1 j hj
                  · exact absurd (by simpa using hj) e
              · rw [et] at hj2
                have e : j ≠ k := fun e => hj2 (by simp [e])
                rw [to' j e]
                exact td2 j hj fun h => hj2 (by simp [h])
      · rintro σ H3 ⟨⟨x0, y0, z0, v0, u0, rfl⟩, s3, hT3, told, kvs, hb3, ht3, tn, tll, td1, td2⟩
        have e : told = tl t := List.ext_getElem? fun j => by
          by_cases hj : j < n
          · refine td1 j ?_
            rw [List.length_map, List.take_length]
            exact pm.mem_iff.mpr (List.mem_range.mpr hj)
          · rw [List.getElem?_eq_none (by omega), List.getElem?_eq_none (by have : (tl t).length = t.sz := par_len t 0 (-1); omega)]
        subst e
        exact ⟨_, rfl, bA, tl t, true, rfl, SqL.of hb3, fun p H' hp sm tk => q p t H' (fun b o e ne => sm _ _ (s3 b o e ne)) (hT3.ext sm) tz tk⟩
end
end Kn

set_option Elab.async false
set_option linter.all false
set_option maxRecDepth 100000
set_option maxHeartbeats 1000000
/-! WkY: the law's two trees. -/
namespace Kn
open PySem PySem.Spec PyProof.Rows L2 LamX

section
variable {P : Program} {w : World} {K : PySem.W.Frag} {mg : Str → Option Value} {base : Heap}
abbrev s__law_tree : Stmt := top 51
theorem sc__law_tree : FnScope ["script", "many", "start", "slots"] ["script", "many", "start"] (C8.fnScope s__law_tree) := C8.fnScope_by (by decide +kernel)
def sp__law_tree (T : List (Addr × Str)) (K : PySem.W.Frag) : Sp := fun vs H Q _ => ∃ (a : Addr) (n : Nat) (ns : List Int), vs = [.ref a, .int (n : Nat), .int 1] ∧ SqL K H a (ivs ns) ∧ 1 ≤ n ∧ n ≤ 40 ∧ ns.length ≤ 1000 ∧ Tabs T H ∧
  ∀ (p : Addr) (t : B) (H' : Hp), ExtN H H' → Tabs T H' → t.sz = n → TpF H' p (tl t) → Q (.ref p) H'
theorem ok__law_tree {T : List (Addr × Str)} {c Pt : Addr} (G : Gs mg) (F : DfC K mg "_law_tree" s__law_tree ["script", "many", "start"] c) (TB : TabB base mg c Pt) (hmT : (Pt, (("_law_tree" : Str) ++ ".<locals>.") ++ "<lambda>") ∈ T) (huT : ∀ q ∈ T, q.1 = Pt → q.2 = (("_law_tree" : Str) ++ ".<locals>.") ++ "<lambda>")
    (c__law_slots : CalN P w K mg base 1 "_law_slots" (sp__law_slots K)) (c__law_cell : CalN P w K mg base 1 "_law_cell" (sp__law_cell K)) (c__law_by_arms : CalN P w K mg base 1 "_law_by_arms" sp__law_by_arms) (c__law_hung : CalN P w K mg base 1 "_law_hung" (sp__law_hung T)) :
    CalN P w K mg base 2 "_law_tree" (sp__law_tree T K) := by
  refine F.cal sc__law_tree (fun vs H Q E h => ?_) (fun f A outer s H vs Q E hr h => ?_)
  · obtain ⟨a, n, ns, rfl, _⟩ := h
    rfl
  · obtain ⟨a, n, ns, rfl, ha, hn1, hn2, hl, hT, q⟩ := h
    refine ⟨_, (pss_cons (ps_set (i := 3) sc__law_tree.nd rfl (Or.inr rfl) (C8.pe_c c__law_slots hr (by decide) (by rfl) (pa_cons (pv 0) (pa_cons (pv 1) (pa_cons (pv 2) pa_nil)))))
      (pss_cons (ps_if (pt_cmpR op_eq (pe_op op_mod (pe_op op_fdiv (C8.pe_c c__law_cell hr (by decide) (by rfl) (pa_cons (pv 0) (pa_cons pe_int pa_nil))) pe_int) pe_int) pe_int (nomark _)) (pss_one (ps_ret (C8.pe_c c__law_by_arms hr (by decide) (by rfl) (pa_cons (pv 3) pa_nil)))) pss_nil)
      (pss_one (ps_ret (C8.pe_c c__law_hung hr (by decide) (by rfl) (pa_cons (pe_sortLam (T := T) (c := c) (i := 3) (a := "slots") (b := "knot") rfl hr TB rfl hmT huT (by rfl) G.sorted rfl rfl (pe_rangeO (by rfl) G.range (pv 1)) rfl rfl rfl rfl (by decide +kernel) (fr2 rfl) rfl rfl rfl (fun _ _ _ _ _ => rfl)) pa_nil)))))), ?_⟩
    refine ⟨_, rfl, _, rfl, _, rfl, a, n, ns, rfl, ha, hn1, hn2, hl, fun l L H1 _ s1 h1 hL => ?_⟩
    have a1 : ExtN H H1 := fun b o e _ => s1 b o e
    have hT1 : Tabs T H1 := hT.ext s1
    refine ⟨_, rfl, a, ns, 0, rfl, ext_sqL a1 ha, _, _, rfl, rfl, ⟨by decide, by decide⟩, _, _, rfl, rfl, (by show (0 : Int) < 2; decide), rfl, _, rfl, ?_⟩
    dsimp only
    split
    · refine ⟨_, rfl, l, L, rfl, h1, by omega, by omega, fun p t H' s2 tz tk => ?_⟩
      exact q p t H' (fun b o e ne => s2 _ _ (a1 b o e ne)) (hT1.ext s2) (by omega) tk
    · refine ⟨_, rfl, n, rfl, fun r hr' => ?_⟩
      have a2 : ExtN H (upd H1 r (RgO r n)) := exN_new a1 hr'
      have hT2 : Tabs T (upd H1 r (RgO r n)) := tabs_new hT1 hr'
      have h2 : (upd H1 r (RgO r n)) l = some (.lst (ivs L)) := by rw [upd_ne (ne_of_none h1 hr')]; exact h1
      refine ⟨r, l, n, L, rfl, upd_same, by omega, rfl, SqL.of h2, by omega, hT2, fun ys p H3 pm hE hT3 hp => ?_⟩
      refine ⟨p, n, ys, rfl, hp, pm, hn1, hn2, hT3, fun p' t H' hE2 hT' tz tk => ?_⟩
      exact q p' t H' (fun b o e ne => hE2 _ _ (hE _ _ (a2 b o e ne) ne) ne) hT' tz tk
theorem frz_ne {o : Obj} {u : HO} (ps : Array Value) : HO.frz o u ≠ .tbl ps := fun z => by cases z
theorem tpF_ext {H H' : Hp} {a : Addr} {ns : List Int} (hE : ExtN H H') (h : TpF H a ns) : TpF H' a ns := by
  obtain ⟨o, h1, h2, h3⟩ := h
  exact ⟨o, h1, h2, hE _ _ h3 frz_ne⟩
theorem tpF_new {H : Hp} {a p : Addr} {o : HO} {ns : List Int} (h : TpF H a ns) (hp : H p = none) : TpF (upd H p o) a ns := tpF_ext (exN_new (fun _ _ e _ => e) hp) h
/-- a slice of ints -/
theorem cut_ivs (ns : List Int) (lo hi : Option Int) : ∃ ms : List Int, cutV (ivs ns) lo hi = ivs ms ∧ ms.length ≤ HT.sIx ns.length ns.length hi - HT.sIx ns.length 0 lo ∧ ms.length ≤ ns.length - HT.sIx ns.length 0 lo := by
  refine ⟨(ns.drop (HT.sIx ns.length 0 lo)).take (HT.sIx ns.length ns.length hi - HT.sIx ns.length 0 lo), ?_, ?_, ?_⟩
  · unfold cutV ivs
    rw [List.length_map, List.map_take, List.map_drop]
  · rw [List.length_take]
    omega
  · rw [List.length_take, List.length_drop]
    omega
abbrev s__law_near_by : Stmt := top 58
theorem sc__law_near_by : FnScope ["script", "many", "one"] ["script", "many"] (C8.fnScope s__law_near_by) := C8.fnScope_by (by decide +kernel)
def sp__law_near_by (T : List (Addr × Str)) (K : PySem.W.Frag) : Sp := fun vs H Q _ => ∃ (a : Addr) (n : Nat) (ns : List Int), vs = [.ref a, .int (n : Nat)] ∧ SqL K H a (ivs ns) ∧ 1 ≤ n ∧ n ≤ 40 ∧ ns.length ≤ 1000 ∧ Tabs T H ∧
  ∀ (p x y : Addr) (s t : B) (H' : Hp), ExtN H H' → Tabs T H' → H' p = some (.tup [.ref x, .ref y]) → TpF H' x (tl s) → TpF H' y (tl t) → s.sz = n → t.sz = n → (n < 7 ∨ ∃ m, m ≤ 5 ∧ Walk m s t) → Q (.ref p) H'
theorem ok__law_near_by {T : List (Addr × Str)} (G : Gs mg) (F : Df K mg "_law_near_by" s__law_near_by ["script", "many"])
    (c__law_tree : CalN P w K mg base 2 "_law_tree" (sp__law_tree T K)) (c__law_cell : CalN P w K mg base 1 "_law_cell" (sp__law_cell K)) (c__law_gone : CalN P w K mg base 2 "_law_gone" (sp__law_gone K)) :
    CalN P w K mg base 3 "_law_near_by" (sp__law_near_by T K) := by
  refine F.cal sc__law_near_by (fun vs H Q E h => ?_) (fun f cdv A outer s H vs Q E hr h => ?_)
  · obtain ⟨a, n, ns, rfl, _⟩ := h
    rfl
  · obtain ⟨a, n, ns, rfl, ha, hn1, hn2, hl, hT, q⟩ := h
    refine ⟨_, (pss_cons (ps_set (i := 2) sc__law_near_by.nd rfl (Or.inl rfl) (C8.pe_c c__law_tree hr (by decide) (by rfl) (pa_cons (pv 0) (pa_cons (pv 1) (pa_cons pe_int pa_nil)))))
      (pss_cons (ps_if (pt_cmpR op_lt (pv 1) pe_int (nomark _)) (pss_one (ps_ret (pe_tup (pa_cons (pv 2) (pa_cons (C8.pe_c c__law_tree hr (by decide) (by rfl) (pa_cons (pe_op op_cat (pe_op op_cat (pe_lst (pa_cons (pe_op op_fdiv (C8.pe_c c__law_cell hr (by decide) (by rfl) (pa_cons (pv 0) (pa_cons pe_int pa_nil))) pe_int) pa_nil)) (pe_slice sl_list (pv 0) (po_some pe_int) po_none)) (pe_lst (pa_cons pe_int pa_nil))) (pa_cons (pv 1) (pa_cons pe_int pa_nil)))) pa_nil))))) pss_nil)
      (pss_one (ps_ret (pe_tup (pa_cons (pv 2) (pa_cons (C8.pe_c c__law_gone hr (by decide) (by rfl) (pa_cons (pv 2) (pa_cons (pe_slice sl_list (pv 0) (po_some pe_int) (po_some (pe_op op_add pe_int (pe_op op_mod (C8.pe_c c__law_cell hr (by decide) (by rfl) (pa_cons (pv 0) (pa_cons pe_int pa_nil))) pe_int)))) pa_nil))) pa_nil))))))), ?_⟩
    refine ⟨_, rfl, _, rfl, a, n, ns, rfl, ha, hn1, hn2, hl, hT, fun x s' H1 hE1 hT1 sz hx => ?_⟩
    have ha1 := ext_sqL hE1 ha
    refine ⟨_, rfl, _, _, rfl, rfl, _, rfl, ?_⟩
    by_cases h7 : n < 7
    · refine iteD1 (by omega) ?_
      refine ⟨_, rfl, _, rfl, a, ns, 1, rfl, ha1, _, _, rfl, rfl, ⟨by decide, by decide⟩, by show 1 ≤ sizeLine; decide, fun A1 hA1 => ?_⟩
      have a2 : ExtN H (upd H1 A1 (.lst [.int (ns[1]?.getD 0 / 3)])) := exN_new hE1 hA1
      have hT2 : Tabs T (upd H1 A1 (.lst [.int (ns[1]?.getD 0 / 3)])) := tabs_new hT1 hA1
      have hx2 := tpF_new (o := .lst [.int (ns[1]?.getD 0 / 3)]) hx hA1
      have hA2 : (upd H1 A1 (.lst [.int (ns[1]?.getD 0 / 3)])) A1 = some (.lst (ivs [ns[1]?.getD 0 / 3])) := upd_same
      dsimp only
      generalize upd H1 A1 (.lst [.int (ns[1]?.getD 0 / 3)]) = H2 at a2 hT2 hx2 hA2 ⊢
      obtain ⟨ms, ems, ml, ml2⟩ := cut_ivs ns (some 2) none
      refine ⟨_, rfl, _, rfl, a, _, rfl, ext_sqL a2 ha, fun S hS => ?_⟩
      rw [ems]
      have a3 : ExtN H (upd H2 S (.lst (ivs ms))) := exN_new a2 hS
      have hT3 : Tabs T (upd H2 S (.lst (ivs ms))) := tabs_new hT2 hS
      have hA3 : (upd H2 S (.lst (ivs ms))) A1 = some (.lst (ivs [ns[1]?.getD 0 / 3])) := by rw [upd_ne (ne_of_none hA2 hS)]; exact hA2
      have hx3 := tpF_new (o := .lst (ivs ms)) hx2 hS
      have hS3 : (upd H2 S (.lst (ivs ms))) S = some (.lst (ivs ms)) := upd_same
      generalize upd H2 S (.lst (ivs ms)) = H3 at a3 hT3 hA3 hS3 hx3 ⊢
      refine ⟨A1, S, _, _, rfl, rfl, hA3, hS3, by rw [ivs_len, ivs_len]; exact Nat.le_of_lt (bigl (by simp; omega)), fun C1 hC1 => ?_⟩
      have a4 : ExtN H (upd H3 C1 (.lst (ivs [ns[1]?.getD 0 / 3] ++ ivs ms))) := exN_new a3 hC1
      have hT4 : Tabs T (upd H3 C1 (.lst (ivs [ns[1]?.getD 0 / 3] ++ ivs ms))) := tabs_new hT3 hC1
      have hx4 := tpF_new (o := .lst (ivs [ns[1]?.getD 0 / 3] ++ ivs ms)) hx3 hC1
      have hC4 : (upd H3 C1 (.lst (ivs [ns[1]?.getD 0 / 3] ++ ivs ms))) C1 = some (.lst (ivs ((ns[1]?.getD 0 / 3) :: ms))) := upd_same
      generalize upd H3 C1 (.lst (ivs [ns[1]?.getD 0 / 3] ++ ivs ms)) = H4 at a4 hT4 hx4 hC4 ⊢
      refine ⟨by show 1 ≤ sizeLine; decide, fun N hN => ?_⟩
      have a5 : ExtN H (upd H4 N (.lst [.int 9])) := exN_new a4 hN
      have hT5 : Tabs T (upd H4 N (.lst [.int 9])) := tabs_new hT4 hN
      have hx5 := tpF_new (o := .lst [.int 9]) hx4 hN
      have hC5 : (upd H4 N (.lst [.int 9])) C1 = some (.lst (ivs ((ns[1]?.getD 0 / 3) :: ms))) := by rw [upd_ne (ne_of_none hC4 hN)]; exact hC4
      have hN5 : (upd H4 N (.lst [.int 9])) N = some (.lst (ivs [9])) := upd_same
      generalize upd H4 N (.lst [.int 9]) = H5 at a5 hT5 hx5 hC5 hN5 ⊢
      refine ⟨C1, N, _, _, rfl, rfl, hC5, hN5, by rw [ivs_len, ivs_len]; exact Nat.le_of_lt (bigl (by simp; omega)), fun C2 hC2 => ?_⟩
      have ec : ivs ((ns[1]?.getD 0 / 3) :: ms) ++ ivs [9] = ivs ((ns[1]?.getD 0 / 3) :: ms ++ [9]) := by
        unfold ivs
        rw [← List.map_append]
      rw [ec]
      have a6 : ExtN H (upd H5 C2 (.lst (ivs ((ns[1]?.getD 0 / 3) :: ms ++ [9])))) := exN_new a5 hC2
      have hT6 : Tabs T (upd H5 C2 (.lst (ivs ((ns[1]?.getD 0 / 3) :: ms ++ [9])))) := tabs_new hT5 hC2
      have hx6 := tpF_new (o := .lst (ivs ((ns[1]?.getD 0 / 3) :: ms ++ [9]))) hx5 hC2
      have hC6 : (upd H5 C2 (.lst (ivs ((ns[1]?.getD 0 / 3) :: ms ++ [9])))) C2 = some (.lst (ivs ((ns[1]?.getD 0 / 3) :: ms ++ [9]))) := upd_same
      generalize upd H5 C2 (.lst (ivs ((ns[1]?.getD 0 / 3) :: ms ++ [9]))) = H6 at a6 hT6 hx6 hC6 ⊢
      have lm : ((ns[1]?.getD 0 / 3) :: ms ++ [9]).length ≤ 1000 := by
        have : HT.sIx ns.length 0 (some 2) = min 2 ns.length := HT.sIx_nat ns.length 0 2
        rw [this] at ml2
        rw [List.length_append, List.length_cons, List.length_singleton]
        omega
      refine ⟨_, rfl, C2, n, _, rfl, SqL.of hC6, hn1, hn2, lm, hT6, fun y t H7 hE7 hT7 tz hy => ?_⟩
      have a7 : ExtN H H7 := fun b o e ne => hE7 _ _ (a6 b o e ne) ne
      refine ⟨by show 2 ≤ sizeLine; decide, fun p hp => ?_⟩
      exact q p x y s' t _ (exN_new a7 hp) (tabs_new hT7 hp) upd_same (tpF_new (tpF_ext hE7 hx6) hp) (tpF_new hy hp) sz tz (.inl h7)
    · refine iteD0 (by omega) ?_
      refine ⟨_, rfl, _, rfl, _, rfl, _, rfl, _, rfl, a, ns, 1, rfl, ha1, _, _, rfl, rfl, (by show (0 : Int) < 6; decide), _, _, rfl, rfl, _, rfl, a, _, rfl, ha1, fun S hS => ?_⟩
      have c1 := Int.emod_nonneg (ns[1]?.getD 0) (show (6 : Int) ≠ 0 by decide)
      have c2 := Int.emod_lt_of_pos (ns[1]?.getD 0) (show (0 : Int) < 6 by decide)
      dsimp only
      obtain ⟨c, hc⟩ : ∃ c : Nat, (ns[1]?.getD 0 % 6 : Int) = ((c : Nat) : Int) := ⟨_, (Int.toNat_of_nonneg c1).symm⟩
      rw [hc, show (2 : Int) + ((c : Nat) : Int) = ((2 + c : Nat) : Int) by omega]
      obtain ⟨ms, ems, ml, ml2⟩ := cut_ivs ns (some 2) (some ((2 + c : Nat) : Int))
      rw [ems]
      have l1 : HT.sIx ns.length 0 (some 2) = min 2 ns.length := HT.sIx_nat ns.length 0 2
      rw [l1, HT.sIx_nat] at ml
      have a2 : ExtN H (upd H1 S (.lst (ivs ms))) := exN_new hE1 hS
      have hT2 : Tabs T (upd H1 S (.lst (ivs ms))) := tabs_new hT1 hS
      have hx2 := tpF_new (o := .lst (ivs ms)) hx hS
      have hS2 : (upd H1 S (.lst (ivs ms))) S = some (.lst (ivs ms)) := upd_same
      generalize upd H1 S (.lst (ivs ms)) = H2 at a2 hT2 hx2 hS2 ⊢
      refine ⟨x, S, s', ms, rfl, hx2, (by intro z; rw [z] at sz; exact absurd sz (by show ¬ 0 = n; omega)), by omega, SqL.of hS2, fun y t m H3 s3 hy wk hm => ?_⟩
      refine ⟨by show 2 ≤ sizeLine; decide, fun p hp => ?_⟩
      have a3 : ExtN H H3 := fun b o e ne => s3 _ _ (a2 b o e ne)
      exact q p x y s' t _ (exN_new a3 hp) (tabs_new (hT2.ext s3) hp) upd_same (tpF_new (tpF_ext (exN_same s3) hx2) hp) (tpF_new hy hp) sz (wk.sz ▸ sz) (.inr ⟨m, by omega, wk⟩)
end
end Kn

set_option Elab.async false
set_option linter.all false
set_option maxRecDepth 100000
set_option maxHeartbeats 1000000
/-! WkZ: the law. -/
namespace Kn
open PySem PySem.Spec PyProof.Rows L2 LamX

theorem sml_le {s t : B} (hs : s ≠ .lf) (h : s.sz = t.sz) (h6 : s.sz ≤ 6) : Sml s t := fun P hP => by
  have hP' : P ∈ tops (shs s t) t.sz := (List.mem_filter.mp hP).1
  rw [← h] at hP'
  exact Nat.le_trans ((shs_cuts hs h).pcz hP') h6
theorem sml_walk {s t : B} {m : Nat} (hs : s ≠ .lf) (w : Walk m s t) (h5 : m ≤ 5) : Sml s t := fun P hP => by
  have h := w.sz
  have hP' : P ∈ tops (shs s t) t.sz := (List.mem_filter.mp hP).1
  rw [← h] at hP'
  have h1 := piece_small (o := t) (shs_cuts hs h) (fun e h1 h2 h3 => (shs_mem e).mpr ⟨h2, h1, by rw [← h]; exact h3⟩) hP'
  have h2 := unsh_walk w
  omega
theorem iteAnd {c T q : Prop} [Decidable c] (h : c → q → T) (hq : q) : if decide c = true then T else q := by
  by_cases e : c
  · rw [decide_eq_true e]; exact iteT (h e hq)
  · rw [decide_eq_false e]; exact iteF hq
theorem to_comb_b : ∀ (n : Nat) (t : B), t.sz = n → ∃ k, k ≤ n * n ∧ Walk k t (comb n) := by
  intro n
  induction n with
  | zero => intro t h; rw [sz_zero h]; exact ⟨0, Nat.le_refl _, .nil _⟩
  | succ n ih =>
    have go : ∀ (m : Nat) (l r : B), l.sz ≤ m → (B.nd l r).sz = n + 1 → ∃ k, k ≤ m + n * n ∧ Walk k (.nd l r) (comb (n + 1)) := by
      intro m
      induction m with
      | zero =>
        intro l r hl h
        obtain rfl : l = .lf := sz_zero (by omega)
        obtain ⟨k, hk, w⟩ := ih r (by simp only [B.sz] at h; omega)
        exact ⟨k, by omega, w.right .lf⟩
      | succ m ihm =>
        intro l r hl h
        cases l with
        | lf =>
          obtain ⟨k, hk, w⟩ := ih r (by simp only [B.sz] at h; omega)
          exact ⟨k, by omega, w.right .lf⟩
        | nd a b =>
          obtain ⟨k, hk, w⟩ := ihm a (.nd b r) (by simp only [B.sz] at hl; omega) (by simp only [B.sz] at h ⊢; omega)
          exact ⟨k + 1, by omega, .cons (.inl (.root a b r)) w⟩
    intro t h
    cases t with
    | lf => simp only [B.sz] at h; omega
    | nd l r =>
      obtain ⟨k, hk, w⟩ := go l.sz l r (Nat.le_refl _) h
      refine ⟨k, ?_, w⟩
      have e : (n + 1) * (n + 1) = n * n + n + n + 1 := by rw [Nat.add_mul, Nat.mul_add]; omega
      simp only [B.sz] at h
      omega
theorem dist_small {s t : B} (h : s.sz = t.sz) (h6 : s.sz ≤ 6) : dist s t ≤ 1000 := by
  obtain ⟨j, hj, w⟩ := to_comb_b _ s h
  obtain ⟨k, hk, v⟩ := to_comb_b _ t rfl
  have := dist_le (w.trans v.symm)
  have e : t.sz * t.sz ≤ 6 * 6 := Nat.mul_le_mul (by omega) (by omega)
  omega
section
variable {P : Program} {w : World} {K : PySem.W.Frag} {mg : Str → Option Value} {base : Heap}
abbrev s_law : Stmt := top 61
theorem sc_law : FnScope ["script", "one", "other", "far", "by", "here", "steps", "turn", "cell", "knot", "rest", "row", "paper", "more"] ["script"] (C8.fnScope s_law) := C8.fnScope_by (by decide +kernel)
def sp_law (T : List (Addr × Str)) (K : PySem.W.Frag) : Sp := fun vs H Q _ => ∃ (a : Addr) (ns : List Int), vs = [.ref a] ∧ SqL K H a (ivs ns) ∧ ns.length ≤ 1000 ∧ Tabs T H ∧ ∀ H', Q (.bl true) H'
theorem ok_law {T : List (Addr × Str)} {f : Addr} {fd : FuncData} (G : Gs mg) (F : C8.Def K mg "law" s_law f fd)
    (c__law_near_by : CalN P w K mg base 3 "_law_near_by" (sp__law_near_by T K)) (c__law_size : CalN P w K mg base 2 "_law_size" (sp__law_size K)) (c_apart_by : CalN P w K mg base 8 "apart_by" sp_apart_by)
    (c_wheeled : CalN P w K mg base 6 "wheeled" sp_wheeled) (c__law_cell : CalN P w K mg base 1 "_law_cell" (sp__law_cell K)) (c__law_turned : CalN P w K mg base 1 "_law_turned" sp_turned) (c__law_apart : CalN P w K mg base 9 "_law_apart" sp_apart_by)
    (c_fewest_turns : CalN P w K mg base 10 "fewest_turns" sp_fewest_turns) (c__law_walked : CalN P w K mg base 2 "_law_walked" sp__law_walked) (c_apart_paper : CalN P w K mg base 11 "apart_paper" sp_apart_paper) (c_shows_apart : CalN P w K mg base 1 "shows_apart" sp_shows_apart) :
    FnOk P w K mg base C8.CX0 12 f fd ["script"] (sp_law T K) := by
  refine C8.fn0 F.fn sc_law (fun vs H Q E h => ?_) (fun cdv A outer s H vs Q E hr h => ?_)
  · obtain ⟨a, ns, rfl, _⟩ := h
    rfl
  · obtain ⟨a, ns, rfl, ha, hl, hT, q⟩ := h
    refine ⟨_, (pss_cons (ps_asg (C8.pe_c c__law_near_by hr (by decide) (by rfl) (pa_cons (pv 0) (pa_cons (C8.pe_c c__law_size hr (by decide) (by rfl) (pa_cons (pv 0) pa_nil)) pa_nil))) (pg_tup rfl (pgs_cons (pg_name (i := 1) sc_law.nd rfl (Or.inr rfl)) (pgs_cons (pg_name (i := 2) sc_law.nd rfl (Or.inr rfl)) pgs_nil))))
      (pss_cons (ps_set (i := 3) sc_law.nd rfl (Or.inr rfl) (C8.pe_c c_apart_by hr (by decide) (by rfl) (pa_cons (pv 1) (pa_cons (pv 2) pa_nil))))
      (pss_cons (ps_set (i := 4) sc_law.nd rfl (Or.inl rfl) (pe_op op_sub (pe_op op_mod (pe_op op_fdiv (C8.pe_c c__law_cell hr (by decide) (by rfl) (pa_cons (pv 0) (pa_cons pe_int pa_nil))) pe_int) pe_int) pe_int))
      (pss_cons (ps_if (pt_cmpR op_ne (C8.pe_c c_apart_by hr (by decide) (by rfl) (pa_cons (C8.pe_c c_wheeled hr (by decide) (by rfl) (pa_cons (pv 1) (pa_cons (pv 4) pa_nil))) (pa_cons (C8.pe_c c_wheeled hr (by decide) (by rfl) (pa_cons (pv 2) (pa_cons (pv 4) pa_nil))) pa_nil))) (pv 3) (nomark _)) (pss_one (ps_ret pe_bl)) pss_nil)
      (pss_cons (ps_set (i := 5) sc_law.nd rfl (Or.inl rfl) (pv 1))
      (pss_cons (ps_set (i := 6) sc_law.nd rfl (Or.inl rfl) pe_int)
      (pss_cons (ps_for PassesOwn.never rfl (pi_enum (by rfl) G.enumerate (pa_cons (pv 0) pa_nil)) (pg_tup rfl (pgs_cons (pg_name (i := 7) sc_law.nd rfl (Or.inl rfl)) (pgs_cons (pg_name (i := 8) sc_law.nd rfl (Or.inl rfl)) pgs_nil))) (pss_cons (ps_set (i := 9) sc_law.nd rfl (Or.inl rfl) (pe_op op_mod (pv 8) (pe_callB call_len_seq (by rfl) G.len PySem.boot_len (pa_cons (pv 5) pa_nil))))
      (pss_one (ps_if (pt_cmpR op_ge (pe_ix ix_tup (pv 5) (pv 9) (fun _ _ => rfl)) pe_int (nomark _)) (pss_cons (ps_set (i := 5) sc_law.nd rfl (Or.inl rfl) (C8.pe_c c__law_turned hr (by decide) (by rfl) (pa_cons (pv 5) (pa_cons (pv 9) pa_nil))))
      (pss_cons (ps_set (i := 6) sc_law.nd rfl (Or.inl rfl) (pe_op op_add (pv 6) pe_int))
      (pss_cons (ps_if (PW.pt (pw_and (pt_cmpR (op_eqT (hu64 hr)) (pv 5) (pv 2) (nomark _)) (pw_and1 (pt_cmpR op_lt (pv 6) (pv 3) (nomark _))))) (pss_one (ps_ret pe_bl)) pss_nil)
      (pss_one (ps_if (PW.pt (pw_and (pt_cmpR op_eq (pe_op op_mod (pv 7) pe_int) pe_int (nomark _)) (pw_and1 (pt_cmpR op_lt (pe_callB call_len_seq (by rfl) G.len PySem.boot_len (pa_cons (pv 1) pa_nil)) pe_int (nomark _))))) (pss_cons (ps_set (i := 10) sc_law.nd rfl (Or.inl rfl) (C8.pe_c c__law_apart hr (by decide) (by rfl) (pa_cons (pv 5) (pa_cons (pv 2) pa_nil))))
      (pss_one (ps_if (PW.pt (pw_and (pt_cmp (pc_notN (pv 10))) (pw_and1 (pt_cmpR op_gt (pv 3) (pe_op op_add (pv 6) (pv 10)) (nomark _))))) (pss_one (ps_ret pe_bl)) pss_nil))) pss_nil))))) pss_nil))))
      (pss_cons (ps_set (i := 11) sc_law.nd rfl (Or.inl rfl) (C8.pe_c c_fewest_turns hr (by decide) (by rfl) (pa_cons (pv 1) (pa_cons (pv 2) pa_nil))))
      (pss_cons (ps_if (PW.pt (pw_or (pt_cmpR op_ne (pe_callB call_len_seq (by rfl) G.len PySem.boot_len (pa_cons (pv 11) pa_nil)) (pv 3) (nomark _)) (pw_or1 (pt_cmpR (op_neT (hu64 hr)) (C8.pe_c c__law_walked hr (by decide) (by rfl) (pa_cons (pv 1) (pa_cons (pv 11) pa_nil))) (pv 2) (nomark _))))) (pss_one (ps_ret pe_bl)) pss_nil)
      (pss_cons (ps_set (i := 12) sc_law.nd rfl (Or.inr rfl) (C8.pe_c c_apart_paper hr (by decide) (by rfl) (pa_cons (pv 1) (pa_cons (pv 2) pa_nil))))
      (pss_one (ps_ret (pe_not (pe_callB (cr_any rfl) (by rfl) G.any (by decide +kernel) (pa_cons (pe_lc (own := [("more", 13)]) rfl sc_law.nd (pi_list (pe_lst (pa_cons (pe_un un_neg pe_int) (pa_cons pe_int (pa_cons pe_int pa_nil))))) (blkOk_by (N := ["script", "one", "other", "far", "by", "here", "steps", "turn", "cell", "knot", "rest", "row", "paper", "more"]) (sc := C8.fnScope s_law) (own := [("more", 13)]) (by decide +kernel)) (fun _ _ _ _ _ => (pg_name (i := 13) sc_law.nd rfl (Or.inl rfl))) (fun _ _ _ _ _ => pts_nil) (fun _ _ _ _ _ => (C8.pe_c c_shows_apart hr (by decide) (by rfl) (pa_cons (pv 1) (pa_cons (pv 2) (pa_cons (pe_op op_add (pv 3) (pv 13)) (pa_cons (pv 12) pa_nil))))))) pa_nil))))))))))))))), ?_⟩
    refine ⟨_, rfl, _, rfl, a, ns, rfl, ha, fun n H0 hn1 hn2 s0 => ?_⟩
    refine ⟨a, n, ns, rfl, sq_same s0 ha, hn1, hn2, hl, hT.ext s0, fun p x y s' t H1 hE1 hT1 hp hx hy sz tz hw => ?_⟩
    have ha1 := ext_sqL hE1 (sq_same s0 ha)
    have hs : s' ≠ .lf := fun z => by rw [z] at sz; exact absurd sz (by show ¬ 0 = n; omega)
    have ht : t ≠ .lf := fun z => by rw [z] at tz; exact absurd tz (by show ¬ 0 = n; omega)
    have hst : s'.sz = t.sz := sz.trans tz.symm
    have sm : Sml s' t := by
      rcases hw with h7 | ⟨m, hm, w⟩
      · exact sml_le hs hst (by omega)
      · exact sml_walk hs w hm
    have hd : dist s' t ≤ 1000 := by
      rcases hw with h7 | ⟨m, hm, w⟩
      · exact dist_small hst (by omega)
      · have := dist_le w
        omega
    refine ⟨p, _, rfl, SqT.of hp, rfl, _, _, rfl, _, _, rfl, rfl, ?_⟩
    refine ⟨_, rfl, _, rfl, x, y, s', t, rfl, hx, hy, hs, hst, by omega, sm, fun H2 s2 => ?_⟩
    have ha2 := sq_same s2 ha1
    have hx2 := s2.tpK hx
    have hy2 := s2.tpK hy
    refine ⟨_, rfl, a, ns, 1, rfl, ha2, _, _, rfl, rfl, ⟨by decide, by decide⟩, _, _, rfl, rfl, (by show (0 : Int) < 100; decide), _, _, rfl, rfl, ?_⟩
    dsimp only
    generalize (ns[1]?.getD 0 / 6 % 100 - 50 : Int) = by'
    have wz : ∀ u : B, (wh (byj s'.sz by') u).sz = u.sz := wh_sz _
    refine ⟨_, rfl, _, rfl, x, s', by', true, rfl, hx2, hs, by omega, fun p3 H3 hp3 s3 h3 => ?_⟩
    refine ⟨_, rfl, _, rfl, y, t, by', true, rfl, s3.tpK hy2, ht, by omega, fun p4 H4 hp4 s4 h4 => ?_⟩
    have h3 := s4.tpK h3
    rw [hst] at h3
    have swm : Sml (wh (byj t.sz by') s') (wh (byj t.sz by') t) := by
      rcases hw with h7 | ⟨m, hm, w⟩
      · exact sml_le (wh_ne _ hs) (by rw [wh_sz, wh_sz]; exact hst) (by rw [wh_sz]; omega)
      · exact sml_walk (wh_ne _ hs) (wh_walk _ w) hm
    refine ⟨p3, p4, _, _, rfl, h3, h4, wh_ne _ hs, by rw [wh_sz, wh_sz]; exact hst, by rw [wh_sz]; omega, swm, fun H5 s5 => ?_⟩
    rw [dist_wh hs hst (by have := byj_lt t.sz by'; omega)]
    refine ⟨_, rfl, rfl, _, rfl, iteN0 rfl ?_⟩
    have s15 : Same H1 H5 := ((s2.trans s3).trans s4).trans s5
    have ha5 := sq_same s15 ha1
    have hx5 := s15.tpK hx
    have hy5 := s15.tpK hy
    clear s3 s4 s5 s2 h3 h4 hp3 hp4 ha2 hx2 hy2 hx hy ha1
    refine ⟨_, rfl, _, rfl, a, ivs ns, rfl, ha5, for_enum (K := K) (a := a) (xs := ivs ns) (fun i σ H6 => (∃ (hA : Addr) (u : B) (m : Nat) (c1 c2 c3 c4 : Option V), σ = [some (.ref a), some (.ref x), some (.ref y), some (.int (dist s' t : Nat)), some (.int by'), some (.ref hA), some (.int (m : Nat)), c1, c2, c3, c4, none, none, none] ∧ TpF H6 hA (tl u) ∧ Walk m s' u) ∧ Same H5 H6)
      ⟨⟨x, s', 0, _, _, _, _, rfl, hx5, .nil s'⟩, Same.refl H5⟩ (fun i σ H6 _ ⟨_, s6⟩ => sq_same s6 ha5) ?_ ?_⟩
    · rintro i v T0 σ H6 hi ⟨⟨hA, u, m, c1, c2, c3, c4, rfl, hu, wk⟩, s6⟩ hT0
      obtain ⟨cell, rfl, _⟩ := at_ivs hi
      refine ⟨T0, _, rfl, SqT.of upd_same, rfl, _, _, rfl, _, _, rfl, rfl, ?_⟩
      have s7 := s6.new (o := .tup [.int (i : Nat), .int cell]) hT0
      have hu7 := tpF_new (o := .tup [.int (i : Nat), .int cell]) hu hT0
      generalize upd H6 T0 (.tup [.int (i : Nat), .int cell]) = H7 at s7 hu7 ⊢
      have tz' := wk.sz
      have hlu : (tl u).length = u.sz := par_len u 0 (-1)
      refine ⟨_, rfl, _, rfl, hA, _, rfl, .inr hu7.rd.sq, _, _, rfl, rfl, (by rw [ivs_len, hlu]; omega), ?_⟩
      dsimp only
      rw [ivs_len, hlu]
      have h0 := Int.emod_nonneg cell (show (u.sz : Int) ≠ 0 by omega)
      have h1 := Int.emod_lt_of_pos cell (show 0 < (u.sz : Int) by omega)
      obtain ⟨k, hk⟩ : ∃ k : Nat, cell % (u.sz : Int) = (k : Int) := ⟨_, (Int.toNat_of_nonneg h0).symm⟩
      rw [hk] at h1 ⊢
      have hk' : k < u.sz := by omega
      rcases up_iff hk' with ⟨_, e2, _⟩ | ⟨_, v', e2, u', hup⟩
      · refine ⟨_, rfl, _, rfl, hA, _, _, _, rfl, rfl, hu7.rd.sq, atI_ivs e2, _, _, rfl, rfl, _, rfl, iteD0 (by omega) ?_⟩
        exact ⟨⟨hA, u, m, _, _, _, _, rfl, hu7, wk⟩, s7⟩
      · refine ⟨_, rfl, _, rfl, hA, _, _, _, rfl, rfl, hu7.rd.sq, atI_ivs e2, _, _, rfl, rfl, _, rfl, iteD1 (by omega) ?_⟩
        refine ⟨_, rfl, _, rfl, hA, u, u', k, true, rfl, hu7.rd, by omega, hup, fun p8 H8 hp8 s8 h8 => ?_⟩
        have wk' : Walk (m + 1) s' u' := wk.trans (.one (up_turn u 0 k u' hup).1)
        have uz' : u'.sz = t.sz := by rw [← wk'.sz]; exact hst
        have dl := dist_le wk'
        have s58 := s7.trans s8
        have hy8 := s58.tpK hy5
        have hx8 := s58.tpK hx5
        refine ⟨_, rfl, _, _, rfl, rfl, ?_⟩
        dsimp only
        rw [show ((m : Nat) : Int) + 1 = ((m + 1 : Nat) : Int) by omega]
        have c1 : tl u' = tl t → ¬ ((m + 1 : Nat) : Int) < (dist s' t : Nat) := fun e => by
          have e' := tl_inj e
          rw [e'] at dl
          omega
        have next : ∀ (H9 : Hp) (rest : Option V), Same H8 H9 → ∃ (hA : Addr) (u : B) (m' : Nat) (c1 c2 c3 c4 : Option V), ([some (.ref a), some (.ref x), some (.ref y), some (.int (dist s' t : Nat)), some (.int by'), some (.ref p8), some (.int ((m + 1 : Nat) : Int)), some (.int (i : Nat)), some (.int cell), some (.int (k : Nat)), rest, none, none, none] : L2.St) = [some (.ref a), some (.ref x), some (.ref y), some (.int (dist s' t : Nat)), some (.int by'), some (.ref hA), some (.int (m' : Nat)), c1, c2, c3, c4, none, none, none] ∧ TpF H9 hA (tl u) ∧ Walk m' s' u := fun H9 rest s9 => ⟨p8, u', m + 1, _, _, _, _, rfl, s9.tpK h8, wk'⟩
        refine ⟨_, rfl, _, rfl, p8, y, tl u', tl t, rfl, rfl, h8.rd.sq, hy8.rd.sq, _, rfl, ?_⟩
        refine iteAnd (fun e qf => ⟨_, rfl, _, rfl, _, _, rfl, rfl, _, rfl, ?_⟩) ?_
        · rw [decide_eq_false (c1 e)]
          exact qf
        refine iteF ?_
        refine ⟨_, rfl, _, _, rfl, rfl, (by show (0 : Int) < 16; decide), rfl, _, rfl, ?_⟩
        refine iteAnd (fun e qf => ⟨_, rfl, x, _, rfl, .inr hx8.rd.sq, _, _, rfl, rfl, _, rfl, ?_⟩) ?_
        · by_cases h7 : (((ivs (tl s')).length : Nat) : Int) < 7
          · refine iteD1 h7 ?_
            have h7' : s'.sz < 7 := by
              have : (tl s').length = s'.sz := par_len s' 0 (-1)
              rw [ivs_len] at h7
              omega
            have hu0 : u' ≠ .lf := fun z => by rw [z] at uz'; exact ht (sz_zero uz'.symm)
            refine ⟨_, rfl, _, rfl, p8, y, u', t, rfl, h8, hy8, hu0, uz', by omega, sml_le hu0 uz' (by omega), fun H9 s9 => ?_⟩
            refine ⟨_, rfl, _, rfl, iteN1 (by intro z; cases z) ⟨_, rfl, _, rfl, _, rfl, _, _, rfl, rfl, _, _, rfl, rfl, _, rfl, iteD0 ?_ ?_⟩⟩
            · have d1 := dist_tri (s := s') (t := u') (u := t) (by rw [uz']; exact hst) uz'
              omega
            · exact ⟨next H9 _ s9, s58.trans s9⟩
          · rw [decide_eq_false h7]
            exact qf
        · exact iteF ⟨next H8 _ (Same.refl H8), s58⟩
    · rintro σ H6 ⟨⟨hA, u, m, c1, c2, c3, c4, rfl, hu, wk⟩, s6⟩
      have hx6 := s6.tpK hx5
      have hy6 := s6.tpK hy5
      clear hu wk
      refine ⟨_, rfl, _, rfl, x, y, s', t, rfl, hx6, hy6, hs, hst, by omega, hd, sm, fun l ks H7 s7 hll hU hk => ?_⟩
      have hx7 := s7.tpK hx6
      have hy7 := s7.tpK hy6
      refine ⟨_, rfl, l, _, rfl, .inl (SqL.of hll), _, rfl, rfl, _, rfl, iteN0 (by rw [List.length_map, hk]) ?_⟩
      refine ⟨_, rfl, _, rfl, x, l, s', t, ks, rfl, hx7, by omega, hll, hU, fun p8 H8 s8 h8 => ?_⟩
      have hx8 := s8.tpK hx7
      have hy8 := s8.tpK hy7
      refine ⟨_, rfl, p8, y, _, _, rfl, rfl, h8.rd.sq, hy8.rd.sq, _, rfl, iteN0 rfl ?_⟩
      refine ⟨_, rfl, _, rfl, x, y, s', t, rfl, hx8, hy8, hs, hst, by omega, hd, sm, fun pp l1 l2 ks2 H9 s9 hpp hl1 hk2 => ?_⟩
      refine ⟨_, rfl, by show 3 ≤ sizeLine; decide, fun L hL => ?_⟩
      have hpp' := ((Same.refl H9).new (o := .lst [.int (-1), .int 1, .int 2]) hL) _ _ hpp
      have hl1' := ((Same.refl H9).new (o := .lst [.int (-1), .int 1, .int 2]) hL) _ _ hl1
      have hL' : (upd H9 L (.lst [.int (-1), .int 1, .int 2])) L = some (.lst (ivs [-1, 1, 2])) := upd_same
      generalize upd H9 L (.lst [.int (-1), .int 1, .int 2]) = H10 at hpp' hl1' hL' ⊢
      refine ⟨L, rfl, ⟨_, SqL.of hL'⟩, fun D hD => lc_list (K := K) (a := L) (xs := ivs [-1, 1, 2]) (fun i H11 => Same H10 H11 ∧ H11 D = some (.lst ((List.replicate i false).map V.bl))) ⟨(Same.refl H10).new hD, upd_same⟩ (fun i H11 _ ⟨s11, _⟩ => SqL.of (s11 _ _ hL')) ?_ ?_⟩
      · rintro i v H11 hi ⟨s11, h11⟩
        obtain ⟨z, rfl, hz⟩ := at_ivs hi
        have z0 : z ≠ 0 := by
          have hi3 := (List.getElem?_eq_some_iff.mp hz).1
          have : i = 0 ∨ i = 1 ∨ i = 2 := by
            have : ([-1, 1, 2] : List Int).length = 3 := rfl
            omega
          rcases this with rfl | rfl | rfl
          · have := Option.some.inj hz; omega
          · have := Option.some.inj hz; omega
          · have := Option.some.inj hz; omega
        refine ⟨rfl, _, rfl, _, rfl, _, rfl, _, rfl, _, _, rfl, rfl, _, rfl, _, _, _, pp, l1, l2, ks2, rfl, s11 _ _ hpp', s11 _ _ hl1', by rw [hk2]; omega, _, h11, bigl ?_, s11.mut hD, ?_⟩
        · rw [List.length_map, List.length_replicate]
          have hi3 := (List.getElem?_eq_some_iff.mp hi).1
          rw [ivs_len] at hi3
          have : ([-1, 1, 2] : List Int).length = 3 := rfl
          omega
        · rw [upd_same, List.replicate_succ', List.map_append]
          rfl
      · rintro H11 ⟨s11, h11⟩
        exact ⟨D, List.replicate 3 false, rfl, SqL.of h11, _, rfl, q H11⟩
end
end Kn

set_option Elab.async false
set_option linter.all false
set_option maxRecDepth 100000
set_option maxHeartbeats 1000000
/-! KnEnd: what the top has written, and the law's head. Printed by endgen.py. -/
namespace Kn
open PySem PySem.Spec PyProof.Rows L2 LamX

/-- a def of the module as the top leaves it -/
def DefK (K : PySem.W.Frag) (x : Str) (st : Stmt) (cd : Value) : Prop := ∃ (f : Addr) (oc : Value) (od : Option Addr) (kV doc pm : Value) (an : Option Addr) (ct : Value) (sl : Array (Option Value)),
  PySem.W.nsIn K mainGlobals x = some (some (.ref f)) ∧ K.lookup f = some ⟨oc, od, .func (PySem.W.fnOf x x (C8.fnArgs st) (C8.fnBody st) (C8.fnScope st) .none kV doc pm an cd ct), sl⟩ ∧ PySem.W.codeIn K cd x = true ∧ PySem.W.keepIn K (.ref f) = true
theorem defK_mk {K : PySem.W.Frag} {x : Str} {st : Stmt} {f : Addr} {oc : Value} {od : Option Addr} {kV doc pm : Value} {an : Option Addr} {cd ct : Value} {sl : Array (Option Value)}
    (a : PySem.W.nsIn K mainGlobals x = some (some (.ref f))) (l : K.lookup f = some ⟨oc, od, .func (PySem.W.fnOf x x (C8.fnArgs st) (C8.fnBody st) (C8.fnScope st) .none kV doc pm an cd ct), sl⟩) (c : PySem.W.codeIn K cd x = true) (k : PySem.W.keepIn K (.ref f) = true) : DefK K x st cd :=
  ⟨_, _, _, _, _, _, _, _, _, a, l, c, k⟩
section
variable {K : PySem.W.Frag} {mg : Str → Option Value} {h : Heap}
theorem df_mk {x : Str} {st : Stmt} {cd : Value} {ps : List Str} (X : K.In h) (G : h.Ns mainGlobals mg) (D : DefK K x st cd)
    (hb : ∀ (kV doc pm : Value) (an : Option Addr) (cdv ct : Value) (us : List Value), us.length = ps.length → bindArgs (PySem.W.fnOf x x (C8.fnArgs st) (C8.fnBody st) (C8.fnScope st) .none kV doc pm an cdv ct) ⟨us, []⟩ = pure (ps.zip us)) : Df K mg x st ps := by
  obtain ⟨f, oc, od, kV, doc, pm, an, ct, sl, a, l, c, k⟩ := D
  have F : C8.Fun K x x st f _ := ⟨oc, od, .none, kV, doc, pm, an, cd, ct, sl, rfl, l, c⟩
  exact ⟨f, _, ⟨F, PySem.W.mg_of X G a, k⟩, F.binds rfl hb⟩
theorem dfC_mk {x : Str} {st : Stmt} {c : Addr} {ps : List Str} (X : K.In h) (G : h.Ns mainGlobals mg) (D : DefK K x st (.ref c))
    (hb : ∀ (kV doc pm : Value) (an : Option Addr) (cdv ct : Value) (us : List Value), us.length = ps.length → bindArgs (PySem.W.fnOf x x (C8.fnArgs st) (C8.fnBody st) (C8.fnScope st) .none kV doc pm an cdv ct) ⟨us, []⟩ = pure (ps.zip us)) : DfC K mg x st ps c := by
  obtain ⟨f, oc, od, kV, doc, pm, an, ct, sl, a, l, c', k⟩ := D
  have F : C8.Fun K x x st f _ := ⟨oc, od, .none, kV, doc, pm, an, .ref c, ct, sl, rfl, l, c'⟩
  exact ⟨f, _, ⟨F, PySem.W.mg_of X G a, k⟩, F.binds rfl hb, rfl⟩
/-- a method of Journey as the top leaves it -/
def MetK (K : PySem.W.Frag) (C : Addr) (m qual : Str) (st : Stmt) : Prop := ∃ (f : Addr) (oc : Value) (od : Option Addr) (kV doc pm : Value) (an : Option Addr) (cd ct : Value) (sl : Array (Option Value)),
  PySem.W.findIn K (.ref C) m = some (some (.ref f)) ∧ PySem.W.isFn K (.ref f) = true ∧ K.lookup f = some ⟨oc, od, .func (PySem.W.fnOf m qual (C8.fnArgs st) (C8.fnBody st) (C8.fnScope st) .none kV doc pm an cd ct), sl⟩ ∧ PySem.W.codeIn K cd qual = true ∧ PySem.W.keepIn K (.ref f) = true
theorem metK_mk {C : Addr} {m qual : Str} {st : Stmt} {f : Addr} {oc : Value} {od : Option Addr} {kV doc pm : Value} {an : Option Addr} {cd ct : Value} {sl : Array (Option Value)}
    (a : PySem.W.findIn K (.ref C) m = some (some (.ref f))) (i : PySem.W.isFn K (.ref f) = true) (l : K.lookup f = some ⟨oc, od, .func (PySem.W.fnOf m qual (C8.fnArgs st) (C8.fnBody st) (C8.fnScope st) .none kV doc pm an cd ct), sl⟩) (c : PySem.W.codeIn K cd qual = true) (k : PySem.W.keepIn K (.ref f) = true) : MetK K C m qual st :=
  ⟨_, _, _, _, _, _, _, _, _, _, a, i, l, c, k⟩
theorem mtJ_mk {C : Addr} {m qual : Str} {st : Stmt} {ps : List Str} (D : MetK K C m qual st)
    (hb : ∀ (kV doc pm : Value) (an : Option Addr) (cdv ct : Value) (us : List Value), us.length = ps.length → bindArgs (PySem.W.fnOf m qual (C8.fnArgs st) (C8.fnBody st) (C8.fnScope st) .none kV doc pm an cdv ct) ⟨us, []⟩ = pure (ps.zip us)) : MtJ K C m qual st ps := by
  obtain ⟨f, oc, od, kV, doc, pm, an, cd, ct, sl, a, i, l, c, k⟩ := D
  have F : C8.Fun K m qual st f _ := ⟨oc, od, .none, kV, doc, pm, an, cd, ct, sl, rfl, l, c⟩
  exact ⟨f, _, ⟨a, i, k⟩, F, F.binds rfl hb⟩
theorem mkJ_mk {C : Addr} {st : Stmt} {ps : List Str} (hm : mg "Journey" = some (.ref C)) (mk : PySem.W.makesIn K C = true) (kc : PySem.W.keepIn K (.ref C) = true) (D : MetK K C "__init__" "Journey.__init__" st)
    (hb : ∀ (kV doc pm : Value) (an : Option Addr) (cdv ct : Value) (us : List Value), us.length = ps.length → bindArgs (PySem.W.fnOf "__init__" "Journey.__init__" (C8.fnArgs st) (C8.fnBody st) (C8.fnScope st) .none kV doc pm an cdv ct) ⟨us, []⟩ = pure (ps.zip us)) : MkJ K mg C st ps := by
  obtain ⟨f, oc, od, kV, doc, pm, an, cd, ct, sl, a, i, l, c, k⟩ := D
  have F : C8.Fun K "__init__" "Journey.__init__" st f _ := ⟨oc, od, .none, kV, doc, pm, an, cd, ct, sl, rfl, l, c⟩
  exact ⟨f, _, ⟨mk, a, i, kc⟩, hm, F, F.binds rfl hb⟩
end

theorem all_mk {l : PySem.W.OpenLaw} {w : World} {K : PySem.W.Frag} {h : Heap} {mg : Str → Option Value} {fa C c_law_hung c_law_tree p1 p2 : Addr} {u1 u2 : Value} {cd_root_of cd_left_on cd_right_on cd_side_of cd_turned cd_neighbours cd_from_root cd_by_knots cd_stretch_of cd_stretches_of cd_cut_of cd_cuts_of cd_shared_cuts cd_crossed cd_is_cut cd_look_at_cuts cd_top_between cd_tree_by_cuts cd_cuts_exchanged cd_wheeled cd_corners_beneath cd_part_tree cd_pieces cd_levels_by_tree cd_levels_of cd_apart_by cd_fewest_turns cd_apart_paper cd_shows_apart cd__law_cell cd__law_whole cd__law_size cd__law_turned cd__law_gone cd__law_walked cd__law_apart cd__law_slots cd__law_by_arms cd__law_near_by cd_law : Value} (X : K.In h) (G : h.Ns mainGlobals mg) (hfa : mg "law" = some (.ref fa))
    (D_root_of : DefK K "root_of" s_root_of cd_root_of)
    (D_left_on : DefK K "left_on" s_left_on cd_left_on)
    (D_right_on : DefK K "right_on" s_right_on cd_right_on)
    (D_side_of : DefK K "side_of" s_side_of cd_side_of)
    (D_turned : DefK K "turned" s_turned cd_turned)
    (D_neighbours : DefK K "neighbours" s_neighbours cd_neighbours)
    (D_from_root : DefK K "from_root" s_from_root cd_from_root)
    (D_by_knots : DefK K "by_knots" s_by_knots cd_by_knots)
    (D_stretch_of : DefK K "stretch_of" s_stretch_of cd_stretch_of)
    (D_stretches_of : DefK K "stretches_of" s_stretches_of cd_stretches_of)
    (D_cut_of : DefK K "cut_of" s_cut_of cd_cut_of)
    (D_cuts_of : DefK K "cuts_of" s_cuts_of cd_cuts_of)
    (D_shared_cuts : DefK K "shared_cuts" s_shared_cuts cd_shared_cuts)
    (D_crossed : DefK K "crossed" s_crossed cd_crossed)
    (D_is_cut : DefK K "is_cut" s_is_cut cd_is_cut)
    (D_look_at_cuts : DefK K "look_at_cuts" s_look_at_cuts cd_look_at_cuts)
    (D_top_between : DefK K "top_between" s_top_between cd_top_between)
    (D_tree_by_cuts : DefK K "tree_by_cuts" s_tree_by_cuts cd_tree_by_cuts)
    (D_cuts_exchanged : DefK K "cuts_exchanged" s_cuts_exchanged cd_cuts_exchanged)
    (D_wheeled : DefK K "wheeled" s_wheeled cd_wheeled)
    (D_corners_beneath : DefK K "corners_beneath" s_corners_beneath cd_corners_beneath)
    (D_part_tree : DefK K "part_tree" s_part_tree cd_part_tree)
    (D_pieces : DefK K "pieces" s_pieces cd_pieces)
    (D_levels_by_tree : DefK K "levels_by_tree" s_levels_by_tree cd_levels_by_tree)
    (D_levels_of : DefK K "levels_of" s_levels_of cd_levels_of)
    (D_apart_by : DefK K "apart_by" s_apart_by cd_apart_by)
    (D_fewest_turns : DefK K "fewest_turns" s_fewest_turns cd_fewest_turns)
    (D_apart_paper : DefK K "apart_paper" s_apart_paper cd_apart_paper)
    (D_shows_apart : DefK K "shows_apart" s_shows_apart cd_shows_apart)
    (D__law_cell : DefK K "_law_cell" s__law_cell cd__law_cell)
    (D__law_whole : DefK K "_law_whole" s__law_whole cd__law_whole)
    (D__law_size : DefK K "_law_size" s__law_size cd__law_size)
    (D__law_turned : DefK K "_law_turned" s__law_turned cd__law_turned)
    (D__law_gone : DefK K "_law_gone" s__law_gone cd__law_gone)
    (D__law_walked : DefK K "_law_walked" s__law_walked cd__law_walked)
    (D__law_apart : DefK K "_law_apart" s__law_apart cd__law_apart)
    (D__law_slots : DefK K "_law_slots" s__law_slots cd__law_slots)
    (D__law_by_arms : DefK K "_law_by_arms" s__law_by_arms cd__law_by_arms)
    (D__law_hung : DefK K "_law_hung" s__law_hung (.ref c_law_hung))
    (D__law_tree : DefK K "_law_tree" s__law_tree (.ref c_law_tree))
    (D__law_near_by : DefK K "_law_near_by" s__law_near_by cd__law_near_by)
    (D_law : DefK K "law" s_law cd_law)
    (M_init : MetK K C "__init__" "Journey.__init__" s_Journey___init__)
    (M_far : MetK K C "far" "Journey.far" s_Journey_far)
    (M_next : MetK K C "next_knot" "Journey.next_knot" s_Journey_next_knot)
    (z_len : PySem.W.nsIn K mainGlobals "len" = some none)
    (z_list : PySem.W.nsIn K mainGlobals "list" = some none)
    (z_tuple : PySem.W.nsIn K mainGlobals "tuple" = some none)
    (z_range : PySem.W.nsIn K mainGlobals "range" = some none)
    (z_reversed : PySem.W.nsIn K mainGlobals "reversed" = some none)
    (z_enumerate : PySem.W.nsIn K mainGlobals "enumerate" = some none)
    (z_sorted : PySem.W.nsIn K mainGlobals "sorted" = some none)
    (z_min : PySem.W.nsIn K mainGlobals "min" = some none)
    (z_max : PySem.W.nsIn K mainGlobals "max" = some none)
    (z_any : PySem.W.nsIn K mainGlobals "any" = some none)
    (z_dict : PySem.W.nsIn K mainGlobals "dict" = some none)
    (z_isinstance : PySem.W.nsIn K mainGlobals "isinstance" = some none)
    (z_int : PySem.W.nsIn K mainGlobals "int" = some none)
    (z_bool : PySem.W.nsIn K mainGlobals "bool" = some none)
    (aC : PySem.W.nsIn K mainGlobals "Journey" = some (some (.ref C))) (pg : PySem.W.plainGet K C Str.empty = true) (hd : PySem.W.hasDictIn K C = true) (po : PySem.W.plainOver K C = true) (sa : PySem.W.findIn K (.ref C) "__setattr__" = some (some (.builtin "object.__setattr__"))) (mk : PySem.W.makesIn K C = true) (kc : PySem.W.keepIn K (.ref C) = true)
    (nP : PySem.W.findIn K (.ref C) "parts" = some none) (nS : PySem.W.findIn K (.ref C) "shared" = some none)
    (zn : PySem.W.nsIn K mainGlobals "NO_KNOT" = some (some u1)) (rn : RelV (.int (-1)) u1) (zm : PySem.W.nsIn K mainGlobals "MOST_KNOTS" = some (some u2)) (rm : RelV (.int 6) u2)
    (t1 : h.get? p1 = some (PySem.W.tabObj #[])) (t2 : h.get? p2 = some (PySem.W.tabObj #[])) (n1 : K.lookup p1 = none) (n2 : K.lookup p2 = none) (e1 : PySem.W.codeHdIn K c_law_hung p1 = true) (e2 : PySem.W.codeHdIn K c_law_tree p2 = true) (hne : p1 ≠ p2) :
    LawAtS l w K C8.CX0 12 63 "script" mg fa h := by
  have GG : Gs mg := ⟨PySem.W.mg_none_of X G z_len, PySem.W.mg_none_of X G z_list, PySem.W.mg_none_of X G z_tuple, PySem.W.mg_none_of X G z_range, PySem.W.mg_none_of X G z_reversed, PySem.W.mg_none_of X G z_enumerate, PySem.W.mg_none_of X G z_sorted, PySem.W.mg_none_of X G z_min, PySem.W.mg_none_of X G z_max, PySem.W.mg_none_of X G z_any, PySem.W.mg_none_of X G z_dict, PySem.W.mg_none_of X G z_isinstance, PySem.W.mg_none_of X G z_int, PySem.W.mg_none_of X G z_bool, ⟨_, PySem.W.mg_of X G zn, rn⟩, ⟨_, PySem.W.mg_of X G zm, rm⟩⟩
  have F_root_of : Df K mg "root_of" s_root_of ["tree"] := df_mk X G D_root_of (fun _ _ _ _ _ _ us hl => match us, hl with | [_], _ => rfl)
  have F_left_on : Df K mg "left_on" s_left_on ["tree", "knot"] := df_mk X G D_left_on (fun _ _ _ _ _ _ us hl => match us, hl with | [_, _], _ => rfl)
  have F_right_on : Df K mg "right_on" s_right_on ["tree", "knot"] := df_mk X G D_right_on (fun _ _ _ _ _ _ us hl => match us, hl with | [_, _], _ => rfl)
  have F_side_of : Df K mg "side_of" s_side_of ["tree", "knot"] := df_mk X G D_side_of (fun _ _ _ _ _ _ us hl => match us, hl with | [_, _], _ => rfl)
  have F_turned : Df K mg "turned" s_turned ["tree", "knot"] := df_mk X G D_turned (fun _ _ _ _ _ _ us hl => match us, hl with | [_, _], _ => rfl)
  have F_neighbours : Df K mg "neighbours" s_neighbours ["tree"] := df_mk X G D_neighbours (fun _ _ _ _ _ _ us hl => match us, hl with | [_], _ => rfl)
  have F_from_root : Df K mg "from_root" s_from_root ["tree"] := df_mk X G D_from_root (fun _ _ _ _ _ _ us hl => match us, hl with | [_], _ => rfl)
  have F_by_knots : Df K mg "by_knots" s_by_knots ["tree"] := df_mk X G D_by_knots (fun _ _ _ _ _ _ us hl => match us, hl with | [_], _ => rfl)
  have F_stretch_of : Df K mg "stretch_of" s_stretch_of ["tree", "knot"] := df_mk X G D_stretch_of (fun _ _ _ _ _ _ us hl => match us, hl with | [_, _], _ => rfl)
  have F_stretches_of : Df K mg "stretches_of" s_stretches_of ["tree"] := df_mk X G D_stretches_of (fun _ _ _ _ _ _ us hl => match us, hl with | [_], _ => rfl)
  have F_cut_of : Df K mg "cut_of" s_cut_of ["tree", "knot"] := df_mk X G D_cut_of (fun _ _ _ _ _ _ us hl => match us, hl with | [_, _], _ => rfl)
  have F_cuts_of : Df K mg "cuts_of" s_cuts_of ["tree"] := df_mk X G D_cuts_of (fun _ _ _ _ _ _ us hl => match us, hl with | [_], _ => rfl)
  have F_shared_cuts : Df K mg "shared_cuts" s_shared_cuts ["one", "other"] := df_mk X G D_shared_cuts (fun _ _ _ _ _ _ us hl => match us, hl with | [_, _], _ => rfl)
  have F_crossed : Df K mg "crossed" s_crossed ["one", "other"] := df_mk X G D_crossed (fun _ _ _ _ _ _ us hl => match us, hl with | [_, _], _ => rfl)
  have F_is_cut : Df K mg "is_cut" s_is_cut ["many", "pair"] := df_mk X G D_is_cut (fun _ _ _ _ _ _ us hl => match us, hl with | [_, _], _ => rfl)
  have F_look_at_cuts : Df K mg "look_at_cuts" s_look_at_cuts ["many", "cuts"] := df_mk X G D_look_at_cuts (fun _ _ _ _ _ _ us hl => match us, hl with | [_, _], _ => rfl)
  have F_top_between : Df K mg "top_between" s_top_between ["known", "low", "high"] := df_mk X G D_top_between (fun _ _ _ _ _ _ us hl => match us, hl with | [_, _, _], _ => rfl)
  have F_tree_by_cuts : Df K mg "tree_by_cuts" s_tree_by_cuts ["many", "cuts"] := df_mk X G D_tree_by_cuts (fun _ _ _ _ _ _ us hl => match us, hl with | [_, _], _ => rfl)
  have F_cuts_exchanged : Df K mg "cuts_exchanged" s_cuts_exchanged ["tree", "knot"] := df_mk X G D_cuts_exchanged (fun _ _ _ _ _ _ us hl => match us, hl with | [_, _], _ => rfl)
  have F_wheeled : Df K mg "wheeled" s_wheeled ["tree", "by"] := df_mk X G D_wheeled (fun _ _ _ _ _ _ us hl => match us, hl with | [_, _], _ => rfl)
  have F_corners_beneath : Df K mg "corners_beneath" s_corners_beneath ["shared", "low", "high"] := df_mk X G D_corners_beneath (fun _ _ _ _ _ _ us hl => match us, hl with | [_, _, _], _ => rfl)
  have F_part_tree : Df K mg "part_tree" s_part_tree ["corners", "shared", "tree"] := df_mk X G D_part_tree (fun _ _ _ _ _ _ us hl => match us, hl with | [_, _, _], _ => rfl)
  have F_pieces : Df K mg "pieces" s_pieces ["one", "other"] := df_mk X G D_pieces (fun _ _ _ _ _ _ us hl => match us, hl with | [_, _], _ => rfl)
  have F_levels_by_tree : Df K mg "levels_by_tree" s_levels_by_tree ["tree"] := df_mk X G D_levels_by_tree (fun _ _ _ _ _ _ us hl => match us, hl with | [_], _ => rfl)
  have F_levels_of : Df K mg "levels_of" s_levels_of ["tree"] := df_mk X G D_levels_of (fun _ _ _ _ _ _ us hl => match us, hl with | [_], _ => rfl)
  have F_apart_by : Df K mg "apart_by" s_apart_by ["one", "other"] := df_mk X G D_apart_by (fun _ _ _ _ _ _ us hl => match us, hl with | [_, _], _ => rfl)
  have F_fewest_turns : Df K mg "fewest_turns" s_fewest_turns ["one", "other"] := df_mk X G D_fewest_turns (fun _ _ _ _ _ _ us hl => match us, hl with | [_, _], _ => rfl)
  have F_apart_paper : Df K mg "apart_paper" s_apart_paper ["one", "other"] := df_mk X G D_apart_paper (fun _ _ _ _ _ _ us hl => match us, hl with | [_, _], _ => rfl)
  have F_shows_apart : Df K mg "shows_apart" s_shows_apart ["one", "other", "number", "paper"] := df_mk X G D_shows_apart (fun _ _ _ _ _ _ us hl => match us, hl with | [_, _, _, _], _ => rfl)
  have F__law_cell : Df K mg "_law_cell" s__law_cell ["script", "k"] := df_mk X G D__law_cell (fun _ _ _ _ _ _ us hl => match us, hl with | [_, _], _ => rfl)
  have F__law_whole : Df K mg "_law_whole" s__law_whole ["found"] := df_mk X G D__law_whole (fun _ _ _ _ _ _ us hl => match us, hl with | [_], _ => rfl)
  have F__law_size : Df K mg "_law_size" s__law_size ["script"] := df_mk X G D__law_size (fun _ _ _ _ _ _ us hl => match us, hl with | [_], _ => rfl)
  have F__law_turned : Df K mg "_law_turned" s__law_turned ["tree", "knot"] := df_mk X G D__law_turned (fun _ _ _ _ _ _ us hl => match us, hl with | [_, _], _ => rfl)
  have F__law_gone : Df K mg "_law_gone" s__law_gone ["tree", "cells"] := df_mk X G D__law_gone (fun _ _ _ _ _ _ us hl => match us, hl with | [_, _], _ => rfl)
  have F__law_walked : Df K mg "_law_walked" s__law_walked ["tree", "knots"] := df_mk X G D__law_walked (fun _ _ _ _ _ _ us hl => match us, hl with | [_, _], _ => rfl)
  have F__law_apart : Df K mg "_law_apart" s__law_apart ["one", "other"] := df_mk X G D__law_apart (fun _ _ _ _ _ _ us hl => match us, hl with | [_, _], _ => rfl)
  have F__law_slots : Df K mg "_law_slots" s__law_slots ["script", "many", "start"] := df_mk X G D__law_slots (fun _ _ _ _ _ _ us hl => match us, hl with | [_, _, _], _ => rfl)
  have F__law_by_arms : Df K mg "_law_by_arms" s__law_by_arms ["slots"] := df_mk X G D__law_by_arms (fun _ _ _ _ _ _ us hl => match us, hl with | [_], _ => rfl)
  have F__law_hung : DfC K mg "_law_hung" s__law_hung ["order"] c_law_hung := dfC_mk X G D__law_hung (fun _ _ _ _ _ _ us hl => match us, hl with | [_], _ => rfl)
  have F__law_tree : DfC K mg "_law_tree" s__law_tree ["script", "many", "start"] c_law_tree := dfC_mk X G D__law_tree (fun _ _ _ _ _ _ us hl => match us, hl with | [_, _, _], _ => rfl)
  have F__law_near_by : Df K mg "_law_near_by" s__law_near_by ["script", "many"] := df_mk X G D__law_near_by (fun _ _ _ _ _ _ us hl => match us, hl with | [_, _], _ => rfl)
  have T : Jt K C := ⟨⟨pg, hd, po, sa⟩, nP, nS⟩
  have F_init : MkJ K mg C s_Journey___init__ ["self", "one", "other"] := mkJ_mk (PySem.W.mg_of X G aC) mk kc M_init (fun _ _ _ _ _ _ us hl => match us, hl with | [_, _, _], _ => rfl)
  have F_far : MtJ K C "far" "Journey.far" s_Journey_far ["self", "tree"] := mtJ_mk M_far (fun _ _ _ _ _ _ us hl => match us, hl with | [_, _], _ => rfl)
  have F_next : MtJ K C "next_knot" "Journey.next_knot" s_Journey_next_knot ["self", "tree"] := mtJ_mk M_next (fun _ _ _ _ _ _ us hl => match us, hl with | [_, _], _ => rfl)
  let TT : List (Addr × Str) := [(p1, (("_law_hung" : Str) ++ ".<locals>.") ++ "<lambda>"), (p2, (("_law_tree" : Str) ++ ".<locals>.") ++ "<lambda>")]
  have hm1 : (p1, (("_law_hung" : Str) ++ ".<locals>.") ++ "<lambda>") ∈ TT := by simp [TT]
  have hm2 : (p2, (("_law_tree" : Str) ++ ".<locals>.") ++ "<lambda>") ∈ TT := by simp [TT]
  have hu1 : ∀ q ∈ TT, q.1 = p1 → q.2 = (("_law_hung" : Str) ++ ".<locals>.") ++ "<lambda>" := fun q hq e => by
    rcases List.mem_cons.mp hq with rfl | hq
    · rfl
    · rcases List.mem_cons.mp hq with rfl | hq
      · exact absurd e.symm hne
      · cases hq
  have hu2 : ∀ q ∈ TT, q.1 = p2 → q.2 = (("_law_tree" : Str) ++ ".<locals>.") ++ "<lambda>" := fun q hq e => by
    rcases List.mem_cons.mp hq with rfl | hq
    · exact absurd e hne
    · rcases List.mem_cons.mp hq with rfl | hq
      · rfl
      · cases hq
  obtain ⟨f, oc, od, kV, doc, pm, an, ct, sl, a, lk, c, k⟩ := D_law
  have F_law : C8.Def K mg "law" s_law f _ := ⟨⟨oc, od, .none, kV, doc, pm, an, cd_law, ct, sl, rfl, lk, c⟩, PySem.W.mg_of X G a, k⟩
  have ef : f = fa := by
    have e := F_law.mgf.symm.trans hfa
    cases e
    rfl
  subst ef
  have lawOk : ∀ base : Heap, K.In base → base.Ns mainGlobals mg → (∀ p ∈ [(c_law_hung, p1), (c_law_tree, p2)], TabB base mg p.1 p.2) → FnOk l.prog w K mg base C8.CX0 12 f _ ["script"] (sp_law TT K) := fun base _ _ TB => by
    have c_root_of := ok_root_of (P := l.prog) (w := w) (base := base) GG F_root_of
    have c_left_on := ok_left_on (P := l.prog) (w := w) (base := base) GG F_left_on
    have c_right_on := ok_right_on (P := l.prog) (w := w) (base := base) GG F_right_on
    have c_side_of := ok_side_of (P := l.prog) (w := w) (base := base) GG F_side_of
    have c_turned := ok_turned (P := l.prog) (w := w) (base := base) GG F_turned c_side_of c_right_on c_left_on
    have c_neighbours := ok_neighbours (P := l.prog) (w := w) (base := base) GG F_neighbours c_turned
    have c_from_root := ok_from_root (P := l.prog) (w := w) (base := base) GG F_from_root c_root_of
    have c_by_knots := ok_by_knots (P := l.prog) (w := w) (base := base) GG F_by_knots c_from_root
    have c_stretch_of := ok_stretch_of (P := l.prog) (w := w) (base := base) GG F_stretch_of c_by_knots
    have c_stretches_of := ok_stretches_of (P := l.prog) (w := w) (base := base) GG F_stretches_of c_by_knots
    have c_cut_of := ok_cut_of (P := l.prog) (w := w) (base := base) GG F_cut_of c_stretch_of
    have c_cuts_of := ok_cuts_of (P := l.prog) (w := w) (base := base) GG F_cuts_of c_stretches_of
    have c_shared_cuts := ok_shared_cuts (P := l.prog) (w := w) (base := base) GG F_shared_cuts c_cuts_of
    have c_crossed := ok_crossed (P := l.prog) (w := w) (base := base) GG F_crossed
    have c_is_cut := ok_is_cut (P := l.prog) (w := w) (base := base) GG F_is_cut
    have c_look_at_cuts := ok_look_at_cuts (P := l.prog) (w := w) (base := base) GG F_look_at_cuts c_is_cut c_crossed
    have c_top_between := ok_top_between (P := l.prog) (w := w) (base := base) GG F_top_between
    have c_tree_by_cuts := ok_tree_by_cuts (P := l.prog) (w := w) (base := base) GG F_tree_by_cuts c_look_at_cuts c_top_between
    have c_cuts_exchanged := ok_cuts_exchanged (P := l.prog) (w := w) (base := base) GG F_cuts_exchanged c_turned c_cut_of
    have c_wheeled := ok_wheeled (P := l.prog) (w := w) (base := base) GG F_wheeled c_cuts_of c_tree_by_cuts
    have c_corners_beneath := ok_corners_beneath (P := l.prog) (w := w) (base := base) GG F_corners_beneath
    have c_part_tree := ok_part_tree (P := l.prog) (w := w) (base := base) GG F_part_tree c_cuts_of c_tree_by_cuts
    have c_pieces := ok_pieces (P := l.prog) (w := w) (base := base) GG F_pieces c_shared_cuts c_corners_beneath c_part_tree
    have c_levels_by_tree := ok_levels_by_tree (P := l.prog) (w := w) (base := base) GG F_levels_by_tree c_neighbours
    have c_levels_of := ok_levels_of (P := l.prog) (w := w) (base := base) GG F_levels_of c_levels_by_tree
    have c_apart_by := ok_apart_by (P := l.prog) (w := w) (base := base) GG F_apart_by c_levels_by_tree c_pieces
    have mk_Journey := ok_J_init (P := l.prog) (w := w) (base := base) GG T F_init c_shared_cuts c_pieces c_levels_by_tree
    have m_far := ok_J_far (P := l.prog) (w := w) (base := base) GG T F_far c_part_tree
    have m_next_knot := ok_J_next (P := l.prog) (w := w) (base := base) GG T F_next m_far c_cuts_exchanged c_turned
    have c_fewest_turns := ok_fewest_turns (P := l.prog) (w := w) (base := base) GG T F_fewest_turns mk_Journey m_next_knot c_turned
    have c_apart_paper := ok_apart_paper (P := l.prog) (w := w) (base := base) GG F_apart_paper c_fewest_turns c_levels_of c_pieces
    have c_shows_apart := ok_shows_apart (P := l.prog) (w := w) (base := base) GG F_shows_apart
    have c__law_cell := ok__law_cell (P := l.prog) (w := w) (base := base) GG F__law_cell
    have c__law_whole := ok__law_whole (P := l.prog) (w := w) (base := base) GG F__law_whole
    have c__law_size := ok__law_size (P := l.prog) (w := w) (base := base) GG F__law_size c__law_cell
    have c__law_turned := ok__law_turned (P := l.prog) (w := w) (base := base) GG F__law_turned
    have c__law_gone := ok__law_gone (P := l.prog) (w := w) (base := base) GG F__law_gone c__law_turned
    have c__law_walked := ok__law_walked (P := l.prog) (w := w) (base := base) GG F__law_walked c__law_whole c__law_turned
    have c__law_apart := ok__law_apart (P := l.prog) (w := w) (base := base) GG F__law_apart c_apart_by
    have c__law_slots := ok__law_slots (P := l.prog) (w := w) (base := base) GG F__law_slots
    have c__law_by_arms := ok__law_by_arms (P := l.prog) (w := w) (base := base) GG F__law_by_arms
    have c__law_hung := ok__law_hung (P := l.prog) (w := w) (base := base) (T := TT) GG F__law_hung (TB (c_law_hung, p1) (by simp)) hm1 hu1
    have c__law_tree := ok__law_tree (P := l.prog) (w := w) (base := base) (T := TT) GG F__law_tree (TB (c_law_tree, p2) (by simp)) hm2 hu2 c__law_slots c__law_cell c__law_by_arms c__law_hung
    have c__law_near_by := ok__law_near_by (P := l.prog) (w := w) (base := base) (T := TT) GG F__law_near_by c__law_tree c__law_cell c__law_gone
    have c_law := ok_law (P := l.prog) (w := w) (base := base) (T := TT) GG F_law c__law_near_by c__law_size c_apart_by c_wheeled c__law_cell c__law_turned c__law_apart c_fewest_turns c__law_walked c_apart_paper c_shows_apart
    exact c_law
  refine ⟨_, [(c_law_hung, p1), (c_law_tree, p2)], sp_law TT K, fun p hp => ?_, fun p hp => ?_, fun p hp => ?_, fun s u => .of_eq rfl, fun H a ns hl _ hT hS => ?_, lawOk⟩
  · rcases List.mem_cons.mp hp with rfl | hp
    · exact t1
    · rcases List.mem_cons.mp hp with rfl | hp
      · exact t2
      · cases hp
  · rcases List.mem_cons.mp hp with rfl | hp
    · exact n1
    · rcases List.mem_cons.mp hp with rfl | hp
      · exact n2
      · cases hp
  · rcases List.mem_cons.mp hp with rfl | hp
    · exact PySem.W.codeHd_of_K X e1
    · rcases List.mem_cons.mp hp with rfl | hp
      · exact PySem.W.codeHd_of_K X e2
      · cases hp
  · refine ⟨a, ns, rfl, hS, by omega, fun q hq => ?_, fun H' => rfl⟩
    rcases List.mem_cons.mp hq with rfl | hq
    · exact TabS.nil (hT (c_law_hung, p1) (by simp))
    · rcases List.mem_cons.mp hq with rfl | hq
      · exact TabS.nil (hT (c_law_tree, p2) (by simp))
      · cases hq
end Kn

set_option Elab.async false
set_option linter.all false
open PySem PySem.W PyProof.Rows
set_option maxRecDepth 100000 in
set_option maxHeartbeats 0 in
theorem PySem.Challenge.cw_knotturn_k48_whole_no_shorter_row_holds : PySem.Challenge.rw_knotturn_k48_whole_no_shorter_row.Holds := by
  w_on; o_law; k_head; (case hw => w_witness2)
  k_fill
  refine LamX.walk_ofTs (l := PySem.Challenge.rw_knotturn_k48_whole_no_shorter_row) (n := 63) (k := 12) (x := "script") (CX := fun _ => C8.CX0) rfl (by decide) rfl ⟨rfl, by decide, by decide⟩ (fun w h Y => PySem.W.km_in_of Y) ?F (fun _ _ _ _ _ z => z)
  case F =>
    intro w mg fa h Y KX G hmg
    have hT8 := PySem.W.km_tabs_of Y
    refine' Kn.all_mk (p1 := 327) (p2 := 337) KX G hmg ?D_root_of ?D_left_on ?D_right_on ?D_side_of ?D_turned ?D_neighbours ?D_from_root ?D_by_knots ?D_stretch_of ?D_stretches_of ?D_cut_of ?D_cuts_of ?D_shared_cuts ?D_crossed ?D_is_cut ?D_look_at_cuts ?D_top_between ?D_tree_by_cuts ?D_cuts_exchanged ?D_wheeled ?D_corners_beneath ?D_part_tree ?D_pieces ?D_levels_by_tree ?D_levels_of ?D_apart_by ?D_fewest_turns ?D_apart_paper ?D_shows_apart ?D__law_cell ?D__law_whole ?D__law_size ?D__law_turned ?D__law_gone ?D__law_walked ?D__law_apart ?D__law_slots ?D__law_by_arms ?D__law_hung ?D__law_tree ?D__law_near_by ?D_law ?M___init__ ?M_far ?M_next_knot ?z_len ?z_list ?z_tuple ?z_range ?z_reversed ?z_enumerate ?z_sorted ?z_min ?z_max ?z_any ?z_dict ?z_isinstance ?z_int ?z_bool ?aC ?pg ?hd ?po ?sa ?mk ?kc ?nP ?nS ?zn ?rn ?zm ?rm ?t1 ?t2 ?n1 ?n2 ?e1 ?e2 ?hne
    (case D_root_of => (refine' Kn.defK_mk ?a ?l ?c ?k; (case a => k_is); (case l => k_is); (case c => k_is); (case k => k_is)))
    (case D_left_on => (refine' Kn.defK_mk ?a ?l ?c ?k; (case a => k_is); (case l => k_is); (case c => k_is); (case k => k_is)))
    (case D_right_on => (refine' Kn.defK_mk ?a ?l ?c ?k; (case a => k_is); (case l => k_is); (case c => k_is); (case k => k_is)))
    (case D_side_of => (refine' Kn.defK_mk ?a ?l ?c ?k; (case a => k_is); (case l => k_is); (case c => k_is); (case k => k_is)))
    (case D_turned => (refine' Kn.defK_mk ?a ?l ?c ?k; (case a => k_is); (case l => k_is); (case c => k_is); (case k => k_is)))
    (case D_neighbours => (refine' Kn.defK_mk ?a ?l ?c ?k; (case a => k_is); (case l => k_is); (case c => k_is); (case k => k_is)))
    (case D_from_root => (refine' Kn.defK_mk ?a ?l ?c ?k; (case a => k_is); (case l => k_is); (case c => k_is); (case k => k_is)))
    (case D_by_knots => (refine' Kn.defK_mk ?a ?l ?c ?k; (case a => k_is); (case l => k_is); (case c => k_is); (case k => k_is)))
    (case D_stretch_of => (refine' Kn.defK_mk ?a ?l ?c ?k; (case a => k_is); (case l => k_is); (case c => k_is); (case k => k_is)))
    (case D_stretches_of => (refine' Kn.defK_mk ?a ?l ?c ?k; (case a => k_is); (case l => k_is); (case c => k_is); (case k => k_is)))
    (case D_cut_of => (refine' Kn.defK_mk ?a ?l ?c ?k; (case a => k_is); (case l => k_is); (case c => k_is); (case k => k_is)))
    (case D_cuts_of => (refine' Kn.defK_mk ?a ?l ?c ?k; (case a => k_is); (case l => k_is); (case c => k_is); (case k => k_is)))
    (case D_shared_cuts => (refine' Kn.defK_mk ?a ?l ?c ?k; (case a => k_is); (case l => k_is); (case c => k_is); (case k => k_is)))
    (case D_crossed => (refine' Kn.defK_mk ?a ?l ?c ?k; (case a => k_is); (case l => k_is); (case c => k_is); (case k => k_is)))
    (case D_is_cut => (refine' Kn.defK_mk ?a ?l ?c ?k; (case a => k_is); (case l => k_is); (case c => k_is); (case k => k_is)))
    (case D_look_at_cuts => (refine' Kn.defK_mk ?a ?l ?c ?k; (case a => k_is); (case l => k_is); (case c => k_is); (case k => k_is)))
    (case D_top_between => (refine' Kn.defK_mk ?a ?l ?c ?k; (case a => k_is); (case l => k_is); (case c => k_is); (case k => k_is)))
    (case D_tree_by_cuts => (refine' Kn.defK_mk ?a ?l ?c ?k; (case a => k_is); (case l => k_is); (case c => k_is); (case k => k_is)))
    (case D_cuts_exchanged => (refine' Kn.defK_mk ?a ?l ?c ?k; (case a => k_is); (case l => k_is); (case c => k_is); (case k => k_is)))
    (case D_wheeled => (refine' Kn.defK_mk ?a ?l ?c ?k; (case a => k_is); (case l => k_is); (case c => k_is); (case k => k_is)))
    (case D_corners_beneath => (refine' Kn.defK_mk ?a ?l ?c ?k; (case a => k_is); (case l => k_is); (case c => k_is); (case k => k_is)))
    (case D_part_tree => (refine' Kn.defK_mk ?a ?l ?c ?k; (case a => k_is); (case l => k_is); (case c => k_is); (case k => k_is)))
    (case D_pieces => (refine' Kn.defK_mk ?a ?l ?c ?k; (case a => k_is); (case l => k_is); (case c => k_is); (case k => k_is)))
    (case D_levels_by_tree => (refine' Kn.defK_mk ?a ?l ?c ?k; (case a => k_is); (case l => k_is); (case c => k_is); (case k => k_is)))
    (case D_levels_of => (refine' Kn.defK_mk ?a ?l ?c ?k; (case a => k_is); (case l => k_is); (case c => k_is); (case k => k_is)))
    (case D_apart_by => (refine' Kn.defK_mk ?a ?l ?c ?k; (case a => k_is); (case l => k_is); (case c => k_is); (case k => k_is)))
    (case D_fewest_turns => (refine' Kn.defK_mk ?a ?l ?c ?k; (case a => k_is); (case l => k_is); (case c => k_is); (case k => k_is)))
    (case D_apart_paper => (refine' Kn.defK_mk ?a ?l ?c ?k; (case a => k_is); (case l => k_is); (case c => k_is); (case k => k_is)))
    (case D_shows_apart => (refine' Kn.defK_mk ?a ?l ?c ?k; (case a => k_is); (case l => k_is); (case c => k_is); (case k => k_is)))
    (case D__law_cell => (refine' Kn.defK_mk ?a ?l ?c ?k; (case a => k_is); (case l => k_is); (case c => k_is); (case k => k_is)))
    (case D__law_whole => (refine' Kn.defK_mk ?a ?l ?c ?k; (case a => k_is); (case l => k_is); (case c => k_is); (case k => k_is)))
    (case D__law_size => (refine' Kn.defK_mk ?a ?l ?c ?k; (case a => k_is); (case l => k_is); (case c => k_is); (case k => k_is)))
    (case D__law_turned => (refine' Kn.defK_mk ?a ?l ?c ?k; (case a => k_is); (case l => k_is); (case c => k_is); (case k => k_is)))
    (case D__law_gone => (refine' Kn.defK_mk ?a ?l ?c ?k; (case a => k_is); (case l => k_is); (case c => k_is); (case k => k_is)))
    (case D__law_walked => (refine' Kn.defK_mk ?a ?l ?c ?k; (case a => k_is); (case l => k_is); (case c => k_is); (case k => k_is)))
    (case D__law_apart => (refine' Kn.defK_mk ?a ?l ?c ?k; (case a => k_is); (case l => k_is); (case c => k_is); (case k => k_is)))
    (case D__law_slots => (refine' Kn.defK_mk ?a ?l ?c ?k; (case a => k_is); (case l => k_is); (case c => k_is); (case k => k_is)))
    (case D__law_by_arms => (refine' Kn.defK_mk ?a ?l ?c ?k; (case a => k_is); (case l => k_is); (case c => k_is); (case k => k_is)))
    (case D__law_hung => (refine' Kn.defK_mk ?a ?l ?c ?k; (case a => k_is); (case l => k_is); (case c => k_is); (case k => k_is)))
    (case D__law_tree => (refine' Kn.defK_mk ?a ?l ?c ?k; (case a => k_is); (case l => k_is); (case c => k_is); (case k => k_is)))
    (case D__law_near_by => (refine' Kn.defK_mk ?a ?l ?c ?k; (case a => k_is); (case l => k_is); (case c => k_is); (case k => k_is)))
    (case D_law => (refine' Kn.defK_mk ?a ?l ?c ?k; (case a => k_is); (case l => k_is); (case c => k_is); (case k => k_is)))
    (case aC => k_is)
    (case M___init__ => (refine' Kn.metK_mk ?a ?i ?l ?c ?k; (case a => k_is); (case i => k_is); (case l => k_is); (case c => k_is); (case k => k_is)))
    (case M_far => (refine' Kn.metK_mk ?a ?i ?l ?c ?k; (case a => k_is); (case i => k_is); (case l => k_is); (case c => k_is); (case k => k_is)))
    (case M_next_knot => (refine' Kn.metK_mk ?a ?i ?l ?c ?k; (case a => k_is); (case i => k_is); (case l => k_is); (case c => k_is); (case k => k_is)))
    (case z_len => k_is)
    (case z_list => k_is)
    (case z_tuple => k_is)
    (case z_range => k_is)
    (case z_reversed => k_is)
    (case z_enumerate => k_is)
    (case z_sorted => k_is)
    (case z_min => k_is)
    (case z_max => k_is)
    (case z_any => k_is)
    (case z_dict => k_is)
    (case z_isinstance => k_is)
    (case z_int => k_is)
    (case z_bool => k_is)
    (case pg => k_is)
    (case hd => k_is)
    (case po => k_is)
    (case sa => k_is)
    (case mk => k_is)
    (case kc => k_is)
    (case nP => k_is)
    (case nS => k_is)
    (case zn => k_is)
    (case rn => exact ⟨_, rfl⟩)
    (case zm => k_is)
    (case rm => exact ⟨_, rfl⟩)
    (case t1 => exact hT8 _ (by simp))
    (case t2 => exact hT8 _ (by simp))
    (case n1 => kernel_rfl)
    (case n2 => kernel_rfl)
    (case e1 => kernel_rfl)
    (case e2 => kernel_rfl)
    (case hne => decide)

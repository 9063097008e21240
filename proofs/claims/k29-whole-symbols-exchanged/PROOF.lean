import PyProof.Rows.All
import Wide.All
import OpenK.AllK
import Wide.FinOn
import KE.SortData
import KE.GoesEnum
import HandS.ForMost
import HandS.Codes
import HandS.Style
import PySem.Challenge.RW_excerptcheck_k29_whole_symbols_exchanged
set_option Elab.async false
set_option linter.all false
set_option maxRecDepth 100000
/-! Patterns, what they match, the matcher's states as data. -/
namespace K29
open PySem SX
/-- a symbol: the codes of its holder and of its letter -/
abbrev Sym := Nat × Nat
inductive Tree where
  | empty
  | cls (neg : Bool) (hs ls : List Nat)
  | or (p q : Tree)
  | and (p q : Tree)
  | thn (p q : Tree)
  | star (p : Tree)
  | not (p : Tree)
def bel (s : Sym) (neg : Bool) (hs ls : List Nat) : Bool :=
  ((hs.isEmpty || decide (s.1 ∈ hs)) && (ls.isEmpty || decide (s.2 ∈ ls))) != neg
inductive Star (P : List Sym → Prop) : List Sym → Prop where
  | nil : Star P []
  | cons {u v : List Sym} : P u → Star P v → Star P (u ++ v)
def M : Tree → List Sym → Prop
  | .empty, w => w = []
  | .cls n h l, w => ∃ s, w = [s] ∧ bel s n h l = true
  | .or p q, w => M p w ∨ M q w
  | .and p q, w => M p w ∧ M q w
  | .thn p q, w => ∃ u v, w = u ++ v ∧ M p u ∧ M q v
  | .star p, w => Star (M p) w
  | .not p, w => ¬ M p w
def Tree.ht : Tree → Nat
  | .empty => 1
  | .cls _ _ _ => 1
  | .or p q => max p.ht q.ht + 1
  | .and p q => max p.ht q.ht + 1
  | .thn p q => max p.ht q.ht + 1
  | .star p => p.ht + 1
  | .not p => p.ht + 1
theorem ht_pos : ∀ t : Tree, 1 ≤ t.ht
  | .empty => Nat.le_refl _
  | .cls _ _ _ => Nat.le_refl _
  | .or _ _ => Nat.succ_le_succ (Nat.zero_le _)
  | .and _ _ => Nat.succ_le_succ (Nat.zero_le _)
  | .thn _ _ => Nat.succ_le_succ (Nat.zero_le _)
  | .star _ => Nat.succ_le_succ (Nat.zero_le _)
  | .not _ => Nat.succ_le_succ (Nat.zero_le _)
/-! ### stars -/
theorem Star.one {P : List Sym → Prop} {u : List Sym} (h : P u) : Star P u := by
  have := Star.cons h Star.nil
  rwa [List.append_nil] at this
theorem Star.app {P : List Sym → Prop} {u v : List Sym} (h : Star P u) (k : Star P v) : Star P (u ++ v) := by
  induction h with
  | nil => exact k
  | cons a _ ih => rw [List.append_assoc]; exact .cons a ih
theorem Star.snoc {P : List Sym → Prop} {u v : List Sym} (h : Star P u) (k : P v) : Star P (u ++ v) := h.app (.one k)
theorem star_left {P : List Sym → Prop} {w : List Sym} (h : Star P w) : w = [] ∨ ∃ u v, w = u ++ v ∧ u ≠ [] ∧ P u ∧ Star P v := by
  induction h with
  | nil => exact .inl rfl
  | @cons u v a b ih =>
    by_cases e : u = []
    · subst e
      exact ih
    · exact .inr ⟨u, v, rfl, e, a, b⟩
theorem star_right {P : List Sym → Prop} {w : List Sym} (h : Star P w) : w = [] ∨ ∃ u v, w = u ++ v ∧ v ≠ [] ∧ Star P u ∧ P v := by
  induction h with
  | nil => exact .inl rfl
  | @cons u v a b ih =>
    rcases ih with e | ⟨x, y, e, hy, hx, py⟩
    · subst e
      by_cases hu : u = []
      · subst hu; exact .inl rfl
      · exact .inr ⟨[], u, by simp, hu, .nil, a⟩
    · subst e
      exact .inr ⟨u ++ x, y, by simp, hy, .cons a hx, py⟩
theorem Star.mono {P Q : List Sym → Prop} (h : ∀ w, P w → Q w) {w : List Sym} (k : Star P w) : Star Q w := by
  induction k with
  | nil => exact .nil
  | cons a _ ih => exact .cons (h _ a) ih
theorem Star.rev {P Q : List Sym → Prop} (h : ∀ w, P w → Q w.reverse) {w : List Sym} (k : Star P w) : Star Q w.reverse := by
  induction k with
  | nil => exact .nil
  | cons a _ ih => rw [List.reverse_append]; exact ih.snoc (h _ a)
/-! ### the mirrored pattern -/
def mir : Tree → Tree
  | .empty => .empty
  | .cls n h l => .cls n h l
  | .or p q => .or (mir p) (mir q)
  | .and p q => .and (mir p) (mir q)
  | .thn p q => .thn (mir q) (mir p)
  | .star p => .star (mir p)
  | .not p => .not (mir p)
theorem mir_ht : ∀ t : Tree, (mir t).ht = t.ht
  | .empty => rfl
  | .cls _ _ _ => rfl
  | .or p q => by simp only [mir, Tree.ht, mir_ht p, mir_ht q]
  | .and p q => by simp only [mir, Tree.ht, mir_ht p, mir_ht q]
  | .thn p q => by simp only [mir, Tree.ht, mir_ht p, mir_ht q]; omega
  | .star p => by simp only [mir, Tree.ht, mir_ht p]
  | .not p => by simp only [mir, Tree.ht, mir_ht p]
theorem mir_mir : ∀ t : Tree, mir (mir t) = t
  | .empty => rfl
  | .cls _ _ _ => rfl
  | .or p q => by simp only [mir, mir_mir p, mir_mir q]
  | .and p q => by simp only [mir, mir_mir p, mir_mir q]
  | .thn p q => by simp only [mir, mir_mir p, mir_mir q]
  | .star p => by simp only [mir, mir_mir p]
  | .not p => by simp only [mir, mir_mir p]
theorem M_mir : ∀ (t : Tree) (w : List Sym), M (mir t) w.reverse ↔ M t w
  | .empty, w => by simp [mir, M]
  | .cls n h l, w => by
    simp only [mir, M]
    constructor
    · rintro ⟨s, e, b⟩
      exact ⟨s, by have := congrArg List.reverse e; simpa using this, b⟩
    · rintro ⟨s, e, b⟩
      exact ⟨s, by rw [e]; rfl, b⟩
  | .or p q, w => by simp only [mir, M, M_mir p w, M_mir q w]
  | .and p q, w => by simp only [mir, M, M_mir p w, M_mir q w]
  | .thn p q, w => by
    simp only [mir, M]
    constructor
    · rintro ⟨u, v, e, a, b⟩
      refine ⟨v.reverse, u.reverse, ?_, ?_, ?_⟩
      · have := congrArg List.reverse e
        simpa using this
      · rw [← M_mir p, List.reverse_reverse]; exact b
      · rw [← M_mir q, List.reverse_reverse]; exact a
    · rintro ⟨u, v, e, a, b⟩
      refine ⟨v.reverse, u.reverse, ?_, ?_, ?_⟩
      · rw [e, List.reverse_append]
      · exact (M_mir q v).mpr b
      · exact (M_mir p u).mpr a
  | .star p, w => by
    simp only [mir, M]
    constructor
    · intro h
      have := Star.rev (Q := M p) (fun x hx => by
        have := (M_mir p x.reverse).mp (by rwa [List.reverse_reverse])
        exact this) h
      rwa [List.reverse_reverse] at this
    · intro h
      exact Star.rev (fun x hx => (M_mir p x).mpr hx) h
  | .not p, w => by simp only [mir, M, M_mir p w]
/-! ### the matcher's states -/
def Rests (A : List Sym → Prop) (G : List Sym → PyData → Prop) (w : List Sym) (ds : List PyData) : Prop :=
  (∀ x ∈ ds, ∃ u v, w = u ++ v ∧ A u ∧ G v x) ∧ (∀ u v, w = u ++ v → A u → ∃ x ∈ ds, G v x) ∧ ds.length ≤ w.length + 1
/-- the same before the empty rest is looked at: w = u ++ v with v not empty -/
def Rests1 (A : List Sym → Prop) (G : List Sym → PyData → Prop) (w : List Sym) (ds : List PyData) : Prop :=
  (∀ x ∈ ds, ∃ u v, w = u ++ v ∧ v ≠ [] ∧ A u ∧ G v x) ∧ (∀ u v, w = u ++ v → v ≠ [] → A u → ∃ x ∈ ds, G v x) ∧ ds.length ≤ w.length
def Good : Tree → List Sym → PyData → Prop
  | .empty, w, d => ∃ b, d = .tuple [.bool b] ∧ (b = true ↔ M .empty w)
  | .cls n h l, w, d => ∃ b c, d = .tuple [.bool b, .bool c] ∧ (b = true ↔ M (.cls n h l) w) ∧ (c = true ↔ w = [])
  | .or p q, w, d => ∃ b e f, d = .tuple [.bool b, e, f] ∧ (b = true ↔ M (.or p q) w) ∧ Good p w e ∧ Good q w f
  | .and p q, w, d => ∃ b e f, d = .tuple [.bool b, e, f] ∧ (b = true ↔ M (.and p q) w) ∧ Good p w e ∧ Good q w f
  | .thn p q, w, d => ∃ b e fs, d = .tuple [.bool b, e, .tuple fs] ∧ (b = true ↔ M (.thn p q) w) ∧ Good p w e ∧ Rests (M p) (Good q) w fs
  | .star p, w, d => ∃ b fs, d = .tuple [.bool b, .tuple fs] ∧ (b = true ↔ M (.star p) w) ∧ Rests (Star (M p)) (Good p) w fs
  | .not p, w, d => ∃ b e, d = .tuple [.bool b, e] ∧ (b = true ↔ M (.not p) w) ∧ Good p w e
theorem Good.head : ∀ {t : Tree} {w : List Sym} {d : PyData}, Good t w d → ∃ b r, d = .tuple (.bool b :: r) ∧ (b = true ↔ M t w)
  | .empty, _, _, ⟨b, e, h⟩ => ⟨b, _, e, h⟩
  | .cls _ _ _, _, _, ⟨b, c, e, h, _⟩ => ⟨b, _, e, h⟩
  | .or _ _, _, _, ⟨b, _, _, e, h, _⟩ => ⟨b, _, e, h⟩
  | .and _ _, _, _, ⟨b, _, _, e, h, _⟩ => ⟨b, _, e, h⟩
  | .thn _ _, _, _, ⟨b, _, _, e, h, _⟩ => ⟨b, _, e, h⟩
  | .star _, _, _, ⟨b, _, e, h, _⟩ => ⟨b, _, e, h⟩
  | .not _, _, _, ⟨b, _, e, h, _⟩ => ⟨b, _, e, h⟩
/-! ### of one shape -/
theorem alikeAll_of : ∀ {xs ys : List PyData}, (∀ x ∈ xs, ∀ y ∈ ys, W.alike x y = true) → W.alikeAll xs ys = true
  | [], _, _ => by simp [W.alikeAll]
  | _ :: _, [], _ => by simp [W.alikeAll]
  | x :: xs, y :: ys, h => by
    rw [W.alikeAll, h x (List.mem_cons_self ..) y (List.mem_cons_self ..), alikeAll_of fun a ha b hb => h a (List.mem_cons_of_mem _ ha) b (List.mem_cons_of_mem _ hb)]
    rfl
theorem Good.alike : ∀ {t : Tree} {w w' : List Sym} {d d' : PyData}, Good t w d → Good t w' d' → W.alike d d' = true
  | .empty, _, _, _, _, ⟨_, e, _⟩, ⟨_, e', _⟩ => by subst e e'; simp [W.alike, W.alikeAll]
  | .cls _ _ _, _, _, _, _, ⟨_, _, e, _⟩, ⟨_, _, e', _⟩ => by subst e e'; simp [W.alike, W.alikeAll]
  | .or p q, _, _, _, _, ⟨_, _, _, e, _, g, k⟩, ⟨_, _, _, e', _, g', k'⟩ => by
    subst e e'; simp [W.alike, W.alikeAll, Good.alike g g', Good.alike k k']
  | .and p q, _, _, _, _, ⟨_, _, _, e, _, g, k⟩, ⟨_, _, _, e', _, g', k'⟩ => by
    subst e e'; simp [W.alike, W.alikeAll, Good.alike g g', Good.alike k k']
  | .thn p q, _, _, _, _, ⟨_, _, fs, e, _, g, k⟩, ⟨_, _, fs', e', _, g', k'⟩ => by
    subst e e'
    have z : W.alikeAll fs fs' = true := alikeAll_of fun x hx y hy => by
      obtain ⟨_, _, _, _, a⟩ := k.1 x hx
      obtain ⟨_, _, _, _, b⟩ := k'.1 y hy
      exact Good.alike a b
    simp [W.alike, W.alikeAll, Good.alike g g', z]
  | .star p, _, _, _, _, ⟨_, fs, e, _, k⟩, ⟨_, fs', e', _, k'⟩ => by
    subst e e'
    have z : W.alikeAll fs fs' = true := alikeAll_of fun x hx y hy => by
      obtain ⟨_, _, _, _, a⟩ := k.1 x hx
      obtain ⟨_, _, _, _, b⟩ := k'.1 y hy
      exact Good.alike a b
    simp [W.alike, W.alikeAll, z]
  | .not p, _, _, _, _, ⟨_, _, e, _, g⟩, ⟨_, _, e', _, g'⟩ => by
    subst e e'; simp [W.alike, W.alikeAll, Good.alike g g']
theorem depthAll_le {n : Nat} : ∀ {xs : List PyData}, (∀ x ∈ xs, x.depth ≤ n) → PyData.depthAll xs ≤ n
  | [], _ => by simp [PyData.depthAll]
  | x :: xs, h => by
    have a := h x (List.mem_cons_self ..)
    have b := depthAll_le fun y hy => h y (List.mem_cons_of_mem _ hy)
    rw [PyData.depthAll]
    omega
theorem Good.depth : ∀ {t : Tree} {w : List Sym} {d : PyData}, Good t w d → d.depth ≤ 2 * t.ht
  | .empty, _, _, ⟨_, e, _⟩ => by subst e; simp [PyData.depth, PyData.depthAll, Tree.ht]
  | .cls _ _ _, _, _, ⟨_, _, e, _⟩ => by subst e; simp [PyData.depth, PyData.depthAll, Tree.ht]
  | .or p q, _, _, ⟨_, _, _, e, _, g, k⟩ => by
    subst e
    have := Good.depth g
    have := Good.depth k
    simp only [PyData.depth, PyData.depthAll, Tree.ht]; omega
  | .and p q, _, _, ⟨_, _, _, e, _, g, k⟩ => by
    subst e
    have := Good.depth g
    have := Good.depth k
    simp only [PyData.depth, PyData.depthAll, Tree.ht]; omega
  | .thn p q, _, _, ⟨_, _, fs, e, _, g, k⟩ => by
    subst e
    have := Good.depth g
    have : PyData.depthAll fs ≤ 2 * q.ht := depthAll_le fun x hx => by
      obtain ⟨_, _, _, _, a⟩ := k.1 x hx
      exact Good.depth a
    simp only [PyData.depth, PyData.depthAll, Tree.ht]; omega
  | .star p, _, _, ⟨_, fs, e, _, k⟩ => by
    subst e
    have : PyData.depthAll fs ≤ 2 * p.ht := depthAll_le fun x hx => by
      obtain ⟨_, _, _, _, a⟩ := k.1 x hx
      exact Good.depth a
    simp only [PyData.depth, PyData.depthAll, Tree.ht]; omega
  | .not p, _, _, ⟨_, _, e, _, g⟩ => by
    subst e
    have := Good.depth g
    simp only [PyData.depth, PyData.depthAll, Tree.ht]; omega
theorem canLayAll_of : ∀ {xs : List PyData}, (∀ x ∈ xs, x.canLay0 = true) → PyData.canLayAll0 xs = true
  | [], _ => rfl
  | x :: xs, h => by
    rw [PyData.canLayAll0, h x (List.mem_cons_self ..), canLayAll_of fun y hy => h y (List.mem_cons_of_mem _ hy)]
    rfl
theorem Good.lay : ∀ {t : Tree} {w : List Sym} {d : PyData}, Good t w d → d.canLay0 = true
  | .empty, _, _, ⟨_, e, _⟩ => by subst e; simp [PyData.canLay0, PyData.canLayAll0]
  | .cls _ _ _, _, _, ⟨_, _, e, _⟩ => by subst e; simp [PyData.canLay0, PyData.canLayAll0]
  | .or p q, _, _, ⟨_, _, _, e, _, g, k⟩ => by subst e; simp [PyData.canLay0, PyData.canLayAll0, Good.lay g, Good.lay k]
  | .and p q, _, _, ⟨_, _, _, e, _, g, k⟩ => by subst e; simp [PyData.canLay0, PyData.canLayAll0, Good.lay g, Good.lay k]
  | .thn p q, _, _, ⟨_, _, fs, e, _, g, k⟩ => by
    subst e
    have z : PyData.canLayAll0 fs = true := canLayAll_of fun x hx => by
      obtain ⟨_, _, _, _, a⟩ := k.1 x hx
      exact Good.lay a
    simp [PyData.canLay0, PyData.canLayAll0, Good.lay g, z]
  | .star p, _, _, ⟨_, fs, e, _, k⟩ => by
    subst e
    have z : PyData.canLayAll0 fs = true := canLayAll_of fun x hx => by
      obtain ⟨_, _, _, _, a⟩ := k.1 x hx
      exact Good.lay a
    simp [PyData.canLay0, PyData.canLayAll0, z]
  | .not p, _, _, ⟨_, _, e, _, g⟩ => by subst e; simp [PyData.canLay0, PyData.canLayAll0, Good.lay g]
theorem Good.shaped {t : Tree} {w : List Sym} {d : PyData} (h : Good t w d) (ht : t.ht ≤ 4) : SeqAt.shaped d = true := by
  have := h.depth
  unfold SeqAt.shaped
  rw [h.lay, decide_eq_true (show d.depth ≤ 64 by omega)]
  rfl
theorem eqvAll_eq : ∀ {xs ys : List PyData}, (∀ x ∈ xs, ∀ y ∈ ys, PyData.eqv x y = true → x = y) → PyData.eqvAll xs ys = true → xs = ys
  | [], [], _, _ => rfl
  | [], _ :: _, _, h => by simp [PyData.eqvAll] at h
  | _ :: _, [], _, h => by simp [PyData.eqvAll] at h
  | x :: xs, y :: ys, k, h => by
    rw [PyData.eqvAll, Bool.and_eq_true] at h
    rw [k x (List.mem_cons_self ..) y (List.mem_cons_self ..) h.1, eqvAll_eq (fun a ha b hb => k a (List.mem_cons_of_mem _ ha) b (List.mem_cons_of_mem _ hb)) h.2]
theorem Good.eqv : ∀ {t : Tree} {w w' : List Sym} {d d' : PyData}, Good t w d → Good t w' d' → PyData.eqv d d' = true → d = d'
  | .empty, _, _, _, _, ⟨_, e, _⟩, ⟨_, e', _⟩, h => by
    subst e e'; simp [PyData.eqv, PyData.eqvAll] at h; rw [h]
  | .cls _ _ _, _, _, _, _, ⟨_, _, e, _⟩, ⟨_, _, e', _⟩, h => by
    subst e e'; simp [PyData.eqv, PyData.eqvAll] at h; rw [h.1, h.2]
  | .or p q, _, _, _, _, ⟨_, _, _, e, _, g, k⟩, ⟨_, _, _, e', _, g', k'⟩, h => by
    subst e e'; simp [PyData.eqv, PyData.eqvAll] at h; rw [h.1, Good.eqv g g' h.2.1, Good.eqv k k' h.2.2]
  | .and p q, _, _, _, _, ⟨_, _, _, e, _, g, k⟩, ⟨_, _, _, e', _, g', k'⟩, h => by
    subst e e'; simp [PyData.eqv, PyData.eqvAll] at h; rw [h.1, Good.eqv g g' h.2.1, Good.eqv k k' h.2.2]
  | .thn p q, _, _, _, _, ⟨_, _, fs, e, _, g, k⟩, ⟨_, _, fs', e', _, g', k'⟩, h => by
    subst e e'; simp [PyData.eqv, PyData.eqvAll] at h
    rw [h.1, Good.eqv g g' h.2.1, eqvAll_eq (fun x hx y hy => ?_) h.2.2]
    obtain ⟨_, _, _, _, a⟩ := k.1 x hx
    obtain ⟨_, _, _, _, b⟩ := k'.1 y hy
    exact Good.eqv a b
  | .star p, _, _, _, _, ⟨_, fs, e, _, k⟩, ⟨_, fs', e', _, k'⟩, h => by
    subst e e'; simp [PyData.eqv, PyData.eqvAll] at h
    rw [h.1, eqvAll_eq (fun x hx y hy => ?_) h.2]
    obtain ⟨_, _, _, _, a⟩ := k.1 x hx
    obtain ⟨_, _, _, _, b⟩ := k'.1 y hy
    exact Good.eqv a b
  | .not p, _, _, _, _, ⟨_, _, e, _, g⟩, ⟨_, _, e', _, g'⟩, h => by
    subst e e'; simp [PyData.eqv, PyData.eqvAll] at h; rw [h.1, Good.eqv g g' h.2]
/-! ### how states go on -/
theorem split_snoc {w u v : List Sym} {s : Sym} (h : w ++ [s] = u ++ v) (hv : v ≠ []) : ∃ v', v = v' ++ [s] ∧ w = u ++ v' := by
  rcases List.eq_nil_or_concat v with e | ⟨v', x, e⟩
  · exact absurd e hv
  · rw [List.concat_eq_append] at e
    rw [e, ← List.append_assoc] at h
    have := List.append_inj' h rfl
    obtain ⟨h1, h2⟩ := this
    exact ⟨v', by rw [e, h2], h1⟩
theorem Rests1.of {A : List Sym → Prop} {G : List Sym → PyData → Prop} {w : List Sym} {s : Sym} {ds ds' es : List PyData} (h : Rests A G w ds)
    (h1 : ∀ y ∈ es, ∃ x ∈ ds, ∀ v, G v x → G (v ++ [s]) y) (h2 : ∀ x ∈ ds, ∃ y ∈ es, ∀ v, G v x → G (v ++ [s]) y) (hl : es.length ≤ ds.length) : Rests1 A G (w ++ [s]) es := by
  refine ⟨fun y hy => ?_, fun u v e hv a => ?_, ?_⟩
  · obtain ⟨x, hx, k⟩ := h1 y hy
    obtain ⟨u, v, e, a, g⟩ := h.1 x hx
    exact ⟨u, v ++ [s], by rw [e, List.append_assoc], by simp, a, k _ g⟩
  · obtain ⟨v', rfl, e'⟩ := split_snoc e hv
    obtain ⟨x, hx, g⟩ := h.2.1 u v' e' a
    obtain ⟨y, hy, k⟩ := h2 x hx
    exact ⟨y, hy, k _ g⟩
  · rw [List.length_append, List.length_singleton]
    exact Nat.le_trans hl h.2.2
/-- the rests with the empty one -/
theorem Rests.of {A : List Sym → Prop} {G : List Sym → PyData → Prop} {w : List Sym} {ds es : List PyData} (h : Rests1 A G w ds)
    (h1 : ∀ y ∈ es, y ∈ ds ∨ (A w ∧ G [] y)) (h2 : ∀ x ∈ ds, x ∈ es) (h3 : A w → ∃ y ∈ es, G [] y) (hl : es.length ≤ ds.length + 1) : Rests A G w es := by
  refine ⟨fun y hy => ?_, fun u v e a => ?_, Nat.le_trans hl (Nat.succ_le_succ h.2.2)⟩
  · rcases h1 y hy with hx | ⟨a, g⟩
    · obtain ⟨u, v, e, _, a, g⟩ := h.1 y hx
      exact ⟨u, v, e, a, g⟩
    · exact ⟨w, [], by simp, a, g⟩
  · by_cases hv : v = []
    · subst hv
      rw [List.append_nil] at e
      subst e
      exact h3 a
    · obtain ⟨x, hx, g⟩ := h.2.1 u v e hv a
      exact ⟨x, h2 x hx, g⟩
/-- whether a sequence with a last symbol matches: by the rests before the empty one is added -/
theorem star_rests1 {P : List Sym → Prop} {G : List Sym → PyData → Prop} {B : PyData → Prop} {w : List Sym} {ds : List PyData} (h : Rests1 (Star P) G w ds) (hw : w ≠ [])
    (hB : ∀ v x, G v x → (B x ↔ P v)) : (∃ x ∈ ds, B x) ↔ Star P w := by
  constructor
  · rintro ⟨x, hx, b⟩
    obtain ⟨u, v, rfl, _, a, g⟩ := h.1 x hx
    exact a.snoc ((hB _ _ g).mp b)
  · intro k
    rcases star_right k with e | ⟨u, v, e, hv, a, p⟩
    · exact absurd e hw
    · obtain ⟨x, hx, g⟩ := h.2.1 u v e hv a
      exact ⟨x, hx, (hB _ _ g).mpr p⟩
theorem then_rests {P Q : List Sym → Prop} {G : List Sym → PyData → Prop} {B : PyData → Prop} {w : List Sym} {ds : List PyData} (h : Rests P G w ds)
    (hB : ∀ v x, G v x → (B x ↔ Q v)) : (∃ x ∈ ds, B x) ↔ ∃ u v, w = u ++ v ∧ P u ∧ Q v := by
  constructor
  · rintro ⟨x, hx, b⟩
    obtain ⟨u, v, e, a, g⟩ := h.1 x hx
    exact ⟨u, v, e, a, (hB _ _ g).mp b⟩
  · rintro ⟨u, v, e, a, p⟩
    obtain ⟨x, hx, g⟩ := h.2.1 u v e a
    exact ⟨x, hx, (hB _ _ g).mpr p⟩
theorem rests1_nil {A : List Sym → Prop} {G : List Sym → PyData → Prop} : Rests1 A G [] [] :=
  ⟨fun _ h => absurd h (by simp), fun u v e hv _ => by
    have := List.nil_eq_append_iff.mp e
    exact absurd this.2 hv, Nat.le_refl _⟩
end K29
/-! Tables of what matches where; stages, pipelines; the exchange. -/
namespace K29
open PySem SX
noncomputable def mt (t : Tree) (w : List Sym) : Bool := @decide (M t w) (Classical.propDecidable _)
theorem mt_iff {t : Tree} {w : List Sym} : mt t w = true ↔ M t w := by
  unfold mt
  exact @decide_eq_true_iff _ (Classical.propDecidable _)
theorem getD_get {α : Type} : ∀ (xs : List α) (i : Nat) (d : α) (h : i < xs.length), xs.getD i d = xs[i]
  | x :: xs, 0, _, _ => rfl
  | x :: xs, i + 1, d, h => by
    have h' : i < xs.length := Nat.lt_of_succ_lt_succ h
    show xs.getD i d = xs[i]
    exact getD_get xs i d h'
theorem mt_of {t : Tree} {w : List Sym} {b : Bool} (h : b = true ↔ M t w) : b = mt t w := by
  rw [Bool.eq_iff_iff, h, mt_iff]
def sl (w : List Sym) (i j : Nat) : List Sym := (w.take j).drop i
theorem sl_len {w : List Sym} {i j : Nat} (h : j ≤ w.length) : (sl w i j).length = j - i := by
  unfold sl
  rw [List.length_drop, List.length_take, Nat.min_eq_left h]
theorem sl_nil {w : List Sym} {i j : Nat} (h : j ≤ w.length) : sl w i j = [] ↔ j ≤ i := by
  rw [← List.length_eq_zero_iff, sl_len h]
  omega
theorem sl_app {w : List Sym} {i k j : Nat} (h1 : i ≤ k) (h2 : k ≤ j) : sl w i j = sl w i k ++ sl w k j := by
  unfold sl
  have e : w.take k = (w.take j).take k := by rw [List.take_take, Nat.min_eq_left h2]
  rw [e]
  conv => lhs; rw [← List.take_append_drop k (w.take j)]
  by_cases hk : k ≤ (w.take j).length
  · rw [List.drop_append_of_le_length (by rw [List.length_take, Nat.min_eq_left hk]; exact h1)]
  · have : (w.take j).take k = w.take j := List.take_of_length_le (by omega)
    rw [this, List.drop_eq_nil_of_le (show (w.take j).length ≤ k by omega)]
    rw [List.append_nil, List.append_nil]
/-- a way to part a slice is a place within -/
theorem sl_split {w u v : List Sym} {i j : Nat} (hj : j ≤ w.length) (hi : i ≤ j) (h : sl w i j = u ++ v) : i + u.length ≤ j ∧ u = sl w i (i + u.length) ∧ v = sl w (i + u.length) j := by
  have hl := congrArg List.length h
  rw [sl_len hj, List.length_append] at hl
  have h1 : i + u.length ≤ j := by omega
  have e := sl_app (w := w) (i := i) (k := i + u.length) (j := j) (by omega) h1
  rw [h] at e
  have := List.append_inj e (by rw [sl_len (by omega)]; omega)
  exact ⟨h1, this.1, this.2⟩
theorem sl_one {w : List Sym} {i : Nat} (h : i < w.length) : sl w i (i + 1) = [w[i]] := by
  unfold sl
  rw [List.take_succ_eq_append_getElem h, List.drop_append, List.drop_eq_nil_of_le (by rw [List.length_take]; omega)]
  rw [List.length_take, Nat.min_eq_left (by omega), Nat.sub_self]
  rfl
noncomputable def tabAt (t : Tree) (w : List Sym) (i j : Nat) : Bool := decide (i ≤ j) && mt t (sl w i j)
theorem tabAt_iff {t : Tree} {w : List Sym} {i j : Nat} : tabAt t w i j = true ↔ i ≤ j ∧ M t (sl w i j) := by
  unfold tabAt
  rw [Bool.and_eq_true, decide_eq_true_iff, mt_iff]
noncomputable def tabRow (t : Tree) (w : List Sym) (i : Nat) : List Bool := (List.range (w.length + 1)).map fun j => tabAt t w i j
noncomputable def tab (t : Tree) (w : List Sym) : List (List Bool) := (List.range (w.length + 1)).map fun i => tabRow t w i
theorem tab_empty {w : List Sym} {i j : Nat} (hj : j ≤ w.length) : tabAt .empty w i j = decide (j = i) := by
  rw [Bool.eq_iff_iff, tabAt_iff, decide_eq_true_iff, M, sl_nil hj]
  omega
def sym0 : Sym := (0, 0)
theorem tab_cls {n : Bool} {h l : List Nat} {w : List Sym} {i j : Nat} (hj : j ≤ w.length) : tabAt (.cls n h l) w i j = (decide (j = i + 1) && bel (w.getD i sym0) n h l) := by
  rw [Bool.eq_iff_iff, tabAt_iff, Bool.and_eq_true, decide_eq_true_iff, M]
  constructor
  · rintro ⟨h1, s, e, b⟩
    have hl := congrArg List.length e
    rw [sl_len hj, List.length_singleton] at hl
    have hj' : j = i + 1 := by omega
    subst hj'
    rw [sl_one (by omega)] at e
    have e' : w[i]'(by omega) = s := by simpa using e
    refine ⟨rfl, ?_⟩
    rw [getD_get _ _ _ (by omega), e']
    exact b
  · rintro ⟨rfl, b⟩
    refine ⟨by omega, w[i]'(by omega), sl_one (by omega), ?_⟩
    rw [getD_get _ _ _ (by omega)] at b
    exact b
theorem tab_or {p q : Tree} {w : List Sym} {i j : Nat} : tabAt (.or p q) w i j = (tabAt p w i j || tabAt q w i j) := by
  rw [Bool.eq_iff_iff, tabAt_iff, Bool.or_eq_true, tabAt_iff, tabAt_iff, M]
  exact ⟨fun ⟨a, b⟩ => b.elim (fun c => .inl ⟨a, c⟩) fun c => .inr ⟨a, c⟩, fun h => h.elim (fun ⟨a, b⟩ => ⟨a, .inl b⟩) fun ⟨a, b⟩ => ⟨a, .inr b⟩⟩
theorem tab_and {p q : Tree} {w : List Sym} {i j : Nat} : tabAt (.and p q) w i j = (tabAt p w i j && tabAt q w i j) := by
  rw [Bool.eq_iff_iff, tabAt_iff, Bool.and_eq_true, tabAt_iff, tabAt_iff, M]
  exact ⟨fun ⟨a, b, c⟩ => ⟨⟨a, b⟩, a, c⟩, fun ⟨⟨a, b⟩, _, c⟩ => ⟨a, b, c⟩⟩
theorem tab_not {p : Tree} {w : List Sym} {i j : Nat} : tabAt (.not p) w i j = (decide (i ≤ j) && !tabAt p w i j) := by
  rw [Bool.eq_iff_iff, tabAt_iff, Bool.and_eq_true, decide_eq_true_iff, M]
  constructor
  · rintro ⟨a, b⟩
    refine ⟨a, ?_⟩
    cases e : tabAt p w i j
    · rfl
    · exact absurd (tabAt_iff.mp e).2 b
  · rintro ⟨a, b⟩
    refine ⟨a, fun c => ?_⟩
    rw [tabAt_iff.mpr ⟨a, c⟩] at b
    exact absurd b (by decide)
theorem any_off {a n : Nat} {f : Nat → Bool} : ((List.range n).any fun r => f (a + r)) = true ↔ ∃ k, a ≤ k ∧ k < a + n ∧ f k = true := by
  rw [List.any_eq_true]
  constructor
  · rintro ⟨r, hr, h⟩
    rw [List.mem_range] at hr
    exact ⟨a + r, by omega, by omega, h⟩
  · rintro ⟨k, h1, h2, h⟩
    refine ⟨k - a, List.mem_range.mpr (by omega), ?_⟩
    rwa [Nat.add_sub_cancel' h1]
theorem tab_thn {p q : Tree} {w : List Sym} {i j : Nat} (hi : i ≤ w.length) (hj : j ≤ w.length) :
    tabAt (.thn p q) w i j = (List.range (w.length + 1 - i)).any fun r => tabAt p w i (i + r) && tabAt q w (i + r) j := by
  rw [Bool.eq_iff_iff, tabAt_iff, any_off (f := fun k => tabAt p w i k && tabAt q w k j), M]
  constructor
  · rintro ⟨h, u, v, e, a, b⟩
    obtain ⟨h1, e1, e2⟩ := sl_split hj h e
    refine ⟨i + u.length, by omega, by omega, ?_⟩
    rw [Bool.and_eq_true, tabAt_iff, tabAt_iff, ← e1, ← e2]
    exact ⟨⟨by omega, a⟩, h1, b⟩
  · rintro ⟨k, h1, h2, h⟩
    rw [Bool.and_eq_true, tabAt_iff, tabAt_iff] at h
    exact ⟨by omega, _, _, sl_app h.1.1 h.2.1, h.1.2, h.2.2⟩
theorem tab_star {p : Tree} {w : List Sym} {i j : Nat} (hi : i ≤ w.length) (hj : j ≤ w.length) :
    tabAt (.star p) w i j = (decide (j = i) || (List.range (w.length + 1 - (i + 1))).any fun r => tabAt p w i (i + 1 + r) && tabAt (.star p) w (i + 1 + r) j) := by
  rw [Bool.eq_iff_iff, tabAt_iff, Bool.or_eq_true, decide_eq_true_iff, any_off (f := fun k => tabAt p w i k && tabAt (.star p) w k j), M]
  constructor
  · rintro ⟨h, s⟩
    rcases star_left s with e | ⟨u, v, e, hu, a, b⟩
    · rw [sl_nil hj] at e
      exact .inl (by omega)
    · obtain ⟨h1, e1, e2⟩ := sl_split hj h e
      have : 0 < u.length := List.length_pos_iff.mpr hu
      refine .inr ⟨i + u.length, by omega, by omega, ?_⟩
      rw [Bool.and_eq_true, tabAt_iff, tabAt_iff, ← e1, M, ← e2]
      exact ⟨⟨by omega, a⟩, h1, b⟩
  · rintro (rfl | ⟨k, h1, h2, h⟩)
    · refine ⟨Nat.le_refl _, ?_⟩
      rw [(sl_nil hj).mpr (Nat.le_refl _)]
      exact .nil
    · rw [Bool.and_eq_true, tabAt_iff, tabAt_iff] at h
      refine ⟨by omega, ?_⟩
      rw [sl_app h.1.1 h.2.1]
      exact .cons h.1.2 h.2.2
theorem tab_head {t : Tree} {w : List Sym} {k : Nat} (h : k ≤ w.length) : tabAt t w 0 k = mt t (w.take k) := by
  unfold tabAt sl
  rw [decide_eq_true (Nat.zero_le k), Bool.true_and, List.drop_zero]
theorem tab_tail {t : Tree} {w : List Sym} {k : Nat} (h : k ≤ w.length) : tabAt t w k w.length = mt t (w.drop k) := by
  unfold tabAt sl
  rw [decide_eq_true h, Bool.true_and, List.take_length]
/-- beginnings of the mirrored sequence are the ends -/
theorem mt_ends {t : Tree} {w : List Sym} {j : Nat} (h : j ≤ w.length) : mt (mir t) (w.reverse.take (w.length - j)) = mt t (w.drop j) := by
  have e : w.reverse.take (w.length - j) = (w.drop j).reverse := by
    rw [List.take_reverse, show w.length - (w.length - j) = j by omega]
  rw [e, Bool.eq_iff_iff, mt_iff, mt_iff, M_mir]
/-! ### rules, stages, pipelines -/
structure Rule where
  before : Tree
  neg : Bool
  hs : List Nat
  ls : List Nat
  after : Tree
  out : List Nat
noncomputable def fits (r : Rule) (w : List Sym) (k : Nat) : Bool :=
  mt r.before (w.take k) && (mt r.after (w.drop (k + 1)) && bel (w.getD k sym0) r.neg r.hs r.ls)
noncomputable def firstR (st : List Rule) (w : List Sym) (k : Nat) : Option Nat := st.findIdx? fun r => fits r w k
noncomputable def applied (st : List Rule) (w : List Sym) : List (Option Nat) := (List.range w.length).map fun k => firstR st w k
theorem findIdx_step {α : Type} {p : α → Bool} {xs : List α} {i : Nat} {x : α} (h : xs[i]? = some x) :
    (xs.take (i + 1)).findIdx? p = match (xs.take i).findIdx? p with
      | some j => some j
      | none => if p x = true then some i else none := by
  have hi : i < xs.length := by
    rcases Nat.lt_or_ge i xs.length with q | q
    · exact q
    · rw [List.getElem?_eq_none q] at h; cases h
  rw [List.take_add_one, h, List.findIdx?_append]
  cases (xs.take i).findIdx? p with
  | some j => rfl
  | none =>
    simp only [Option.none_or, Option.toList, List.length_take, Nat.min_eq_left (Nat.le_of_lt hi)]
    by_cases q : p x = true
    · simp [q, List.findIdx?_cons]
    · simp [q, List.findIdx?_cons]
theorem firstR_lt {st : List Rule} {w : List Sym} {k i : Nat} (h : firstR st w k = some i) : i < st.length := by
  unfold firstR at h
  exact (List.findIdx?_eq_some_iff_getElem.mp h).1
def outSyms (out : List Nat) (s : Sym) : List Sym := out.map fun c => if c = 36 then s else (64, c)
noncomputable def putAt (st : List Rule) (w : List Sym) (k : Nat) : List (Sym × Nat) :=
  match firstR st w k with
  | none => []
  | some i => match st[i]? with
    | none => []
    | some r => (outSyms r.out (w.getD k sym0)).map fun s => (s, k)
noncomputable def putOut (st : List Rule) (w : List Sym) : List (Sym × Nat) := (List.range w.length).flatMap (putAt st w)
noncomputable def stageStep (st : List Rule) (ps : List (Sym × Nat)) : List (Sym × Nat) :=
  (putOut st (ps.map (·.1))).map fun p => (p.1, (ps.map (·.2)).getD p.2 0)
noncomputable def excFrom (pl : List (List Rule)) (ps : List (Sym × Nat)) : List (Sym × Nat) := pl.foldl (fun ps st => stageStep st ps) ps
def numb (w : List Sym) : List (Sym × Nat) := (List.range w.length).map fun k => (w.getD k sym0, k)
noncomputable def exc (pl : List (List Rule)) (w : List Sym) : List (Sym × Nat) := excFrom pl (numb w)
noncomputable def trc : List (List Rule) → List Sym → List (List (Option Nat))
  | [], _ => []
  | st :: r, w => applied st w :: trc r ((putOut st w).map (·.1))
theorem stageStep_syms (st : List Rule) (ps : List (Sym × Nat)) : (stageStep st ps).map (·.1) = (putOut st (ps.map (·.1))).map (·.1) := by
  unfold stageStep
  rw [List.map_map]
  rfl
/-- sizes -/
def StOk (st : List Rule) : Prop := ∀ r ∈ st, r.out.length ≤ 3
theorem putAt_len {st : List Rule} (h : StOk st) (w : List Sym) (k : Nat) : (putAt st w k).length ≤ 3 := by
  unfold putAt
  split
  · exact Nat.zero_le _
  · split
    · exact Nat.zero_le _
    · rename_i i _ r hr
      rw [List.length_map, outSyms, List.length_map]
      exact h r (List.mem_of_getElem? hr)
theorem flat_len {α β : Type} {f : α → List β} {c : Nat} (h : ∀ x, (f x).length ≤ c) : ∀ xs : List α, (xs.flatMap f).length ≤ c * xs.length
  | [] => by simp
  | x :: xs => by
    have a := h x
    have b := flat_len h xs
    rw [List.flatMap_cons, List.length_append, List.length_cons, Nat.mul_succ]
    omega
theorem putOut_len {st : List Rule} (h : StOk st) (w : List Sym) : (putOut st w).length ≤ 3 * w.length := by
  have := flat_len (f := putAt st w) (putAt_len h w) (List.range w.length)
  rw [List.length_range] at this
  exact this
theorem putOut_pos {st : List Rule} {w : List Sym} {p : Sym × Nat} (h : p ∈ putOut st w) : p.2 < w.length := by
  unfold putOut at h
  obtain ⟨k, hk, hp⟩ := List.mem_flatMap.mp h
  rw [List.mem_range] at hk
  unfold putAt at hp
  split at hp
  · cases hp
  · split at hp
    · cases hp
    · obtain ⟨s, _, rfl⟩ := List.mem_map.mp hp
      exact hk
theorem stageStep_len {st : List Rule} (h : StOk st) (ps : List (Sym × Nat)) : (stageStep st ps).length ≤ 3 * ps.length := by
  unfold stageStep
  rw [List.length_map]
  have := putOut_len h (ps.map (·.1))
  rwa [List.length_map] at this
/-! ### the exchange -/
inductive Sim (a b : Sym) : List Sym → List Sym → Prop where
  | nil : Sim a b [] []
  | cons {s s' : Sym} {u v : List Sym} : (s' = s ∨ (s = a ∧ s' = b)) → Sim a b u v → Sim a b (s :: u) (s' :: v)
section
variable {a b : Sym}
theorem Sim.length {u v : List Sym} (h : Sim a b u v) : v.length = u.length := by
  induction h with
  | nil => rfl
  | cons _ _ ih => rw [List.length_cons, List.length_cons, ih]
theorem Sim.take {u v : List Sym} (h : Sim a b u v) : ∀ n, Sim a b (u.take n) (v.take n) := by
  induction h with
  | nil => intro n; cases n <;> exact .nil
  | cons q _ ih =>
    intro n
    cases n with
    | zero => exact .nil
    | succ n => exact .cons q (ih n)
theorem Sim.drop {u v : List Sym} (h : Sim a b u v) : ∀ n, Sim a b (u.drop n) (v.drop n) := by
  induction h with
  | nil => intro n; cases n <;> exact .nil
  | cons q r ih =>
    intro n
    cases n with
    | zero => exact .cons q r
    | succ n => exact ih n
theorem Sim.getD {u v : List Sym} (h : Sim a b u v) : ∀ n, v.getD n sym0 = u.getD n sym0 ∨ (u.getD n sym0 = a ∧ v.getD n sym0 = b) := by
  induction h with
  | nil => intro n; exact .inl rfl
  | cons q _ ih =>
    intro n
    cases n with
    | zero => exact q
    | succ n => exact ih n
theorem Sim.split {u v x y : List Sym} (h : Sim a b u v) (e : u = x ++ y) : ∃ x' y', v = x' ++ y' ∧ Sim a b x x' ∧ Sim a b y y' := by
  subst e
  refine ⟨v.take x.length, v.drop x.length, (List.take_append_drop ..).symm, ?_, ?_⟩
  · have := h.take x.length
    rwa [List.take_left'  rfl] at this
  · have := h.drop x.length
    rwa [List.drop_left' rfl] at this
theorem Sim.split' {u v x y : List Sym} (h : Sim a b u v) (e : v = x ++ y) : ∃ x' y', u = x' ++ y' ∧ Sim a b x' x ∧ Sim a b y' y := by
  subst e
  refine ⟨u.take x.length, u.drop x.length, (List.take_append_drop ..).symm, ?_, ?_⟩
  · have := h.take x.length
    rwa [List.take_left' rfl] at this
  · have := h.drop x.length
    rwa [List.drop_left' rfl] at this
/-- no class tells the two letters apart -/
def Blr (p0 p1 : Nat) : Tree → Prop
  | .empty => True
  | .cls _ _ l => p0 ∈ l ↔ p1 ∈ l
  | .or p q => Blr p0 p1 p ∧ Blr p0 p1 q
  | .and p q => Blr p0 p1 p ∧ Blr p0 p1 q
  | .thn p q => Blr p0 p1 p ∧ Blr p0 p1 q
  | .star p => Blr p0 p1 p
  | .not p => Blr p0 p1 p
theorem bel_sim {x p0 p1 : Nat} {n : Bool} {h l : List Nat} (k : p0 ∈ l ↔ p1 ∈ l) : bel (x, p1) n h l = bel (x, p0) n h l := by
  unfold bel
  have : decide (p1 ∈ l) = decide (p0 ∈ l) := by rw [decide_eq_decide]; exact k.symm
  simp only [this]
theorem star_sim {P : List Sym → Prop} (hP : ∀ u v, Sim a b u v → (P u ↔ P v)) {u : List Sym} (k : Star P u) : ∀ v, Sim a b u v → Star P v := by
  induction k with
  | nil => intro v h; cases h; exact .nil
  | cons p _ ih =>
    intro v h
    obtain ⟨x, y, rfl, h1, h2⟩ := h.split rfl
    exact .cons ((hP _ _ h1).mp p) (ih _ h2)
theorem star_sim' {P : List Sym → Prop} (hP : ∀ u v, Sim a b u v → (P u ↔ P v)) {v : List Sym} (k : Star P v) : ∀ u, Sim a b u v → Star P u := by
  induction k with
  | nil => intro v h; cases h; exact .nil
  | cons p _ ih =>
    intro v h
    obtain ⟨x, y, rfl, h1, h2⟩ := h.split' rfl
    exact .cons ((hP _ _ h1).mpr p) (ih _ h2)
theorem M_sim {x p0 p1 : Nat} : ∀ (t : Tree), Blr p0 p1 t → ∀ u v, Sim (x, p0) (x, p1) u v → (M t u ↔ M t v)
  | .empty, _, u, v, h => by
    simp only [M]
    rw [← List.length_eq_zero_iff, ← List.length_eq_zero_iff, h.length]
  | .cls n hs l, k, u, v, h => by
    simp only [M]
    constructor
    · rintro ⟨s, rfl, q⟩
      cases h with
      | cons e r =>
        cases r
        rcases e with rfl | ⟨rfl, rfl⟩
        · exact ⟨_, rfl, q⟩
        · exact ⟨_, rfl, (bel_sim k).trans q⟩
    · rintro ⟨s, rfl, q⟩
      cases h with
      | cons e r =>
        cases r
        rcases e with rfl | ⟨rfl, rfl⟩
        · exact ⟨_, rfl, q⟩
        · exact ⟨_, rfl, (bel_sim k).symm.trans q⟩
  | .or p q, k, u, v, h => by simp only [M, M_sim p k.1 u v h, M_sim q k.2 u v h]
  | .and p q, k, u, v, h => by simp only [M, M_sim p k.1 u v h, M_sim q k.2 u v h]
  | .thn p q, k, u, v, h => by
    simp only [M]
    constructor
    · rintro ⟨y, z, e, c, d⟩
      obtain ⟨y', z', e', h1, h2⟩ := h.split e
      exact ⟨y', z', e', (M_sim p k.1 _ _ h1).mp c, (M_sim q k.2 _ _ h2).mp d⟩
    · rintro ⟨y, z, e, c, d⟩
      obtain ⟨y', z', e', h1, h2⟩ := h.split' e
      exact ⟨y', z', e', (M_sim p k.1 _ _ h1).mpr c, (M_sim q k.2 _ _ h2).mpr d⟩
  | .star p, k, u, v, h => by
    simp only [M]
    exact ⟨fun s => star_sim (fun _ _ => M_sim p k _ _) s _ h, fun s => star_sim' (fun _ _ => M_sim p k _ _) s _ h⟩
  | .not p, k, u, v, h => by simp only [M, M_sim p k u v h]
structure RBlr (p0 p1 : Nat) (r : Rule) : Prop where
  before : Blr p0 p1 r.before
  target : p0 ∈ r.ls ↔ p1 ∈ r.ls
  after : Blr p0 p1 r.after
theorem mt_sim {x p0 p1 : Nat} {t : Tree} (k : Blr p0 p1 t) {u v : List Sym} (h : Sim (x, p0) (x, p1) u v) : mt t v = mt t u := by
  rw [Bool.eq_iff_iff, mt_iff, mt_iff, M_sim t k u v h]
theorem fits_sim {x p0 p1 : Nat} {r : Rule} (k : RBlr p0 p1 r) {u v : List Sym} (h : Sim (x, p0) (x, p1) u v) (i : Nat) : fits r v i = fits r u i := by
  unfold fits
  rw [mt_sim k.before (h.take i), mt_sim k.after (h.drop (i + 1))]
  rcases h.getD i with e | ⟨e, e'⟩
  · rw [e]
  · rw [e, e', bel_sim k.target]
theorem findIdx_congr {α : Type} {p q : α → Bool} : ∀ {xs : List α}, (∀ x ∈ xs, p x = q x) → xs.findIdx? p = xs.findIdx? q
  | [], _ => rfl
  | x :: xs, h => by
    rw [List.findIdx?_cons, List.findIdx?_cons, h x (List.mem_cons_self ..), findIdx_congr fun y hy => h y (List.mem_cons_of_mem _ hy)]
theorem firstR_sim {x p0 p1 : Nat} {st : List Rule} (k : ∀ r ∈ st, RBlr p0 p1 r) {u v : List Sym} (h : Sim (x, p0) (x, p1) u v) (i : Nat) : firstR st v i = firstR st u i :=
  findIdx_congr fun r hr => fits_sim (k r hr) h i
theorem applied_sim {x p0 p1 : Nat} {st : List Rule} (k : ∀ r ∈ st, RBlr p0 p1 r) {u v : List Sym} (h : Sim (x, p0) (x, p1) u v) : applied st v = applied st u := by
  unfold applied
  rw [h.length]
  exact List.map_congr_left fun i _ => firstR_sim k h i
end
/-- the copies of the exchanged symbol -/
def swp (a b : Sym) (at_ : Nat) (p : Sym × Nat) : Sym × Nat := if p.2 = at_ ∧ p.1 = a then (b, p.2) else p
theorem swp_2 (a b : Sym) (n : Nat) (p : Sym × Nat) : (swp a b n p).2 = p.2 := by
  unfold swp
  split <;> rfl
theorem swp_sim (a b : Sym) (n : Nat) : ∀ ps : List (Sym × Nat), Sim a b (ps.map (·.1)) ((ps.map (swp a b n)).map (·.1))
  | [] => .nil
  | p :: ps => by
    refine .cons ?_ (swp_sim a b n ps)
    unfold swp
    split
    · rename_i h
      exact .inr ⟨h.2, rfl⟩
    · exact .inl rfl
theorem getD_map {α β : Type} {f : α → β} {d : α} {e : β} (h : f d = e) : ∀ (xs : List α) (i : Nat), (xs.map f).getD i e = f (xs.getD i d)
  | [], i => by simpa using h.symm
  | x :: xs, 0 => rfl
  | x :: xs, i + 1 => getD_map h xs i
theorem stage_swp {x p0 p1 n : Nat} (hx : x ≠ 64) {st : List Rule} (k : ∀ r ∈ st, RBlr p0 p1 r) (ps : List (Sym × Nat)) :
    stageStep st (ps.map (swp (x, p0) (x, p1) n)) = (stageStep st ps).map (swp (x, p0) (x, p1) n) := by
  have hs := swp_sim (x, p0) (x, p1) n ps
  have h2 : (ps.map (swp (x, p0) (x, p1) n)).map (·.2) = ps.map (·.2) := by
    rw [List.map_map]
    exact List.map_congr_left fun p _ => swp_2 _ _ _ p
  unfold stageStep
  rw [h2]
  unfold putOut
  rw [hs.length, List.map_flatMap, List.map_flatMap, List.map_flatMap]
  refine congrArg List.flatten (List.map_congr_left fun i hi => ?_)
  unfold putAt
  rw [firstR_sim k hs i]
  cases firstR st (ps.map (·.1)) i with
  | none => rfl
  | some j =>
    dsimp only
    cases st[j]? with
    | none => rfl
    | some r =>
      dsimp only
      rw [List.length_map] at hi
      rw [List.mem_range] at hi
      have e1 : (ps.map (·.1)).getD i sym0 = ps[i].1 := by rw [getD_get _ _ _ (by rw [List.length_map]; exact hi), List.getElem_map]
      have e2 : (ps.map (·.2)).getD i 0 = ps[i].2 := by rw [getD_get _ _ _ (by rw [List.length_map]; exact hi), List.getElem_map]
      have e3 : ((ps.map (swp (x, p0) (x, p1) n)).map (·.1)).getD i sym0 = (swp (x, p0) (x, p1) n ps[i]).1 := by
        rw [getD_get _ _ _ (by rw [List.length_map, List.length_map]; exact hi), List.getElem_map, List.getElem_map]
      rw [e1, e3]
      unfold outSyms
      simp only [List.map_map]
      refine List.map_congr_left fun c _ => ?_
      simp only [Function.comp, e2]
      by_cases hc : c = 36
      · simp only [hc, if_true]
        unfold swp
        split <;> rfl
      · simp only [hc, if_false]
        unfold swp
        rw [if_neg]
        rintro ⟨_, q⟩
        exact hx (congrArg Prod.fst q).symm
theorem exc_swp {x p0 p1 n : Nat} (hx : x ≠ 64) : ∀ (pl : List (List Rule)) (k : ∀ st ∈ pl, ∀ r ∈ st, RBlr p0 p1 r) (ps : List (Sym × Nat)),
    excFrom pl (ps.map (swp (x, p0) (x, p1) n)) = (excFrom pl ps).map (swp (x, p0) (x, p1) n)
  | [], _, _ => rfl
  | st :: pl, k, ps => by
    show excFrom pl (stageStep st (ps.map _)) = (excFrom pl (stageStep st ps)).map _
    rw [stage_swp hx (k st (List.mem_cons_self ..)) ps]
    exact exc_swp hx pl (fun s hs => k s (List.mem_cons_of_mem _ hs)) _
theorem trc_swp {x p0 p1 n : Nat} (hx : x ≠ 64) : ∀ (pl : List (List Rule)) (k : ∀ st ∈ pl, ∀ r ∈ st, RBlr p0 p1 r) (ps : List (Sym × Nat)),
    trc pl ((ps.map (swp (x, p0) (x, p1) n)).map (·.1)) = trc pl (ps.map (·.1))
  | [], _, _ => rfl
  | st :: pl, k, ps => by
    have hs := swp_sim (x, p0) (x, p1) n ps
    have k1 := k st (List.mem_cons_self ..)
    show applied st _ :: trc pl _ = applied st _ :: trc pl _
    rw [applied_sim k1 hs, ← stageStep_syms, ← stageStep_syms, stage_swp hx k1 ps, trc_swp hx pl (fun s hs => k s (List.mem_cons_of_mem _ hs)) _]
theorem numb_set {w : List Sym} {n : Nat} {a b : Sym} (h : w[n]? = some a) : numb (w.set n b) = (numb w).map (swp a b n) := by
  unfold numb
  rw [List.length_set, List.map_map]
  refine List.map_congr_left fun k hk => ?_
  rw [List.mem_range] at hk
  simp only [Function.comp, swp]
  rw [getD_get _ _ _ (by rw [List.length_set]; exact hk), getD_get _ _ _ hk, List.getElem_set]
  by_cases e : n = k
  · subst e
    have : w[n] = a := by
      rw [List.getElem?_eq_getElem hk] at h
      exact Option.some.inj h
    simp [this]
  · have : ¬ k = n := fun q => e q.symm
    simp [e, this]
theorem numb_syms (w : List Sym) : (numb w).map (·.1) = w := by
  unfold numb
  rw [List.map_map]
  refine List.ext_getElem (by simp) fun i h1 h2 => ?_
  simp only [List.getElem_map, List.getElem_range, Function.comp]
  rw [getD_get _ _ _ h2]
end K29
/-! Rules that the layer lacks: enumerate over a tuple, a tuple backwards, sorted over nested tuples, repr of nested tuples. -/
namespace PySem
open Sem (wp)
open AutoSeq1 (wpAny_loadPart')
set_option maxHeartbeats 1000000 in
theorem meets_enum1 {v : Value} {o : Obj} {H : Heap → Prop} (B : Begins v o H) :
    Meets (Builtin.«enumerate.__new__» ⟨[.type "enumerate", v], []⟩) (fun _ R s =>
      H s.heap ∧ R (.ok (.ret (.ref (s.heap.push o).objs.size)))
        { s with heap := (s.heap.push o).push { cls := .type "enumerate", data := .fields #[.none, .bool false, .ref s.heap.objs.size, rawInt 0, .none, .none] } }) :=
  .of_wp fun prog w A R s h => by
    obtain ⟨hp, g, d, tk, os⟩ := s
    obtain ⟨h1, h⟩ := h
    have hsub := sub_enumerate
    have go : ∀ {A' : Around} {E Q : Value → Shared → Prop}, Q (.ref hp.objs.size) ⟨hp.push o, g, d, tk, os⟩ →
        wpAny (model prog w) A' (pyIter v) Q E ⟨hp, g, d, tk, os⟩ := fun q => B.iter prog w _ _ ⟨hp, g, d, tk, os⟩ _ h1 q
    wp_walk using go
    refine wpAny_stack_any fun st => wpAny_pure ?_
    split
    · rename_i c _ _ _ _ _
      cases (c == Value.type "enumerate") <;> (wp_walk using go; exact ⟨_, rfl, h⟩)
    · wp_walk using go
      exact ⟨_, rfl, h⟩
section
variable {prog : Program} {w : World} {A : Around} {E : Value → Shared → Prop} {s : Shared}
theorem enum_begins1 {v : Value} {o : Obj} {H : Heap → Prop} {Q : Value → Shared → Prop} (B : Begins v o H) (h1 : H s.heap)
    (h : ∀ h', IsEnum h' (s.heap.objs.size + 1) s.heap.objs.size 0 .none → h'.get? s.heap.objs.size = some o →
      (∀ b o, s.heap.get? b = some o → h'.get? b = some o) → Q (.ref (s.heap.objs.size + 1)) { s with heap := h' }) :
    wpAny (model prog w) A (call (.type "enumerate") [v]) Q E s := by
  have hz : (s.heap.push o).objs.size = s.heap.objs.size + 1 := Heap.size_push ..
  refine callType_new F.called_enumerate (by decide) (F.typeCall_enumerate_1 _) (F.newCall_enumerate_1 _) (fun obj => F.args_object_init_2 obj _) F.entry_enumerate_new (meets_enum1 B) ⟨h1, ?_⟩
  show _ ∧ _
  rw [hz]
  have he := Heap.get?_push_size (s.heap.push o) (o := { cls := .type "enumerate", data := .fields #[.none, .bool false, .ref s.heap.objs.size, rawInt 0, .none, .none] }) rfl
  rw [hz] at he
  refine ⟨⟨_, he, rfl⟩, h _ he (Heap.get?_push_of_some _ (Heap.get?_push_size _ B.free)) fun b o x => ?_⟩
  exact Heap.get?_push_of_some _ (Heap.get?_push_of_some _ x)
end
end PySem
namespace L2
open PySem PySem.Spec PyProof.Rows
/-- the tuple at a, each item in a new pair -/
def ItT (K : PySem.W.Frag) (a : Addr) : It where
  go i H := ∃ xs x, SqT K H a xs ∧ xs[i]? = some x
  yld i H v H' := ∃ T x, v = .ref T ∧ H T = none ∧ H' = upd H T (.tup [.int (i : Nat), x]) ∧ ∀ xs, SqT K H a xs → xs[i]? = some x
  stop i H := ∃ xs : List V, SqT K H a xs ∧ xs.length = i
theorem tup_ne {h : Heap} {t b : Addr} {items : Array Value} {o : Obj} (ht : IsTup h t items) (hb : h.get? b = some o) (hc : o.cls ≠ .type "tuple") : t ≠ b := by
  rintro rfl
  obtain ⟨o', e, c, _⟩ := ht
  rw [hb] at e
  cases e
  exact hc c
theorem turn_enumT {P : Program} {w : World} {K : PySem.W.Frag} {elts : List Expr} {kk : Nat} {tpos : Pos} (a e it : Addr) :
    Turn P w K (.Tuple elts kk tpos) (ItT K a) [e, it] e (fun i h => (∃ old, IsEnum h e it ((i : Nat) : Int) old) ∧ h.IsTupleIter it a i ∧ e ≠ it) where
  mem := List.mem_cons_self ..
  obj i h st b hb := by
    obtain ⟨⟨old, he⟩, ⟨o, ho, _, hd⟩, _⟩ := st
    rcases List.mem_cons.mp hb with z | z
    · exact z ▸ ⟨_, he, fun v q => nomatch q⟩
    · have z' : b = it := by simpa using z
      exact z' ▸ ⟨o, ho, fun v q => by rw [hd] at q; cases q⟩
  keep i h h' st k := by
    obtain ⟨⟨old, he⟩, hi, hne⟩ := st
    exact ⟨⟨old, k e (by simp) _ he⟩, hi.at fun o q => k it (by simp) o q, hne⟩
  item X hP hw hK hc i pins s σ H E I hf st hg := by
    subst hP hw hK
    obtain ⟨⟨old, he⟩, hit, hne⟩ := st
    obtain ⟨xs, x, hq, hx⟩ := hg
    obtain ⟨its, rv, p, hz⟩ := I.tuple hq
    obtain ⟨u, hu, ru⟩ := rv.get hx
    have hel : e < s.heap.objs.size := Heap.lt_size he
    have hil : it < s.heap.objs.size := by obtain ⟨_, q, _⟩ := hit; exact Heap.lt_size q
    have hai : a ≠ it := by
      obtain ⟨o, q, c, _⟩ := id hit
      exact tup_ne p q (by rw [c]; simp)
    have hae : a ≠ e := tup_ne p he (by simp)
    have hA : X.A.in1.handled = none := I.ok.hd hc
    have D := Draws.tuple (prog := X.prog) (w := X.w) hA it a hai its.toArray
    have hlt : i < its.toArray.size := by
      have := (List.getElem?_eq_some_iff.mp hu).1
      simpa using this
    refine wpAny_pyNext_enum_itemC D he ⟨hit, p⟩ hlt hne (by simp [hne, Ne.symm hae]) fun x' h' tk hP ho st' hT hsz hk => ?_
    have ex : x' = u := by
      have q : its.toArray[i]? = some x' := hP
      rw [List.getElem?_toArray, hu] at q
      exact (Option.some.inj q).symm
    subst ex
    refine ⟨_, rfl, wpAny_letOwnedTupleGo_enum (s := { s with heap := h', toks := tk + 1 }) ho fun h'' he' sb => ?_⟩
    have hT2 := (sb.2 _ (Nat.ne_of_gt hel)).trans hT
    have new : ObjOk X.prog X.w (upd H s.heap.objs.size (.tup [.int (i : Nat), x])) h'' s.heap.objs.size (.tup [.int (i : Nat), x]) :=
      ⟨(by decide : 2 ≤ sizeLine), [.int i tk, x'], .cons ⟨_, rfl⟩ (.cons ru .nil), ⟨_, hT2, rfl, _, rfl⟩⟩
    have I1 : Inv X pins σ (upd H s.heap.objs.size (.tup [.int (i : Nat), x])) { s with heap := h'', toks := tk + 1 } :=
      I.turnedNew (ch := [e, it]) (fun b ob hb q => (sb.2 b (fun z => hb (by simp [z]))).trans (hk b ob (fun z => hb (by simp [z])) (fun z => hb (by simp [z])) q)) hf (Nat.le_refl _) new
    refine ⟨.ref s.heap.objs.size, _, I1, rfl, ⟨_, x, rfl, I.hok.fresh (Nat.le_refl _), rfl, fun ys hy => by rw [I.tuple_inj hy hq]; exact hx⟩, ⟨⟨x', ?_⟩, st'.1.at fun o q => (sb.2 it (Ne.symm hne)).trans q, hne⟩, fun b hb => ?_⟩
    · rw [show ((i + 1 : Nat) : Int) = (i : Int) + 1 from rfl]
      exact he'
    · have hb' : b < s.heap.objs.size := by
        rcases List.mem_cons.mp hb with z | z
        · exact z ▸ hel
        · have z' : b = it := by simpa using z
          exact z' ▸ hil
      rw [upd_ne (Nat.ne_of_lt hb')]
      exact (hf b hb).1
  done X hP hw hK hc i pins s σ H E I hf st hg := by
    subst hP hw hK
    obtain ⟨⟨old, he⟩, hit, hne⟩ := st
    obtain ⟨xs, hq, hx⟩ := hg
    obtain ⟨its, rv, p, hz⟩ := I.tuple hq
    obtain ⟨f0, f1, f2, f3, f4, f5⟩ := hf it (by simp)
    have hai : a ≠ it := by
      obtain ⟨o, q, c, _⟩ := id hit
      exact tup_ne p q (by rw [c]; simp)
    have hl := rv.length
    have hA : X.A.in1.handled = none := I.ok.hd hc
    have D := Draws.tuple (prog := X.prog) (w := X.w) hA it a hai its.toArray
    have hit' : s.heap.IsTupleIter it a its.toArray.size := by
      rw [List.size_toArray, ← hl, hx]
      exact hit
    exact wpAny_pyNext_enum_endD D he ⟨hit', p⟩ fun h' eb => ⟨rfl, I.turned (t' := s.toks) (fun b o hb q => eb b o hb q) f0 f1 f3 f4 f5⟩
  self A i s Q E st h := by
    obtain ⟨⟨_, he⟩, _⟩ := st
    exact wpAny_pyIter_enum he h
section
variable {X : Cx}
def iEnumT (K : PySem.W.Frag) (ta : TA) : TI := fun σ H R => ta σ H fun vs H1 => ∃ a xs, vs = [.ref a] ∧ SqT K H1 a xs ∧ R (ItT K a) H1
theorem pi_enumT {e : Expr} {ta : TA} {p pos tpos : Pos} {elts : List Expr} {kk : Nat} (hg : Gl X "enumerate") (hm : X.mg "enumerate" = none) (ha : PA X [e] ta) (hs : starEach [e] X.env = [(false, eval e X.env)] := by rfl) :
    PI X (.Tuple elts kk tpos) (.Call (.Name "enumerate" p) [e] [] pos) (iEnumT X.K ta) := by
  refine ⟨fun pins s σ H R I h => ?_⟩
  refine Call_ (ld_blt I hg hm boot_enumerate (PyProof.Rows.callWith_type1 (thn (ha.run pos pins s σ H _ I h) fun us s1 q1 => ?_) hs rfl))
  obtain ⟨vs, H1, I1, r1, a, xs, rfl, hq, q⟩ := q1
  obtain rfl := Vals.ref1 r1
  obtain ⟨its, rv, p', hz⟩ := I1.tuple hq
  refine enum_begins1 (begins_tuple a its.toArray) p' fun h' he hit hk => wpAny_pyIter_enum he ?_
  have I2 : Inv X pins σ H1 { s1 with heap := h' } := I1.kept (t' := s1.toks) hk
  refine ⟨s1.heap.objs.size + 1, [s1.heap.objs.size + 1, s1.heap.objs.size], _, _, H1, rfl, I2, turn_enumT a (s1.heap.objs.size + 1) s1.heap.objs.size, ⟨⟨.none, he⟩, ⟨_, hit, rfl, rfl⟩, Nat.succ_ne_self _⟩, fun b hb => ?_, q⟩
  have hle : s1.heap.objs.size ≤ b := by
    rcases List.mem_cons.mp hb with z | z
    · exact z ▸ Nat.le_succ _
    · have z' : b = s1.heap.objs.size := by simpa using z
      exact Nat.le_of_eq z'.symm
  exact I1.fpOk hle (I1.hok.fresh hle)
/-- a loop over enumerate(tuple) -/
theorem for_enumT {K : PySem.W.Frag} {a : Addr} {xs : List V} {g : TG} {tb : TS} {D : Ends} {σ : St} {H : Hp} (Pv : Nat → St → Hp → Prop) (h0 : Pv 0 σ H) (hl : ∀ i σ H, i ≤ xs.length → Pv i σ H → SqT K H a xs)
    (hs : ∀ i x σ H T, xs[i]? = some x → Pv i σ H → H T = none → g (.ref T) σ (upd H T (.tup [.int (i : Nat), x])) fun σ2 H2 => tb { D with nx := Pv (i + 1), ct := Pv (i + 1), bk := D.nx } σ2 H2)
    (hd : ∀ σ H, Pv xs.length σ H → D.nx σ H) :
    ∃ W : Nat → Nat → St → Hp → Prop, (∃ m, W 0 m σ H) ∧ ∀ i m σ H, W i m σ H →
      ((ItT K a).stop i H ∧ D.nx σ H) ∨ ((ItT K a).go i H ∧ ∃ N : St → Hp → Prop, (∀ σ' H', N σ' H' → ∃ m', m' < m ∧ W (i + 1) m' σ' H') ∧ ∀ x H', (ItT K a).yld i H x H' → g x σ H' fun σ2 H2 => tb { D with nx := N, ct := N, bk := D.nx } σ2 H2) := by
  refine ⟨fun i m σ H => i + m = xs.length ∧ Pv i σ H, ⟨xs.length, Nat.zero_add _, h0⟩, fun i m σ H hW => ?_⟩
  obtain ⟨e, hP⟩ := hW
  have hS := hl i σ H (by omega) hP
  by_cases hi : i < xs.length
  · refine .inr ⟨⟨xs, xs[i], hS, List.getElem?_eq_getElem hi⟩, Pv (i + 1), fun σ' H' hN => ⟨m - 1, by omega, by omega, hN⟩, fun x H' hy => ?_⟩
    obtain ⟨T, y, rfl, nT, rfl, f⟩ := hy
    exact hs i y σ H T (f xs hS) hP nT
  · refine .inl ⟨⟨xs, hS, by omega⟩, hd σ H ?_⟩
    rw [show xs.length = i by omega]
    exact hP
/-- a comprehension over enumerate(tuple) -/
theorem lc_enumT {K : PySem.W.Frag} {a : Addr} {xs : List V} {g : TG} {tt : TT} {te : TE} {vs : List Nat} {σ : St} {H1 : Hp} {D : Addr} {Qd : Hp → Prop} (Pv : Nat → Hp → Prop) (h0 : Pv 0 (upd H1 D (.lst []))) (hl : ∀ i H, i ≤ xs.length → Pv i H → SqT K H a xs)
    (hs : ∀ i x H T, xs[i]? = some x → Pv i H → H T = none → g (.ref T) (wipe σ vs) (upd H T (.tup [.int (i : Nat), x])) fun σ2 H2 => wipe σ2 vs = wipe σ vs ∧ tt σ2 H2 fun b H3 =>
      if b = true then te σ2 H3 fun y H4 => ∃ acc, H4 D = some (.lst acc) ∧ acc.length < sizeLine ∧ Pv (i + 1) (upd H4 D (.lst (acc ++ [y]))) else Pv (i + 1) H3) (hd : ∀ H, Pv xs.length H → Qd H) :
    ∃ W : Nat → Nat → Hp → Prop, (∃ m, W 0 m (upd H1 D (.lst []))) ∧ ∀ i m H, W i m H →
      ((ItT K a).stop i H ∧ Qd H) ∨ ((ItT K a).go i H ∧ ∃ Nx : Hp → Prop, (∀ H', Nx H' → ∃ m', m' < m ∧ W (i + 1) m' H') ∧ ∀ x H', (ItT K a).yld i H x H' → g x (wipe σ vs) H' fun σ2 H2 => wipe σ2 vs = wipe σ vs ∧ tt σ2 H2 fun b H3 =>
        if b = true then te σ2 H3 fun y H4 => ∃ acc, H4 D = some (.lst acc) ∧ acc.length < sizeLine ∧ Nx (upd H4 D (.lst (acc ++ [y]))) else Nx H3) := by
  refine ⟨fun i m H => i + m = xs.length ∧ Pv i H, ⟨xs.length, Nat.zero_add _, h0⟩, fun i m H hW => ?_⟩
  obtain ⟨e, hP⟩ := hW
  have hS := hl i H (by omega) hP
  by_cases hi : i < xs.length
  · refine .inr ⟨⟨xs, xs[i], hS, List.getElem?_eq_getElem hi⟩, Pv (i + 1), fun H' hN => ⟨m - 1, by omega, by omega, hN⟩, fun x H' hy => ?_⟩
    obtain ⟨T, y, rfl, nT, rfl, f⟩ := hy
    exact hs i y H T (f xs hS) hP nT
  · refine .inl ⟨⟨xs, hS, by omega⟩, hd H ?_⟩
    rw [show xs.length = i by omega]
    exact hP
end
end L2
namespace L2
open PySem PySem.Spec PyProof.Rows
/-! ### data in the heap -/
section
variable {K : PySem.W.Frag} {H H' : Hp}
/-- what was tracked as a tuple or locked is so still -/
structure Keep (P : Addr → Prop) (H H' : Hp) : Prop where
  keep : ∀ b o, ¬ P b → H b = some o → H' b = some o
theorem Same.rd {a : Addr} {o : HO} (s : Same H H') (h : Rd H a o) : Rd H' a o := by
  rcases h with h | ⟨u, h⟩
  · exact .inl (s _ _ h)
  · exact .inr ⟨u, s _ _ h⟩
theorem Same.tup {a : Addr} {xs : List V} (s : Same H H') (h : SqT K H a xs) : SqT K H' a xs := by
  rcases h with h | h
  · exact .inl (s.rd h)
  · exact .inr h
theorem Same.new {p : Addr} {o : HO} (h : H p = none) : Same H (upd H p o) := fun b u e => by
  rw [upd_ne (ne_of_none e h)]
  exact e
mutual
theorem Dp.mono (s : Same H H') : ∀ {d : PyData} {v : V}, Dp K H v d → Dp K H' v d
  | _, _, .non => .non
  | _, _, .bl b => .bl b
  | _, _, .int i => .int i
  | _, _, .str x => .str x
  | _, _, .lst h a => .lst (s.seq h) (DpAll.mono s a)
  | _, _, .tup h a => .tup (s.tup h) (DpAll.mono s a)
theorem DpAll.mono (s : Same H H') : ∀ {ds : List PyData} {vs : List V}, DpAll K H vs ds → DpAll K H' vs ds
  | _, _, .nil => .nil
  | _, _, .cons h a => .cons (Dp.mono s h) (DpAll.mono s a)
end
theorem Dp.tupI {v : V} {ds : List PyData} (h : Dp K H v (.tuple ds)) : ∃ a xs, v = .ref a ∧ SqT K H a xs ∧ DpAll K H xs ds := by
  cases h with
  | tup h1 h2 => exact ⟨_, _, rfl, h1, h2⟩
theorem Dp.lstI {v : V} {ds : List PyData} (h : Dp K H v (.list ds)) : ∃ a xs, v = .ref a ∧ SqL K H a xs ∧ DpAll K H xs ds := by
  cases h with
  | lst h1 h2 => exact ⟨_, _, rfl, h1, h2⟩
theorem Dp.strI {v : V} {x : Str} (h : Dp K H v (.str x)) : v = .str x := by cases h; rfl
theorem Dp.blI {v : V} {b : Bool} (h : Dp K H v (.bool b)) : v = .bl b := by cases h; rfl
theorem Dp.intI {v : V} {i : Int} (h : Dp K H v (.int i)) : v = .int i := by cases h; rfl
theorem Dp.nonI {v : V} (h : Dp K H v .none) : v = .non := by cases h; rfl
theorem DpAll.consI {vs : List V} {d : PyData} {ds : List PyData} (h : DpAll K H vs (d :: ds)) : ∃ v r, vs = v :: r ∧ Dp K H v d ∧ DpAll K H r ds := by
  cases h with
  | cons h1 h2 => exact ⟨_, _, rfl, h1, h2⟩
theorem DpAll.nilI {vs : List V} (h : DpAll K H vs []) : vs = [] := by cases h; rfl
theorem DpAll.len : ∀ {ds : List PyData} {vs : List V}, DpAll K H vs ds → vs.length = ds.length
  | _, _, .nil => rfl
  | _, _, .cons _ a => by rw [List.length_cons, List.length_cons, DpAll.len a]
theorem DpAll.get : ∀ {ds : List PyData} {vs : List V} {i : Nat} {v : V}, DpAll K H vs ds → vs[i]? = some v → ∃ d, ds[i]? = some d ∧ Dp K H v d
  | _, _, 0, _, .cons h _, e => ⟨_, rfl, by cases e; exact h⟩
  | _, _, i + 1, _, .cons _ a, e => DpAll.get (i := i) a e
theorem DpAll.at_ : ∀ {ds : List PyData} {vs : List V} {i : Nat} {d : PyData}, DpAll K H vs ds → ds[i]? = some d → ∃ v, vs[i]? = some v ∧ Dp K H v d
  | _, _, 0, _, .cons h _, e => ⟨_, rfl, by cases e; exact h⟩
  | _, _, i + 1, _, .cons _ a, e => DpAll.at_ (i := i) a e
theorem DpAll.app : ∀ {ds es : List PyData} {vs ws : List V}, DpAll K H vs ds → DpAll K H ws es → DpAll K H (vs ++ ws) (ds ++ es)
  | _, _, _, _, .nil, b => b
  | _, _, _, _, .cons h a, b => .cons h (DpAll.app a b)
theorem DpAll.one {v : V} {d : PyData} (h : Dp K H v d) : DpAll K H [v] [d] := .cons h .nil
theorem DpAll.take : ∀ (n : Nat) {ds : List PyData} {vs : List V}, DpAll K H vs ds → DpAll K H (vs.take n) (ds.take n)
  | 0, _, _, _ => .nil
  | n + 1, _, _, .nil => .nil
  | n + 1, _, _, .cons h a => .cons h (DpAll.take n a)
theorem DpAll.drop : ∀ (n : Nat) {ds : List PyData} {vs : List V}, DpAll K H vs ds → DpAll K H (vs.drop n) (ds.drop n)
  | 0, _, _, a => a
  | n + 1, _, _, .nil => .nil
  | n + 1, _, _, .cons h a => DpAll.drop n a
theorem DpAll.rev : ∀ {ds : List PyData} {vs : List V}, DpAll K H vs ds → DpAll K H vs.reverse ds.reverse
  | _, _, .nil => .nil
  | _, _, .cons h a => by
    rw [List.reverse_cons, List.reverse_cons]
    exact DpAll.app (DpAll.rev a) (.one h)
theorem DpAll.bools : ∀ bs : List Bool, DpAll K H (bs.map V.bl) (bs.map PyData.bool)
  | [] => .nil
  | b :: bs => .cons (.bl b) (DpAll.bools bs)
theorem DpAll.boolsI : ∀ {bs : List Bool} {vs : List V}, DpAll K H vs (bs.map PyData.bool) → vs = bs.map V.bl
  | [], _, h => DpAll.nilI h
  | b :: bs, _, h => by
    obtain ⟨v, r, rfl, h1, h2⟩ := DpAll.consI h
    rw [Dp.blI h1, DpAll.boolsI h2]
    rfl
/-- pairs of values with the data that they are -/
theorem DpAll.zip : ∀ {ds : List PyData} {vs : List V}, DpAll K H vs ds → ∀ p ∈ vs.zip ds, Dp K H p.1 p.2
  | _, _, .nil, p, h => by cases h
  | _, _, .cons h a, p, hp => by
    rcases List.mem_cons.mp hp with e | hp
    · rw [e]; exact h
    · exact DpAll.zip a p hp
theorem DpAll.of_pairs : ∀ {ps : List (V × PyData)}, (∀ p ∈ ps, Dp K H p.1 p.2) → DpAll K H (ps.map (·.1)) (ps.map (·.2))
  | [], _ => .nil
  | p :: ps, h => .cons (h p (List.mem_cons_self ..)) (DpAll.of_pairs fun q hq => h q (List.mem_cons_of_mem _ hq))
theorem zip_fst : ∀ {vs : List V} {ds : List PyData}, vs.length = ds.length → (vs.zip ds).map (·.1) = vs ∧ (vs.zip ds).map (·.2) = ds
  | [], [], _ => ⟨rfl, rfl⟩
  | [], _ :: _, h => by cases h
  | _ :: _, [], h => by cases h
  | v :: vs, d :: ds, h => by
    have := zip_fst (vs := vs) (ds := ds) (Nat.succ.inj h)
    exact ⟨congrArg (v :: ·) this.1, congrArg (d :: ·) this.2⟩
/-- new objects -/
theorem Dp.tupN {p : Addr} {xs : List V} {ds : List PyData} (hp : H p = none) (h : DpAll K H xs ds) : Dp K (upd H p (.tup xs)) (.ref p) (.tuple ds) :=
  .tup (.of upd_same) (DpAll.mono (Same.new hp) h)
theorem Dp.lstN {p : Addr} {xs : List V} {ds : List PyData} (hp : H p = none) (h : DpAll K H xs ds) : Dp K (upd H p (.lst xs)) (.ref p) (.list ds) :=
  .lst (.of upd_same) (DpAll.mono (Same.new hp) h)
end
/-! ### sorted -/
section
variable {X : Cx}
def rSortedD (K : PySem.W.Frag) : List V → Hp → VK → Prop := fun xs H Q => ∃ a vs ds, xs = [.ref a] ∧ SqL K H a vs ∧ DpAll K H vs ds ∧ PySem.W.AllAlike ds ∧ PySem.W.Sortable ds ∧ (∀ d ∈ ds, d.depth ≤ 60) ∧
  ∀ (p : Addr) (ps : List (V × PyData)), ps.Perm (vs.zip ds) → H p = none → Q (.ref p) (upd H p (.lst (ps.map (·.1))))
theorem each_pairs {K : PySem.W.Frag} {pins : List (Addr × Obj)} {σ : St} {H : Hp} {s : Shared} (I : Inv X pins σ H s) : ∀ {ds : List PyData} {vs : List V} {us : List Value}, DpAll X.K H vs ds → Vals vs us →
    PySem.W.EachIs (fun u (p : V × PyData) => RelV p.1 u) us (vs.zip ds) ∧ PySem.W.EachIs (fun u (p : V × PyData) => ∃ as, Reads s.heap u p.2 as) us (vs.zip ds)
  | _, _, _, .nil, .nil => ⟨.nil, .nil⟩
  | _, _, _, .cons h a, .cons r rr => by
    obtain ⟨q1, q2⟩ := each_pairs (K := K) I a rr
    exact ⟨.cons r q1, .cons (Dp.reads I _ _ _ h r) q2⟩
theorem vals_each : ∀ {us : List Value} {ps : List (V × PyData)}, PySem.W.EachIs (fun u (p : V × PyData) => RelV p.1 u) us ps → Vals (ps.map (·.1)) us
  | _, _, .nil => .nil
  | _, _, .cons h t => .cons h (vals_each t)
theorem cr_sortedD (hu : X.A.units + 64 < cLine) : CallR X (.builtin "sorted") (rSortedD X.K) := by
  intro pins s σ H xs us Q I r h
  obtain ⟨a, vs, ds, rfl, hs, hd, hal, hk, hdp, q⟩ := h
  obtain ⟨its, rv, hl, hz⟩ := I.list hs
  rw [Vals.ref1 r]
  obtain ⟨e1, e2⟩ := each_pairs (K := X.K) I hd rv
  have hzl : (vs.zip ds).length = vs.length := by rw [List.length_zip, hd.len, Nat.min_self]
  have hm := (zip_fst hd.len).2
  refine PySem.W.sorted_data (enc := fun p : V × PyData => p.2) hl.isList e1 e2 (by rw [hm]; exact hal) (by rw [hm]; exact hk) (by rw [hzl]; exact hz) (fun b hb => ?_) fun out ho hO => ?_
  · have hb2 : b.2 ∈ ds := by rw [← hm]; exact List.mem_map.mpr ⟨b, hb, rfl⟩
    have := hdp _ hb2
    omega
  · obtain ⟨ep, he'⟩ := PyProof.Rows.sortedAll_at s.heap its (List.toArray out)
    have hperm := List.mergeSort_perm (vs.zip ds) (PySem.W.dataLe false fun p : V × PyData => p.2)
    have rv' := vals_each hO
    have hlen : (((vs.zip ds).mergeSort (PySem.W.dataLe false fun p : V × PyData => p.2)).map (·.1)).length ≤ sizeLine := by
      rw [List.length_map, hperm.length_eq, hzl]
      exact hz
    refine ⟨.ref _, _, I.laid (t' := s.toks) (o := .lst (((vs.zip ds).mergeSort (PySem.W.dataLe false fun p : V × PyData => p.2)).map (·.1))) (fun _ _ => PyProof.Rows.sortedAll_old) (Nat.le_succ _) ⟨hlen, out, ep, rv', ?_⟩, rfl, q _ _ hperm (I.hok.fresh (Nat.le_succ _))⟩
    exact he'
/-! ### repr -/
def rReprD (K : PySem.W.Frag) : List V → Hp → VK → Prop := fun xs H Q => ∃ a d, xs = [.ref a] ∧ Dp K H (.ref a) d ∧ d.showable = true ∧ d.hasDict = false ∧ d.depth ≤ 60 ∧ d.shown.length ≤ sizeLine ∧ Q (.str d.shown) H
theorem cr_reprD (hg : X.A.guards = some []) (hu : X.A.units + 64 < cLine) : CallR X (.builtin "repr") (rReprD X.K) := by
  intro pins s σ H xs us Q I r h
  obtain ⟨a, d, rfl, hd, hs, hn, hdp, hsz, q⟩ := h
  rw [Vals.ref1 r]
  obtain ⟨as, rd⟩ := Dp.reads I d (.ref a) (.ref a) hd rfl
  exact repr_of_reads' rd hs (PyData.noDict_hsm hn) hg (by omega) (fun _ _ e => e) (fun h' u tk hk => ⟨.str _, H, I.kept hk, ⟨_, rfl⟩, q⟩) hsz
end
/-! ### a tuple backwards -/
section
variable {prog : Program} {w : World} {A : Around} {E : Value → Shared → Prop} {s : Shared}
theorem back_places (n : Nat) : Builtin.Slice.slicePlaces ((n : Int) - 1) (-1) (-1) = n := by
  unfold Builtin.Slice.slicePlaces
  rw [if_neg (by decide)]
  split
  · rw [show (n : Int) - 1 - -1 - 1 = (n : Int) - 1 by omega, show (-(-1 : Int)) = 1 by decide, Int.ediv_one]
    omega
  · omega
theorem back_applied {sl : Addr} {vl vu vs : Value} {n : Nat} {Q : Int × Int × Nat → Shared → Prop} (hs : s.heap.IsSliceOf sl vl vu vs) (pl : IsPart vl none) (pu : IsPart vu none) (ps : IsPart vs (some (-1)))
    (h : Q ((n : Int) - 1, -1, n) s) : wpAny (model prog w) A (Builtin.Slice.sliceApplied (.ref sl) (pure (n : Int))) Q E s := by
  obtain ⟨os, hos, hcs, hds⟩ := id hs
  unfold Builtin.Slice.sliceApplied Builtin.Slice.sliceFields
  refine wpAny_bind (wpAny_bind (wpAny_field hos hds (x := vl) rfl (wpAny_bind (wpAny_field hos hds (x := vu) rfl (wpAny_bind (wpAny_field hos hds (x := vs) rfl (wpAny_pure ?_)))))))
  refine wpAny_bind (HT.slicePart_ ps ?_)
  show wpAny _ _ (if ((-1 : Int) == 0) = true then _ else _) _ _ s
  rw [if_neg (by decide)]
  refine wpAny_bind (HT.slicePart_ pl (wpAny_bind (HT.slicePart_ pu (wpAny_bind (wpAny_pure ?_)))))
  have e : Builtin.Slice.sliceAdjust none none (-1) (n : Int) = ((n : Int) - 1, -1) := by
    unfold Builtin.Slice.sliceAdjust
    simp
  show wpAny _ _ (match Builtin.Slice.sliceAdjust none none (-1) (n : Int) with | (lo, hi) => pure (lo, (-1 : Int), Builtin.Slice.slicePlaces lo hi (-1))) _ _ s
  rw [e]
  show wpAny _ _ (pure ((n : Int) - 1, (-1 : Int), Builtin.Slice.slicePlaces ((n : Int) - 1) (-1) (-1))) _ _ s
  rw [back_places]
  exact wpAny_pure h
theorem filterMap_same {α β : Type} {f g : α → Option β} : ∀ {l : List α}, (∀ x ∈ l, f x = g x) → l.filterMap f = l.filterMap g
  | [], _ => rfl
  | x :: l, h => by
    rw [List.filterMap_cons, List.filterMap_cons, h x (List.mem_cons_self ..), filterMap_same fun y hy => h y (List.mem_cons_of_mem _ hy)]
theorem back_pick (xs : Array Value) : ((List.range xs.size).filterMap fun (m : Nat) => xs[((xs.size : Int) - 1 + (m : Int) * -1).toNat]?).toArray = xs.toList.reverse.toArray := by
  congr 1
  have e : (List.range xs.size).filterMap (fun (m : Nat) => xs[((xs.size : Int) - 1 + (m : Int) * -1).toNat]?) = (List.range xs.size).map fun m => xs.toList.reverse.getD m .none := by
    rw [← List.filterMap_eq_map]
    refine filterMap_same fun m hm => ?_
    rw [List.mem_range] at hm
    have hz : ((xs.size : Int) - 1 + (m : Int) * -1).toNat = xs.size - 1 - m := by omega
    rw [hz]
    have h1 : m < xs.toList.reverse.length := by rw [List.length_reverse, Array.length_toList]; exact hm
    rw [Function.comp, K29.getD_get _ _ _ h1, List.getElem_reverse, Array.getElem?_eq_getElem (by omega)]
    simp
  rw [e]
  refine List.ext_getElem (by simp) fun i h1 h2 => ?_
  rw [List.getElem_map, List.getElem_range, K29.getD_get _ _ _ h2]
theorem getItem_tup_back {t sl : Addr} {items : Array Value} {vl vu vs : Value} {Q : Value → Shared → Prop} (ht : IsTup s.heap t items) (hs : s.heap.IsSliceOf sl vl vu vs) (pl : IsPart vl none) (pu : IsPart vu none) (ps : IsPart vs (some (-1)))
    (h : Q (.ref s.heap.objs.size) { s with heap := s.heap.push { cls := .type "tuple", data := .seq items.toList.reverse.toArray } }) (hsz : items.size ≤ sizeLine) : wpAny (model prog w) A (getItem (.ref t) (.ref sl)) Q E s := by
  have hok : sizeOk (.seq items.toList.reverse.toArray) := by
    show items.toList.reverse.toArray.size ≤ sizeLine
    rw [List.size_toArray, List.length_reverse, Array.length_toList]
    exact hsz
  obtain ⟨os, hos, hcs, hds⟩ := id hs
  have hTs : s.TypeIs (.ref sl) "slice" := ⟨os, hos, hcs⟩
  unfold getItem
  try with_reducible refine wpAny_holding ?_
  first | refine wpAny_bind (wpAny_pure ?_) | skip
  refine wpAny_bind (wpAny_sequenceKey ht.typeIs (by decide) ?_)
  refine wpAny_bind (wpAny_callSpecial?_slot (name := Str.ofString "__getitem__") ht.typeIs PyProof.Rows.slot_tuple_getitem
    (wpAny_call_entry PyProof.Rows.slot_tuple_getitem ht.typeIs entry_tuple_getitem ?_ (args_tuple_getitem _ _)))
  show wpAny _ _ (Builtin.Tuple.tupleItemsOf (.ref t) >>= _) _ _ s
  refine wpAny_bind (PyProof.Rows.tupleItemsOf_ ht ?_)
  refine wpAny_bind (wpAny_typeOf hTs ?_)
  rw [if_pos (by decide)]
  refine wpAny_bind (back_applied (n := items.size) hs pl pu ps ?_)
  show wpAny _ _ (if (((items.size : Int) - 1) == 0 && (-1 : Int) == 1 && items.size == items.size) = true then _ else _) _ _ s
  rw [if_neg (by simp), back_pick]
  first
    | exact wpAny_bind (m := Builtin.Tuple.tupleExact _) (wpAny_newObj_type (wpAny_pure ⟨_, rfl, wpAny_pure h⟩) hok)
    | exact wpAny_bind (wpAny_bind (m := Builtin.Tuple.tupleExact _) (wpAny_newObj_type (wpAny_pure (wpAny_pure ⟨_, rfl, wpAny_pure h⟩)) hok))
    | exact wpAny_bind (wpAny_bind (m := Builtin.Tuple.tupleExact _) (wpAny_newObj_type (wpAny_pure ⟨_, rfl, wpAny_pure h⟩) hok))
end
section
variable {X : Cx}
def tRevT (K : PySem.W.Frag) (te : TE) : TE := fun σ H Q => te σ H fun x H1 => ∃ a xs, x = .ref a ∧ SqT K H1 a xs ∧ ∀ p, H1 p = none → Q (.ref p) (upd H1 p (.tup xs.reverse))
theorem pe_revT {e : Expr} {te : TE} {k : Nat} {p1 p2 p3 pos : Pos} (he : PE X e te) : PE X (.Subscript e (.Slice none none (some (.UnaryOp .USub (.Constant (.int 1) k p1) p2)) p3) pos) (tRevT X.K te) := by
  refine ⟨fun pins s σ H Q I h => ?_⟩
  refine Subscript_ (thn (he.run pins s σ H _ I h) fun v s1 q0 => ?_)
  obtain ⟨x, H1, I1, r1, a, xs, rfl, hx, q⟩ := q0
  cases r1
  have hst : PO X (some (.UnaryOp .USub (.Constant (.int 1) k p1) p2)) (tPart (tUn (rU fun i => .int (-i)) (tC (.int 1)))) := po_some (pe_un un_neg pe_int)
  refine wpAny_Slice (thn (po_none.run pins s1 σ H1 (fun o G => o = none ∧ G = H1) I1 ⟨rfl, rfl⟩) fun vl s2 z2 => ?_)
  obtain ⟨l, G2, I2, pl, rfl, rfl⟩ := z2
  refine thn (po_none.run pins s2 σ G2 (fun o G => o = none ∧ G = G2) I2 ⟨rfl, rfl⟩) fun vu s3 z3 => ?_
  obtain ⟨u, G3, I3, pu, rfl, rfl⟩ := z3
  refine thn (hst.run pins s3 σ G3 (fun o G => o = some (-1) ∧ G = G3) I3 ⟨1, rfl, -1, rfl, rfl, rfl⟩) fun vs s4 z4 => ?_
  obtain ⟨o, G4, I4, ps, rfl, rfl⟩ := z4
  have I5 : Inv X pins σ G4 { s4 with heap := s4.heap.push { cls := .type "slice", data := .fields #[vl, vu, vs] } } := I4.kept (t' := s4.toks) fun b ob q => Heap.get?_push_of_some _ q
  obtain ⟨its, r, ht, hz⟩ := I5.tuple hx
  have hlen := r.length
  show wpAny (model X.prog X.w) X.A (subscriptTail e (.Slice none none (some (.UnaryOp .USub (.Constant (.int 1) k p1) p2)) p3) (.ref a) (.ref s4.heap.objs.size)) (EP X pins σ Q) X.xe { s4 with heap := s4.heap.push { cls := .type "slice", data := .fields #[vl, vu, vs] } }
  refine tail_any (ops := [.ref a, .ref s4.heap.objs.size]) ht.typeIs (PyProof.Rows.slot_tuple_getitem.lookup) ?_ (by with_unfolding_all rfl)
  refine getItem_tup_back ht (Heap.IsSliceOf.new _ vl vu vs) pl pu ps ?_ (by rw [List.size_toArray]; omega)
  refine ⟨.ref _, _, I5.laid (t' := s4.toks) (o := .tup xs.reverse) (fun b ob q => Heap.get?_push_of_some _ q) (Nat.le_refl _) ?_, rfl, q _ (I5.hok.fresh (Nat.le_refl _))⟩
  exact ⟨by rw [List.length_reverse]; exact hz, _, r.reverse, _, Heap.get?_push_size _ rfl, rfl, _, rfl⟩
end
end L2
/-! The program's text by places; how a def is told; data of patterns, symbols, rules. -/
namespace K29
open PySem PySem.Spec PyProof.Rows L2 SX
def topS (i : Nat) : Stmt := PySem.Challenge.pw_excerptcheck_k29_whole_symbols_exchanged.main.body.getD i (.Pass ⟨0, 0, 0, 0⟩)
/-- the def st stands at the module's name x -/
structure Df (K : PySem.W.Frag) (mg : Str → Option Value) (x : Str) (st : Stmt) (ps : List Str) : Prop where
  ex : ∃ f fd, Fun K x x st f fd ∧ mg x = some (.ref f) ∧ Binds K fd ps []
section
variable {P : Program} {w : World} {K : PySem.W.Frag} {mg : Str → Option Value} {base : Heap}
theorem Df.cal {x : Str} {st : Stmt} {N ps : List Str} {k : Nat} {sp : Sp} (D : Df K mg x st ps) (S : FnScope N ps (defScope st)) (len : ∀ vs H Q E, sp vs H Q E → vs.length = ps.length)
    (hbody : ∀ (f : Addr) (cdv : Value) (A : Around) (outer : List Env) (s : Shared) (H : Hp) (vs : List V) (Q : VK) (E : XK), Room k (A.deeper (envOfC x (defScope st) s.heap.objs.size f cdv)) → sp vs H Q E →
      ∃ t, PSs (cxOf CX0 P w K mg base N x (defScope st) f cdv A outer s H E).nox (defBody st) t ∧ t { nx := fun _ H' => Q .non H', rt := Q } (start N vs) H) : C8.Cal P w K mg base (k + 1) x sp [] := by
  obtain ⟨f, fd, F, m, b⟩ := D.ex
  exact ⟨f, fd, ps, [], F.ok S len (hbody f), m, F.kp, b, .nil⟩
/-- nothing can be asked -/
theorem Df.none {x : Str} {st : Stmt} {ps : List Str} {sp : Sp} (D : Df K mg x st ps) (no : ∀ vs H Q E, ¬ sp vs H Q E) (k : Nat) : C8.Cal P w K mg base k x sp [] := by
  obtain ⟨f, fd, F, m, b⟩ := D.ex
  exact ⟨f, fd, ps, [], ⟨fun vs H Q E h => absurd h (no vs H Q E), fun A outer s H args us vs Q E _ _ _ _ h => absurd h (no vs H Q E)⟩, m, F.kp, b, .nil⟩
end
theorem cal_mono {P : Program} {w : World} {K : PySem.W.Frag} {mg : Str → Option Value} {base : Heap} {j k : Nat} {x : Str} {sp : Sp} (c : C8.Cal P w K mg base j x sp []) (h : j ≤ k) : C8.Cal P w K mg base k x sp [] := by
  obtain ⟨f, fd, ps, ds, F, r⟩ := c.ex
  exact ⟨f, fd, ps, ds, F.mono h, r⟩
/-! ### data -/
def Tree.name : Tree → Str
  | .empty => "empty"
  | .cls _ _ _ => "class"
  | .or _ _ => "or"
  | .and _ _ => "and"
  | .thn _ _ => "then"
  | .star _ => "star"
  | .not _ => "not"
def Tree.data : Tree → PyData
  | .empty => .tuple [.str "empty"]
  | .cls n h l => .tuple [.str "class", .bool n, .str (S h), .str (S l)]
  | .or p q => .tuple [.str "or", p.data, q.data]
  | .and p q => .tuple [.str "and", p.data, q.data]
  | .thn p q => .tuple [.str "then", p.data, q.data]
  | .star p => .tuple [.str "star", p.data]
  | .not p => .tuple [.str "not", p.data]
def Tree.kids : Tree → List Tree
  | .empty => []
  | .cls _ _ _ => []
  | .or p q => [p, q]
  | .and p q => [p, q]
  | .thn p q => [p, q]
  | .star p => [p]
  | .not p => [p]
abbrev symS (s : Sym) : Str := S [s.1, s.2]
abbrev symV (s : Sym) : V := .str (symS s)
abbrev symD (s : Sym) : PyData := .str (symS s)
def seqD (w : List Sym) : PyData := .tuple (w.map symD)
def pairD (p : Sym × Nat) : PyData := .tuple [symD p.1, .int p.2]
def pairsD (ps : List (Sym × Nat)) : PyData := .tuple (ps.map pairD)
def ruleD (r : Rule) : PyData := .tuple [r.before.data, (Tree.cls r.neg r.hs r.ls).data, r.after.data, .str (S r.out)]
def stageD (st : List Rule) : PyData := .tuple (st.map ruleD)
def pipeD (pl : List (List Rule)) : PyData := .tuple (pl.map stageD)
def optD : Option Nat → PyData
  | none => .none
  | some i => .int i
def optV : Option Nat → V
  | none => .non
  | some i => .int i
/-- what a def gives back: new data of which P is true, what stood stands -/
def Ret (K : PySem.W.Frag) (H : Hp) (Q : VK) (G : PyData → Prop) : Prop := ∀ H' v d, Same H H' → G d → Dp K H' v d → Q v H'
section
variable {K : PySem.W.Frag} {H H' : Hp}
theorem syms_of : ∀ {w : List Sym} {vs : List V}, DpAll K H vs (w.map symD) → vs = w.map symV
  | [], _, h => h.nilI
  | s :: w, _, h => by
    obtain ⟨v, r, rfl, h1, h2⟩ := h.consI
    rw [h1.strI, syms_of h2]
    rfl
theorem of_syms : ∀ w : List Sym, DpAll K H (w.map symV) (w.map symD)
  | [] => .nil
  | s :: w => .cons (.str _) (of_syms w)
theorem seqI {v : V} {w : List Sym} (h : Dp K H v (seqD w)) : ∃ a, v = .ref a ∧ SqT K H a (w.map symV) := by
  obtain ⟨a, xs, rfl, h1, h2⟩ := Dp.tupI h
  rw [syms_of h2] at h1
  exact ⟨a, rfl, h1⟩
/-- if the answer of a test is known -/
theorem ite_yes {c A B : Prop} [Decidable c] (h : c) (k : A) : if decide c = true then A else B := by
  rw [if_pos (decide_eq_true h)]
  exact k
theorem ite_no {c A B : Prop} [Decidable c] (h : ¬ c) (k : B) : if decide c = true then A else B := by
  rw [if_neg (by rw [decide_eq_false h]; exact Bool.false_ne_true)]
  exact k
theorem line200 {n : Nat} (h : n ≤ 1000000) : n < sizeLine := by
  rw [sizeLine_eq]
  omega
end
end K29
/-! What loops and comprehensions walk, told once; data that no list's change touches. -/
namespace K29
open PySem PySem.Spec PyProof.Rows L2 SX
/-! ### data without lists -/
mutual
def nl : PyData → Bool
  | .list _ => false
  | .tuple xs => nlAll xs
  | .none | .bool _ | .int _ | .str _ | .dict _ => true
def nlAll : List PyData → Bool
  | [] => true
  | x :: xs => nl x && nlAll xs
end
theorem nlAll_of : ∀ {xs : List PyData}, (∀ x ∈ xs, nl x = true) → nlAll xs = true
  | [], _ => rfl
  | x :: xs, h => by
    rw [nlAll, h x (List.mem_cons_self ..), nlAll_of fun y hy => h y (List.mem_cons_of_mem _ hy)]
    rfl
theorem nlAll_mem : ∀ {xs : List PyData}, nlAll xs = true → ∀ x ∈ xs, nl x = true
  | x :: xs, h, y, hy => by
    rw [nlAll, Bool.and_eq_true] at h
    rcases List.mem_cons.mp hy with e | hy
    · rw [e]; exact h.1
    · exact nlAll_mem h.2 y hy
theorem nlAll_map {α : Type} {f : α → PyData} (h : ∀ x, nl (f x) = true) (xs : List α) : nlAll (xs.map f) = true :=
  nlAll_of fun y hy => by
    obtain ⟨x, _, rfl⟩ := List.mem_map.mp hy
    exact h x
theorem nl_tree : ∀ t : Tree, nl t.data = true
  | .empty => rfl
  | .cls _ _ _ => rfl
  | .or p q => by simp [Tree.data, nl, nlAll, nl_tree p, nl_tree q]
  | .and p q => by simp [Tree.data, nl, nlAll, nl_tree p, nl_tree q]
  | .thn p q => by simp [Tree.data, nl, nlAll, nl_tree p, nl_tree q]
  | .star p => by simp [Tree.data, nl, nlAll, nl_tree p]
  | .not p => by simp [Tree.data, nl, nlAll, nl_tree p]
theorem nl_good : ∀ {t : Tree} {w : List Sym} {d : PyData}, Good t w d → nl d = true
  | .empty, _, _, ⟨_, e, _⟩ => by subst e; simp [nl, nlAll]
  | .cls _ _ _, _, _, ⟨_, _, e, _⟩ => by subst e; simp [nl, nlAll]
  | .or p q, _, _, ⟨_, _, _, e, _, g, k⟩ => by subst e; simp [nl, nlAll, nl_good g, nl_good k]
  | .and p q, _, _, ⟨_, _, _, e, _, g, k⟩ => by subst e; simp [nl, nlAll, nl_good g, nl_good k]
  | .thn p q, _, _, ⟨_, _, fs, e, _, g, k⟩ => by
    subst e
    have z : nlAll fs = true := nlAll_of fun x hx => by
      obtain ⟨_, _, _, _, a⟩ := k.1 x hx
      exact nl_good a
    simp [nl, nlAll, nl_good g, z]
  | .star p, _, _, ⟨_, fs, e, _, k⟩ => by
    subst e
    have z : nlAll fs = true := nlAll_of fun x hx => by
      obtain ⟨_, _, _, _, a⟩ := k.1 x hx
      exact nl_good a
    simp [nl, nlAll, z]
  | .not p, _, _, ⟨_, _, e, _, g⟩ => by subst e; simp [nl, nlAll, nl_good g]
theorem nl_sym (s : Sym) : nl (symD s) = true := rfl
theorem nl_seq (w : List Sym) : nl (seqD w) = true := nlAll_map nl_sym w
theorem nl_pair (p : Sym × Nat) : nl (pairD p) = true := rfl
theorem nl_pairs (ps : List (Sym × Nat)) : nl (pairsD ps) = true := nlAll_map nl_pair ps
theorem nl_rule (r : Rule) : nl (ruleD r) = true := by simp [ruleD, nl, nlAll, nl_tree]
theorem nl_stage (st : List Rule) : nl (stageD st) = true := nlAll_map nl_rule st
theorem nl_pipe (pl : List (List Rule)) : nl (pipeD pl) = true := nlAll_map nl_stage pl
theorem nl_opt : ∀ o : Option Nat, nl (optD o) = true
  | none => rfl
  | some _ => rfl
section
variable {K : PySem.W.Frag} {H H' : Hp}
/-- the tuples stay -/
def Tups (H H' : Hp) : Prop := ∀ a xs, Rd H a (.tup xs) → Rd H' a (.tup xs)
theorem Tups.of (s : Same H H') : Tups H H' := fun _ _ h => s.rd h
theorem Tups.refl (H : Hp) : Tups H H := fun _ _ h => h
theorem Tups.trans {H2 : Hp} (a : Tups H H') (b : Tups H' H2) : Tups H H2 := fun p xs h => b p xs (a p xs h)
theorem Tups.upd {D : Addr} {l : List V} {o : HO} (h : H D = some (.lst l)) : Tups H (upd H D o) := fun a xs r => by
  have ne : a ≠ D := by
    rintro rfl
    rcases r with r | ⟨u, r⟩
    · rw [h] at r; cases r
    · rw [h] at r; cases r
  rcases r with r | ⟨u, r⟩
  · exact .inl (by rw [upd_ne ne]; exact r)
  · exact .inr ⟨u, by rw [upd_ne ne]; exact r⟩
theorem Tups.sq {a : Addr} {xs : List V} (s : Tups H H') (h : SqT K H a xs) : SqT K H' a xs := by
  rcases h with h | h
  · exact .inl (s _ _ h)
  · exact .inr h
mutual
theorem Dp.tups (s : Tups H H') : ∀ {d : PyData} {v : V}, Dp K H v d → nl d = true → Dp K H' v d
  | _, _, .non, _ => .non
  | _, _, .bl b, _ => .bl b
  | _, _, .int i, _ => .int i
  | _, _, .str x, _ => .str x
  | _, _, .lst h a, n => by simp [nl] at n
  | _, _, .tup h a, n => .tup (s.sq h) (DpAll.tups s a (by simpa [nl] using n))
theorem DpAll.tups (s : Tups H H') : ∀ {ds : List PyData} {vs : List V}, DpAll K H vs ds → nlAll ds = true → DpAll K H' vs ds
  | _, _, .nil, _ => .nil
  | _, _, .cons h a, n => by
    rw [nlAll, Bool.and_eq_true] at n
    exact .cons (Dp.tups s h n.1) (DpAll.tups s a n.2)
end
/-- the heap but for one object -/
def del (H : Hp) (D : Addr) : Hp := fun b => if b = D then none else H b
theorem del_same {D : Addr} : del H D D = none := if_pos rfl
theorem del_ne {D b : Addr} (h : b ≠ D) : del H D b = H b := if_neg h
theorem del_upd {D : Addr} {o : HO} : Same (del H D) (upd H D o) := fun b u e => by
  by_cases h : b = D
  · subst h; rw [del_same] at e; cases e
  · rw [del_ne h] at e; rw [upd_ne h]; exact e
theorem del_le {D : Addr} : Same (del H D) H := fun b u e => by
  by_cases h : b = D
  · subst h; rw [del_same] at e; cases e
  · rw [del_ne h] at e; exact e
theorem del_mono {D : Addr} (s : Same H H') : Same (del H D) (del H' D) := fun b u e => by
  by_cases h : b = D
  · subst h; rw [del_same] at e; cases e
  · rw [del_ne h] at e ⊢; exact s _ _ e
theorem del_upds {D : Addr} {o : HO} : del (upd H D o) D = del H D := funext fun b => by
  by_cases h : b = D
  · subst h; rw [del_same, del_same]
  · rw [del_ne h, del_ne h, upd_ne h]
theorem Same.del {D : Addr} (s : Same H H') (h : H D = none) : Same H (del H' D) := fun b u e => by
  rw [del_ne (ne_of_none e h)]
  exact s _ _ e
theorem tups_del {D : Addr} {l : List V} (h : H D = some (.lst l)) : Tups H (K29.del H D) := fun a xs r => by
  have ne : a ≠ D := by
    rintro rfl
    rcases r with r | ⟨u, r⟩
    · rw [h] at r; cases r
    · rw [h] at r; cases r
  rcases r with r | ⟨u, r⟩
  · exact .inl (by rw [del_ne ne]; exact r)
  · exact .inr ⟨u, by rw [del_ne ne]; exact r⟩
theorem Dp.del {D : Addr} {l : List V} {v : V} {d : PyData} (h : H D = some (.lst l)) (p : Dp K H v d) (n : nl d = true) : Dp K (K29.del H D) v d := Dp.tups (tups_del h) p n
end
/-! ### sources -/
structure Src (J : It) (n : Nat) (Ok : Hp → Prop) (Yl : Nat → V → Hp → Prop) : Prop where
  stop : ∀ H, Ok H → J.stop n H
  go : ∀ i H, i < n → Ok H → J.go i H
  yld : ∀ i H x H', i < n → Ok H → J.yld i H x H' → Same H H' ∧ Yl i x H'
section
variable {K : PySem.W.Frag}
theorem Src.list (a : Addr) (xs : List V) : Src (Itl K a) xs.length (fun H => SqL K H a xs) (fun i x _ => xs[i]? = some x) :=
  ⟨fun H h => ⟨xs, h, Nat.le_refl _⟩, fun i H hi h => ⟨xs, xs[i], h, List.getElem?_eq_getElem hi⟩, fun i H x H' _ h y => ⟨by rw [y.1]; exact Same.refl _, y.2 xs h⟩⟩
theorem Src.tup (a : Addr) (xs : List V) : Src (Itt K a) xs.length (fun H => SqT K H a xs) (fun i x _ => xs[i]? = some x) :=
  ⟨fun H h => ⟨xs, h, Nat.le_refl _⟩, fun i H hi h => ⟨xs, xs[i], h, List.getElem?_eq_getElem hi⟩, fun i H x H' _ h y => ⟨by rw [y.1]; exact Same.refl _, y.2 xs h⟩⟩
theorem Src.rng (lo : Int) (n : Nat) : Src (Itr lo n) n (fun _ => True) (fun i x _ => x = .int (lo + i)) :=
  ⟨fun H _ => Nat.le_refl _, fun i H hi _ => hi, fun i H x H' _ _ y => ⟨by rw [y.1]; exact Same.refl _, y.2⟩⟩
theorem Src.str (l : List Nat) : Src (Its (S l)) l.length (fun _ => True) (fun i x _ => ∃ c, l[i]? = some c ∧ x = .str (S [c])) :=
  ⟨fun H _ => by show (S l).cps.size ≤ l.length; simp [S], fun i H hi _ => by show i < (S l).cps.size; simpa [S] using hi, fun i H x H' _ _ y => by
    obtain ⟨rfl, c, hc, rfl⟩ := y
    exact ⟨Same.refl _, c, by simpa [S] using hc, rfl⟩⟩
theorem Src.enumT (a : Addr) (xs : List V) : Src (ItT K a) xs.length (fun H => SqT K H a xs) (fun i x H => ∃ T y, x = .ref T ∧ xs[i]? = some y ∧ H T = some (.tup [.int (i : Nat), y])) :=
  ⟨fun H h => ⟨xs, h, rfl⟩, fun i H hi h => ⟨xs, xs[i], h, List.getElem?_eq_getElem hi⟩, fun i H x H' _ h y => by
    obtain ⟨T, z, rfl, nT, rfl, f⟩ := y
    exact ⟨Same.new nT, T, z, rfl, f xs h, upd_same⟩⟩
variable {J : It} {n : Nat} {Ok : Hp → Prop} {Yl : Nat → V → Hp → Prop}
theorem for_src (X : Src J n Ok Yl) {g : TG} {tb : TS} {D : Ends} {σ : L2.St} {H : Hp} (Pv : Nat → L2.St → Hp → Prop) (h0 : Pv 0 σ H) (hok : ∀ i σ H, i ≤ n → Pv i σ H → Ok H)
    (hs : ∀ i x σ H H', i < n → Pv i σ H → Same H H' → Yl i x H' → g x σ H' fun σ2 H2 => tb { D with nx := Pv (i + 1), ct := Pv (i + 1), bk := D.nx } σ2 H2) (hd : ∀ σ H, Pv n σ H → D.nx σ H) :
    ∃ W : Nat → Nat → L2.St → Hp → Prop, (∃ m, W 0 m σ H) ∧ ∀ i m σ H, W i m σ H →
      (J.stop i H ∧ D.nx σ H) ∨ (J.go i H ∧ ∃ N : L2.St → Hp → Prop, (∀ σ' H', N σ' H' → ∃ m', m' < m ∧ W (i + 1) m' σ' H') ∧ ∀ x H', J.yld i H x H' → g x σ H' fun σ2 H2 => tb { D with nx := N, ct := N, bk := D.nx } σ2 H2) := by
  refine ⟨fun i m σ H => i + m = n ∧ Pv i σ H, ⟨n, Nat.zero_add _, h0⟩, fun i m σ H hW => ?_⟩
  obtain ⟨e, hP⟩ := hW
  have hO := hok i σ H (by omega) hP
  by_cases hi : i < n
  · refine .inr ⟨X.go i H hi hO, Pv (i + 1), fun σ' H' hN => ⟨m - 1, by omega, by omega, hN⟩, fun x H' hy => ?_⟩
    obtain ⟨y1, y2⟩ := X.yld i H x H' hi hO hy
    exact hs i x σ H H' hi hP y1 y2
  · have ei : i = n := by omega
    subst ei
    exact .inl ⟨X.stop H hO, hd σ H hP⟩
/-- a comprehension without a test: its element is told for any end that takes what it gives -/
theorem lc_src (X : Src J n Ok Yl) {g : TG} {te : TE} {vs : List Nat} {σ : L2.St} {H1 : Hp} {D : Addr} {Qd : Hp → Prop} (hok : ∀ H', Same H1 H' → Ok H') (hD : H1 D = none) (hn : n ≤ 1000000) (F : Nat → PyData → Prop)
    (el : ∀ i x H2 acc (Q' : VK), i < n → Same H1 H2 → H2 D = some (.lst acc) → Yl i x H2 → (∀ H3 y d, Same H2 H3 → F i d → Dp K (K29.del H3 D) y d → Q' y H3) →
      g x (wipe σ vs) H2 fun σ2 H3 => wipe σ2 vs = wipe σ vs ∧ te σ2 H3 Q')
    (done : ∀ H2 ys ds, Same H1 H2 → H2 D = some (.lst ys) → ds.length = n → (∀ i d, ds[i]? = some d → F i d) → DpAll K (K29.del H2 D) ys ds → Qd H2) :
    ∃ W : Nat → Nat → Hp → Prop, (∃ m, W 0 m (upd H1 D (.lst []))) ∧ ∀ i m H, W i m H →
      (J.stop i H ∧ Qd H) ∨ (J.go i H ∧ ∃ Nx : Hp → Prop, (∀ H', Nx H' → ∃ m', m' < m ∧ W (i + 1) m' H') ∧ ∀ x H', J.yld i H x H' → g x (wipe σ vs) H' fun σ2 H2 => wipe σ2 vs = wipe σ vs ∧ tYes σ2 H2 fun b H3 =>
        if b = true then te σ2 H3 fun y H4 => ∃ acc, H4 D = some (.lst acc) ∧ acc.length < sizeLine ∧ Nx (upd H4 D (.lst (acc ++ [y]))) else Nx H3) := by
  refine ⟨fun i m H => i + m = n ∧ Same H1 H ∧ ∃ ys ds, H D = some (.lst ys) ∧ ds.length = i ∧ (∀ j d, ds[j]? = some d → F j d) ∧ DpAll K (K29.del H D) ys ds, ⟨n, Nat.zero_add _, Same.new hD, [], [], upd_same, rfl, fun j d h => by simp at h, .nil⟩, fun i m H hW => ?_⟩
  obtain ⟨e, sm, ys, ds, eD, hl, hF, hA⟩ := hW
  have hO := hok H sm
  by_cases hi : i < n
  · refine .inr ⟨X.go i H hi hO, fun H' => Same H1 H' ∧ ∃ ys ds, H' D = some (.lst ys) ∧ ds.length = i + 1 ∧ (∀ j d, ds[j]? = some d → F j d) ∧ DpAll K (K29.del H' D) ys ds, fun H' hN => ⟨m - 1, by omega, by omega, hN⟩, fun x H' hy => ?_⟩
    obtain ⟨y1, y2⟩ := X.yld i H x H' hi hO hy
    refine el i x H' ys _ hi (sm.trans y1) (y1 _ _ eD) y2 fun H3 y d s3 fd pd => ?_
    have e3 : H3 D = some (.lst ys) := s3 _ _ (y1 _ _ eD)
    refine ⟨ys, e3, line200 (by rw [hA.len]; omega), fun b o eb => ?_, ys ++ [y], ds ++ [d], upd_same, by rw [List.length_append, hl]; rfl, fun j d' hj => ?_, ?_⟩
    · have nb : b ≠ D := ne_of_none eb hD
      rw [upd_ne nb]
      exact s3 _ _ (y1 _ _ (sm _ _ eb))
    · rcases Nat.lt_or_ge j ds.length with q | q
      · rw [List.getElem?_append_left q] at hj
        exact hF j d' hj
      · rw [List.getElem?_append_right q] at hj
        have hj0 : j - ds.length = 0 := by
          rcases Nat.eq_zero_or_pos (j - ds.length) with z | z
          · exact z
          · rw [List.getElem?_eq_none (by rw [List.length_singleton]; exact z)] at hj; cases hj
        rw [hj0] at hj
        have ed : d = d' := Option.some.inj hj
        subst ed
        have : j = i := by omega
        subst this
        exact fd
    · rw [del_upds]
      exact DpAll.app (DpAll.mono (del_mono (y1.trans s3)) hA) (.one pd)
  · have ei : i = n := by omega
    subst ei
    exact .inl ⟨X.stop H hO, done H ys ds sm eD hl hF hA⟩
end
/-! ### rules whose reading names the written part, for a block -/
section
variable {X : Cx} {K : PySem.W.Frag}
theorem pg_tupK {pos : Pos} {es : List Expr} {k : Nat} {t : TGs} {n : Nat} (hK : X.K = K) (hc : X.calm = true) (h : PGs X es t)
    (hn : (assignEach es X.env).length = n := by rfl) (hst : (assignEach es X.env).findIdx? (·.1) = none := by rfl) : PG X (.Tuple es k pos) (gTup K n t) := by
  subst hK
  exact pg_tup hc h hn hst
theorem pi_listK {tg l : Expr} {tl : TE} (hK : X.K = K) (hl : PE X l tl) : PI X tg l (iList K tl) := by
  subst hK
  exact pi_list hl
theorem pi_tupK {tg l : Expr} {tl : TE} (hK : X.K = K) (hl : PE X l tl) : PI X tg l (iTup K tl) := by
  subst hK
  exact pi_tup hl
end
end K29
namespace K29
open PySem PySem.Spec PyProof.Rows L2 SX
section
variable {P : Program} {w : World} {K : PySem.W.Frag} {mg : Str → Option Value} {base : Heap}
theorem data_tup : ∀ t : Tree, ∃ r, t.data = .tuple (.str t.name :: r) ∧ (t.name ≠ "class" → r = t.kids.map Tree.data)
  | .empty => ⟨_, rfl, fun _ => rfl⟩
  | .cls _ _ _ => ⟨_, rfl, fun h => absurd rfl h⟩
  | .or _ _ => ⟨_, rfl, fun _ => rfl⟩
  | .and _ _ => ⟨_, rfl, fun _ => rfl⟩
  | .thn _ _ => ⟨_, rfl, fun _ => rfl⟩
  | .star _ => ⟨_, rfl, fun _ => rfl⟩
  | .not _ => ⟨_, rfl, fun _ => rfl⟩
theorem kids_cls : ∀ t : Tree, t.name = "class" → t.kids = [] ∧ ∃ n h l, t = .cls n h l
  | .cls n h l, _ => ⟨rfl, n, h, l, rfl⟩
  | .empty, e => absurd (show ("empty" : Str) = "class" from e) (by decide +kernel)
  | .or _ _, e => absurd (show ("or" : Str) = "class" from e) (by decide +kernel)
  | .and _ _, e => absurd (show ("and" : Str) = "class" from e) (by decide +kernel)
  | .thn _ _, e => absurd (show ("then" : Str) = "class" from e) (by decide +kernel)
  | .star _, e => absurd (show ("star" : Str) = "class" from e) (by decide +kernel)
  | .not _, e => absurd (show ("not" : Str) = "class" from e) (by decide +kernel)
theorem name_empty : ∀ t : Tree, t.name = "empty" → t = .empty
  | .empty, _ => rfl
  | .cls _ _ _, e => absurd (show ("class" : Str) = "empty" from e) (by decide +kernel)
  | .or _ _, e => absurd (show ("or" : Str) = "empty" from e) (by decide +kernel)
  | .and _ _, e => absurd (show ("and" : Str) = "empty" from e) (by decide +kernel)
  | .thn _ _, e => absurd (show ("then" : Str) = "empty" from e) (by decide +kernel)
  | .star _, e => absurd (show ("star" : Str) = "empty" from e) (by decide +kernel)
  | .not _, e => absurd (show ("not" : Str) = "empty" from e) (by decide +kernel)
theorem name_class : ∀ t : Tree, t.name = "class" → ∃ n h l, t = .cls n h l
  | .empty, e => absurd (show ("empty" : Str) = "class" from e) (by decide +kernel)
  | .cls n h l, _ => ⟨n, h, l, rfl⟩
  | .or _ _, e => absurd (show ("or" : Str) = "class" from e) (by decide +kernel)
  | .and _ _, e => absurd (show ("and" : Str) = "class" from e) (by decide +kernel)
  | .thn _ _, e => absurd (show ("then" : Str) = "class" from e) (by decide +kernel)
  | .star _, e => absurd (show ("star" : Str) = "class" from e) (by decide +kernel)
  | .not _, e => absurd (show ("not" : Str) = "class" from e) (by decide +kernel)
theorem name_or : ∀ t : Tree, t.name = "or" → ∃ p q, t = .or p q
  | .empty, e => absurd (show ("empty" : Str) = "or" from e) (by decide +kernel)
  | .cls _ _ _, e => absurd (show ("class" : Str) = "or" from e) (by decide +kernel)
  | .or p q, _ => ⟨p, q, rfl⟩
  | .and _ _, e => absurd (show ("and" : Str) = "or" from e) (by decide +kernel)
  | .thn _ _, e => absurd (show ("then" : Str) = "or" from e) (by decide +kernel)
  | .star _, e => absurd (show ("star" : Str) = "or" from e) (by decide +kernel)
  | .not _, e => absurd (show ("not" : Str) = "or" from e) (by decide +kernel)
theorem name_and : ∀ t : Tree, t.name = "and" → ∃ p q, t = .and p q
  | .empty, e => absurd (show ("empty" : Str) = "and" from e) (by decide +kernel)
  | .cls _ _ _, e => absurd (show ("class" : Str) = "and" from e) (by decide +kernel)
  | .or _ _, e => absurd (show ("or" : Str) = "and" from e) (by decide +kernel)
  | .and p q, _ => ⟨p, q, rfl⟩
  | .thn _ _, e => absurd (show ("then" : Str) = "and" from e) (by decide +kernel)
  | .star _, e => absurd (show ("star" : Str) = "and" from e) (by decide +kernel)
  | .not _, e => absurd (show ("not" : Str) = "and" from e) (by decide +kernel)
theorem name_then : ∀ t : Tree, t.name = "then" → ∃ p q, t = .thn p q
  | .empty, e => absurd (show ("empty" : Str) = "then" from e) (by decide +kernel)
  | .cls _ _ _, e => absurd (show ("class" : Str) = "then" from e) (by decide +kernel)
  | .or _ _, e => absurd (show ("or" : Str) = "then" from e) (by decide +kernel)
  | .and _ _, e => absurd (show ("and" : Str) = "then" from e) (by decide +kernel)
  | .thn p q, _ => ⟨p, q, rfl⟩
  | .star _, e => absurd (show ("star" : Str) = "then" from e) (by decide +kernel)
  | .not _, e => absurd (show ("not" : Str) = "then" from e) (by decide +kernel)
theorem name_star : ∀ t : Tree, t.name = "star" → ∃ p, t = .star p
  | .empty, e => absurd (show ("empty" : Str) = "star" from e) (by decide +kernel)
  | .cls _ _ _, e => absurd (show ("class" : Str) = "star" from e) (by decide +kernel)
  | .or _ _, e => absurd (show ("or" : Str) = "star" from e) (by decide +kernel)
  | .and _ _, e => absurd (show ("and" : Str) = "star" from e) (by decide +kernel)
  | .thn _ _, e => absurd (show ("then" : Str) = "star" from e) (by decide +kernel)
  | .star p, _ => ⟨p, rfl⟩
  | .not _, e => absurd (show ("not" : Str) = "star" from e) (by decide +kernel)
theorem name_not : ∀ t : Tree, t.name = "not" → ∃ p, t = .not p
  | .empty, e => absurd (show ("empty" : Str) = "not" from e) (by decide +kernel)
  | .cls _ _ _, e => absurd (show ("class" : Str) = "not" from e) (by decide +kernel)
  | .or _ _, e => absurd (show ("or" : Str) = "not" from e) (by decide +kernel)
  | .and _ _, e => absurd (show ("and" : Str) = "not" from e) (by decide +kernel)
  | .thn _ _, e => absurd (show ("then" : Str) = "not" from e) (by decide +kernel)
  | .star _, e => absurd (show ("star" : Str) = "not" from e) (by decide +kernel)
  | .not p, _ => ⟨p, rfl⟩
/-- a pattern in the heap: its name, the rest -/
theorem treeI {H : Hp} {v : V} {t : Tree} (h : Dp K H v t.data) : ∃ a r ds, v = .ref a ∧ SqT K H a (.str t.name :: r) ∧ DpAll K H r ds ∧ t.data = .tuple (.str t.name :: ds) ∧ (t.name ≠ "class" → ds = t.kids.map Tree.data) := by
  obtain ⟨ds, e, k⟩ := data_tup t
  rw [e] at h
  obtain ⟨a, xs, rfl, h1, h2⟩ := h.tupI
  obtain ⟨v0, r, rfl, h3, h4⟩ := h2.consI
  rw [h3.strI] at h1
  exact ⟨a, r, ds, rfl, h1, h4, e, k⟩
theorem str_eq {x y : Str} (h : V.str x = V.str y) : x = y := by injection h
abbrev s_operands : Stmt := topS 1
theorem sc_operands : FnScope ["tree"] ["tree"] (defScope s_operands) := ⟨rfl, rfl, rfl, by decide +kernel, rfl, by decide +kernel, by decide +kernel⟩
def spOperands (K : PySem.W.Frag) : Sp := fun vs H Q _ => ∃ v t, vs = [v] ∧ Dp K H v (Tree.data t) ∧ Ret K H Q (· = .tuple (t.kids.map Tree.data))
theorem ok_operands (D : Df K mg "operands" s_operands ["tree"]) : C8.Cal P w K mg base 1 "operands" (spOperands K) [] := by
  refine D.cal sc_operands (fun vs H Q E h => ?_) (fun f cdv A outer s H vs Q E hr h => ?_)
  · obtain ⟨v, t, rfl, _⟩ := h
    rfl
  obtain ⟨v, t, rfl, hd, q⟩ := h
  refine ⟨_, (pss_cons (ps_if (pt_cmpR op_eq (pe_ix ix_tup (pv 0) pe_int (fun _ _ => rfl)) pe_str (nomark _))
     (pss_one (ps_ret (pe_tup pa_nil)))
     pss_nil)
     (pss_one (ps_ret (pe_slice sl_tup (pv 0) (po_some pe_int) po_none)))), ?_⟩
  obtain ⟨a, r, ds, rfl, hT, hr', e, hk⟩ := treeI hd
  refine ⟨.ref a, rfl, a, _, 0, _, rfl, rfl, hT, atI_nat (j := 0) rfl, rfl, _, rfl, ite2 (fun c => ?_) (fun c => ?_)⟩
  · have c' := str_eq (of_decide_eq_true c)
    refine ⟨Nat.zero_le _, fun p hp => q _ _ _ (Same.new hp) ?_ (Dp.tupN hp .nil)⟩
    rw [(kids_cls t c').1]
    rfl
  · have c' : t.name ≠ "class" := fun z => c (decide_eq_true (congrArg V.str z))
    rw [hk c'] at hr'
    refine ⟨.ref a, rfl, 1, rfl, a, _, rfl, hT, fun z => ?_, fun p hp => ?_⟩
    · have z1 := z.1
      rw [show (1 : Int) = ((1 : Nat) : Int) from rfl, HT.sIx_nat, List.length_cons] at z1
      omega
    · have e1 : cutV (.str t.name :: r) (some 1) none = r := by
        unfold cutV
        rw [show (1 : Int) = ((1 : Nat) : Int) from rfl, HT.sIx_nat, HT.sIx_none, List.length_cons, Nat.min_eq_left (by omega)]
        exact List.take_of_length_le (by rw [List.drop_succ_cons, List.drop_zero]; omega)
      rw [e1]
      exact q _ _ _ (Same.new hp) rfl (Dp.tupN hp hr')
abbrev s_mirrored : Stmt := topS 2
theorem sc_mirrored : FnScope ["tree", "sides", "part"] ["tree"] (defScope s_mirrored) := ⟨rfl, rfl, rfl, by decide +kernel, rfl, by decide +kernel, by decide +kernel⟩
theorem mir_name : ∀ t : Tree, (mir t).name = t.name
  | .empty => rfl
  | .cls _ _ _ => rfl
  | .or _ _ => rfl
  | .and _ _ => rfl
  | .thn _ _ => rfl
  | .star _ => rfl
  | .not _ => rfl
theorem mir_kids : ∀ t : Tree, (mir t).kids = if t.name = "then" then (t.kids.map mir).reverse else t.kids.map mir
  | .empty => (if_neg (show ¬ ("empty" : Str) = "then" by decide +kernel)).symm
  | .cls _ _ _ => (if_neg (show ¬ ("class" : Str) = "then" by decide +kernel)).symm
  | .or _ _ => (if_neg (show ¬ ("or" : Str) = "then" by decide +kernel)).symm
  | .and _ _ => (if_neg (show ¬ ("and" : Str) = "then" by decide +kernel)).symm
  | .thn _ _ => (if_pos (show ("then" : Str) = "then" from rfl)).symm
  | .star _ => (if_neg (show ¬ ("star" : Str) = "then" by decide +kernel)).symm
  | .not _ => (if_neg (show ¬ ("not" : Str) = "then" by decide +kernel)).symm
theorem kids_ht : ∀ (t k : Tree), k ∈ t.kids → k.ht + 1 ≤ t.ht
  | .empty, _, h => by cases h
  | .cls _ _ _, _, h => by cases h
  | .or p q, k, h => by
    simp only [Tree.kids, List.mem_cons, List.not_mem_nil, or_false] at h
    rcases h with rfl | rfl <;> simp only [Tree.ht] <;> omega
  | .and p q, k, h => by
    simp only [Tree.kids, List.mem_cons, List.not_mem_nil, or_false] at h
    rcases h with rfl | rfl <;> simp only [Tree.ht] <;> omega
  | .thn p q, k, h => by
    simp only [Tree.kids, List.mem_cons, List.not_mem_nil, or_false] at h
    rcases h with rfl | rfl <;> simp only [Tree.ht] <;> omega
  | .star p, k, h => by
    simp only [Tree.kids, List.mem_cons, List.not_mem_nil, or_false] at h
    subst h; simp only [Tree.ht]; omega
  | .not p, k, h => by
    simp only [Tree.kids, List.mem_cons, List.not_mem_nil, or_false] at h
    subst h; simp only [Tree.ht]; omega
theorem data_of (t : Tree) (h : t.name ≠ "class") : t.data = .tuple (.str t.name :: t.kids.map Tree.data) := by
  obtain ⟨r, e, k⟩ := data_tup t
  rw [e, k h]
theorem kids_len (t : Tree) : t.kids.length ≤ 2 := by
  cases t <;> simp [Tree.kids]
def spMirrored (K : PySem.W.Frag) (n : Nat) : Sp := fun vs H Q _ => ∃ v t, vs = [v] ∧ Dp K H v (Tree.data t) ∧ t.ht ≤ n ∧ Ret K H Q (· = (mir t).data)
theorem ok_mirrored {n : Nat} (D : Df K mg "mirrored" s_mirrored ["tree"]) (z_tuple : mg "tuple" = none) (c_operands : C8.Cal P w K mg base 1 "operands" (spOperands K) [])
    (c_mirrored : C8.Cal P w K mg base (n + 1) "mirrored" (spMirrored K n) []) : C8.Cal P w K mg base (n + 2) "mirrored" (spMirrored K (n + 1)) [] := by
  refine D.cal sc_mirrored (fun vs H Q E h => ?_) (fun f cdv A outer s H vs Q E hr h => ?_)
  · obtain ⟨v, t, rfl, _⟩ := h
    rfl
  obtain ⟨v, t, rfl, hd, hh, q⟩ := h
  refine ⟨_, (pss_cons (ps_if (pt_cmpR op_eq (pe_ix ix_tup (pv 0) pe_int (fun _ _ => rfl)) pe_str (nomark _))
     (pss_one (ps_ret (pv 0)))
     pss_nil)
     (pss_cons (ps_set (i := 1) sc_mirrored.nd rfl (by first | exact .inl rfl | exact .inr rfl) (pe_callTy call_tuple_of (by rfl) z_tuple (by decide +kernel) (pa_cons (pe_lc (own := [("part", 2)]) rfl sc_mirrored.nd (pi_tup (C8.pe_c c_operands hr (by omega) (by rfl) (pa_cons (pv 0) pa_nil))) (blkOk_by (by with_unfolding_all rfl)) (fun _ _ _ _ _ => (pg_name (i := 2) sc_mirrored.nd rfl (by first | exact .inl rfl | exact .inr rfl))) (fun _ _ _ _ _ => pts_nil) (fun _ _ _ _ _ => (C8.pe_c c_mirrored hr (by omega) (by rfl) (pa_cons (pv 2) pa_nil)))) pa_nil)))
     (C8.pss_cut (ps_if (pt_cmpR op_eq (pe_ix ix_tup (pv 0) pe_int (fun _ _ => rfl)) pe_str (nomark _))
     (pss_one (ps_set (i := 1) sc_mirrored.nd rfl (by first | exact .inl rfl | exact .inr rfl) (pe_revT (pv 1))))
     pss_nil)
     (pss_one (ps_ret (pe_op op_catT (pe_tup (pa_cons (pe_ix ix_tup (pv 0) pe_int (fun _ _ => rfl)) pa_nil)) (pv 1))))))), ?_⟩
  obtain ⟨a, r, ds, rfl, hT, hr', e, hk⟩ := treeI hd
  refine ⟨.ref a, rfl, a, _, 0, _, rfl, rfl, hT, atI_nat (j := 0) rfl, rfl, _, rfl, ite2 (fun c => ?_) (fun c => ?_)⟩
  · have c' := str_eq (of_decide_eq_true c)
    obtain ⟨_, n', h', l', rfl⟩ := kids_cls t c'
    exact ⟨.ref a, rfl, q _ _ _ (Same.refl _) rfl hd⟩
  · have c' : t.name ≠ "class" := fun z => c (decide_eq_true (congrArg V.str z))
    -- sides = tuple([mirrored(part) for part in operands(tree)])
    refine ⟨.ref a, rfl, .ref a, t, rfl, hd, fun H1 v1 d1 s1 e1 p1 => ?_⟩
    subst e1
    obtain ⟨b, ks, rfl, hT1, hA1⟩ := p1.tupI
    have lk : ks.length = t.kids.length := by rw [hA1.len, List.length_map]
    refine ⟨b, rfl, ⟨ks, hT1⟩, fun D1 hD1 => lc_src (K := K) (Src.tup b ks) (fun H' s' => s'.tup hT1) hD1 (by have := kids_len t; omega) (fun i d => ∃ k, t.kids[i]? = some k ∧ d = (mir k).data) (fun i x H2 acc Q' hi s2 e2 hy el => ?_) fun H2 ys es s2 e2 hl hF hA => ?_⟩
    · obtain ⟨d, hd1, hp⟩ := hA1.get hy
      obtain ⟨k, hk1, rfl⟩ : ∃ k, t.kids[i]? = some k ∧ k.data = d := by
        rw [List.getElem?_map] at hd1
        obtain ⟨k, h1, h2⟩ := Option.map_eq_some_iff.mp hd1
        exact ⟨k, h1, h2⟩
      have hkt := kids_ht t k (List.mem_of_getElem? hk1)
      refine ⟨rfl, x, rfl, x, k, rfl, hp.mono s2, by omega, fun H3 y d s3 ed pd => ?_⟩
      subst ed
      exact el H3 y _ s3 ⟨k, hk1, rfl⟩ (Dp.del (s3 _ _ e2) pd (nl_tree _))
    · have ee : es = (t.kids.map mir).map Tree.data := by
        refine List.ext_getElem? fun i => ?_
        rcases Nat.lt_or_ge i es.length with z | z
        · obtain ⟨k, h1, h2⟩ := hF i _ (List.getElem?_eq_getElem z)
          rw [List.getElem?_eq_getElem z, h2, List.getElem?_map, List.getElem?_map, h1]
          rfl
        · rw [List.getElem?_eq_none z, List.getElem?_eq_none (by rw [List.length_map, List.length_map]; omega)]
      subst ee
      refine ⟨D1, ys, rfl, .inl ⟨SqL.of e2, fun p hp => ?_⟩⟩
      have S2 : Same H H2 := s1.trans s2
      have hT2 : SqT K (upd H2 p (.tup ys)) a (.str t.name :: r) := (Same.new hp).tup (S2.tup hT)
      have hA2 : DpAll K (upd H2 p (.tup ys)) ys ((t.kids.map mir).map Tree.data) := DpAll.mono (del_le.trans (Same.new hp)) hA
      have cm : (mir t).name ≠ "class" := by rw [mir_name]; exact c'
      have ly := hA.len
      rw [List.length_map, List.length_map] at ly
      have lk2 := kids_len t
      -- if tree[0] == 'then'
      refine ⟨fun σ' H' => ∃ y p' zs, σ' = [some (.ref a), some (.ref p'), y] ∧ Same H H' ∧ SqT K H' p' zs ∧ zs.length ≤ 2 ∧ DpAll K H' zs ((mir t).kids.map Tree.data), ?_, fun σ' H' hM => ?_⟩
      · refine ⟨.ref a, rfl, a, _, 0, _, rfl, rfl, hT2, atI_nat (j := 0) rfl, rfl, _, rfl, ite2 (fun c2 => ?_) (fun c2 => ?_)⟩
        · have c2' := str_eq (of_decide_eq_true c2)
          refine ⟨.ref p, rfl, p, ys, rfl, .of upd_same, fun p2 hp2 => ⟨_, p2, ys.reverse, rfl, S2.trans ((Same.new hp).trans (Same.new hp2)), .of upd_same, (by rw [List.length_reverse]; omega), ?_⟩⟩
          rw [mir_kids, if_pos c2', List.map_reverse]
          exact DpAll.mono (Same.new hp2) hA2.rev
        · have c2' : t.name ≠ "then" := fun z => c2 (decide_eq_true (congrArg V.str z))
          refine ⟨_, p, ys, rfl, S2.trans (Same.new hp), .of upd_same, by omega, ?_⟩
          rw [mir_kids, if_neg c2']
          exact hA2
      · obtain ⟨y, p', zs, rfl, S3, hT3, lz, hA3⟩ := hM
        refine ⟨.ref a, rfl, a, _, 0, _, rfl, rfl, S3.tup hT, atI_nat (j := 0) rfl, (by decide : 1 ≤ sizeLine), fun p3 hp3 => ?_⟩
        have hA4 := DpAll.mono (Same.new (o := .tup [.str t.name]) hp3) hA3
        refine ⟨.ref p', rfl, p3, p', [.str t.name], zs, rfl, rfl, .of upd_same, (Same.new hp3).tup hT3, by simp, ?_, fun z => ?_, fun z p4 hp4 => ?_⟩
        · rw [List.length_singleton]
          exact Nat.le_of_lt (line200 (by omega))
        · subst z
          refine q _ _ _ (S3.trans (Same.new hp3)) rfl ?_
          rw [data_of _ cm, mir_name]
          exact .tup (.of upd_same) (.cons (.str _) hA4)
        · refine q _ _ _ (S3.trans ((Same.new hp3).trans (Same.new hp4))) rfl ?_
          rw [data_of _ cm, mir_name]
          exact Dp.tupN hp4 (.cons (.str _) hA4)
theorem all_mirrored (D : Df K mg "mirrored" s_mirrored ["tree"]) (z_tuple : mg "tuple" = none) (c_operands : C8.Cal P w K mg base 1 "operands" (spOperands K) []) : ∀ n, C8.Cal P w K mg base (n + 1) "mirrored" (spMirrored K n) []
  | 0 => D.none (fun vs H Q E h => by
      obtain ⟨v, t, _, _, h, _⟩ := h
      have := ht_pos t
      omega) _
  | n + 1 => ok_mirrored D z_tuple c_operands (all_mirrored D z_tuple c_operands n)
abbrev s_belongs : Stmt := topS 4
theorem sc_belongs : FnScope ["symbol", "tree", "_", "negated", "holders", "letters", "listed"] ["symbol", "tree"] (defScope s_belongs) := ⟨rfl, rfl, rfl, by decide +kernel, rfl, by decide +kernel, by decide +kernel⟩
def spBelongs (K : PySem.W.Frag) : Sp := fun vs H Q _ => ∃ v s n h l, vs = [symV s, v] ∧ Dp K H v (Tree.cls n h l).data ∧ Q (.bl (bel s n h l)) H
theorem empty_eq (l : List Nat) : decide (V.str (S l) = V.str "") = l.isEmpty := by
  have e : ("" : Str) = S [] := by decide +kernel
  rw [e]
  cases l with
  | nil => rfl
  | cons a l =>
    rw [decide_eq_false]
    · rfl
    · intro h
      have := S_inj (str_eq h)
      cases this
theorem ok_belongs (D : Df K mg "belongs" s_belongs ["symbol", "tree"]) : C8.Cal P w K mg base 1 "belongs" (spBelongs K) [] := by
  refine D.cal sc_belongs (fun vs H Q E h => ?_) (fun f cdv A outer s H vs Q E hr h => ?_)
  · obtain ⟨v, s, n, h, l, rfl, _⟩ := h
    rfl
  obtain ⟨v, y, n, h, l, rfl, hd, q⟩ := h
  refine ⟨_, (pss_cons (ps_asg (pv 1) (pg_tup rfl (pgs_cons (pg_name (i := 2) sc_belongs.nd rfl (by first | exact .inl rfl | exact .inr rfl)) (pgs_cons (pg_name (i := 3) sc_belongs.nd rfl (by first | exact .inl rfl | exact .inr rfl)) (pgs_cons (pg_name (i := 4) sc_belongs.nd rfl (by first | exact .inl rfl | exact .inr rfl)) (pgs_cons (pg_name (i := 5) sc_belongs.nd rfl (by first | exact .inl rfl | exact .inr rfl)) pgs_nil))))))
     (pss_cons (ps_set (i := 6) sc_belongs.nd rfl (by first | exact .inl rfl | exact .inr rfl) (pe_and (pe_or (pe_cmpR op_eq (pv 4) pe_str (nomark _)) (pe_one (pe_cmpR op_in_sign (pe_ix ix_str (pv 0) pe_int (fun _ _ => rfl)) (pv 4) (by rfl)))) (pe_one (pe_or (pe_cmpR op_eq (pv 5) pe_str (nomark _)) (pe_one (pe_cmpR op_in_sign (pe_ix ix_str (pv 0) pe_int (fun _ _ => rfl)) (pv 5) (by rfl)))))))
     (pss_one (ps_ret (pe_cmpR op_ne (pv 6) (pv 3) (nomark _)))))), ?_⟩
  obtain ⟨a, xs, rfl, hT, hA⟩ := Dp.tupI hd
  obtain ⟨v0, r0, rfl, h0, hA⟩ := hA.consI
  obtain ⟨v1, r1, rfl, h1, hA⟩ := hA.consI
  obtain ⟨v2, r2, rfl, h2, hA⟩ := hA.consI
  obtain ⟨v3, r3, rfl, h3, hA⟩ := hA.consI
  obtain rfl := hA.nilI
  rw [h1.blI, h2.strI, h3.strI] at hT
  have len2 : (symS y).length ≤ sizeLine := by rw [S_len, sizeLine_eq]; show 2 ≤ _; omega
  refine ⟨.ref a, rfl, a, _, rfl, hT, rfl, _, _, rfl, _, _, rfl, _, _, rfl, _, _, rfl, rfl, ?_⟩
  have at0 : atI (symS y).cps.toList ((0 : Nat) : Int) = some y.1 := atI_nat rfl
  have at1 : atI (symS y).cps.toList ((1 : Nat) : Int) = some y.2 := atI_nat rfl
  have fin : ∀ b, b = bel y n h l → Q (.bl b) H := fun b e => by rw [e]; exact q
  refine ⟨_, rfl, rfl, _, rfl, ?_⟩
  rw [empty_eq]
  cases e1 : h.isEmpty with
  | true =>
    refine iteT ⟨_, rfl, iteT ⟨_, rfl, rfl, _, rfl, ?_⟩⟩
    rw [empty_eq]
    cases e2 : l.isEmpty with
    | true => exact iteT ⟨_, rfl, _, rfl, rfl, fin _ (by rw [bel, e1, e2, dec_bl]; cases n <;> rfl)⟩
    | false => exact iteF ⟨_, rfl, _, _, _, rfl, rfl, len2, at1, _, rfl, _, _, rfl, rfl, _, rfl, _, rfl, rfl, fin _ (by rw [bel, e1, e2, dec_bl]; cases decide (y.2 ∈ l) <;> cases n <;> rfl)⟩
  | false =>
    refine iteF ⟨_, rfl, _, _, _, rfl, rfl, len2, at0, _, rfl, _, _, rfl, rfl, _, rfl, ?_⟩
    cases e3 : decide (y.1 ∈ h) with
    | true =>
      refine iteT ⟨_, rfl, rfl, _, rfl, ?_⟩
      rw [empty_eq]
      cases e2 : l.isEmpty with
      | true => exact iteT ⟨_, rfl, _, rfl, rfl, fin _ (by rw [bel, e1, e2, e3, dec_bl]; cases n <;> rfl)⟩
      | false => exact iteF ⟨_, rfl, _, _, _, rfl, rfl, len2, at1, _, rfl, _, _, rfl, rfl, _, rfl, _, rfl, rfl, fin _ (by rw [bel, e1, e2, e3, dec_bl]; cases decide (y.2 ∈ l) <;> cases n <;> rfl)⟩
    | false => exact iteF ⟨_, rfl, _, rfl, rfl, fin _ (by rw [bel, e1, e3, dec_bl]; cases (l.isEmpty || decide (y.2 ∈ l)) <;> cases n <;> rfl)⟩
end
end K29
namespace K29
open PySem PySem.Spec PyProof.Rows L2 SX
section
variable {P : Program} {w : World} {K : PySem.W.Frag} {mg : Str → Option Value} {base : Heap}
abbrev s_distinct : Stmt := topS 5
theorem sc_distinct : FnScope ["states", "found", "state"] ["states"] (defScope s_distinct) := ⟨rfl, rfl, rfl, by decide +kernel, rfl, by decide +kernel, by decide +kernel⟩
def spDistinct (K : PySem.W.Frag) : Sp := fun vs H Q _ => ∃ a xs ds t, vs = [.ref a] ∧ SqL K H a xs ∧ DpAll K H xs ds ∧ (∀ d ∈ ds, ∃ w, Good t w d) ∧ t.ht ≤ 4 ∧ ds.length ≤ 100000 ∧
  ∀ (H' : Hp) (b : Addr) (ys : List V) (es : List PyData), Same H H' → H' b = some (.lst ys) → DpAll K H' ys es → (∀ d, d ∈ es ↔ d ∈ ds) → es.length ≤ ds.length → Q (.ref b) H'
theorem mem_take_succ {α : Type} {xs : List α} {i : Nat} {x d : α} (h : xs[i]? = some x) : d ∈ xs.take (i + 1) ↔ d ∈ xs.take i ∨ d = x := by
  rw [List.take_add_one, h, List.mem_append]
  simp
theorem getLast_at {α : Type} (xs : List α) (v : α) : atI (xs ++ [v]) (-1) = some v := atI_last xs v
theorem ok_distinct (D : Df K mg "distinct" s_distinct ["states"]) (z_sorted : mg "sorted" = none) : C8.Cal P w K mg base 1 "distinct" (spDistinct K) [] := by
  refine D.cal sc_distinct (fun vs H Q E h => ?_) (fun f cdv A outer s H vs Q E hr h => ?_)
  · obtain ⟨a, xs, ds, t, rfl, _⟩ := h
    rfl
  obtain ⟨a, xs, ds, t, rfl, hL, hA, hG, ht, hlen, q⟩ := h
  have hu64 := hr.units
  refine ⟨_, (pss_cons (ps_set (i := 1) sc_distinct.nd rfl (by first | exact .inl rfl | exact .inr rfl) (pe_lst pa_nil))
     (pss_cons (ps_for PassesOwn.never rfl (pi_list (pe_callB (cr_sortedD hu64) (by rfl) z_sorted (by decide +kernel) (pa_cons (pv 0) pa_nil))) (pg_name (i := 2) sc_distinct.nd rfl (by first | exact .inl rfl | exact .inr rfl))
     (pss_one (ps_if (PW.pt (pw_or (pt_not (pt_truth (pv 1) (by intro _; rfl))) (pw_or1 (pt_cmpR (op_neD hu64) (pe_ix ix_list (pv 1) (pe_un un_neg pe_int) (fun _ _ => rfl)) (pv 2) (nomark _)))))
     (pss_one (ps_expr (pe_bm PySem.F.plainAttrs_list PySem.F.slot_list_append PySem.F.type_list_append mt_append (pv 1) (pa_cons (pv 2) pa_nil))))
     pss_nil)))
     (pss_one (ps_ret (pv 1))))), ?_⟩
  -- found = []
  refine ⟨Nat.zero_le _, fun o no => ?_⟩
  have s1 : Same H (upd H o (.lst [])) := Same.new no
  have hz := zip_fst hA.len
  have hal : PySem.W.AllAlike ds := fun d hd d' hd' => by
    obtain ⟨_, g⟩ := hG d hd
    obtain ⟨_, g'⟩ := hG d' hd'
    exact g.alike g'
  have hso : PySem.W.Sortable ds := .inl fun d hd => by
    obtain ⟨_, g⟩ := hG d hd
    obtain ⟨b, r, e, _⟩ := g.head
    exact ⟨_, _, e⟩
  have hdp : ∀ d ∈ ds, d.depth ≤ 60 := fun d hd => by
    obtain ⟨_, g⟩ := hG d hd
    have := g.depth
    omega
  -- for state in sorted(states)
  refine ⟨.ref a, rfl, a, xs, ds, rfl, s1.seq hL, DpAll.mono s1 hA, hal, hso, hdp, fun p ps hperm hp => ?_⟩
  have hmem : ∀ z ∈ ps, Dp K H z.1 z.2 ∧ ∃ w, Good t w z.2 := fun z hz' => by
    have m := hperm.mem_iff.mp hz'
    refine ⟨hA.zip z m, hG _ ?_⟩
    rw [← hz.2]
    exact List.mem_map.mpr ⟨z, m, rfl⟩
  have nep : o ≠ p := ne_of_none (H := upd H o (.lst [])) upd_same hp
  refine ⟨p, rfl, ⟨_, SqL.of upd_same⟩, for_src (Src.list p (ps.map (·.1)))
    (fun i σ H' => ∃ y, σ = [some (.ref a), some (.ref o), y] ∧ Same H H' ∧ H' p = some (.lst (ps.map (·.1))) ∧ ∃ ys es, H' o = some (.lst ys) ∧ DpAll K H' ys es ∧ es.length ≤ i ∧ ∀ d, d ∈ es ↔ d ∈ (ps.map (·.2)).take i)
    ⟨_, rfl, s1.trans (Same.new hp), upd_same, [], [], (by rw [upd_ne nep]; exact upd_same), .nil, Nat.le_refl _, fun d => by simp⟩
    (fun i σ H' _ h => by obtain ⟨_, _, _, h, _⟩ := h; exact SqL.of h) (fun i x σ H1 H2 hi hP s2 hy => ?_) fun σ H' hP => ?_⟩
  · obtain ⟨y, rfl, s3, ep, ys, es, eo, hE, hl, hm⟩ := hP
    have ep2 := s2 _ _ ep
    have eo2 := s2 _ _ eo
    have S := s3.trans s2
    have hE2 := DpAll.mono s2 hE
    obtain ⟨z, hz1, rfl⟩ : ∃ z, ps[i]? = some z ∧ z.1 = x := by
      rw [List.getElem?_map] at hy
      obtain ⟨z, h1, h2⟩ := Option.map_eq_some_iff.mp hy
      exact ⟨z, h1, h2⟩
    obtain ⟨pz, wz, gz⟩ := hmem z (List.mem_of_getElem? hz1)
    have pz2 := pz.mono S
    have hz2 : (ps.map (·.2))[i]? = some z.2 := by rw [List.getElem?_map, hz1]; rfl
    have nlE : ∀ d ∈ es, ∃ w, Good t w d := fun d hd => by
      have m := List.mem_of_mem_take ((hm d).mp hd)
      obtain ⟨u, hu, rfl⟩ := List.mem_map.mp m
      exact (hmem u hu).2
    have lenp : ps.length = ds.length := by rw [hperm.length_eq, List.length_zip, hA.len, Nat.min_self]
    have hi' : i < ds.length := by rw [← lenp]; simpa using hi
    -- what follows an append
    have app : ∃ y, ([some (.ref a), some (.ref o), some z.1] : L2.St) = [some (.ref a), some (.ref o), y] ∧ Same H (upd H2 o (.lst (ys ++ [z.1]))) ∧ (upd H2 o (.lst (ys ++ [z.1]))) p = some (.lst (ps.map (·.1))) ∧ ∃ ys' es', (upd H2 o (.lst (ys ++ [z.1]))) o = some (.lst ys') ∧ DpAll K (upd H2 o (.lst (ys ++ [z.1]))) ys' es' ∧ es'.length ≤ i + 1 ∧ ∀ d, d ∈ es' ↔ d ∈ (ps.map (·.2)).take (i + 1) := by
      refine ⟨_, rfl, fun b u e => ?_, by rw [upd_ne (Ne.symm nep)]; exact ep2, _, es ++ [z.2], upd_same, ?_, by rw [List.length_append, List.length_singleton]; omega, fun d => ?_⟩
      · rw [upd_ne (ne_of_none e no)]
        exact S _ _ e
      · refine DpAll.app (DpAll.tups (Tups.upd eo2) hE2 (nlAll_of fun d hd => ?_)) (.one (Dp.tups (Tups.upd eo2) pz2 (nl_good gz)))
        obtain ⟨_, g⟩ := nlE d hd
        exact nl_good g
      · rw [List.mem_append, hm d, mem_take_succ hz2, List.mem_singleton]
    have lys : ys.length < sizeLine := line200 (by rw [hE.len]; omega)
    refine ⟨.ref o, rfl, _, .inl ⟨ys, SqL.of eo2, rfl⟩, ?_⟩
    rcases List.eq_nil_or_concat es with e | ⟨es0, dl, e⟩
    · subst e
      have := hE.nilI
      subst this
      exact iteT (iteT ⟨.ref o, rfl, .inl ⟨rfl, _, SqL.of eo2⟩, z.1, rfl, o, _, z.1, rfl, rfl, eo2, lys, app⟩)
    · rw [List.concat_eq_append] at e
      subst e
      obtain ⟨yl, hyl, pl⟩ := hE2.at_ (i := es0.length) (d := dl) (by simp)
      have hyc : ys = ys.take es0.length ++ [yl] := by
        have l1 := hE.len
        rw [List.length_append, List.length_singleton] at l1
        conv => lhs; rw [← List.take_of_length_le (show ys.length ≤ es0.length + 1 by omega), List.take_add_one, hyl]
        rfl
      have hne : ys.isEmpty = false := by rw [hyc]; simp
      have lst : atI ys (-1) = some yl := by rw [hyc]; exact atI_last _ _
      obtain ⟨wl, gl⟩ := nlE dl (by simp)
      rw [hne]
      refine iteF ⟨.ref o, rfl, 1, rfl, o, ys, -1, yl, rfl, rfl, SqL.of eo2, lst, z.1, rfl, dl, z.2, pl, pz2, gl.shaped ht, gz.shaped ht, _, rfl, ?_⟩
      cases he : PyData.eqv dl z.2 with
      | false => exact iteT ⟨.ref o, rfl, .inl ⟨rfl, _, SqL.of eo2⟩, z.1, rfl, o, _, z.1, rfl, rfl, eo2, lys, app⟩
      | true =>
        have := gl.eqv gz he
        subst this
        refine iteF ⟨_, rfl, S, ep2, ys, _, eo2, hE2, by omega, fun d => ?_⟩
        rw [mem_take_succ hz2, ← hm d]
        constructor
        · exact .inl
        · rintro (h | rfl)
          · exact h
          · simp
  · obtain ⟨y, rfl, s3, ep, ys, es, eo, hE, hl, hm⟩ := hP
    refine ⟨.ref o, rfl, q H' o ys es s3 eo hE (fun d => ?_) ?_⟩
    · rw [hm d, List.take_of_length_le (by simp)]
      have := (hperm.map (·.2)).mem_iff (a := d)
      rw [this, hz.2]
    · rw [List.length_map, hperm.length_eq, List.length_zip, hA.len, Nat.min_self] at hl
      exact hl
end
end K29
namespace K29
open PySem PySem.Spec PyProof.Rows L2 SX
def headB : PyData → Bool
  | .tuple (.bool b :: _) => b
  | _ => false
theorem headB_iff {t : Tree} {w : List Sym} {d : PyData} (g : Good t w d) : headB d = true ↔ M t w := by
  obtain ⟨b, r, rfl, h⟩ := g.head
  exact h
section
variable {K : PySem.W.Frag} {H : Hp}
/-- a state in the heap: its first item -/
theorem stateI {t : Tree} {w : List Sym} {d : PyData} {v : V} (h : Dp K H v d) (g : Good t w d) : ∃ a r, v = .ref a ∧ SqT K H a (.bl (headB d) :: r) := by
  obtain ⟨b, r, rfl, _⟩ := g.head
  obtain ⟨a, xs, rfl, h1, h2⟩ := h.tupI
  obtain ⟨v0, r0, rfl, h3, _⟩ := h2.consI
  rw [h3.blI] at h1
  exact ⟨a, r0, rfl, h1⟩
/-- a pattern's operands in the heap -/
theorem kid1 {v : V} {s : Str} {p : Tree} (h : Dp K H v (.tuple [.str s, p.data])) : ∃ a vp, v = .ref a ∧ SqT K H a [.str s, vp] ∧ Dp K H vp p.data := by
  obtain ⟨a, xs, rfl, h1, h2⟩ := h.tupI
  obtain ⟨v0, r0, rfl, h3, h2⟩ := h2.consI
  obtain ⟨v1, r1, rfl, h4, h2⟩ := h2.consI
  obtain rfl := h2.nilI
  rw [h3.strI] at h1
  exact ⟨a, v1, rfl, h1, h4⟩
theorem kid2 {v : V} {s : Str} {p q : Tree} (h : Dp K H v (.tuple [.str s, p.data, q.data])) : ∃ a vp vq, v = .ref a ∧ SqT K H a [.str s, vp, vq] ∧ Dp K H vp p.data ∧ Dp K H vq q.data := by
  obtain ⟨a, xs, rfl, h1, h2⟩ := h.tupI
  obtain ⟨v0, r0, rfl, h3, h2⟩ := h2.consI
  obtain ⟨v1, r1, rfl, h4, h2⟩ := h2.consI
  obtain ⟨v2, r2, rfl, h5, h2⟩ := h2.consI
  obtain rfl := h2.nilI
  rw [h3.strI] at h1
  exact ⟨a, v1, v2, rfl, h1, h4, h5⟩
theorem headsAll : ∀ {ds : List PyData}, (List.map (fun d => PyData.bool (headB d)) ds) = (ds.map headB).map PyData.bool
  | [] => rfl
  | d :: ds => congrArg (_ :: ·) headsAll
theorem any_heads {ds : List PyData} : (ds.map headB).any id = true ↔ ∃ x ∈ ds, headB x = true := by
  rw [List.any_eq_true]
  constructor
  · rintro ⟨b, hb, h⟩
    obtain ⟨x, hx, rfl⟩ := List.mem_map.mp hb
    exact ⟨x, hx, h⟩
  · rintro ⟨x, hx, h⟩
    exact ⟨_, List.mem_map.mpr ⟨x, hx, rfl⟩, h⟩
end
section
variable {P : Program} {w : World} {K : PySem.W.Frag} {mg : Str → Option Value} {base : Heap}
def spStarted (K : PySem.W.Frag) (n : Nat) : Sp := fun vs H Q _ => ∃ v t, vs = [v] ∧ Dp K H v (Tree.data t) ∧ t.ht ≤ n ∧ n ≤ 4 ∧ Ret K H Q (Good t [])
abbrev s_state_of_then : Stmt := topS 6
theorem sc_state_of_then : FnScope ["tree", "first", "rests", "rest"] ["tree", "first", "rests"] (defScope s_state_of_then) := ⟨rfl, rfl, rfl, by decide +kernel, rfl, by decide +kernel, by decide +kernel⟩
def spSoThen (K : PySem.W.Frag) (n : Nat) : Sp := fun vs H Q _ => ∃ v p q vf e a xs ds, ∃ L : List Sym → Prop, ∃ w, vs = [v, vf, .ref a] ∧ Dp K H v (Tree.data (.thn p q)) ∧ q.ht ≤ n ∧ n ≤ 4 ∧ L w ∧ w.length ≤ 1000 ∧ Dp K H vf e ∧ (∀ w, L w → Good p w e) ∧ H a = some (.lst xs) ∧ DpAll K H xs ds ∧ (∀ w, L w → Rests1 (M p) (Good q) w ds) ∧ Ret K H Q (fun d => ∀ w, L w → Good (.thn p q) w d)
/-- the comprehension [rest[0] for rest in rests] and any(..) of it: what both state functions do -/
theorem heads_lc {a D : Addr} {xs : List V} {ds : List PyData} {H1 : Hp} {σ : L2.St} {i : Nat} {Qd : Hp → Prop} (hi : i < σ.length) (hD : H1 D = none) (ha : H1 a = some (.lst xs)) (hA : DpAll K H1 xs ds) (hn : ds.length ≤ 100000) {t : Tree} (hG : ∀ d ∈ ds, ∃ w, Good t w d)
    (done : ∀ H2, Same H1 H2 → H2 D = some (.lst ((ds.map headB).map V.bl)) → Qd H2) :
    ∃ W : Nat → Nat → Hp → Prop, (∃ m, W 0 m (upd H1 D (.lst []))) ∧ ∀ j m H, W j m H →
      ((Itl K a).stop j H ∧ Qd H) ∨ ((Itl K a).go j H ∧ ∃ Nx : Hp → Prop, (∀ H', Nx H' → ∃ m', m' < m ∧ W (j + 1) m' H') ∧ ∀ x H', (Itl K a).yld j H x H' → gName i x (wipe σ [i]) H' fun σ2 H2 => wipe σ2 [i] = wipe σ [i] ∧ tYes σ2 H2 fun b H3 =>
        if b = true then (tOp (rIxT K) (tVar i) (tC (.int 0))) σ2 H3 fun y H4 => ∃ acc, H4 D = some (.lst acc) ∧ acc.length < sizeLine ∧ Nx (upd H4 D (.lst (acc ++ [y]))) else Nx H3) := by
  refine lc_src (K := K) (Src.list a xs) (fun H' s' => SqL.of (s' _ _ ha)) hD (by rw [hA.len]; omega) (fun j d => ∃ e, ds[j]? = some e ∧ d = .bool (headB e)) (fun j x H2 acc Q' hj s2 e2 hy el => ?_) fun H2 ys es s2 e2 hl hF hE => ?_
  · obtain ⟨d, hd1, hp⟩ := hA.get hy
    obtain ⟨_, g⟩ := hG d (List.mem_of_getElem? hd1)
    obtain ⟨b, r, rfl, hT⟩ := stateI (hp.mono s2) g
    refine ⟨?_, .ref b, ?_, b, _, 0, _, rfl, rfl, hT, atI_nat (j := 0) rfl, el H2 _ _ (Same.refl _) ⟨d, hd1, rfl⟩ (.bl _)⟩
    · simp [wipe]
    · simp [wipe, hi]
  · have ee : es = (ds.map headB).map PyData.bool := by
      refine List.ext_getElem? fun j => ?_
      rcases Nat.lt_or_ge j es.length with z | z
      · obtain ⟨e, h1, h2⟩ := hF j _ (List.getElem?_eq_getElem z)
        rw [List.getElem?_eq_getElem z, h2, List.getElem?_map, List.getElem?_map, h1]
        rfl
      · rw [List.getElem?_eq_none z, List.getElem?_eq_none (by rw [List.length_map, List.length_map]; rw [hl, hA.len] at z; exact z)]
    subst ee
    have ey := DpAll.boolsI hE
    subst ey
    exact done H2 s2 e2
theorem ok_state_of_then {n : Nat} (D : Df K mg "state_of_then" s_state_of_then ["tree", "first", "rests"]) (z_any : mg "any" = none) (z_tuple : mg "tuple" = none) (c_distinct : C8.Cal P w K mg base 1 "distinct" (spDistinct K) [])
    (c_started : C8.Cal P w K mg base (2 * n + 2) "started" (spStarted K n) []) : C8.Cal P w K mg base (2 * n + 3) "state_of_then" (spSoThen K n) [] := by
  refine D.cal sc_state_of_then (fun vs H Q E h => ?_) (fun f cdv A outer s H vs Q E hr h => ?_)
  · obtain ⟨_, _, _, _, _, _, _, _, _, _, rfl, _⟩ := h
    rfl
  obtain ⟨v, p, q, vf, e, a, xs, ds, L, u, rfl, hd, hq, hn4, hLu, hu, hf, hgL, ha, hA, hRL, k⟩ := h
  have hg := hgL u hLu
  have hR := hRL u hLu
  refine ⟨_, (C8.pss_cut (ps_if (pt_val (pe_ix ix_tup (pv 1) pe_int (fun _ _ => rfl)))
     (pss_one (ps_set (i := 2) sc_state_of_then.nd rfl (by first | exact .inl rfl | exact .inr rfl) (C8.pe_c c_distinct hr (by omega) (by rfl) (pa_cons (pe_op op_cat (pv 2) (pe_lst (pa_cons (C8.pe_c c_started hr (by omega) (by rfl) (pa_cons (pe_ix ix_tup (pv 0) pe_int (fun _ _ => rfl)) pa_nil)) pa_nil))) pa_nil))))
     pss_nil)
     (pss_one (ps_ret (pe_tup (pa_cons (pe_callB (cr_any rfl) (by rfl) z_any (by decide +kernel) (pa_cons (pe_lc (own := [("rest", 3)]) rfl sc_state_of_then.nd (pi_list (pv 2)) (blkOk_by (by with_unfolding_all rfl)) (fun _ _ _ _ _ => (pg_name (i := 3) sc_state_of_then.nd rfl (by first | exact .inl rfl | exact .inr rfl))) (fun _ _ _ _ _ => pts_nil) (fun _ _ _ _ _ => (pe_ix (r := rIxT K) ix_tup (pv 3) pe_int (fun _ _ => rfl)))) pa_nil)) (pa_cons (pv 1) (pa_cons (pe_callTy call_tuple_of (by rfl) z_tuple (by decide +kernel) (pa_cons (pv 2) pa_nil)) pa_nil))))))), ?_⟩
  obtain ⟨at_, vp, vq, rfl, hT, pp, pq⟩ := kid2 (hd : Dp K H v (.tuple [.str "then", p.data, q.data]))
  obtain ⟨af, rf, rfl, hTf⟩ := stateI hf hg
  have hds : ds.length ≤ 1000 := Nat.le_trans hR.2.2 hu
  refine ⟨fun σ' H' => ∃ y, ∃ b ys es, σ' = [some (.ref at_), some (.ref af), some (.ref b), y] ∧ Same H H' ∧ H' b = some (.lst ys) ∧ DpAll K H' ys es ∧ ∀ u, L u → Rests (M p) (Good q) u es, ?_, fun σ' H' hM => ?_⟩
  · refine ⟨.ref af, rfl, af, _, 0, _, rfl, rfl, hTf, atI_nat (j := 0) rfl, _, rfl, ite2 (fun c => ?_) (fun c => ?_)⟩
    · refine ⟨.ref a, rfl, .ref at_, rfl, at_, _, 2, vq, rfl, rfl, hT, atI_nat (j := 2) rfl, vq, q, rfl, pq, hq, hn4, fun H1 v0 d0 s1 g0 p0 => ⟨(by decide : 1 ≤ sizeLine), fun l hl => ?_⟩⟩
      have S1 : Same H (upd H1 l (.lst [v0])) := s1.trans (Same.new hl)
      refine ⟨a, l, xs, [v0], rfl, rfl, S1 _ _ ha, upd_same, ?_, fun l2 hl2 => ?_⟩
      · rw [hA.len, List.length_singleton]
        exact Nat.le_of_lt (line200 (by omega))
      have S2 := S1.trans (Same.new (o := .lst (xs ++ [v0])) hl2)
      have p0' : Dp K (upd (upd H1 l (.lst [v0])) l2 (.lst (xs ++ [v0]))) v0 d0 := p0.mono ((Same.new hl).trans (Same.new hl2))
      refine ⟨l2, _, ds ++ [d0], q, rfl, SqL.of upd_same, DpAll.app (DpAll.mono S2 hA) (.one p0'), fun d hd' => ?_, by omega, ?_, fun H3 b ys es s3 eb hE hm hl3 => ?_⟩
      · rcases List.mem_append.mp hd' with h | h
        · obtain ⟨_, v', _, _, _, g⟩ := hR.1 d h
          exact ⟨_, g⟩
        · rw [List.mem_singleton.mp h]
          exact ⟨_, g0⟩
      · rw [List.length_append, List.length_singleton]; omega
      · refine ⟨_, b, ys, es, rfl, S2.trans s3, eb, hE, fun u hu => Rests.of (hRL u hu) (fun y hy => ?_) (fun x hx => ?_) (fun _ => ⟨d0, (hm d0).mpr (by simp), g0⟩) ?_⟩
        · rcases List.mem_append.mp ((hm y).mp hy) with h | h
          · exact .inl h
          · rw [List.mem_singleton.mp h]
            exact .inr ⟨(headB_iff (hgL u hu)).mp c, g0⟩
        · exact (hm x).mpr (by simp [hx])
        · rw [List.length_append, List.length_singleton] at hl3; exact hl3
    · refine ⟨_, a, xs, ds, rfl, Same.refl _, ha, hA, fun u hu => Rests.of (hRL u hu) (fun y hy => .inl hy) (fun x hx => hx) (fun m => absurd ((headB_iff (hgL u hu)).mpr m) c) (Nat.le_succ _)⟩
  · obtain ⟨y, b, ys, es, rfl, S, eb, hE, hR2L⟩ := hM
    have hR2 := hR2L u hLu
    have les : es.length ≤ 1001 := by have := hR2.2.2; omega
    refine ⟨.ref b, rfl, b, rfl, ⟨ys, SqL.of eb⟩, fun D1 hD1 => heads_lc (t := q) (by simp) hD1 eb hE (by omega) (fun d hd' => ?_) fun H2 s2 e2 => ?_⟩
    · obtain ⟨_, v', _, _, g⟩ := hR2.1 d hd'
      exact ⟨_, g⟩
    refine ⟨D1, es.map headB, rfl, SqL.of e2, .ref af, rfl, .ref b, rfl, b, ys, rfl, .inl ⟨SqL.of (s2 _ _ eb), fun p1 hp1 => ⟨(by decide : 3 ≤ sizeLine), fun p2 hp2 => ?_⟩⟩⟩
    have S2 := S.trans s2
    refine k _ _ (.tuple [.bool ((es.map headB).any id), e, .tuple es]) (S2.trans ((Same.new hp1).trans (Same.new hp2))) (fun u hu => ⟨_, _, _, rfl, ?_, hgL u hu, hR2L u hu⟩) (Dp.tupN hp2 (.cons (.bl _) (.cons (hf.mono (S2.trans (Same.new hp1))) (.one (Dp.tupN hp1 (DpAll.mono s2 hE))))))
    rw [any_heads, then_rests (hR2L u hu) (B := fun x => headB x = true) fun v x g => headB_iff g]
    rfl
end
end K29
namespace K29
open PySem PySem.Spec PyProof.Rows L2 SX
section
variable {P : Program} {w : World} {K : PySem.W.Frag} {mg : Str → Option Value} {base : Heap}
abbrev s_state_of_star : Stmt := topS 7
theorem sc_state_of_star : FnScope ["tree", "rests", "whole"] ["tree", "rests", "whole"] (defScope s_state_of_star) := ⟨rfl, rfl, rfl, by decide +kernel, rfl, by decide +kernel, by decide +kernel⟩
def spSoStar (K : PySem.W.Frag) (n : Nat) : Sp := fun vs H Q _ => ∃ v p a xs ds, ∃ L : List Sym → Prop, ∃ w b, vs = [v, .ref a, .bl b] ∧ Dp K H v (Tree.data (.star p)) ∧ p.ht ≤ n ∧ n ≤ 4 ∧ L w ∧ w.length ≤ 1000 ∧ H a = some (.lst xs) ∧ DpAll K H xs ds ∧ (∀ w, L w → Rests1 (Star (M p)) (Good p) w ds) ∧ (∀ w, L w → (b = true ↔ M (.star p) w)) ∧ Ret K H Q (fun d => ∀ w, L w → Good (.star p) w d)
theorem ok_state_of_star {n : Nat} (D : Df K mg "state_of_star" s_state_of_star ["tree", "rests", "whole"]) (z_tuple : mg "tuple" = none) (c_distinct : C8.Cal P w K mg base 1 "distinct" (spDistinct K) [])
    (c_started : C8.Cal P w K mg base (2 * n + 2) "started" (spStarted K n) []) : C8.Cal P w K mg base (2 * n + 3) "state_of_star" (spSoStar K n) [] := by
  refine D.cal sc_state_of_star (fun vs H Q E h => ?_) (fun f cdv A outer s H vs Q E hr h => ?_)
  · obtain ⟨_, _, _, _, _, _, _, _, rfl, _⟩ := h
    rfl
  obtain ⟨v, p, a, xs, ds, L, u, b, rfl, hd, hp, hn4, hLu, hu, ha, hA, hRL, hbL, k⟩ := h
  have hR := hRL u hLu
  refine ⟨_, (C8.pss_cut (ps_if (pt_val (pv 2))
     (pss_one (ps_set (i := 1) sc_state_of_star.nd rfl (by first | exact .inl rfl | exact .inr rfl) (C8.pe_c c_distinct hr (by omega) (by rfl) (pa_cons (pe_op op_cat (pv 1) (pe_lst (pa_cons (C8.pe_c c_started hr (by omega) (by rfl) (pa_cons (pe_ix ix_tup (pv 0) pe_int (fun _ _ => rfl)) pa_nil)) pa_nil))) pa_nil))))
     pss_nil)
     (pss_one (ps_ret (pe_tup (pa_cons (pv 2) (pa_cons (pe_callTy call_tuple_of (by rfl) z_tuple (by decide +kernel) (pa_cons (pv 1) pa_nil)) pa_nil)))))), ?_⟩
  obtain ⟨at_, vp, rfl, hT, pp⟩ := kid1 (hd : Dp K H v (.tuple [.str "star", p.data]))
  have hds : ds.length ≤ 1000 := Nat.le_trans hR.2.2 hu
  refine ⟨fun σ' H' => ∃ c ys es, σ' = [some (.ref at_), some (.ref c), some (.bl b)] ∧ Same H H' ∧ H' c = some (.lst ys) ∧ DpAll K H' ys es ∧ ∀ u, L u → Rests (Star (M p)) (Good p) u es, ?_, fun σ' H' hM => ?_⟩
  · refine ⟨_, rfl, _, rfl, ite2 (fun c => ?_) (fun c => ?_)⟩
    · refine ⟨.ref a, rfl, .ref at_, rfl, at_, _, 1, vp, rfl, rfl, hT, atI_nat (j := 1) rfl, vp, p, rfl, pp, hp, hn4, fun H1 v0 d0 s1 g0 p0 => ⟨(by decide : 1 ≤ sizeLine), fun l hl => ?_⟩⟩
      have S1 : Same H (upd H1 l (.lst [v0])) := s1.trans (Same.new hl)
      refine ⟨a, l, xs, [v0], rfl, rfl, S1 _ _ ha, upd_same, ?_, fun l2 hl2 => ?_⟩
      · rw [hA.len, List.length_singleton]
        exact Nat.le_of_lt (line200 (by omega))
      have S2 := S1.trans (Same.new (o := .lst (xs ++ [v0])) hl2)
      have p0' : Dp K (upd (upd H1 l (.lst [v0])) l2 (.lst (xs ++ [v0]))) v0 d0 := p0.mono ((Same.new hl).trans (Same.new hl2))
      refine ⟨l2, _, ds ++ [d0], p, rfl, SqL.of upd_same, DpAll.app (DpAll.mono S2 hA) (.one p0'), fun d hd' => ?_, by omega, ?_, fun H3 c' ys es s3 eb hE hm hl3 => ?_⟩
      · rcases List.mem_append.mp hd' with h | h
        · obtain ⟨_, v', _, _, _, g⟩ := hR.1 d h
          exact ⟨_, g⟩
        · rw [List.mem_singleton.mp h]
          exact ⟨_, g0⟩
      · rw [List.length_append, List.length_singleton]; omega
      · refine ⟨c', ys, es, rfl, S2.trans s3, eb, hE, fun u hu => Rests.of (hRL u hu) (fun y hy => ?_) (fun x hx => ?_) (fun _ => ⟨d0, (hm d0).mpr (by simp), g0⟩) ?_⟩
        · rcases List.mem_append.mp ((hm y).mp hy) with h | h
          · exact .inl h
          · rw [List.mem_singleton.mp h]
            exact .inr ⟨(hbL u hu).mp c, g0⟩
        · exact (hm x).mpr (by simp [hx])
        · rw [List.length_append, List.length_singleton] at hl3; exact hl3
    · exact ⟨a, xs, ds, rfl, Same.refl _, ha, hA, fun u hu => Rests.of (hRL u hu) (fun y hy => .inl hy) (fun x hx => hx) (fun m => absurd ((hbL u hu).mpr m) c) (Nat.le_succ _)⟩
  · obtain ⟨c, ys, es, rfl, S, eb, hE, hR2⟩ := hM
    refine ⟨_, rfl, .ref c, rfl, c, ys, rfl, .inl ⟨SqL.of eb, fun p1 hp1 => ⟨(by decide : 2 ≤ sizeLine), fun p2 hp2 => ?_⟩⟩⟩
    exact k _ _ (.tuple [.bool b, .tuple es]) (S.trans ((Same.new hp1).trans (Same.new hp2))) (fun u hu => ⟨_, _, rfl, hbL u hu, hR2 u hu⟩) (Dp.tupN hp2 (.cons (.bl _) (.one (Dp.tupN hp1 hE))))
abbrev s_state_of_two : Stmt := topS 8
theorem sc_state_of_two : FnScope ["tree", "first", "second"] ["tree", "first", "second"] (defScope s_state_of_two) := ⟨rfl, rfl, rfl, by decide +kernel, rfl, by decide +kernel, by decide +kernel⟩
def spSoTwo (K : PySem.W.Frag) : Sp := fun vs H Q _ => ∃ v p q vf e vg g, ∃ L : List Sym → Prop, ∃ w, vs = [v, vf, vg] ∧ L w ∧ Dp K H vf e ∧ (∀ w, L w → Good p w e) ∧ Dp K H vg g ∧ (∀ w, L w → Good q w g) ∧
  ((Dp K H v (Tree.data (.or p q)) ∧ Ret K H Q (fun d => ∀ w, L w → Good (.or p q) w d)) ∨ (Dp K H v (Tree.data (.and p q)) ∧ Ret K H Q (fun d => ∀ w, L w → Good (.and p q) w d)))
theorem ok_state_of_two (D : Df K mg "state_of_two" s_state_of_two ["tree", "first", "second"]) : C8.Cal P w K mg base 1 "state_of_two" (spSoTwo K) [] := by
  refine D.cal sc_state_of_two (fun vs H Q E h => ?_) (fun f cdv A outer s H vs Q E hr h => ?_)
  · obtain ⟨_, _, _, _, _, _, _, _, _, rfl, _⟩ := h
    rfl
  obtain ⟨v, p, q, vf, e, vg, g, L, u0, rfl, hL0, hf, hgfL, hg, hggL, hk⟩ := h
  have hgf := hgfL u0 hL0
  have hgg := hggL u0 hL0
  refine ⟨_, (pss_cons (ps_if (pt_cmpR op_eq (pe_ix ix_tup (pv 0) pe_int (fun _ _ => rfl)) pe_str (nomark _))
     (pss_one (ps_ret (pe_tup (pa_cons (pe_or (pe_ix ix_tup (pv 1) pe_int (fun _ _ => rfl)) (pe_one (pe_ix ix_tup (pv 2) pe_int (fun _ _ => rfl)))) (pa_cons (pv 1) (pa_cons (pv 2) pa_nil))))))
     pss_nil)
     (pss_one (ps_ret (pe_tup (pa_cons (pe_and (pe_ix ix_tup (pv 1) pe_int (fun _ _ => rfl)) (pe_one (pe_ix ix_tup (pv 2) pe_int (fun _ _ => rfl)))) (pa_cons (pv 1) (pa_cons (pv 2) pa_nil))))))), ?_⟩
  obtain ⟨af, rf, rfl, hTf⟩ := stateI hf hgf
  obtain ⟨ag, rg, rfl, hTg⟩ := stateI hg hgg
  have fin : ∀ (t : Tree) (b : Bool), (∀ u b e f, (b = true ↔ M t u) → Good p u e → Good q u f → Good t u (.tuple [.bool b, e, f])) → (∀ u, L u → (b = true ↔ M t u)) → Ret K H Q (fun d => ∀ w, L w → Good t w d) → [V.bl b, V.ref af, V.ref ag].length ≤ sizeLine ∧ ∀ p2, H p2 = none → Q (.ref p2) (upd H p2 (.tup [.bl b, .ref af, .ref ag])) :=
    fun t b hG hb k => ⟨(by simp [sizeLine_eq]), fun p2 hp2 => k _ _ (.tuple [.bool b, e, g]) (Same.new hp2) (fun u hu => hG u b e g (hb u hu) (hgfL u hu) (hggL u hu)) (Dp.tupN hp2 (.cons (.bl _) (.cons hf (.one hg))))⟩
  have i1 := fun u hu => headB_iff (hgfL u hu)
  have i2 := fun u hu => headB_iff (hggL u hu)
  rcases hk with ⟨hd, k⟩ | ⟨hd, k⟩
  · obtain ⟨at_, vp, vq, rfl, hT, pp, pq⟩ := kid2 (hd : Dp K H v (.tuple [.str "or", p.data, q.data]))
    refine ⟨.ref at_, rfl, at_, _, 0, _, rfl, rfl, hT, atI_nat (j := 0) rfl, rfl, _, rfl, ite_yes rfl ?_⟩
    refine ⟨.ref af, rfl, af, _, 0, _, rfl, rfl, hTf, atI_nat (j := 0) rfl, _, rfl, ite2 (fun c => ?_) (fun c => ?_)⟩
    · exact ⟨_, rfl, _, rfl, fin (.or p q) true (fun u b e f h1 h2 h3 => ⟨b, e, f, rfl, h1, h2, h3⟩) (fun u hu => ⟨fun _ => .inl ((i1 u hu).mp c), fun _ => rfl⟩) k⟩
    · refine ⟨.ref ag, rfl, ag, _, 0, _, rfl, rfl, hTg, atI_nat (j := 0) rfl, _, rfl, _, rfl, fin (.or p q) _ (fun u b e f h1 h2 h3 => ⟨b, e, f, rfl, h1, h2, h3⟩) (fun u hu => ⟨fun h => .inr ((i2 u hu).mp h), fun h => ?_⟩) k⟩
      rcases h with h | h
      · exact absurd ((i1 u hu).mpr h) c
      · exact (i2 u hu).mpr h
  · obtain ⟨at_, vp, vq, rfl, hT, pp, pq⟩ := kid2 (hd : Dp K H v (.tuple [.str "and", p.data, q.data]))
    refine ⟨.ref at_, rfl, at_, _, 0, _, rfl, rfl, hT, atI_nat (j := 0) rfl, rfl, _, rfl, ite_no (by decide +kernel) ?_⟩
    refine ⟨.ref af, rfl, af, _, 0, _, rfl, rfl, hTf, atI_nat (j := 0) rfl, _, rfl, ite2 (fun c => ?_) (fun c => ?_)⟩
    · refine ⟨.ref ag, rfl, ag, _, 0, _, rfl, rfl, hTg, atI_nat (j := 0) rfl, _, rfl, _, rfl, fin (.and p q) _ (fun u b e f h1 h2 h3 => ⟨b, e, f, rfl, h1, h2, h3⟩) (fun u hu => ⟨fun h => ⟨(i1 u hu).mp c, (i2 u hu).mp h⟩, fun h => (i2 u hu).mpr h.2⟩) k⟩
    · exact ⟨_, rfl, _, rfl, fin (.and p q) false (fun u b e f h1 h2 h3 => ⟨b, e, f, rfl, h1, h2, h3⟩) (fun u hu => ⟨fun h => (by cases h), fun h => absurd ((i1 u hu).mpr h.1) c⟩) k⟩
abbrev s_started : Stmt := topS 9
theorem sc_started : FnScope ["tree", "head", "first"] ["tree"] (defScope s_started) := ⟨rfl, rfl, rfl, by decide +kernel, rfl, by decide +kernel, by decide +kernel⟩
theorem ok_started {n : Nat} (D : Df K mg "started" s_started ["tree"]) (c_state_of_star : C8.Cal P w K mg base (2 * n + 3) "state_of_star" (spSoStar K n) []) (c_state_of_then : C8.Cal P w K mg base (2 * n + 3) "state_of_then" (spSoThen K n) [])
    (c_state_of_two : C8.Cal P w K mg base 1 "state_of_two" (spSoTwo K) []) (c_started : C8.Cal P w K mg base (2 * n + 2) "started" (spStarted K n) []) : C8.Cal P w K mg base (2 * (n + 1) + 2) "started" (spStarted K (n + 1)) [] := by
  refine D.cal (k := 2 * n + 3) sc_started (fun vs H Q E h => ?_) (fun f cdv A outer s H vs Q E hr h => ?_)
  · obtain ⟨_, _, rfl, _⟩ := h
    rfl
  obtain ⟨v, t, rfl, hd, hh, hn4, k⟩ := h
  refine ⟨_, (pss_cons (ps_set (i := 1) sc_started.nd rfl (by first | exact .inl rfl | exact .inr rfl) (pe_ix ix_tup (pv 0) pe_int (fun _ _ => rfl)))
     (pss_cons (ps_if (pt_cmpR op_eq (pv 1) pe_str (nomark _))
     (pss_one (ps_ret (pe_tup (pa_cons pe_bl pa_nil))))
     pss_nil)
     (pss_cons (ps_if (pt_cmpR op_eq (pv 1) pe_str (nomark _))
     (pss_one (ps_ret (pe_tup (pa_cons pe_bl (pa_cons pe_bl pa_nil)))))
     pss_nil)
     (pss_cons (ps_if (pt_cmpR op_eq (pv 1) pe_str (nomark _))
     (pss_one (ps_ret (C8.pe_c c_state_of_star hr (by omega) (by rfl) (pa_cons (pv 0) (pa_cons (pe_lst pa_nil) (pa_cons pe_bl pa_nil))))))
     pss_nil)
     (pss_cons (ps_set (i := 2) sc_started.nd rfl (by first | exact .inl rfl | exact .inr rfl) (C8.pe_c c_started hr (by omega) (by rfl) (pa_cons (pe_ix ix_tup (pv 0) pe_int (fun _ _ => rfl)) pa_nil)))
     (pss_cons (ps_if (pt_cmpR op_eq (pv 1) pe_str (nomark _))
     (pss_one (ps_ret (pe_tup (pa_cons (pe_not (pe_ix ix_tup (pv 2) pe_int (fun _ _ => rfl))) (pa_cons (pv 2) pa_nil)))))
     pss_nil)
     (pss_cons (ps_if (pt_cmpR op_eq (pv 1) pe_str (nomark _))
     (pss_one (ps_ret (C8.pe_c c_state_of_then hr (by omega) (by rfl) (pa_cons (pv 0) (pa_cons (pv 2) (pa_cons (pe_lst pa_nil) pa_nil))))))
     pss_nil)
     (pss_one (ps_ret (C8.pe_c c_state_of_two hr (by omega) (by rfl) (pa_cons (pv 0) (pa_cons (pv 2) (pa_cons (C8.pe_c c_started hr (by omega) (by rfl) (pa_cons (pe_ix ix_tup (pv 0) pe_int (fun _ _ => rfl)) pa_nil)) pa_nil))))))))))))), ?_⟩
  cases t with
  | empty =>
    obtain ⟨a, xs, rfl, hT, hA⟩ := Dp.tupI (show Dp K H v (.tuple [.str "empty"]) from hd)
    obtain ⟨v0, r0, rfl, h0, hA⟩ := hA.consI
    rw [h0.strI] at hT
    refine ⟨.ref a, rfl, a, _, 0, _, rfl, rfl, hT, atI_nat (j := 0) rfl, _, rfl, rfl, _, rfl, ite_yes rfl ⟨(by decide : 1 ≤ sizeLine), fun p hp => ?_⟩⟩
    exact k _ _ (.tuple [.bool true]) (Same.new hp) ⟨_, rfl, by simp [M]⟩ (Dp.tupN hp (.one (.bl _)))
  | cls n h l =>
    obtain ⟨a, xs, rfl, hT, hA⟩ := Dp.tupI (show Dp K H v (.tuple [.str "class", .bool n, .str (S h), .str (S l)]) from hd)
    obtain ⟨v0, r0, rfl, h0, hA⟩ := hA.consI
    rw [h0.strI] at hT
    refine ⟨.ref a, rfl, a, _, 0, _, rfl, rfl, hT, atI_nat (j := 0) rfl, _, rfl, rfl, _, rfl, ite_no (by decide +kernel) ⟨_, rfl, rfl, _, rfl, ite_yes rfl ⟨(by decide : 2 ≤ sizeLine), fun p hp => ?_⟩⟩⟩
    refine k _ _ (.tuple [.bool false, .bool true]) (Same.new hp) ⟨_, _, rfl, ?_, by simp⟩ (Dp.tupN hp (.cons (.bl _) (.one (.bl _))))
    simp [M]
  | star p =>
    obtain ⟨a, vp, rfl, hT, pp⟩ := kid1 (hd : Dp K H v (.tuple [.str "star", p.data]))
    have hp : p.ht + 1 ≤ n + 1 := hh
    refine ⟨.ref a, rfl, a, _, 0, _, rfl, rfl, hT, atI_nat (j := 0) rfl, _, rfl, rfl, _, rfl, ite_no (by decide +kernel) ⟨_, rfl, rfl, _, rfl, ite_no (by decide +kernel) ⟨_, rfl, rfl, _, rfl, ite_yes rfl ?_⟩⟩⟩
    refine ⟨.ref a, rfl, Nat.zero_le _, fun o no => ⟨.ref a, p, o, [], [], (· = []), [], true, rfl, hd.mono (Same.new no), by omega, by omega, rfl, Nat.zero_le _, upd_same, .nil, fun w e => (by rw [e]; exact rests1_nil), fun w e => (by rw [e]; exact ⟨fun _ => .nil, fun _ => rfl⟩), fun H' v' d' s' g' p' => k _ _ _ ((Same.new no).trans s') (g' [] rfl) p'⟩⟩
  | not p =>
    obtain ⟨a, vp, rfl, hT, pp⟩ := kid1 (hd : Dp K H v (.tuple [.str "not", p.data]))
    have hp : p.ht + 1 ≤ n + 1 := hh
    refine ⟨.ref a, rfl, a, _, 0, _, rfl, rfl, hT, atI_nat (j := 0) rfl, _, rfl, rfl, _, rfl, ite_no (by decide +kernel) ⟨_, rfl, rfl, _, rfl, ite_no (by decide +kernel) ⟨_, rfl, rfl, _, rfl, ite_no (by decide +kernel) ?_⟩⟩⟩
    refine ⟨.ref a, rfl, a, _, 1, vp, rfl, rfl, hT, atI_nat (j := 1) rfl, vp, p, rfl, pp, by omega, by omega, fun H1 v1 d1 s1 g1 p1 => ?_⟩
    obtain ⟨a1, r1, rfl, hT1⟩ := stateI p1 g1
    refine ⟨_, rfl, rfl, _, rfl, ite_yes rfl ⟨.ref a1, rfl, a1, _, 0, _, rfl, rfl, hT1, atI_nat (j := 0) rfl, _, rfl, _, rfl, (by decide : 2 ≤ sizeLine), fun p2 hp2 => ?_⟩⟩
    refine k _ _ (.tuple [.bool (!headB d1), d1]) (s1.trans (Same.new hp2)) ⟨_, _, rfl, ?_, g1⟩ (Dp.tupN hp2 (.cons (.bl _) (.one p1)))
    rw [M, ← headB_iff g1]
    cases headB d1 <;> simp
  | thn p q =>
    obtain ⟨a, vp, vq, rfl, hT, pp, pq⟩ := kid2 (hd : Dp K H v (.tuple [.str "then", p.data, q.data]))
    have hp : max p.ht q.ht + 1 ≤ n + 1 := hh
    refine ⟨.ref a, rfl, a, _, 0, _, rfl, rfl, hT, atI_nat (j := 0) rfl, _, rfl, rfl, _, rfl, ite_no (by decide +kernel) ⟨_, rfl, rfl, _, rfl, ite_no (by decide +kernel) ⟨_, rfl, rfl, _, rfl, ite_no (by decide +kernel) ?_⟩⟩⟩
    refine ⟨.ref a, rfl, a, _, 1, vp, rfl, rfl, hT, atI_nat (j := 1) rfl, vp, p, rfl, pp, by omega, by omega, fun H1 v1 d1 s1 g1 p1 => ?_⟩
    refine ⟨_, rfl, rfl, _, rfl, ite_no (by decide +kernel) ⟨_, rfl, rfl, _, rfl, ite_yes rfl ?_⟩⟩
    refine ⟨.ref a, rfl, v1, rfl, Nat.zero_le _, fun o no => ⟨.ref a, p, q, v1, d1, o, [], [], (· = []), [], rfl, hd.mono (s1.trans (Same.new no)), by omega, by omega, rfl, Nat.zero_le _, p1.mono (Same.new no), fun w e => (by rw [e]; exact g1), upd_same, .nil, fun w e => (by rw [e]; exact rests1_nil), fun H' v' d' s' g' p' => k _ _ _ (s1.trans ((Same.new no).trans s')) (g' [] rfl) p'⟩⟩
  | or p q =>
    obtain ⟨a, vp, vq, rfl, hT, pp, pq⟩ := kid2 (hd : Dp K H v (.tuple [.str "or", p.data, q.data]))
    have hp : max p.ht q.ht + 1 ≤ n + 1 := hh
    refine ⟨.ref a, rfl, a, _, 0, _, rfl, rfl, hT, atI_nat (j := 0) rfl, _, rfl, rfl, _, rfl, ite_no (by decide +kernel) ⟨_, rfl, rfl, _, rfl, ite_no (by decide +kernel) ⟨_, rfl, rfl, _, rfl, ite_no (by decide +kernel) ?_⟩⟩⟩
    refine ⟨.ref a, rfl, a, _, 1, vp, rfl, rfl, hT, atI_nat (j := 1) rfl, vp, p, rfl, pp, by omega, by omega, fun H1 v1 d1 s1 g1 p1 => ?_⟩
    refine ⟨_, rfl, rfl, _, rfl, ite_no (by decide +kernel) ⟨_, rfl, rfl, _, rfl, ite_no (by decide +kernel) ?_⟩⟩
    refine ⟨.ref a, rfl, v1, rfl, .ref a, rfl, a, _, 2, vq, rfl, rfl, s1.tup hT, atI_nat (j := 2) rfl, vq, q, rfl, pq.mono s1, by omega, by omega, fun H2 v2 d2 s2 g2 p2 => ?_⟩
    exact ⟨.ref a, p, q, v1, d1, v2, d2, (· = []), [], rfl, rfl, p1.mono s2, fun w e => (by rw [e]; exact g1), p2, fun w e => (by rw [e]; exact g2), .inl ⟨hd.mono (s1.trans s2), fun H' v' d' s' g' p' => k _ _ _ (s1.trans (s2.trans s')) (g' [] rfl) p'⟩⟩
  | and p q =>
    obtain ⟨a, vp, vq, rfl, hT, pp, pq⟩ := kid2 (hd : Dp K H v (.tuple [.str "and", p.data, q.data]))
    have hp : max p.ht q.ht + 1 ≤ n + 1 := hh
    refine ⟨.ref a, rfl, a, _, 0, _, rfl, rfl, hT, atI_nat (j := 0) rfl, _, rfl, rfl, _, rfl, ite_no (by decide +kernel) ⟨_, rfl, rfl, _, rfl, ite_no (by decide +kernel) ⟨_, rfl, rfl, _, rfl, ite_no (by decide +kernel) ?_⟩⟩⟩
    refine ⟨.ref a, rfl, a, _, 1, vp, rfl, rfl, hT, atI_nat (j := 1) rfl, vp, p, rfl, pp, by omega, by omega, fun H1 v1 d1 s1 g1 p1 => ?_⟩
    refine ⟨_, rfl, rfl, _, rfl, ite_no (by decide +kernel) ⟨_, rfl, rfl, _, rfl, ite_no (by decide +kernel) ?_⟩⟩
    refine ⟨.ref a, rfl, v1, rfl, .ref a, rfl, a, _, 2, vq, rfl, rfl, s1.tup hT, atI_nat (j := 2) rfl, vq, q, rfl, pq.mono s1, by omega, by omega, fun H2 v2 d2 s2 g2 p2 => ?_⟩
    exact ⟨.ref a, p, q, v1, d1, v2, d2, (· = []), [], rfl, rfl, p1.mono s2, fun w e => (by rw [e]; exact g1), p2, fun w e => (by rw [e]; exact g2), .inr ⟨hd.mono (s1.trans s2), fun H' v' d' s' g' p' => k _ _ _ (s1.trans (s2.trans s')) (g' [] rfl) p'⟩⟩
end
end K29
namespace K29
open PySem PySem.Spec PyProof.Rows L2 SX
theorem rests_step {p : Tree} {s : Sym} {ds es es' : List PyData} (hl : es.length = ds.length) (hF : ∀ (i : Nat) (d : PyData), es[i]? = some d → ∃ x, ds[i]? = some x ∧ ∀ v, Good p v x → Good p (v ++ [s]) d)
    (hm : ∀ d, d ∈ es' ↔ d ∈ es) (hl' : es'.length ≤ es.length) {A : List Sym → Prop} {w : List Sym} (h : Rests A (Good p) w ds) : Rests1 A (Good p) (w ++ [s]) es' := by
  refine Rests1.of h (ds' := []) (fun y hy => ?_) (fun x hx => ?_) (by omega)
  · obtain ⟨i, hi⟩ := List.mem_iff_getElem?.mp ((hm y).mp hy)
    obtain ⟨x, h1, h2⟩ := hF i y hi
    exact ⟨x, List.mem_of_getElem? h1, h2⟩
  · obtain ⟨i, hi⟩ := List.mem_iff_getElem?.mp hx
    have hi' : i < es.length := by
      rw [hl]
      exact (List.getElem?_eq_some_iff.mp hi).1
    obtain ⟨x', h1, h2⟩ := hF i _ (List.getElem?_eq_getElem hi')
    rw [hi] at h1
    cases h1
    exact ⟨es[i], (hm _).mpr (List.getElem_mem hi'), h2⟩
section
variable {P : Program} {w : World} {K : PySem.W.Frag} {mg : Str → Option Value} {base : Heap}
theorem all_started (Ds : Df K mg "started" s_started ["tree"]) (D1 : Df K mg "state_of_star" s_state_of_star ["tree", "rests", "whole"]) (D2 : Df K mg "state_of_then" s_state_of_then ["tree", "first", "rests"]) (D3 : Df K mg "state_of_two" s_state_of_two ["tree", "first", "second"])
    (z_any : mg "any" = none) (z_tuple : mg "tuple" = none) (c_distinct : C8.Cal P w K mg base 1 "distinct" (spDistinct K) []) : ∀ n, C8.Cal P w K mg base (2 * n + 2) "started" (spStarted K n) []
  | 0 => Ds.none (fun vs H Q E h => by
      obtain ⟨v, t, _, _, h, _⟩ := h
      have := ht_pos t
      omega) _
  | n + 1 => by
    have c := all_started Ds D1 D2 D3 z_any z_tuple c_distinct n
    exact ok_started Ds (ok_state_of_star D1 z_tuple c_distinct c) (ok_state_of_then D2 z_any z_tuple c_distinct c) (ok_state_of_two D3) c
abbrev s_advanced : Stmt := topS 10
theorem sc_advanced : FnScope ["tree", "state", "symbol", "head", "rests", "first", "rest"] ["tree", "state", "symbol"] (defScope s_advanced) := ⟨rfl, rfl, rfl, by decide +kernel, rfl, by decide +kernel, by decide +kernel⟩
def spAdvanced (K : PySem.W.Frag) (n : Nat) : Sp := fun vs H Q _ => ∃ v t vd d s w, vs = [v, vd, symV s] ∧ Dp K H v (Tree.data t) ∧ t.ht ≤ n ∧ n ≤ 4 ∧ Dp K H vd d ∧ Good t w d ∧ w.length ≤ 900 ∧ Ret K H Q (fun d' => ∀ w, Good t w d → Good t (w ++ [s]) d')
theorem ok_advanced {n : Nat} (D : Df K mg "advanced" s_advanced ["tree", "state", "symbol"]) (z_any : mg "any" = none) (c_distinct : C8.Cal P w K mg base 1 "distinct" (spDistinct K) []) (c_belongs : C8.Cal P w K mg base 1 "belongs" (spBelongs K) [])
    (c_state_of_star : C8.Cal P w K mg base (2 * n + 3) "state_of_star" (spSoStar K n) []) (c_state_of_then : C8.Cal P w K mg base (2 * n + 3) "state_of_then" (spSoThen K n) [])
    (c_state_of_two : C8.Cal P w K mg base 1 "state_of_two" (spSoTwo K) []) (c_advanced : C8.Cal P w K mg base (2 * n + 4) "advanced" (spAdvanced K n) []) : C8.Cal P w K mg base (2 * (n + 1) + 4) "advanced" (spAdvanced K (n + 1)) [] := by
  refine D.cal (k := 2 * n + 5) sc_advanced (fun vs H Q E h => ?_) (fun f cdv A outer s H vs Q E hr h => ?_)
  · obtain ⟨_, _, _, _, _, _, rfl, _⟩ := h
    rfl
  obtain ⟨v, t, vd, d, y, u, rfl, hd, hh, hn4, hdd, hgd, hul, k⟩ := h
  refine ⟨_, (pss_cons (ps_set (i := 3) sc_advanced.nd rfl (by first | exact .inl rfl | exact .inr rfl) (pe_ix ix_tup (pv 0) pe_int (fun _ _ => rfl)))
     (pss_cons (ps_if (pt_cmpR op_eq (pv 3) pe_str (nomark _))
     (pss_one (ps_ret (pe_tup (pa_cons pe_bl pa_nil))))
     pss_nil)
     (pss_cons (ps_if (pt_cmpR op_eq (pv 3) pe_str (nomark _))
     (pss_one (ps_ret (pe_tup (pa_cons (pe_and (pe_ix ix_tup (pv 1) pe_int (fun _ _ => rfl)) (pe_one (C8.pe_c c_belongs hr (by omega) (by rfl) (pa_cons (pv 2) (pa_cons (pv 0) pa_nil))))) (pa_cons pe_bl pa_nil)))))
     pss_nil)
     (pss_cons (ps_if (pt_cmpR op_eq (pv 3) pe_str (nomark _))
     (pss_cons (ps_set (i := 4) sc_advanced.nd rfl (by first | exact .inl rfl | exact .inr rfl) (C8.pe_c c_distinct hr (by omega) (by rfl) (pa_cons (pe_lc (own := [("rest", 6)]) rfl sc_advanced.nd (pi_tup (pe_ix ix_tup (pv 1) pe_int (fun _ _ => rfl))) (blkOk_by (by with_unfolding_all rfl)) (fun _ _ _ _ _ => (pg_name (i := 6) sc_advanced.nd rfl (by first | exact .inl rfl | exact .inr rfl))) (fun _ _ _ _ _ => pts_nil) (fun _ _ _ _ _ => (C8.pe_c c_advanced hr (by omega) (by rfl) (pa_cons (pe_ix (r := rIxT K) ix_tup (pv 0) pe_int (fun _ _ => rfl)) (pa_cons (pv 6) (pa_cons (pv 2) pa_nil)))))) pa_nil)))
     (pss_one (ps_ret (C8.pe_c c_state_of_star hr (by omega) (by rfl) (pa_cons (pv 0) (pa_cons (pv 4) (pa_cons (pe_callB (cr_any rfl) (by rfl) z_any (by decide +kernel) (pa_cons (pe_lc (own := [("rest", 6)]) rfl sc_advanced.nd (pi_list (pv 4)) (blkOk_by (by with_unfolding_all rfl)) (fun _ _ _ _ _ => (pg_name (i := 6) sc_advanced.nd rfl (by first | exact .inl rfl | exact .inr rfl))) (fun _ _ _ _ _ => pts_nil) (fun _ _ _ _ _ => (pe_ix (r := rIxT K) ix_tup (pv 6) pe_int (fun _ _ => rfl)))) pa_nil)) pa_nil)))))))
     pss_nil)
     (pss_cons (ps_set (i := 5) sc_advanced.nd rfl (by first | exact .inl rfl | exact .inr rfl) (C8.pe_c c_advanced hr (by omega) (by rfl) (pa_cons (pe_ix ix_tup (pv 0) pe_int (fun _ _ => rfl)) (pa_cons (pe_ix ix_tup (pv 1) pe_int (fun _ _ => rfl)) (pa_cons (pv 2) pa_nil)))))
     (pss_cons (ps_if (pt_cmpR op_eq (pv 3) pe_str (nomark _))
     (pss_one (ps_ret (pe_tup (pa_cons (pe_not (pe_ix ix_tup (pv 5) pe_int (fun _ _ => rfl))) (pa_cons (pv 5) pa_nil)))))
     pss_nil)
     (pss_cons (ps_if (pt_cmpR op_eq (pv 3) pe_str (nomark _))
     (pss_cons (ps_set (i := 4) sc_advanced.nd rfl (by first | exact .inl rfl | exact .inr rfl) (C8.pe_c c_distinct hr (by omega) (by rfl) (pa_cons (pe_lc (own := [("rest", 6)]) rfl sc_advanced.nd (pi_tup (pe_ix ix_tup (pv 1) pe_int (fun _ _ => rfl))) (blkOk_by (by with_unfolding_all rfl)) (fun _ _ _ _ _ => (pg_name (i := 6) sc_advanced.nd rfl (by first | exact .inl rfl | exact .inr rfl))) (fun _ _ _ _ _ => pts_nil) (fun _ _ _ _ _ => (C8.pe_c c_advanced hr (by omega) (by rfl) (pa_cons (pe_ix (r := rIxT K) ix_tup (pv 0) pe_int (fun _ _ => rfl)) (pa_cons (pv 6) (pa_cons (pv 2) pa_nil)))))) pa_nil)))
     (pss_one (ps_ret (C8.pe_c c_state_of_then hr (by omega) (by rfl) (pa_cons (pv 0) (pa_cons (pv 5) (pa_cons (pv 4) pa_nil)))))))
     pss_nil)
     (pss_one (ps_ret (C8.pe_c c_state_of_two hr (by omega) (by rfl) (pa_cons (pv 0) (pa_cons (pv 5) (pa_cons (C8.pe_c c_advanced hr (by omega) (by rfl) (pa_cons (pe_ix ix_tup (pv 0) pe_int (fun _ _ => rfl)) (pa_cons (pe_ix ix_tup (pv 1) pe_int (fun _ _ => rfl)) (pa_cons (pv 2) pa_nil)))) pa_nil))))))))))))), ?_⟩
  have hne : ∀ x : List Sym, x ++ [y] ≠ [] := fun x => by simp
  cases t with
  | empty =>
    obtain ⟨a, xs, rfl, hT, hA⟩ := Dp.tupI (show Dp K H v (.tuple [.str "empty"]) from hd)
    obtain ⟨v0, r0, rfl, h0, hA⟩ := hA.consI
    rw [h0.strI] at hT
    refine ⟨.ref a, rfl, a, _, 0, _, rfl, rfl, hT, atI_nat (j := 0) rfl, _, rfl, rfl, _, rfl, ite_yes rfl ⟨(by decide : 1 ≤ sizeLine), fun p hp => ?_⟩⟩
    exact k _ _ (.tuple [.bool false]) (Same.new hp) (fun x _ => ⟨_, rfl, by simp [M]⟩) (Dp.tupN hp (.one (.bl _)))
  | cls nb hs ls =>
    obtain ⟨a, xs, rfl, hT, hA⟩ := Dp.tupI (show Dp K H v (.tuple [.str "class", .bool nb, .str (S hs), .str (S ls)]) from hd)
    obtain ⟨v0, r0, rfl, h0, hA⟩ := hA.consI
    rw [h0.strI] at hT
    obtain ⟨b1, c1, rfl, e1, e2⟩ := hgd
    obtain ⟨ad, xd, rfl, hTd, hAd⟩ := hdd.tupI
    obtain ⟨w0, q0, rfl, g0, hAd⟩ := hAd.consI
    obtain ⟨w1, q1, rfl, g1, hAd⟩ := hAd.consI
    rw [g1.blI] at hTd
    refine ⟨.ref a, rfl, a, _, 0, _, rfl, rfl, hT, atI_nat (j := 0) rfl, _, rfl, rfl, _, rfl, ite_no (by decide +kernel) ⟨_, rfl, rfl, _, rfl, ite_yes rfl ?_⟩⟩
    have fin : ∀ b : Bool, (∀ x, (c1 = true ↔ x = []) → (b = true ↔ M (.cls nb hs ls) (x ++ [y]))) → [V.bl b, V.bl false].length ≤ sizeLine ∧ ∀ p, H p = none → Q (.ref p) (upd H p (.tup [.bl b, .bl false])) := fun b hb =>
      ⟨(by decide : 2 ≤ sizeLine), fun p hp => k _ _ (.tuple [.bool b, .bool false]) (Same.new hp) (fun x gx => ⟨_, _, rfl, hb x (by
        obtain ⟨b2, c2, ee, f1, f2⟩ := gx
        cases ee
        exact f2), by simp⟩) (Dp.tupN hp (.cons (.bl _) (.one (.bl _))))⟩
    refine ⟨.ref ad, rfl, ad, _, 1, _, rfl, rfl, hTd, atI_nat (j := 1) rfl, _, rfl, ite2 (fun c => ?_) (fun c => ?_)⟩
    · refine ⟨_, rfl, .ref a, rfl, .ref a, y, nb, hs, ls, rfl, hd, fin _ fun x hx => ?_⟩
      rw [M, hx.mp c]
      constructor
      · intro q
        exact ⟨y, rfl, q⟩
      · rintro ⟨s', q, r⟩
        cases q
        exact r
    · refine fin _ fun x hx => ⟨fun q => (by cases q), ?_⟩
      rintro ⟨s', q, r⟩
      have hx' : x = [] := by
        cases x with
        | nil => rfl
        | cons x0 x1 =>
          have := congrArg List.length q
          simp at this
      exact absurd (hx.mpr hx') c
  | star p =>
    obtain ⟨a, vp, rfl, hT, pp⟩ := kid1 (hd : Dp K H v (.tuple [.str "star", p.data]))
    have hp : p.ht + 1 ≤ n + 1 := hh
    obtain ⟨b0, fs, rfl, hb0, hR0⟩ := id hgd
    obtain ⟨ad, xd, rfl, hTd, hAd⟩ := hdd.tupI
    obtain ⟨w0, q0, rfl, g0, hAd⟩ := hAd.consI
    obtain ⟨w1, q1, rfl, g1, hAd⟩ := hAd.consI
    obtain ⟨af, xf, rfl, hTf, hAf⟩ := g1.tupI
    have lf := hAf.len
    have lf2 := hR0.2.2
    refine ⟨.ref a, rfl, a, _, 0, _, rfl, rfl, hT, atI_nat (j := 0) rfl, _, rfl, rfl, _, rfl, ite_no (by decide +kernel) ⟨_, rfl, rfl, _, rfl, ite_no (by decide +kernel) ⟨_, rfl, rfl, _, rfl, ite_yes rfl ?_⟩⟩⟩
    refine ⟨.ref ad, rfl, ad, _, 1, _, rfl, rfl, hTd, atI_nat (j := 1) rfl, af, rfl, ⟨_, hTf⟩, fun D1 hD1 => lc_src (K := K) (Src.tup af xf) (fun H' s' => s'.tup hTf) hD1 (by omega) (fun i d => ∃ x, fs[i]? = some x ∧ ∀ v, Good p v x → Good p (v ++ [y]) d) (fun i x H2 acc Q' hi s2 e2 hy el => ?_) fun H2 ys es s2 e2 hl hF hE => ?_⟩
    · obtain ⟨dx, hx1, px⟩ := hAf.get hy
      obtain ⟨u1, v1, eu, _, gx⟩ := hR0.1 dx (List.mem_of_getElem? hx1)
      have hv1 : v1.length ≤ 900 := by rw [eu, List.length_append] at hul; omega
      exact ⟨rfl, .ref a, rfl, a, _, 1, vp, rfl, rfl, s2.tup hT, atI_nat (j := 1) rfl, x, rfl, _, rfl, vp, p, x, dx, y, v1, rfl, pp.mono s2, by omega, by omega, px.mono s2, gx, hv1, fun H3 v3 d3 s3 g3 p3 => el H3 v3 d3 s3 ⟨dx, hx1, g3⟩ (Dp.del (s3 _ _ e2) p3 (nl_good (g3 v1 gx)))⟩
    · have hgE : ∀ d ∈ es, ∃ w, Good p w d := fun d hd' => by
        obtain ⟨i, hi⟩ := List.mem_iff_getElem?.mp hd'
        obtain ⟨x, h1, h2⟩ := hF i d hi
        obtain ⟨u1, v1, eu, _, gx⟩ := hR0.1 x (List.mem_of_getElem? h1)
        exact ⟨_, h2 v1 gx⟩
      have hlf : es.length = fs.length := by omega
      refine ⟨D1, ys, es, p, rfl, SqL.of e2, DpAll.mono del_le hE, hgE, by omega, by omega, fun H3 b zs gs s3 eb hZ hm hl3 => ?_⟩
      have S3 := s2.trans s3
      refine ⟨.ref a, rfl, .ref b, rfl, .ref b, rfl, b, rfl, ⟨zs, SqL.of eb⟩, fun D2 hD2 => heads_lc (t := p) (by simp [L2.start]) hD2 eb hZ (by omega) (fun d hd' => hgE d ((hm d).mp hd')) fun H4 s4 e4 => ?_⟩
      have S4 := S3.trans s4
      refine ⟨D2, gs.map headB, rfl, SqL.of e4, ?_⟩
      refine ⟨.ref a, p, b, zs, gs, (fun x => ∃ w, x = w ++ [y] ∧ Good (.star p) w (.tuple [.bool b0, .tuple fs])), u ++ [y], _, rfl, hd.mono S4, by omega, by omega, ⟨u, rfl, hgd⟩, (by rw [List.length_append, List.length_singleton]; omega), s4 _ _ eb, DpAll.mono s4 hZ, ?_, ?_, fun H' v' d' s' g' p' => k _ _ _ (S4.trans s') (fun w gw => g' _ ⟨w, rfl, gw⟩) p'⟩
      · rintro _ ⟨w, rfl, gw⟩
        obtain ⟨_, _, ee, _, hRw⟩ := gw
        cases ee
        exact rests_step hlf hF hm hl3 hRw
      · rintro _ ⟨w, rfl, gw⟩
        obtain ⟨_, _, ee, _, hRw⟩ := gw
        cases ee
        rw [any_heads]
        exact star_rests1 (rests_step hlf hF hm hl3 hRw) (hne w) (B := fun x => headB x = true) fun v x g => headB_iff g
  | not p =>
    obtain ⟨a, vp, rfl, hT, pp⟩ := kid1 (hd : Dp K H v (.tuple [.str "not", p.data]))
    have hp : p.ht + 1 ≤ n + 1 := hh
    obtain ⟨b0, e0, rfl, hb0, hg0⟩ := id hgd
    obtain ⟨ad, xd, rfl, hTd, hAd⟩ := hdd.tupI
    obtain ⟨w0, q0, rfl, g0, hAd⟩ := hAd.consI
    obtain ⟨w1, q1, rfl, g1, hAd⟩ := hAd.consI
    refine ⟨.ref a, rfl, a, _, 0, _, rfl, rfl, hT, atI_nat (j := 0) rfl, _, rfl, rfl, _, rfl, ite_no (by decide +kernel) ⟨_, rfl, rfl, _, rfl, ite_no (by decide +kernel) ⟨_, rfl, rfl, _, rfl, ite_no (by decide +kernel) ?_⟩⟩⟩
    refine ⟨.ref a, rfl, a, _, 1, vp, rfl, rfl, hT, atI_nat (j := 1) rfl, .ref ad, rfl, ad, _, 1, w1, rfl, rfl, hTd, atI_nat (j := 1) rfl, _, rfl, vp, p, w1, e0, y, u, rfl, pp, by omega, by omega, g1, hg0, hul, fun H1 v1 d1 s1 k1 p1 => ?_⟩
    have hg1 := k1 u hg0
    obtain ⟨a1, r1, rfl, hT1⟩ := stateI p1 hg1
    refine ⟨_, rfl, rfl, _, rfl, ite_yes rfl ⟨.ref a1, rfl, a1, _, 0, _, rfl, rfl, hT1, atI_nat (j := 0) rfl, _, rfl, _, rfl, (by decide : 2 ≤ sizeLine), fun p2 hp2 => ?_⟩⟩
    refine k _ _ (.tuple [.bool (!headB d1), d1]) (s1.trans (Same.new hp2)) (fun x gx => ?_) (Dp.tupN hp2 (.cons (.bl _) (.one p1)))
    obtain ⟨_, _, ee, _, gx'⟩ := gx
    cases ee
    have gx2 := k1 x gx'
    refine ⟨_, _, rfl, ?_, gx2⟩
    rw [M, ← headB_iff gx2]
    cases headB d1 <;> simp
  | thn p q =>
    obtain ⟨a, vp, vq, rfl, hT, pp, pq⟩ := kid2 (hd : Dp K H v (.tuple [.str "then", p.data, q.data]))
    have hp : max p.ht q.ht + 1 ≤ n + 1 := hh
    obtain ⟨b0, e0, fs, rfl, hb0, hg0, hR0⟩ := id hgd
    obtain ⟨ad, xd, rfl, hTd, hAd⟩ := hdd.tupI
    obtain ⟨w0, q0, rfl, g0, hAd⟩ := hAd.consI
    obtain ⟨w1, q1, rfl, g1, hAd⟩ := hAd.consI
    obtain ⟨w2, q2, rfl, g2, hAd⟩ := hAd.consI
    obtain ⟨af, xf, rfl, hTf, hAf⟩ := g2.tupI
    have lf := hAf.len
    have lf2 := hR0.2.2
    refine ⟨.ref a, rfl, a, _, 0, _, rfl, rfl, hT, atI_nat (j := 0) rfl, _, rfl, rfl, _, rfl, ite_no (by decide +kernel) ⟨_, rfl, rfl, _, rfl, ite_no (by decide +kernel) ⟨_, rfl, rfl, _, rfl, ite_no (by decide +kernel) ?_⟩⟩⟩
    refine ⟨.ref a, rfl, a, _, 1, vp, rfl, rfl, hT, atI_nat (j := 1) rfl, .ref ad, rfl, ad, _, 1, w1, rfl, rfl, hTd, atI_nat (j := 1) rfl, _, rfl, vp, p, w1, e0, y, u, rfl, pp, by omega, by omega, g1, hg0, hul, fun H1 v1 d1 s1 k1 p1 => ?_⟩
    refine ⟨_, rfl, rfl, _, rfl, ite_no (by decide +kernel) ⟨_, rfl, rfl, _, rfl, ite_yes rfl ?_⟩⟩
    refine ⟨.ref ad, rfl, ad, _, 2, _, rfl, rfl, s1.tup hTd, atI_nat (j := 2) rfl, af, rfl, ⟨_, s1.tup hTf⟩, fun D1 hD1 => lc_src (K := K) (Src.tup af xf) (fun H' s' => (s1.trans s').tup hTf) hD1 (by omega) (fun i d => ∃ x, fs[i]? = some x ∧ ∀ v, Good q v x → Good q (v ++ [y]) d) (fun i x H2 acc Q' hi s2' e2 hy el => ?_) fun H2 ys es s2' e2 hl hF hE => ?_⟩
    · have s2 := s1.trans s2'
      obtain ⟨dx, hx1, px⟩ := hAf.get hy
      obtain ⟨u1, v1', eu, _, gx⟩ := hR0.1 dx (List.mem_of_getElem? hx1)
      have hv1 : v1'.length ≤ 900 := by rw [eu, List.length_append] at hul; omega
      exact ⟨rfl, .ref a, rfl, a, _, 2, vq, rfl, rfl, s2.tup hT, atI_nat (j := 2) rfl, x, rfl, _, rfl, vq, q, x, dx, y, v1', rfl, pq.mono s2, by omega, by omega, px.mono s2, gx, hv1, fun H3 v3 d3 s3 g3 p3 => el H3 v3 d3 s3 ⟨dx, hx1, g3⟩ (Dp.del (s3 _ _ e2) p3 (nl_good (g3 v1' gx)))⟩
    · have s2 := s1.trans s2'
      have hgE : ∀ d ∈ es, ∃ w, Good q w d := fun d hd' => by
        obtain ⟨i, hi⟩ := List.mem_iff_getElem?.mp hd'
        obtain ⟨x, h1, h2⟩ := hF i d hi
        obtain ⟨u1, v1', eu, _, gx⟩ := hR0.1 x (List.mem_of_getElem? h1)
        exact ⟨_, h2 v1' gx⟩
      have hlf : es.length = fs.length := by omega
      refine ⟨D1, ys, es, q, rfl, SqL.of e2, DpAll.mono del_le hE, hgE, by omega, by omega, fun H3 b zs gs s3 eb hZ hm hl3 => ?_⟩
      have S3 := s2.trans s3
      refine ⟨.ref a, rfl, v1, rfl, .ref b, rfl, ?_⟩
      refine ⟨.ref a, p, q, v1, d1, b, zs, gs, (fun x => ∃ w, x = w ++ [y] ∧ Good (.thn p q) w (.tuple [.bool b0, e0, .tuple fs])), u ++ [y], rfl, hd.mono S3, by omega, by omega, ⟨u, rfl, hgd⟩, (by rw [List.length_append, List.length_singleton]; omega), p1.mono (s2'.trans s3), ?_, eb, hZ, ?_, fun H' v' d' s' g' p' => k _ _ _ (S3.trans s') (fun w gw => g' _ ⟨w, rfl, gw⟩) p'⟩
      · rintro _ ⟨w, rfl, gw⟩
        obtain ⟨_, _, _, ee, _, gw1, hRw⟩ := gw
        cases ee
        exact k1 w gw1
      · rintro _ ⟨w, rfl, gw⟩
        obtain ⟨_, _, _, ee, _, gw1, hRw⟩ := gw
        cases ee
        exact rests_step hlf hF hm hl3 hRw
  | or p q =>
    obtain ⟨a, vp, vq, rfl, hT, pp, pq⟩ := kid2 (hd : Dp K H v (.tuple [.str "or", p.data, q.data]))
    have hp : max p.ht q.ht + 1 ≤ n + 1 := hh
    obtain ⟨b0, e0, f0, rfl, hb0, hg0, hh0⟩ := id hgd
    obtain ⟨ad, xd, rfl, hTd, hAd⟩ := hdd.tupI
    obtain ⟨w0, q0, rfl, g0, hAd⟩ := hAd.consI
    obtain ⟨w1, q1, rfl, g1, hAd⟩ := hAd.consI
    obtain ⟨w2, q2, rfl, g2, hAd⟩ := hAd.consI
    refine ⟨.ref a, rfl, a, _, 0, _, rfl, rfl, hT, atI_nat (j := 0) rfl, _, rfl, rfl, _, rfl, ite_no (by decide +kernel) ⟨_, rfl, rfl, _, rfl, ite_no (by decide +kernel) ⟨_, rfl, rfl, _, rfl, ite_no (by decide +kernel) ?_⟩⟩⟩
    refine ⟨.ref a, rfl, a, _, 1, vp, rfl, rfl, hT, atI_nat (j := 1) rfl, .ref ad, rfl, ad, _, 1, w1, rfl, rfl, hTd, atI_nat (j := 1) rfl, _, rfl, vp, p, w1, e0, y, u, rfl, pp, by omega, by omega, g1, hg0, hul, fun H1 v1 d1 s1 k1 p1 => ?_⟩
    refine ⟨_, rfl, rfl, _, rfl, ite_no (by decide +kernel) ⟨_, rfl, rfl, _, rfl, ite_no (by decide +kernel) ?_⟩⟩
    refine ⟨.ref a, rfl, v1, rfl, .ref a, rfl, a, _, 2, vq, rfl, rfl, s1.tup hT, atI_nat (j := 2) rfl, .ref ad, rfl, ad, _, 2, w2, rfl, rfl, s1.tup hTd, atI_nat (j := 2) rfl, _, rfl, vq, q, w2, f0, y, u, rfl, pq.mono s1, by omega, by omega, g2.mono s1, hh0, hul, fun H2 v2 d2 s2 k2 p2 => ?_⟩
    refine ⟨.ref a, p, q, v1, d1, v2, d2, (fun x => ∃ w, x = w ++ [y] ∧ Good (.or p q) w (.tuple [.bool b0, e0, f0])), u ++ [y], rfl, ⟨u, rfl, hgd⟩, p1.mono s2, ?_, p2, ?_, .inl ⟨hd.mono (s1.trans s2), fun H' v' d' s' g' p' => k _ _ _ (s1.trans (s2.trans s')) (fun w gw => g' _ ⟨w, rfl, gw⟩) p'⟩⟩
    · rintro _ ⟨w, rfl, gw⟩
      obtain ⟨_, _, _, ee, _, gw1, gw2⟩ := gw
      cases ee
      exact k1 w gw1
    · rintro _ ⟨w, rfl, gw⟩
      obtain ⟨_, _, _, ee, _, gw1, gw2⟩ := gw
      cases ee
      exact k2 w gw2
  | and p q =>
    obtain ⟨a, vp, vq, rfl, hT, pp, pq⟩ := kid2 (hd : Dp K H v (.tuple [.str "and", p.data, q.data]))
    have hp : max p.ht q.ht + 1 ≤ n + 1 := hh
    obtain ⟨b0, e0, f0, rfl, hb0, hg0, hh0⟩ := id hgd
    obtain ⟨ad, xd, rfl, hTd, hAd⟩ := hdd.tupI
    obtain ⟨w0, q0, rfl, g0, hAd⟩ := hAd.consI
    obtain ⟨w1, q1, rfl, g1, hAd⟩ := hAd.consI
    obtain ⟨w2, q2, rfl, g2, hAd⟩ := hAd.consI
    refine ⟨.ref a, rfl, a, _, 0, _, rfl, rfl, hT, atI_nat (j := 0) rfl, _, rfl, rfl, _, rfl, ite_no (by decide +kernel) ⟨_, rfl, rfl, _, rfl, ite_no (by decide +kernel) ⟨_, rfl, rfl, _, rfl, ite_no (by decide +kernel) ?_⟩⟩⟩
    refine ⟨.ref a, rfl, a, _, 1, vp, rfl, rfl, hT, atI_nat (j := 1) rfl, .ref ad, rfl, ad, _, 1, w1, rfl, rfl, hTd, atI_nat (j := 1) rfl, _, rfl, vp, p, w1, e0, y, u, rfl, pp, by omega, by omega, g1, hg0, hul, fun H1 v1 d1 s1 k1 p1 => ?_⟩
    refine ⟨_, rfl, rfl, _, rfl, ite_no (by decide +kernel) ⟨_, rfl, rfl, _, rfl, ite_no (by decide +kernel) ?_⟩⟩
    refine ⟨.ref a, rfl, v1, rfl, .ref a, rfl, a, _, 2, vq, rfl, rfl, s1.tup hT, atI_nat (j := 2) rfl, .ref ad, rfl, ad, _, 2, w2, rfl, rfl, s1.tup hTd, atI_nat (j := 2) rfl, _, rfl, vq, q, w2, f0, y, u, rfl, pq.mono s1, by omega, by omega, g2.mono s1, hh0, hul, fun H2 v2 d2 s2 k2 p2 => ?_⟩
    refine ⟨.ref a, p, q, v1, d1, v2, d2, (fun x => ∃ w, x = w ++ [y] ∧ Good (.and p q) w (.tuple [.bool b0, e0, f0])), u ++ [y], rfl, ⟨u, rfl, hgd⟩, p1.mono s2, ?_, p2, ?_, .inr ⟨hd.mono (s1.trans s2), fun H' v' d' s' g' p' => k _ _ _ (s1.trans (s2.trans s')) (fun w gw => g' _ ⟨w, rfl, gw⟩) p'⟩⟩
    · rintro _ ⟨w, rfl, gw⟩
      obtain ⟨_, _, _, ee, _, gw1, gw2⟩ := gw
      cases ee
      exact k1 w gw1
    · rintro _ ⟨w, rfl, gw⟩
      obtain ⟨_, _, _, ee, _, gw1, gw2⟩ := gw
      cases ee
      exact k2 w gw2
theorem all_advanced (Da : Df K mg "advanced" s_advanced ["tree", "state", "symbol"]) (Ds : Df K mg "started" s_started ["tree"]) (D1 : Df K mg "state_of_star" s_state_of_star ["tree", "rests", "whole"]) (D2 : Df K mg "state_of_then" s_state_of_then ["tree", "first", "rests"]) (D3 : Df K mg "state_of_two" s_state_of_two ["tree", "first", "second"])
    (z_any : mg "any" = none) (z_tuple : mg "tuple" = none) (c_distinct : C8.Cal P w K mg base 1 "distinct" (spDistinct K) []) (c_belongs : C8.Cal P w K mg base 1 "belongs" (spBelongs K) []) : ∀ n, C8.Cal P w K mg base (2 * n + 4) "advanced" (spAdvanced K n) []
  | 0 => Da.none (fun vs H Q E h => by
      obtain ⟨v, t, _, _, _, _, _, _, h, _⟩ := h
      have := ht_pos t
      omega) _
  | n + 1 => by
    have c := all_started (P := P) (w := w) (base := base) Ds D1 D2 D3 z_any z_tuple c_distinct n
    exact ok_advanced Da z_any c_distinct c_belongs (ok_state_of_star D1 z_tuple c_distinct c) (ok_state_of_then D2 z_any z_tuple c_distinct c) (ok_state_of_two D3) (all_advanced Da Ds D1 D2 D3 z_any z_tuple c_distinct c_belongs n)
end
end K29
namespace K29
open PySem PySem.Spec PyProof.Rows L2 SX
theorem range_snoc {α : Type} (f : Nat → α) (n : Nat) : (List.range (n + 1)).map f = (List.range n).map f ++ [f n] := by
  rw [List.range_succ, List.map_append]
  rfl
theorem range_at {α : Type} {f : Nat → α} {n i : Nat} (h : i < n) : ((List.range n).map f)[i]? = some (f i) := by
  rw [List.getElem?_map, List.getElem?_range h]
  rfl
theorem range_rev {α : Type} (f : Nat → α) (n : Nat) : ((List.range (n + 1)).map f).reverse = (List.range (n + 1)).map fun j => f (n - j) := by
  refine List.ext_getElem (by simp) fun i h1 h2 => ?_
  simp only [List.length_reverse, List.length_map, List.length_range] at h1
  rw [List.getElem_reverse]
  simp only [List.getElem_map, List.getElem_range, List.length_map, List.length_range]
  congr 1
theorem range_congr {α : Type} {f g : Nat → α} {n : Nat} (h : ∀ i, i < n → f i = g i) : (List.range n).map f = (List.range n).map g :=
  List.map_congr_left fun i hi => h i (List.mem_range.mp hi)
section
variable {P : Program} {w : World} {K : PySem.W.Frag} {mg : Str → Option Value} {base : Heap}
abbrev s_beginnings : Stmt := topS 11
theorem sc_beginnings : FnScope ["tree", "sequence", "state", "found", "symbol"] ["tree", "sequence"] (defScope s_beginnings) := ⟨rfl, rfl, rfl, by decide +kernel, rfl, by decide +kernel, by decide +kernel⟩
noncomputable def headsV (t : Tree) (w : List Sym) : List V := (List.range (w.length + 1)).map fun i => .bl (mt t (w.take i))
noncomputable def tailsV (t : Tree) (w : List Sym) : List V := (List.range (w.length + 1)).map fun i => .bl (mt t (w.drop i))
def spBeginnings (K : PySem.W.Frag) : Sp := fun vs H Q _ => ∃ v t u w, vs = [v, u] ∧ Dp K H v (Tree.data t) ∧ t.ht ≤ 4 ∧ Dp K H u (seqD w) ∧ w.length ≤ 800 ∧ ∀ (H' : Hp) (b : Addr), Same H H' → H' b = some (.lst (headsV t w)) → Q (.ref b) H'
theorem ok_beginnings (D : Df K mg "beginnings" s_beginnings ["tree", "sequence"]) (c_started : C8.Cal P w K mg base 10 "started" (spStarted K 4) []) (c_advanced : C8.Cal P w K mg base 12 "advanced" (spAdvanced K 4) []) : C8.Cal P w K mg base 13 "beginnings" (spBeginnings K) [] := by
  refine D.cal sc_beginnings (fun vs H Q E h => ?_) (fun f cdv A outer s H vs Q E hr h => ?_)
  · obtain ⟨_, _, _, _, rfl, _⟩ := h
    rfl
  obtain ⟨v, t, u, z, rfl, hd, hh, hs, hl, k⟩ := h
  refine ⟨_, (pss_cons (ps_set (i := 2) sc_beginnings.nd rfl (by first | exact .inl rfl | exact .inr rfl) (C8.pe_c c_started hr (by omega) (by rfl) (pa_cons (pv 0) pa_nil)))
     (pss_cons (ps_set (i := 3) sc_beginnings.nd rfl (by first | exact .inl rfl | exact .inr rfl) (pe_lst (pa_cons (pe_ix ix_tup (pv 2) pe_int (fun _ _ => rfl)) pa_nil)))
     (pss_cons (ps_for PassesOwn.never rfl (pi_tup (pv 1)) (pg_name (i := 4) sc_beginnings.nd rfl (by first | exact .inl rfl | exact .inr rfl))
     (pss_cons (ps_set (i := 2) sc_beginnings.nd rfl (by first | exact .inl rfl | exact .inr rfl) (C8.pe_c c_advanced hr (by omega) (by rfl) (pa_cons (pv 0) (pa_cons (pv 2) (pa_cons (pv 4) pa_nil)))))
     (pss_one (ps_expr (pe_bm PySem.F.plainAttrs_list PySem.F.slot_list_append PySem.F.type_list_append mt_append (pv 3) (pa_cons (pe_ix ix_tup (pv 2) pe_int (fun _ _ => rfl)) pa_nil))))))
     (pss_one (ps_ret (pv 3)))))), ?_⟩
  obtain ⟨a, rfl, hT⟩ := seqI hs
  refine ⟨v, rfl, v, t, rfl, hd, hh, Nat.le_refl _, fun H1 v1 d1 s1 g1 p1 => ?_⟩
  obtain ⟨a1, r1, rfl, hT1⟩ := stateI p1 g1
  refine ⟨_, rfl, a1, _, 0, _, rfl, rfl, hT1, atI_nat (j := 0) rfl, (by decide : 1 ≤ sizeLine), fun o no => ?_⟩
  have no' : H o = none := s1.free no
  refine ⟨.ref a, rfl, a, rfl, ⟨_, (s1.trans (Same.new no)).tup hT⟩, for_src (Src.tup a (z.map symV))
    (fun i σ H' => ∃ v2 d y, σ = [some v, some (.ref a), some v2, some (.ref o), y] ∧ Same H H' ∧ Good t (z.take i) d ∧ Dp K H' v2 d ∧ H' o = some (.lst ((List.range (i + 1)).map fun j => .bl (mt t (z.take j)))))
    ⟨_, d1, _, rfl, s1.trans (Same.new no), g1, p1.mono (Same.new no), ?_⟩ (fun i σ H' _ h => by obtain ⟨_, _, _, _, h, _⟩ := h; exact h.tup hT) (fun i x σ H1' H2 hi hP s2 hy => ?_) fun σ H' hP => ?_⟩
  · rw [upd_same, mt_of (headB_iff g1)]
    rfl
  · obtain ⟨v2, d, y, rfl, S1, g, p, eo⟩ := hP
    have S2 := S1.trans s2
    rw [List.getElem?_map] at hy
    obtain ⟨sy, hsy, rfl⟩ := Option.map_eq_some_iff.mp hy
    have hi' : i < z.length := by simpa using hi
    have eo2 := s2 _ _ eo
    have htk : z.take (i + 1) = z.take i ++ [sy] := by rw [List.take_add_one, hsy]; rfl
    refine ⟨v, rfl, v2, rfl, _, rfl, v, t, v2, d, sy, z.take i, rfl, hd.mono S2, hh, Nat.le_refl _, p.mono s2, g, (by rw [List.length_take]; omega), fun H3 v3 d3 s3 g3 p3 => ?_⟩
    have g3' := g3 _ g
    rw [← htk] at g3'
    obtain ⟨a3, r3, rfl, hT3⟩ := stateI p3 g3'
    have eo3 := s3 _ _ eo2
    refine ⟨.ref o, rfl, .inl ⟨rfl, _, SqL.of eo3⟩, _, rfl, a3, _, 0, _, rfl, rfl, hT3, atI_nat (j := 0) rfl, o, _, _, rfl, rfl, eo3, line200 (by rw [List.length_map, List.length_range]; omega), _, d3, _, rfl, fun b q e => ?_, g3', ?_, ?_⟩
    · rw [upd_ne (ne_of_none e no')]
      exact s3 _ _ (S2 _ _ e)
    · exact Dp.tups (Tups.upd eo3) p3 (nl_good g3')
    · rw [upd_same, mt_of (headB_iff g3')]
      exact congrArg (fun l => some (HO.lst l)) (range_snoc (fun j => V.bl (mt t (z.take j))) (i + 1)).symm
  · obtain ⟨v2, d, y, rfl, S1, g, p, eo⟩ := hP
    refine ⟨.ref o, rfl, k H' o S1 ?_⟩
    rw [List.length_map] at eo
    exact eo
abbrev s_endings : Stmt := topS 12
theorem sc_endings : FnScope ["tree", "sequence"] ["tree", "sequence"] (defScope s_endings) := ⟨rfl, rfl, rfl, by decide +kernel, rfl, by decide +kernel, by decide +kernel⟩
def spEndings (K : PySem.W.Frag) : Sp := fun vs H Q _ => ∃ v t u w, vs = [v, u] ∧ Dp K H v (Tree.data t) ∧ t.ht ≤ 4 ∧ Dp K H u (seqD w) ∧ w.length ≤ 800 ∧ ∀ (H' : Hp) (b : Addr), Same H H' → H' b = some (.lst (tailsV t w)) → Q (.ref b) H'
theorem ok_endings (D : Df K mg "endings" s_endings ["tree", "sequence"]) (c_mirrored : C8.Cal P w K mg base 5 "mirrored" (spMirrored K 4) []) (c_beginnings : C8.Cal P w K mg base 13 "beginnings" (spBeginnings K) []) : C8.Cal P w K mg base 14 "endings" (spEndings K) [] := by
  refine D.cal sc_endings (fun vs H Q E h => ?_) (fun f cdv A outer s H vs Q E hr h => ?_)
  · obtain ⟨_, _, _, _, rfl, _⟩ := h
    rfl
  obtain ⟨v, t, u, z, rfl, hd, hh, hs, hl, k⟩ := h
  refine ⟨_, (pss_one (ps_ret (pe_revL (C8.pe_c c_beginnings hr (by omega) (by rfl) (pa_cons (C8.pe_c c_mirrored hr (by omega) (by rfl) (pa_cons (pv 0) pa_nil)) (pa_cons (pe_revT (pv 1)) pa_nil)))))), ?_⟩
  obtain ⟨a, rfl, hT⟩ := seqI hs
  refine ⟨v, rfl, v, t, rfl, hd, hh, fun H1 v1 d1 s1 e1 p1 => ?_⟩
  subst e1
  refine ⟨.ref a, rfl, a, _, rfl, s1.tup hT, fun p hp => ?_⟩
  refine ⟨v1, mir t, .ref p, z.reverse, rfl, p1.mono (Same.new hp), (by rw [mir_ht]; exact hh), ?_, (by rw [List.length_reverse]; exact hl), fun H2 b s2 eb => ?_⟩
  · rw [← List.map_reverse]
    exact Dp.tupN hp (of_syms _)
  · refine ⟨b, _, rfl, SqL.of eb, fun q hq => k _ q ((s1.trans (Same.new hp)).trans (s2.trans (Same.new hq))) ?_⟩
    rw [upd_same]
    unfold headsV tailsV
    rw [range_rev, List.length_reverse]
    refine congrArg (fun l => some (HO.lst l)) (range_congr fun j hj => ?_)
    rw [mt_ends (by omega)]
abbrev s_rule_output : Stmt := topS 15
theorem sc_rule_output : FnScope ["rule", "symbol", "char"] ["rule", "symbol"] (defScope s_rule_output) := ⟨rfl, rfl, rfl, by decide +kernel, rfl, by decide +kernel, by decide +kernel⟩
def spRuleOutput (K : PySem.W.Frag) : Sp := fun vs H Q _ => ∃ v r s, vs = [v, symV s] ∧ Dp K H v (ruleD r) ∧ r.out.length ≤ 3 ∧ Ret K H Q (· = .tuple ((outSyms r.out s).map symD))
theorem lit1 {s : String} {c : Nat} (h : (s : Str) = S [c]) : (s : Str) = S [c] := h
theorem dollar : ("$" : Str) = S [36] := by decide +kernel
theorem editor : ("@" : Str) = S [64] := by decide +kernel
/-- a rule in the heap -/
theorem ruleI {H : Hp} {v : V} {r : Rule} (h : Dp K H v (ruleD r)) : ∃ a vb vt va, v = .ref a ∧ SqT K H a [vb, vt, va, .str (S r.out)] ∧ Dp K H vb r.before.data ∧ Dp K H vt (Tree.cls r.neg r.hs r.ls).data ∧ Dp K H va r.after.data := by
  obtain ⟨a, xs, rfl, h1, h2⟩ := Dp.tupI h
  obtain ⟨v0, r0, rfl, h3, h2⟩ := h2.consI
  obtain ⟨v1, r1, rfl, h4, h2⟩ := h2.consI
  obtain ⟨v2, r2, rfl, h5, h2⟩ := h2.consI
  obtain ⟨v3, r3, rfl, h6, h2⟩ := h2.consI
  obtain rfl := h2.nilI
  rw [h6.strI] at h1
  exact ⟨a, v0, v1, v2, rfl, h1, h3, h4, h5⟩
theorem ok_rule_output {tk : Tok} (D : Df K mg "rule_output" s_rule_output ["rule", "symbol"]) (z_tuple : mg "tuple" = none) (m_EDITOR : mg "EDITOR" = some (.str "@" tk)) : C8.Cal P w K mg base 1 "rule_output" (spRuleOutput K) [] := by
  refine D.cal sc_rule_output (fun vs H Q E h => ?_) (fun f cdv A outer s H vs Q E hr h => ?_)
  · obtain ⟨_, _, _, rfl, _⟩ := h
    rfl
  obtain ⟨v, r, y, rfl, hd, hl, k⟩ := h
  refine ⟨_, (pss_one (ps_ret (pe_callTy call_tuple_of (by rfl) z_tuple (by decide +kernel) (pa_cons (pe_lc (own := [("char", 2)]) rfl sc_rule_output.nd (pi_str (pe_ix ix_tup (pv 0) pe_int (fun _ _ => rfl))) (blkOk_by (by with_unfolding_all rfl)) (fun _ _ _ _ _ => (pg_name (i := 2) sc_rule_output.nd rfl (by first | exact .inl rfl | exact .inr rfl))) (fun _ _ _ _ _ => pts_nil) (fun _ _ _ _ _ => (pe_ifExp (pt_cmpR op_eq (pv 2) pe_str (nomark _)) (pv 1) (pe_op op_add_str (pe_glob (v := .str "@") (by rfl) m_EDITOR ⟨_, rfl⟩) (pv 2))))) pa_nil)))), ?_⟩
  obtain ⟨a, vb, vt, va, rfl, hT, _, _, _⟩ := ruleI hd
  refine ⟨.ref a, rfl, a, _, 3, _, rfl, rfl, hT, atI_nat (j := 3) rfl, S r.out, rfl, fun D1 hD1 => lc_src (K := K) (Src.str r.out) (fun _ _ => trivial) hD1 (by omega) (fun i d => ∃ c, r.out[i]? = some c ∧ d = symD (if c = 36 then y else (64, c))) (fun i x H2 acc Q' hi s2 e2 hy el => ?_) fun H2 ys es s2 e2 hl2 hF hE => ?_⟩
  · obtain ⟨c, hc, rfl⟩ := hy
    refine ⟨rfl, _, rfl, rfl, _, rfl, ite2 (fun q => ?_) (fun q => ?_)⟩
    · have q' := of_decide_eq_true q
      rw [dollar] at q'
      have q2 := S_inj (str_eq q')
      cases q2
      exact ⟨_, rfl, el H2 _ _ (Same.refl _) ⟨36, hc, rfl⟩ (.str _)⟩
    · have q' : c ≠ 36 := fun z => q (decide_eq_true (by rw [z, dollar]))
      refine ⟨_, rfl, _, _, rfl, rfl, ?_, el H2 _ _ (Same.refl _) ⟨c, hc, rfl⟩ ?_⟩
      · rw [editor, S_len, S_len]
        exact Nat.le_of_lt (line200 (by show 2 ≤ _; omega))
      · rw [if_neg q', editor, S_cat]
        exact .str _
  · have ee : es = (outSyms r.out y).map symD := by
      refine List.ext_getElem? fun i => ?_
      rcases Nat.lt_or_ge i es.length with q | q
      · obtain ⟨c, h1, h2⟩ := hF i _ (List.getElem?_eq_getElem q)
        rw [List.getElem?_eq_getElem q, h2, List.getElem?_map, outSyms, List.getElem?_map, h1]
        rfl
      · rw [List.getElem?_eq_none q, List.getElem?_eq_none (by rw [List.length_map, outSyms, List.length_map]; omega)]
    subst ee
    exact ⟨D1, ys, rfl, .inl ⟨SqL.of e2, fun p hp => k _ _ _ (s2.trans (Same.new hp)) rfl (Dp.tupN hp (DpAll.mono del_le hE))⟩⟩
abbrev s_symbols_of : Stmt := topS 18
theorem sc_symbols_of : FnScope ["excerpt_pairs", "symbol", "_"] ["excerpt_pairs"] (defScope s_symbols_of) := ⟨rfl, rfl, rfl, by decide +kernel, rfl, by decide +kernel, by decide +kernel⟩
def spSymbolsOf (K : PySem.W.Frag) : Sp := fun vs H Q _ => ∃ v ps, vs = [v] ∧ Dp K H v (pairsD ps) ∧ ps.length ≤ 800 ∧ Ret K H Q (· = seqD (ps.map (·.1)))
theorem pairI {H : Hp} {v : V} {p : Sym × Nat} (h : Dp K H v (pairD p)) : ∃ a, v = .ref a ∧ SqT K H a [symV p.1, .int p.2] := by
  obtain ⟨a, xs, rfl, h1, h2⟩ := Dp.tupI h
  obtain ⟨v0, r0, rfl, h3, h2⟩ := h2.consI
  obtain ⟨v1, r1, rfl, h4, h2⟩ := h2.consI
  obtain rfl := h2.nilI
  rw [h3.strI, h4.intI] at h1
  exact ⟨a, rfl, h1⟩
theorem ok_symbols_of (D : Df K mg "symbols_of" s_symbols_of ["excerpt_pairs"]) (z_tuple : mg "tuple" = none) : C8.Cal P w K mg base 1 "symbols_of" (spSymbolsOf K) [] := by
  refine D.cal sc_symbols_of (fun vs H Q E h => ?_) (fun f cdv A outer s H vs Q E hr h => ?_)
  · obtain ⟨_, _, rfl, _⟩ := h
    rfl
  obtain ⟨v, ps, rfl, hd, hl, k⟩ := h
  refine ⟨_, (pss_one (ps_ret (pe_callTy call_tuple_of (by rfl) z_tuple (by decide +kernel) (pa_cons (pe_lc (own := [("symbol", 1), ("_", 2)]) rfl sc_symbols_of.nd (pi_tup (pv 0)) (blkOk_by (by with_unfolding_all rfl)) (fun _ _ _ _ _ => (pg_tupK (K := K) (n := 2) rfl rfl (pgs_cons (pg_name (i := 1) sc_symbols_of.nd rfl (by first | exact .inl rfl | exact .inr rfl)) (pgs_cons (pg_name (i := 2) sc_symbols_of.nd rfl (by first | exact .inl rfl | exact .inr rfl)) pgs_nil)))) (fun _ _ _ _ _ => pts_nil) (fun _ _ _ _ _ => (pv 1))) pa_nil)))), ?_⟩
  obtain ⟨a, xs, rfl, hT, hA⟩ := Dp.tupI hd
  have lx := hA.len
  rw [List.length_map] at lx
  refine ⟨.ref a, rfl, a, rfl, ⟨_, hT⟩, fun D1 hD1 => lc_src (K := K) (Src.tup a xs) (fun H' s' => s'.tup hT) hD1 (by omega) (fun i d => ∃ p, ps[i]? = some p ∧ d = symD p.1) (fun i x H2 acc Q' hi s2 e2 hy el => ?_) fun H2 ys es s2 e2 hl2 hF hE => ?_⟩
  · obtain ⟨d, hd1, hp⟩ := hA.get hy
    rw [List.getElem?_map] at hd1
    obtain ⟨p, h1, rfl⟩ := Option.map_eq_some_iff.mp hd1
    obtain ⟨b, rfl, hTb⟩ := pairI (hp.mono s2)
    exact ⟨b, _, rfl, hTb, rfl, _, _, rfl, _, _, rfl, rfl, rfl, _, rfl, el H2 _ _ (Same.refl _) ⟨p, h1, rfl⟩ (.str _)⟩
  · have ee : es = (ps.map (·.1)).map symD := by
      refine List.ext_getElem? fun i => ?_
      rcases Nat.lt_or_ge i es.length with q | q
      · obtain ⟨c, h1, h2⟩ := hF i _ (List.getElem?_eq_getElem q)
        rw [List.getElem?_eq_getElem q, h2, List.getElem?_map, List.getElem?_map, h1]
        rfl
      · rw [List.getElem?_eq_none q, List.getElem?_eq_none (by rw [List.length_map, List.length_map]; omega)]
    subst ee
    exact ⟨D1, ys, rfl, .inl ⟨SqL.of e2, fun p hp => k _ _ _ (s2.trans (Same.new hp)) rfl (Dp.tupN hp (DpAll.mono del_le hE))⟩⟩
end
end K29
namespace K29
open PySem PySem.Spec PyProof.Rows L2 SX
theorem flat_rep {α : Type} (x : α) (n : Nat) : (List.replicate n [x]).flatten = (List.range n).map fun _ => x := by
  induction n with
  | zero => rfl
  | succ n ih => rw [range_snoc, ← ih, List.replicate_succ', List.flatten_append]; rfl
theorem set_range {α : Type} {f g : Nat → α} {n j : Nat} {x : α} (hx : g j = x) (h : ∀ k, k < n → k ≠ j → g k = f k) : ((List.range n).map f).set j x = (List.range n).map g := by
  refine List.ext_getElem (by simp) fun i h1 h2 => ?_
  simp only [List.length_map, List.length_range] at h2
  rw [List.getElem_set]
  simp only [List.getElem_map, List.getElem_range]
  split
  · rename_i e
    subst e
    exact hx.symm
  · rename_i e
    exact (h i h2 (Ne.symm e)).symm
noncomputable def fIx (pre : List Rule) (w : List Sym) (k : Nat) : Option Nat := pre.findIdx? fun r => fits r w k
noncomputable def midR (st : List Rule) (w : List Sym) (i j : Nat) : List (Option Nat) := (List.range w.length).map fun k => fIx (st.take (if k < j then i + 1 else i)) w k
theorem midR_0 (st : List Rule) (w : List Sym) (i : Nat) : midR st w i 0 = (List.range w.length).map fun k => fIx (st.take i) w k := by
  unfold midR
  refine range_congr fun k _ => ?_
  rw [if_neg (Nat.not_lt_zero k)]
theorem midR_n (st : List Rule) (w : List Sym) (i : Nat) : midR st w i w.length = (List.range w.length).map fun k => fIx (st.take (i + 1)) w k := by
  unfold midR
  refine range_congr fun k hk => ?_
  rw [if_pos hk]
theorem midR_at {st : List Rule} {w : List Sym} {i j : Nat} (h : j < w.length) : (midR st w i j)[j]? = some (fIx (st.take i) w j) := by
  unfold midR
  rw [range_at h, if_neg (Nat.lt_irrefl j)]
theorem midR_len (st : List Rule) (w : List Sym) (i j : Nat) : (midR st w i j).length = w.length := by
  unfold midR
  rw [List.length_map, List.length_range]
theorem midR_step {st : List Rule} {w : List Sym} {i j : Nat} {r : Rule} {o : Option Nat} (hj : j < w.length) (hr : st[i]? = some r) (ho : fIx (st.take (i + 1)) w j = o) : (midR st w i j).set j o = midR st w i (j + 1) := by
  unfold midR
  refine set_range ?_ fun k hk hne => ?_
  · rw [if_pos (Nat.lt_succ_self j)]
    exact ho
  · by_cases q : k < j
    · rw [if_pos q, if_pos (by omega)]
    · rw [if_neg q, if_neg (by omega)]
theorem midR_keep {st : List Rule} {w : List Sym} {i j : Nat} (hj : j < w.length) (ho : fIx (st.take (i + 1)) w j = fIx (st.take i) w j) : midR st w i j = midR st w i (j + 1) := by
  unfold midR
  refine range_congr fun k hk => ?_
  by_cases q : k < j
  · rw [if_pos q, if_pos (by omega)]
  · by_cases e : k = j
    · subst e
      rw [if_neg q, if_pos (by omega), ho]
    · rw [if_neg q, if_neg (by omega)]
theorem fIx_step {st : List Rule} {w : List Sym} {i j : Nat} {r : Rule} (hr : st[i]? = some r) : fIx (st.take (i + 1)) w j = match fIx (st.take i) w j with
    | some x => some x
    | none => if fits r w j = true then some i else none := findIdx_step hr
section
variable {P : Program} {w : World} {K : PySem.W.Frag} {mg : Str → Option Value} {base : Heap}
/-- heights and outputs -/
def ROk (r : Rule) : Prop := r.before.ht ≤ 4 ∧ r.after.ht ≤ 4 ∧ r.out.length ≤ 3
theorem stageI {H : Hp} {v : V} {st : List Rule} (h : Dp K H v (stageD st)) : ∃ a xs, v = .ref a ∧ SqT K H a xs ∧ DpAll K H xs (st.map ruleD) := Dp.tupI h
theorem optD_all {H : Hp} : ∀ l : List (Option Nat), DpAll K H (l.map optV) (l.map optD)
  | [] => .nil
  | none :: l => .cons .non (optD_all l)
  | some i :: l => .cons (.int _) (optD_all l)
abbrev s_rules_applied : Stmt := topS 16
theorem sc_rules_applied : FnScope ["stage", "sequence", "found", "number", "before", "target", "after", "_", "ahead", "behind", "at", "symbol"] ["stage", "sequence"] (defScope s_rules_applied) := ⟨rfl, rfl, rfl, by decide +kernel, rfl, by decide +kernel, by decide +kernel⟩
def spRulesApplied (K : PySem.W.Frag) : Sp := fun vs H Q _ => ∃ v st u w, vs = [v, u] ∧ Dp K H v (stageD st) ∧ (∀ r ∈ st, ROk r) ∧ st.length ≤ 3 ∧ Dp K H u (seqD w) ∧ w.length ≤ 800 ∧ Ret K H Q (· = .tuple ((applied st w).map optD))
set_option maxHeartbeats 1000000 in
theorem ok_rules_applied (D : Df K mg "rules_applied" s_rules_applied ["stage", "sequence"]) (z_len : mg "len" = none) (z_enumerate : mg "enumerate" = none) (z_tuple : mg "tuple" = none)
    (c_beginnings : C8.Cal P w K mg base 13 "beginnings" (spBeginnings K) []) (c_endings : C8.Cal P w K mg base 14 "endings" (spEndings K) []) (c_belongs : C8.Cal P w K mg base 1 "belongs" (spBelongs K) []) : C8.Cal P w K mg base 15 "rules_applied" (spRulesApplied K) [] := by
  refine D.cal sc_rules_applied (fun vs H Q E h => ?_) (fun f cdv A outer s H vs Q E hr h => ?_)
  · obtain ⟨_, _, _, _, rfl, _⟩ := h
    rfl
  obtain ⟨v, st, u, z, rfl, hd, hok, hst, hs, hl, k⟩ := h
  refine ⟨_, (pss_cons (ps_set (i := 2) sc_rules_applied.nd rfl (by first | exact .inl rfl | exact .inr rfl) (pe_op op_rep (pe_lst (pa_cons pe_non pa_nil)) (pe_callB call_len_seq (by rfl) z_len (by decide +kernel) (pa_cons (pv 1) pa_nil))))
     (pss_cons (ps_for PassesOwn.never rfl (pi_enumT (by rfl) z_enumerate (pa_cons (pv 0) pa_nil)) (pg_tup rfl (pgs_cons (pg_name (i := 3) sc_rules_applied.nd rfl (by first | exact .inl rfl | exact .inr rfl)) (pgs_cons (pg_tup rfl (pgs_cons (pg_name (i := 4) sc_rules_applied.nd rfl (by first | exact .inl rfl | exact .inr rfl)) (pgs_cons (pg_name (i := 5) sc_rules_applied.nd rfl (by first | exact .inl rfl | exact .inr rfl)) (pgs_cons (pg_name (i := 6) sc_rules_applied.nd rfl (by first | exact .inl rfl | exact .inr rfl)) (pgs_cons (pg_name (i := 7) sc_rules_applied.nd rfl (by first | exact .inl rfl | exact .inr rfl)) pgs_nil))))) pgs_nil)))
     (pss_cons (ps_set (i := 8) sc_rules_applied.nd rfl (by first | exact .inl rfl | exact .inr rfl) (C8.pe_c c_beginnings hr (by omega) (by rfl) (pa_cons (pv 4) (pa_cons (pv 1) pa_nil))))
     (pss_cons (ps_set (i := 9) sc_rules_applied.nd rfl (by first | exact .inl rfl | exact .inr rfl) (C8.pe_c c_endings hr (by omega) (by rfl) (pa_cons (pv 6) (pa_cons (pv 1) pa_nil))))
     (pss_one (ps_for PassesOwn.never rfl (pi_enumT (by rfl) z_enumerate (pa_cons (pv 1) pa_nil)) (pg_tup rfl (pgs_cons (pg_name (i := 10) sc_rules_applied.nd rfl (by first | exact .inl rfl | exact .inr rfl)) (pgs_cons (pg_name (i := 11) sc_rules_applied.nd rfl (by first | exact .inl rfl | exact .inr rfl)) pgs_nil)))
     (pss_one (ps_if (PW.pt (pw_and (pt_cmpR op_isN (pe_ix ix_list (pv 2) (pv 10) (fun _ _ => rfl)) pe_non (nomark _)) (pw_and (pt_val (pe_ix ix_list (pv 8) (pv 10) (fun _ _ => rfl))) (pw_and (pt_val (pe_ix ix_list (pv 9) (pe_op op_add (pv 10) pe_int) (fun _ _ => rfl))) (pw_and1 (pt_val (C8.pe_c c_belongs hr (by omega) (by rfl) (pa_cons (pv 11) (pa_cons (pv 5) pa_nil)))))))))
     (pss_one (ps_asg (pv 3) (pg_sub (pv 2) (pv 10) set_list)))
     pss_nil)))))))
     (pss_one (ps_ret (pe_callTy call_tuple_of (by rfl) z_tuple (by decide +kernel) (pa_cons (pv 2) pa_nil)))))), ?_⟩
  obtain ⟨a, rfl, hT⟩ := seqI hs
  obtain ⟨b, xs, rfl, hTb, hA⟩ := stageI hd
  have lx := hA.len
  rw [List.length_map] at lx
  -- found = [None] * len(sequence)
  refine ⟨(by decide : 1 ≤ sizeLine), fun o1 no1 => ⟨.ref a, rfl, a, _, rfl, .inr ((Same.new no1).tup hT), o1, _, _, rfl, rfl, upd_same, ?_, ?_, ?_, fun o no => ?_⟩⟩
  · rw [List.length_map]; omega
  · rw [List.length_map]; omega
  · rw [List.length_map, List.length_singleton, Int.toNat_natCast]
    exact Nat.le_of_lt (line200 (by omega))
  have S0 : Same H (upd (upd H o1 (.lst [V.non])) o (.lst (List.replicate ((z.map symV).length : Int).toNat [V.non]).flatten)) := (Same.new no1).trans (Same.new no)
  have noH : H o = none := (Same.new no1).free no
  refine ⟨.ref b, rfl, b, xs, rfl, S0.tup hTb, for_src (Src.enumT b xs)
    (fun i σ H' => ∃ y3 y4 y5 y6 y7 y8 y9 y10 y11, σ = [some (.ref b), some (.ref a), some (.ref o), y3, y4, y5, y6, y7, y8, y9, y10, y11] ∧ Same H H' ∧ H' o = some (.lst (((List.range z.length).map fun k => fIx (st.take i) z k).map optV)))
    ⟨_, _, _, _, _, _, _, _, _, rfl, S0, ?_⟩ (fun i σ H' _ h => by obtain ⟨_, _, _, _, _, _, _, _, _, _, h, _⟩ := h; exact h.tup hTb) (fun i x σ H1 H2 hi hP s2 hy => ?_) fun σ H' hP => ?_⟩
  · rw [upd_same, Int.toNat_natCast, flat_rep, List.length_map, List.map_map]
    rfl
  · obtain ⟨y3, y4, y5, y6, y7, y8, y9, y10, y11, rfl, S1, eo⟩ := hP
    obtain ⟨T, vr, rfl, hx, eT⟩ := hy
    have S2 := S1.trans s2
    have eo2 := s2 _ _ eo
    obtain ⟨dr, hdr, pr⟩ := hA.get hx
    rw [List.getElem?_map] at hdr
    obtain ⟨r, hr1, rfl⟩ := Option.map_eq_some_iff.mp hdr
    obtain ⟨rb, ra, ro⟩ := hok r (List.mem_of_getElem? hr1)
    obtain ⟨ar, vb, vt, va, rfl, hTr, pb, pt, pa⟩ := ruleI (pr.mono S2)
    refine ⟨T, _, rfl, .of eT, rfl, _, _, rfl, _, _, rfl, ar, _, rfl, hTr, rfl, _, _, rfl, _, _, rfl, _, _, rfl, _, _, rfl, rfl, rfl, ?_⟩
    -- ahead, behind
    refine ⟨vb, rfl, .ref a, rfl, vb, r.before, .ref a, z, rfl, pb, rb, hs.mono S2, hl, fun H3 ah s3 e3 => ?_⟩
    refine ⟨va, rfl, .ref a, rfl, va, r.after, .ref a, z, rfl, pa.mono s3, ra, hs.mono (S2.trans s3), hl, fun H4 be s4 e4 => ?_⟩
    have S4 := S2.trans (s3.trans s4)
    have eo4 := s4 _ _ (s3 _ _ eo2)
    rw [← midR_0] at eo4
    -- the inner loop: what it leaves
    refine ⟨.ref a, rfl, a, _, rfl, S4.tup hT, for_src (Src.enumT a (z.map symV))
      (fun j σ H' => ∃ z7 z10 z11, σ = [some (.ref b), some (.ref a), some (.ref o), some (.int (i : Nat)), some vb, some vt, some va, z7, some (.ref ah), some (.ref be), z10, z11] ∧ Same H H' ∧ H' o = some (.lst ((midR st z i j).map optV)) ∧ H' ah = some (.lst (headsV r.before z)) ∧ H' be = some (.lst (tailsV r.after z)) ∧ Dp K H' vt (Tree.cls r.neg r.hs r.ls).data)
      ⟨_, _, _, rfl, S4, eo4, s4 _ _ e3, e4, pt.mono (s3.trans s4)⟩ (fun j σ H' _ h => by obtain ⟨_, _, _, _, h, _⟩ := h; exact h.tup hT) (fun j x σ H5 H6 hj hP s6 hy => ?_) fun σ H' hP => ?_⟩
    · obtain ⟨z7, z10, z11, rfl, S5, fo, fa, fb, pt5⟩ := hP
      obtain ⟨T2, vs2, rfl, hx2, eT2⟩ := hy
      rw [List.getElem?_map] at hx2
      obtain ⟨sy, hsy, rfl⟩ := Option.map_eq_some_iff.mp hx2
      have S6 := S5.trans s6
      have fo6 := s6 _ _ fo
      have fa6 := s6 _ _ fa
      have fb6 := s6 _ _ fb
      have pt6 := pt5.mono s6
      have hj' : j < z.length := by simpa using hj
      have gsy : z.getD j sym0 = sy := by
        rw [getD_get _ _ _ hj']
        rw [List.getElem?_eq_getElem hj'] at hsy
        exact Option.some.inj hsy
      have at1 : atI ((midR st z i j).map optV) ((j : Nat) : Int) = some (optV (fIx (st.take i) z j)) := atI_nat (by rw [List.getElem?_map, midR_at hj']; rfl)
      have at2 : atI (headsV r.before z) ((j : Nat) : Int) = some (.bl (mt r.before (z.take j))) := atI_nat (range_at (by omega))
      have at3 : atI (tailsV r.after z) ((j : Nat) + 1 : Int) = some (.bl (mt r.after (z.drop (j + 1)))) := by
        have := atI_nat (range_at (f := fun i => V.bl (mt r.after (z.drop i))) (n := z.length + 1) (i := j + 1) (by omega))
        exact this
      refine ⟨T2, _, rfl, .of eT2, rfl, _, _, rfl, _, _, rfl, rfl, ?_⟩
      -- found[at] is None
      refine ⟨.ref o, rfl, _, rfl, o, _, _, _, rfl, rfl, SqL.of fo6, at1, rfl, _, rfl, ?_⟩
      have skip : fIx (st.take (i + 1)) z j = fIx (st.take i) z j → ∃ z7' z10' z11', ([some (.ref b), some (.ref a), some (.ref o), some (.int (i : Nat)), some vb, some vt, some va, z7, some (.ref ah), some (.ref be), some (.int (j : Nat)), some (symV sy)] : L2.St) = [some (.ref b), some (.ref a), some (.ref o), some (.int (i : Nat)), some vb, some vt, some va, z7', some (.ref ah), some (.ref be), z10', z11'] ∧ Same H H6 ∧ H6 o = some (.lst ((midR st z i (j + 1)).map optV)) ∧ H6 ah = some (.lst (headsV r.before z)) ∧ H6 be = some (.lst (tailsV r.after z)) ∧ Dp K H6 vt (Tree.cls r.neg r.hs r.ls).data :=
        fun q => ⟨_, _, _, rfl, S6, by rw [← midR_keep hj' q]; exact fo6, fa6, fb6, pt6⟩
      cases e0 : fIx (st.take i) z j with
      | some x0 =>
        have q : fIx (st.take (i + 1)) z j = fIx (st.take i) z j := by rw [fIx_step hr1, e0]
        exact iteF (iteF (skip q))
      | none =>
        have q : fits r z j = false → fIx (st.take (i + 1)) z j = fIx (st.take i) z j := fun q => by rw [fIx_step hr1, e0, q]; rfl
        refine iteT ⟨.ref ah, rfl, _, rfl, ah, _, _, _, rfl, rfl, SqL.of fa6, at2, _, rfl, ?_⟩
        cases e1 : mt r.before (z.take j) with
        | false => exact iteF (iteF (skip (q (by rw [fits, e1]; rfl))))
        | true =>
          refine iteT ⟨.ref be, rfl, _, rfl, _, _, rfl, rfl, be, _, _, _, rfl, rfl, SqL.of fb6, at3, _, rfl, ?_⟩
          cases e2 : mt r.after (z.drop (j + 1)) with
          | false => exact iteF (iteF (skip (q (by rw [fits, e1, e2]; rfl))))
          | true =>
            refine iteT ⟨_, rfl, vt, rfl, vt, sy, r.neg, r.hs, r.ls, rfl, pt6, _, rfl, ?_⟩
            cases e3 : bel sy r.neg r.hs r.ls with
            | false => exact iteF (skip (q (by rw [fits, e1, e2, gsy, e3]; rfl)))
            | true =>
              have fo' : fIx (st.take (i + 1)) z j = some i := by
                have : fits r z j = true := by rw [fits, e1, e2, gsy, e3]; rfl
                rw [fIx_step hr1, e0, this]
                rfl
              refine iteT ⟨_, rfl, .ref o, rfl, _, rfl, o, _, _, j, rfl, rfl, fo6, ?_, ?_⟩
              · unfold ixN
                rw [if_pos (by omega), if_pos (by rw [List.length_map, midR_len]; omega), Int.toNat_natCast]
              · have el : ((midR st z i j).map optV).set j (.int (i : Nat)) = (midR st z i (j + 1)).map optV := by
                  rw [← midR_step hj' hr1 fo', List.map_set]
                  rfl
                rw [el]
                have na : ah ≠ o := by
                  rintro rfl
                  rw [fo6] at fa6
                  have := congrArg (fun x => match x with | some (HO.lst (V.bl _ :: _)) => true | _ => false) fa6
                  simp only [midR, headsV] at this
                  rw [List.range_succ_eq_map] at this
                  cases z with
                  | nil => simp at hj'
                  | cons z0 z1 =>
                    rw [List.length_cons, List.range_succ_eq_map, List.map_cons, List.map_cons, List.map_cons] at this
                    cases h0 : fIx (List.take (if 0 < j then i + 1 else i) st) (z0 :: z1) 0 <;> rw [h0] at this <;> simp [optV] at this
                have nb : be ≠ o := by
                  rintro rfl
                  rw [fo6] at fb6
                  have := congrArg (fun x => match x with | some (HO.lst (V.bl _ :: _)) => true | _ => false) fb6
                  simp only [midR, tailsV] at this
                  rw [List.range_succ_eq_map] at this
                  cases z with
                  | nil => simp at hj'
                  | cons z0 z1 =>
                    rw [List.length_cons, List.range_succ_eq_map, List.map_cons, List.map_cons, List.map_cons] at this
                    cases h0 : fIx (List.take (if 0 < j then i + 1 else i) st) (z0 :: z1) 0 <;> rw [h0] at this <;> simp [optV] at this
                refine ⟨_, _, _, rfl, fun c q e => ?_, upd_same, ?_, ?_, Dp.tups (Tups.upd fo6) pt6 (nl_tree _)⟩
                · rw [upd_ne (ne_of_none e noH)]
                  exact S6 _ _ e
                · rw [upd_ne na]; exact fa6
                · rw [upd_ne nb]; exact fb6
    · obtain ⟨z7, z10, z11, rfl, S5, fo, _⟩ := hP
      rw [List.length_map, midR_n] at fo
      exact ⟨_, _, _, _, _, _, _, _, _, rfl, S5, fo⟩
  · obtain ⟨y3, y4, y5, y6, y7, y8, y9, y10, y11, rfl, S1, eo⟩ := hP
    rw [lx, List.take_length] at eo
    refine ⟨.ref o, rfl, o, _, rfl, .inl ⟨SqL.of eo, fun p hp => k _ _ _ (S1.trans (Same.new hp)) rfl (Dp.tupN hp ?_)⟩⟩
    exact optD_all _
end
end K29
namespace K29
open PySem PySem.Spec PyProof.Rows L2 SX
theorem flat_range (f : Nat → List (Sym × Nat)) (n : Nat) : (List.range (n + 1)).flatMap f = (List.range n).flatMap f ++ f n := by
  rw [List.range_succ, List.flatMap_append]
  simp
theorem take_snoc {α : Type} {xs : List α} {i : Nat} {x : α} (h : xs[i]? = some x) : xs.take (i + 1) = xs.take i ++ [x] := by
  rw [List.take_add_one, h]
  rfl
noncomputable def seqAt (pl : List (List Rule)) (w : List Sym) : List Sym := pl.foldl (fun w st => (putOut st w).map (·.1)) w
theorem trc_snoc (st : List Rule) : ∀ (pl : List (List Rule)) (w : List Sym), trc (pl ++ [st]) w = trc pl w ++ [applied st (seqAt pl w)]
  | [], w => rfl
  | s :: pl, w => by
    show applied s w :: trc (pl ++ [st]) _ = applied s w :: (trc pl _ ++ _)
    rw [trc_snoc st pl]
    rfl
theorem seqAt_snoc (st : List Rule) (pl : List (List Rule)) (w : List Sym) : seqAt (pl ++ [st]) w = (putOut st (seqAt pl w)).map (·.1) := by
  unfold seqAt
  rw [List.foldl_append]
  rfl
theorem exc_snoc (st : List Rule) (pl : List (List Rule)) (ps : List (Sym × Nat)) : excFrom (pl ++ [st]) ps = stageStep st (excFrom pl ps) := by
  unfold excFrom
  rw [List.foldl_append]
  rfl
def rowD (l : List (Option Nat)) : PyData := .tuple (l.map optD)
def traceD (ls : List (List (Option Nat))) : PyData := .tuple (ls.map rowD)
theorem nl_row (l : List (Option Nat)) : nl (rowD l) = true := nlAll_map nl_opt l
section
variable {P : Program} {w : World} {K : PySem.W.Frag} {mg : Str → Option Value} {base : Heap}
abbrev s_stage_output : Stmt := topS 17
theorem sc_stage_output : FnScope ["stage", "sequence", "found", "origin", "number", "symbol"] ["stage", "sequence"] (defScope s_stage_output) := ⟨rfl, rfl, rfl, by decide +kernel, rfl, by decide +kernel, by decide +kernel⟩
def spStageOutput (K : PySem.W.Frag) : Sp := fun vs H Q _ => ∃ v st u w, vs = [v, u] ∧ Dp K H v (stageD st) ∧ (∀ r ∈ st, ROk r) ∧ st.length ≤ 3 ∧ Dp K H u (seqD w) ∧ w.length ≤ 800 ∧ Ret K H Q (· = pairsD (putOut st w))
theorem stOk_of {st : List Rule} (h : ∀ r ∈ st, ROk r) : StOk st := fun r hr => (h r hr).2.2
theorem ok_stage_output (D : Df K mg "stage_output" s_stage_output ["stage", "sequence"]) (z_enumerate : mg "enumerate" = none) (z_tuple : mg "tuple" = none)
    (c_rules_applied : C8.Cal P w K mg base 15 "rules_applied" (spRulesApplied K) []) (c_rule_output : C8.Cal P w K mg base 1 "rule_output" (spRuleOutput K) []) : C8.Cal P w K mg base 16 "stage_output" (spStageOutput K) [] := by
  refine D.cal sc_stage_output (fun vs H Q E h => ?_) (fun f cdv A outer s H vs Q E hr h => ?_)
  · obtain ⟨_, _, _, _, rfl, _⟩ := h
    rfl
  obtain ⟨v, st, u, z, rfl, hd, hok, hst, hs, hl, k⟩ := h
  refine ⟨_, (pss_cons (ps_set (i := 2) sc_stage_output.nd rfl (by first | exact .inl rfl | exact .inr rfl) (pe_lst pa_nil))
     (pss_cons (ps_for PassesOwn.never rfl (pi_enumT (by rfl) z_enumerate (pa_cons (C8.pe_c c_rules_applied hr (by omega) (by rfl) (pa_cons (pv 0) (pa_cons (pv 1) pa_nil))) pa_nil)) (pg_tup rfl (pgs_cons (pg_name (i := 3) sc_stage_output.nd rfl (by first | exact .inl rfl | exact .inr rfl)) (pgs_cons (pg_name (i := 4) sc_stage_output.nd rfl (by first | exact .inl rfl | exact .inr rfl)) pgs_nil)))
     (pss_one (ps_if (pt_cmpR op_notN (pv 4) pe_non (nomark _))
     (pss_one (ps_for PassesOwn.never rfl (pi_tup (C8.pe_c c_rule_output hr (by omega) (by rfl) (pa_cons (pe_ix ix_tup (pv 0) (pv 4) (fun _ _ => rfl)) (pa_cons (pe_ix ix_tup (pv 1) (pv 3) (fun _ _ => rfl)) pa_nil)))) (pg_name (i := 5) sc_stage_output.nd rfl (by first | exact .inl rfl | exact .inr rfl))
     (pss_one (ps_expr (pe_bm PySem.F.plainAttrs_list PySem.F.slot_list_append PySem.F.type_list_append mt_append (pv 2) (pa_cons (pe_tup (pa_cons (pv 5) (pa_cons (pv 3) pa_nil))) pa_nil))))))
     pss_nil)))
     (pss_one (ps_ret (pe_callTy call_tuple_of (by rfl) z_tuple (by decide +kernel) (pa_cons (pv 2) pa_nil)))))), ?_⟩
  obtain ⟨a, rfl, hT⟩ := seqI hs
  obtain ⟨b, xs, rfl, hTb, hA⟩ := stageI hd
  have lx := hA.len
  rw [List.length_map] at lx
  refine ⟨Nat.zero_le _, fun o no => ?_⟩
  refine ⟨.ref b, rfl, .ref a, rfl, .ref b, st, .ref a, z, rfl, hd.mono (Same.new no), hok, hst, hs.mono (Same.new no), hl, fun H1 v1 d1 s1 e1 p1 => ?_⟩
  subst e1
  have S1 := (Same.new (o := .lst []) no).trans s1
  obtain ⟨c, cs, rfl, hTc, hAc⟩ := p1.tupI
  have lc := hAc.len
  rw [List.length_map] at lc
  have la : (applied st z).length = z.length := by unfold applied; rw [List.length_map, List.length_range]
  refine ⟨c, cs, rfl, hTc, for_src (Src.enumT c cs)
    (fun i σ H' => ∃ y3 y4 y5, σ = [some (.ref b), some (.ref a), some (.ref o), y3, y4, y5] ∧ Same H H' ∧ Same H1 (upd H' o (.lst [])) ∧ ∃ ys, H' o = some (.lst ys) ∧ DpAll K H' ys (((List.range i).flatMap (putAt st z)).map pairD))
    ⟨_, _, _, rfl, S1, ?_, [], s1 _ _ upd_same, .nil⟩ (fun i σ H' _ h => ?_) (fun i x σ H2 H3 hi hP s3 hy => ?_) fun σ H' hP => ?_⟩
  · intro q r e
    by_cases hq : q = o
    · subst hq
      rw [s1 _ _ upd_same] at e
      rw [upd_same]
      exact e
    · rw [upd_ne hq]; exact e
  · obtain ⟨_, _, _, _, _, h, ys, eo, _⟩ := h
    have := (h.tup hTc)
    rcases this with r | r
    · rcases r with r | ⟨u', r⟩
      · by_cases hq : c = o
        · subst hq; rw [upd_same] at r; cases r
        · rw [upd_ne hq] at r; exact .of r
      · by_cases hq : c = o
        · subst hq; rw [upd_same] at r; cases r
        · rw [upd_ne hq] at r; exact .inl (.inr ⟨u', r⟩)
    · exact .inr r
  · obtain ⟨y3, y4, y5, rfl, S2, S2', ys, eo, hY⟩ := hP
    obtain ⟨T, vo, rfl, hx, eT⟩ := hy
    have S3 := S2.trans s3
    have eo3 := s3 _ _ eo
    have hY3 := DpAll.mono s3 hY
    have hi' : i < z.length := by omega
    obtain ⟨d, hd1, pd⟩ := hAc.get hx
    rw [List.getElem?_map] at hd1
    obtain ⟨on, hon, rfl⟩ := Option.map_eq_some_iff.mp hd1
    have eon : on = firstR st z i := by
      unfold applied at hon
      rw [range_at hi'] at hon
      exact (Option.some.inj hon).symm
    subst eon
    have S2o : Same H1 (upd H3 o (.lst [])) := fun q r e => by
      by_cases hq : q = o
      · subst hq; have := S2' _ _ e; rw [upd_same] at this ⊢; exact this
      · have := S2' _ _ e
        rw [upd_ne hq] at this ⊢
        exact s3 _ _ this
    have hlen : ((List.range i).flatMap (putAt st z)).length ≤ 3 * z.length := by
      have := flat_len (f := putAt st z) (putAt_len (stOk_of hok) z) (List.range i)
      rw [List.length_range] at this
      omega
    refine ⟨T, _, rfl, .of eT, rfl, _, _, rfl, _, _, rfl, rfl, ?_⟩
    cases hf : firstR st z i with
    | none =>
      rw [hf] at pd
      have := pd.nonI
      subst this
      refine ⟨_, rfl, rfl, _, rfl, iteF ⟨_, _, _, rfl, S3, S2o, ys, eo3, ?_⟩⟩
      rw [flat_range, show putAt st z i = [] by unfold putAt; rw [hf], List.append_nil]
      exact hY3
    | some m =>
      rw [hf] at pd
      have := pd.intI
      subst this
      have hm := firstR_lt hf
      have hrm : st[m]? = some st[m] := List.getElem?_eq_getElem hm
      obtain ⟨vr, hvr, pr⟩ := hA.at_ (i := m) (d := ruleD st[m]) (by rw [List.getElem?_map, hrm]; rfl)
      have hsy : (z.map symV)[i]? = some (symV z[i]) := by rw [List.getElem?_map, List.getElem?_eq_getElem hi']; rfl
      have gsy : z.getD i sym0 = z[i] := getD_get _ _ _ hi'
      have hput : putAt st z i = (outSyms st[m].out z[i]).map fun s => (s, i) := by unfold putAt; rw [hf]; simp only [hrm, gsy]
      refine ⟨_, rfl, rfl, _, rfl, iteT ?_⟩
      refine ⟨.ref b, rfl, _, rfl, b, xs, _, vr, rfl, rfl, S3.tup hTb, atI_nat hvr, .ref a, rfl, _, rfl, a, _, _, _, rfl, rfl, S3.tup hT, atI_nat hsy, vr, st[m], z[i], rfl, pr.mono S3, (hok _ (List.mem_of_getElem? hrm)).2.2, fun H4 v4 d4 s4 e4 p4 => ?_⟩
      subst e4
      obtain ⟨e, es, rfl, hTe, hAe⟩ := p4.tupI
      have ee := syms_of hAe
      subst ee
      have eo4 := s4 _ _ eo3
      refine ⟨e, rfl, ⟨_, hTe⟩, for_src (Src.tup e ((outSyms st[m].out z[i]).map symV))
        (fun j σ H' => ∃ z5, σ = [some (.ref b), some (.ref a), some (.ref o), some (.int (i : Nat)), some (.int (m : Nat)), z5] ∧ Same H H' ∧ Same H1 (upd H' o (.lst [])) ∧ SqT K H' e ((outSyms st[m].out z[i]).map symV) ∧ ∃ ys, H' o = some (.lst ys) ∧ DpAll K H' ys (((List.range i).flatMap (putAt st z) ++ ((outSyms st[m].out z[i]).take j).map fun s => (s, i)).map pairD))
        ⟨_, rfl, S3.trans s4, ?_, hTe, ys, eo4, ?_⟩ (fun j σ H' _ h => by obtain ⟨_, _, _, _, h, _⟩ := h; exact h) (fun j x σ H5 H6 hj hP s6 hy => ?_) fun σ H' hP => ?_⟩
      · intro q r e'
        by_cases hq : q = o
        · subst hq; have := S2o _ _ e'; rw [upd_same] at this ⊢; exact this
        · have := S2o _ _ e'
          rw [upd_ne hq] at this ⊢
          exact s4 _ _ this
      · rw [List.take_zero, List.map_nil, List.append_nil]
        exact DpAll.mono s4 hY3
      · obtain ⟨z5, rfl, S5, S5', hTe5, ys5, eo5, hY5⟩ := hP
        rw [List.getElem?_map] at hy
        obtain ⟨sy, hsy2, rfl⟩ := Option.map_eq_some_iff.mp hy
        have S6 := S5.trans s6
        have eo6 := s6 _ _ eo5
        have l5 := hY5.len
        have lo : (outSyms st[m].out z[i]).length ≤ 3 := by unfold outSyms; rw [List.length_map]; exact (hok _ (List.mem_of_getElem? hrm)).2.2
        rw [List.length_map, List.length_append, List.length_map, List.length_take] at l5
        refine ⟨.ref o, rfl, .inl ⟨rfl, _, SqL.of eo6⟩, _, rfl, _, rfl, (by decide : 2 ≤ sizeLine), fun p hp => ?_⟩
        have sp := Same.new (o := .tup [symV sy, .int (i : Nat)]) hp
        have eop := sp _ _ eo6
        refine ⟨o, ys5, .ref p, rfl, rfl, eop, line200 (by omega), _, rfl, fun q r e' => ?_, fun q r e' => ?_, ?_, _, upd_same, ?_⟩
        · have noH : H o = none := no
          rw [upd_ne (ne_of_none e' noH)]
          exact sp _ _ (S6 _ _ e')
        · by_cases hq : q = o
          · subst hq; have := S5' _ _ e'; rw [upd_same] at this ⊢; exact this
          · have := S5' _ _ e'
            rw [upd_ne hq] at this
            rw [upd_ne hq, upd_ne hq]
            exact sp _ _ (s6 _ _ this)
        · exact (Tups.upd eop).sq (sp.tup (s6.tup hTe5))
        · rw [show (List.range i).flatMap (putAt st z) ++ ((outSyms st[m].out z[i]).take (j + 1)).map (fun s => (s, i)) = ((List.range i).flatMap (putAt st z) ++ ((outSyms st[m].out z[i]).take j).map fun s => (s, i)) ++ [(sy, i)] by rw [take_snoc hsy2, List.map_append, List.append_assoc]; rfl, List.map_append]
          refine DpAll.app (DpAll.tups (Tups.upd eop) (DpAll.mono (s6.trans sp) hY5) (nlAll_map nl_pair _)) (.one ?_)
          exact Dp.tups (Tups.upd eop) (Dp.tupN hp (.cons (.str _) (.one (.int _)))) rfl
      · obtain ⟨z5, rfl, S5, S5', hTe5, ys5, eo5, hY5⟩ := hP
        refine ⟨_, _, _, rfl, S5, S5', ys5, eo5, ?_⟩
        rw [List.length_map, List.take_length] at hY5
        rw [flat_range, hput]
        exact hY5
  · obtain ⟨y3, y4, y5, rfl, S2, S2', ys, eo, hY⟩ := hP
    rw [show cs.length = z.length by omega] at hY
    exact ⟨.ref o, rfl, o, ys, rfl, .inl ⟨SqL.of eo, fun p hp => k _ _ _ (S2.trans (Same.new hp)) rfl (Dp.tupN hp hY)⟩⟩
abbrev s_excerpt : Stmt := topS 19
theorem sc_excerpt : FnScope ["pipeline", "document", "found", "stage", "origins", "origin", "symbol", "_", "at"] ["pipeline", "document"] (defScope s_excerpt) := ⟨rfl, rfl, rfl, by decide +kernel, rfl, by decide +kernel, by decide +kernel⟩
def PipeOk (pl : List (List Rule)) : Prop := pl.length ≤ 3 ∧ ∀ st ∈ pl, st.length ≤ 3 ∧ ∀ r ∈ st, ROk r
def spExcerpt (K : PySem.W.Frag) : Sp := fun vs H Q _ => ∃ v pl u w, vs = [v, u] ∧ Dp K H v (pipeD pl) ∧ PipeOk pl ∧ Dp K H u (seqD w) ∧ w.length ≤ 6 ∧ Ret K H Q (· = pairsD (exc pl w))
theorem exc_len {pl : List (List Rule)} (h : PipeOk pl) {w : List Sym} (hw : w.length ≤ 6) : ∀ i, i ≤ pl.length → (excFrom (pl.take i) (numb w)).length ≤ 6 * 3 ^ i
  | 0, _ => by
    show (numb w).length ≤ _
    unfold numb
    rw [List.length_map, List.length_range]
    omega
  | i + 1, hi => by
    have hlt : i < pl.length := by omega
    have ih := exc_len h hw i (by omega)
    rw [take_snoc (List.getElem?_eq_getElem hlt), exc_snoc]
    have := stageStep_len (stOk_of (h.2 _ (List.getElem_mem hlt)).2) (excFrom (pl.take i) (numb w))
    rw [Nat.pow_succ]
    omega
theorem pow3 {i : Nat} (h : i ≤ 3) : 6 * 3 ^ i ≤ 162 := by
  have : 3 ^ i ≤ 3 ^ 3 := Nat.pow_le_pow_right (by decide) h
  omega
theorem ok_excerpt (D : Df K mg "excerpt" s_excerpt ["pipeline", "document"]) (z_enumerate : mg "enumerate" = none) (z_tuple : mg "tuple" = none)
    (c_stage_output : C8.Cal P w K mg base 16 "stage_output" (spStageOutput K) []) (c_symbols_of : C8.Cal P w K mg base 1 "symbols_of" (spSymbolsOf K) []) : C8.Cal P w K mg base 17 "excerpt" (spExcerpt K) [] := by
  refine D.cal sc_excerpt (fun vs H Q E h => ?_) (fun f cdv A outer s H vs Q E hr h => ?_)
  · obtain ⟨_, _, _, _, rfl, _⟩ := h
    rfl
  obtain ⟨v, pl, u, z, rfl, hd, hok, hs, hl, k⟩ := h
  refine ⟨_, (pss_cons (ps_set (i := 2) sc_excerpt.nd rfl (by first | exact .inl rfl | exact .inr rfl) (pe_callTy call_tuple_of (by rfl) z_tuple (by decide +kernel) (pa_cons (pe_lc (own := [("origin", 5), ("symbol", 6)]) rfl sc_excerpt.nd (pi_enumT (by rfl) z_enumerate (pa_cons (pv 1) pa_nil)) (blkOk_by (by with_unfolding_all rfl)) (fun _ _ _ _ _ => (pg_tupK (K := K) (n := 2) rfl rfl (pgs_cons (pg_name (i := 5) sc_excerpt.nd rfl (by first | exact .inl rfl | exact .inr rfl)) (pgs_cons (pg_name (i := 6) sc_excerpt.nd rfl (by first | exact .inl rfl | exact .inr rfl)) pgs_nil)))) (fun _ _ _ _ _ => pts_nil) (fun _ _ _ _ _ => (pe_tup (pa_cons (pv 6) (pa_cons (pv 5) pa_nil))))) pa_nil)))
     (pss_cons (ps_for PassesOwn.never rfl (pi_tup (pv 0)) (pg_name (i := 3) sc_excerpt.nd rfl (by first | exact .inl rfl | exact .inr rfl))
     (pss_cons (ps_set (i := 4) sc_excerpt.nd rfl (by first | exact .inl rfl | exact .inr rfl) (pe_lc (own := [("_", 7), ("origin", 5)]) rfl sc_excerpt.nd (pi_tup (pv 2)) (blkOk_by (by with_unfolding_all rfl)) (fun _ _ _ _ _ => (pg_tupK (K := K) (n := 2) rfl rfl (pgs_cons (pg_name (i := 7) sc_excerpt.nd rfl (by first | exact .inl rfl | exact .inr rfl)) (pgs_cons (pg_name (i := 5) sc_excerpt.nd rfl (by first | exact .inl rfl | exact .inr rfl)) pgs_nil)))) (fun _ _ _ _ _ => pts_nil) (fun _ _ _ _ _ => (pv 5))))
     (pss_one (ps_set (i := 2) sc_excerpt.nd rfl (by first | exact .inl rfl | exact .inr rfl) (pe_callTy call_tuple_of (by rfl) z_tuple (by decide +kernel) (pa_cons (pe_lc (own := [("symbol", 6), ("at", 8)]) rfl sc_excerpt.nd (pi_tup (C8.pe_c c_stage_output hr (by omega) (by rfl) (pa_cons (pv 3) (pa_cons (C8.pe_c c_symbols_of hr (by omega) (by rfl) (pa_cons (pv 2) pa_nil)) pa_nil)))) (blkOk_by (by with_unfolding_all rfl)) (fun _ _ _ _ _ => (pg_tupK (K := K) (n := 2) rfl rfl (pgs_cons (pg_name (i := 6) sc_excerpt.nd rfl (by first | exact .inl rfl | exact .inr rfl)) (pgs_cons (pg_name (i := 8) sc_excerpt.nd rfl (by first | exact .inl rfl | exact .inr rfl)) pgs_nil)))) (fun _ _ _ _ _ => pts_nil) (fun _ _ _ _ _ => (pe_tup (pa_cons (pv 6) (pa_cons (pe_ix (r := rIxL K) ix_list (pv 4) (pv 8) (fun _ _ => rfl)) pa_nil))))) pa_nil))))))
     (pss_one (ps_ret (pv 2))))), ?_⟩
  obtain ⟨a, rfl, hT⟩ := seqI hs
  obtain ⟨b, xs, rfl, hTb, hA⟩ := Dp.tupI hd
  have lx := hA.len
  rw [List.length_map] at lx
  have lp := hok.1
  -- found = tuple([(symbol, origin) for origin, symbol in enumerate(document)])
  refine ⟨.ref a, rfl, a, _, rfl, hT, fun D1 hD1 => lc_src (K := K) (Src.enumT a (z.map symV)) (fun H' s' => s'.tup hT) hD1 (by rw [List.length_map]; omega) (fun i d => ∃ s, z[i]? = some s ∧ d = pairD (s, i)) (fun i x H2 acc Q' hi s2 e2 hy el => ?_) fun H2 ys es s2 e2 hl2 hF hE => ?_⟩
  · obtain ⟨T, y, rfl, hy1, eT⟩ := hy
    rw [List.getElem?_map] at hy1
    obtain ⟨sy, hsy, rfl⟩ := Option.map_eq_some_iff.mp hy1
    refine ⟨T, _, rfl, .of eT, rfl, _, _, rfl, _, _, rfl, rfl, rfl, _, rfl, _, rfl, (by decide : 2 ≤ sizeLine), fun p hp => ?_⟩
    exact el _ _ _ (Same.new hp) ⟨sy, hsy, rfl⟩ (Dp.del (Same.new hp _ _ e2) (Dp.tupN hp (.cons (.str _) (.one (.int _)))) rfl)
  · have ee : es = (numb z).map pairD := by
      rw [List.length_map] at hl2
      refine List.ext_getElem? fun i => ?_
      rcases Nat.lt_or_ge i es.length with q | q
      · obtain ⟨c, h1, h2⟩ := hF i _ (List.getElem?_eq_getElem q)
        have hi : i < z.length := by omega
        have : z.getD i sym0 = c := by
          rw [getD_get _ _ _ hi]
          rw [List.getElem?_eq_getElem hi] at h1
          exact Option.some.inj h1
        rw [List.getElem?_eq_getElem q, h2, List.getElem?_map, numb, range_at hi, this]
        rfl
      · rw [List.getElem?_eq_none q, List.getElem?_eq_none (by rw [List.length_map, numb, List.length_map, List.length_range]; omega)]
    subst ee
    refine ⟨D1, ys, rfl, .inl ⟨SqL.of e2, fun p hp => ?_⟩⟩
    have S2 := s2.trans (Same.new (o := .tup ys) hp)
    refine ⟨.ref b, rfl, b, rfl, ⟨xs, S2.tup hTb⟩, for_src (Src.tup b xs)
      (fun i σ H' => ∃ vf y3 y4 y5 y6 y7 y8, σ = [some (.ref b), some (.ref a), some vf, y3, y4, y5, y6, y7, y8] ∧ Same H H' ∧ Dp K H' vf (pairsD (excFrom (pl.take i) (numb z))))
      ⟨.ref p, _, _, _, _, _, _, rfl, S2, Dp.tupN hp (DpAll.mono del_le hE)⟩ (fun i σ H' _ h => by obtain ⟨_, _, _, _, _, _, _, _, h, _⟩ := h; exact h.tup hTb) (fun i x σ H3 H4 hi hP s4 hy => ?_) fun σ H' hP => ?_⟩
    · obtain ⟨vf, y3, y4, y5, y6, y7, y8, rfl, S3, pf⟩ := hP
      have S4 := S3.trans s4
      have pf4 := pf.mono s4
      obtain ⟨d, hd1, ps⟩ := hA.get hy
      rw [List.getElem?_map] at hd1
      obtain ⟨st, hst, rfl⟩ := Option.map_eq_some_iff.mp hd1
      have hi' : i < pl.length := by omega
      obtain ⟨st3, stok⟩ := hok.2 st (List.mem_of_getElem? hst)
      have hlen := Nat.le_trans (exc_len hok hl i (by omega)) (pow3 (by omega))
      generalize hps : excFrom (pl.take i) (numb z) = pp at pf pf4 hlen
      obtain ⟨c, cs, rfl, hTc, hAc⟩ := pf4.tupI
      have lc := hAc.len
      rw [List.length_map] at lc
      -- origins = [origin for _, origin in found]
      refine ⟨.ref c, rfl, c, rfl, ⟨cs, hTc⟩, fun D2 hD2 => lc_src (K := K) (Src.tup c cs) (fun H' s' => s'.tup hTc) hD2 (by omega) (fun i d => ∃ q, pp[i]? = some q ∧ d = .int (q.2 : Nat)) (fun j x H5 acc Q' hj s5 e5 hy el => ?_) fun H5 ys es s5 e5 hl5 hF5 hE5 => ?_⟩
      · obtain ⟨d, hd1, hp⟩ := hAc.get hy
        rw [List.getElem?_map] at hd1
        obtain ⟨q, h1, rfl⟩ := Option.map_eq_some_iff.mp hd1
        obtain ⟨b', rfl, hTb'⟩ := pairI (hp.mono s5)
        exact ⟨b', _, rfl, hTb', rfl, _, _, rfl, _, _, rfl, rfl, rfl, _, rfl, el H5 _ _ (Same.refl _) ⟨q, h1, rfl⟩ (.int _)⟩
      · have S5 := S4.trans s5
        have lys := hE5.len
        have ogs : ∀ (q : Nat), q < pp.length → ys[q]? = some (.int ((pp.map (·.2)).getD q 0 : Nat)) := fun q hq => by
          have hqe : q < es.length := by omega
          obtain ⟨r, h1, h2⟩ := hF5 q _ (List.getElem?_eq_getElem hqe)
          obtain ⟨v', hv1, hv2⟩ := hE5.at_ (List.getElem?_eq_getElem hqe)
          rw [h2] at hv2
          rw [hv1, hv2.intI]
          have hq' : q < (pp.map (·.2)).length := by rw [List.length_map]; exact hq
          rw [getD_get _ _ _ hq', List.getElem_map]
          rw [List.getElem?_eq_getElem hq] at h1
          rw [← Option.some.inj h1]
        -- stage_output(stage, symbols_of(found))
        refine ⟨x, rfl, .ref c, rfl, .ref c, pp, rfl, pf4.mono s5, by omega, fun H6 v6 d6 s6 e6 p6 => ?_⟩
        subst e6
        have S6 := S5.trans s6
        refine ⟨x, st, v6, pp.map (·.1), rfl, ps.mono S6, stok, st3, p6, by rw [List.length_map]; omega, fun H7 v7 d7 s7 e7 p7 => ?_⟩
        subst e7
        obtain ⟨e, gs, rfl, hTe, hAe⟩ := p7.tupI
        have S7 := S6.trans s7
        have e57 := (s6.trans s7) _ _ e5
        have le := hAe.len
        rw [List.length_map] at le
        have lput := putOut_len (stOk_of stok) (pp.map (·.1))
        rw [List.length_map] at lput
        refine ⟨e, rfl, ⟨gs, hTe⟩, fun D3 hD3 => lc_src (K := K) (Src.tup e gs) (fun H' s' => s'.tup hTe) hD3 (by omega) (fun j d => ∃ q, (putOut st (pp.map (·.1)))[j]? = some q ∧ d = pairD (q.1, (pp.map (·.2)).getD q.2 0)) (fun j x H8 acc Q' hj s8 e8 hy el => ?_) fun H8 ws fs s8 e8 hl8 hF8 hE8 => ?_⟩
        · obtain ⟨d, hd1, hp⟩ := hAe.get hy
          rw [List.getElem?_map] at hd1
          obtain ⟨q, h1, rfl⟩ := Option.map_eq_some_iff.mp hd1
          obtain ⟨b', rfl, hTb'⟩ := pairI (hp.mono s8)
          have hq := putOut_pos (List.mem_of_getElem? h1)
          rw [List.length_map] at hq
          refine ⟨b', _, rfl, hTb', rfl, _, _, rfl, _, _, rfl, rfl, rfl, _, rfl, _, rfl, _, rfl, D2, ys, _, _, rfl, rfl, SqL.of (s8 _ _ e57), atI_nat (ogs q.2 hq), (by decide : 2 ≤ sizeLine), fun p hp => ?_⟩
          exact el _ _ _ (Same.new hp) ⟨q, h1, rfl⟩ (Dp.del (Same.new hp _ _ e8) (Dp.tupN hp (.cons (.str _) (.one (.int _)))) rfl)
        · have ee : fs = (stageStep st pp).map pairD := by
            unfold stageStep
            refine List.ext_getElem? fun j => ?_
            rcases Nat.lt_or_ge j fs.length with q | q
            · obtain ⟨c', h1, h2⟩ := hF8 j _ (List.getElem?_eq_getElem q)
              rw [List.getElem?_eq_getElem q, h2, List.getElem?_map, List.getElem?_map, h1]
              rfl
            · rw [List.getElem?_eq_none q, List.getElem?_eq_none (by rw [List.length_map, List.length_map]; omega)]
          subst ee
          refine ⟨D3, ws, rfl, .inl ⟨SqL.of e8, fun p2 hp2 => ⟨.ref p2, _, _, _, _, _, _, rfl, (S7.trans s8).trans (Same.new hp2), ?_⟩⟩⟩
          rw [take_snoc hst, exc_snoc, hps]
          exact Dp.tupN hp2 (DpAll.mono del_le hE8)
    · obtain ⟨vf, y3, y4, y5, y6, y7, y8, rfl, S3, pf⟩ := hP
      rw [lx, List.take_length] at pf
      exact ⟨vf, rfl, k _ _ _ S3 rfl pf⟩
abbrev s_trace : Stmt := topS 20
theorem sc_trace : FnScope ["pipeline", "document", "found", "sequence", "stage"] ["pipeline", "document"] (defScope s_trace) := ⟨rfl, rfl, rfl, by decide +kernel, rfl, by decide +kernel, by decide +kernel⟩
def spTrace (K : PySem.W.Frag) : Sp := fun vs H Q _ => ∃ v pl u w, vs = [v, u] ∧ Dp K H v (pipeD pl) ∧ PipeOk pl ∧ Dp K H u (seqD w) ∧ w.length ≤ 6 ∧ Ret K H Q (· = traceD (trc pl w))
theorem seq_len {pl : List (List Rule)} (h : PipeOk pl) {w : List Sym} (hw : w.length ≤ 6) : ∀ i, i ≤ pl.length → (seqAt (pl.take i) w).length ≤ 6 * 3 ^ i
  | 0, _ => by
    show w.length ≤ _
    omega
  | i + 1, hi => by
    have hlt : i < pl.length := by omega
    have ih := seq_len h hw i (by omega)
    rw [take_snoc (List.getElem?_eq_getElem hlt), seqAt_snoc, List.length_map]
    have := putOut_len (stOk_of (h.2 _ (List.getElem_mem hlt)).2) (seqAt (pl.take i) w)
    rw [Nat.pow_succ]
    omega
theorem ok_trace (D : Df K mg "trace" s_trace ["pipeline", "document"]) (z_tuple : mg "tuple" = none) (c_rules_applied : C8.Cal P w K mg base 15 "rules_applied" (spRulesApplied K) [])
    (c_stage_output : C8.Cal P w K mg base 16 "stage_output" (spStageOutput K) []) (c_symbols_of : C8.Cal P w K mg base 1 "symbols_of" (spSymbolsOf K) []) : C8.Cal P w K mg base 17 "trace" (spTrace K) [] := by
  refine D.cal sc_trace (fun vs H Q E h => ?_) (fun f cdv A outer s H vs Q E hr h => ?_)
  · obtain ⟨_, _, _, _, rfl, _⟩ := h
    rfl
  obtain ⟨v, pl, u, z, rfl, hd, hok, hs, hl, k⟩ := h
  refine ⟨_, (pss_cons (ps_set (i := 2) sc_trace.nd rfl (by first | exact .inl rfl | exact .inr rfl) (pe_lst pa_nil))
     (pss_cons (ps_set (i := 3) sc_trace.nd rfl (by first | exact .inl rfl | exact .inr rfl) (pv 1))
     (pss_cons (ps_for PassesOwn.never rfl (pi_tup (pv 0)) (pg_name (i := 4) sc_trace.nd rfl (by first | exact .inl rfl | exact .inr rfl))
     (pss_cons (ps_expr (pe_bm PySem.F.plainAttrs_list PySem.F.slot_list_append PySem.F.type_list_append mt_append (pv 2) (pa_cons (C8.pe_c c_rules_applied hr (by omega) (by rfl) (pa_cons (pv 4) (pa_cons (pv 3) pa_nil))) pa_nil)))
     (pss_one (ps_set (i := 3) sc_trace.nd rfl (by first | exact .inl rfl | exact .inr rfl) (C8.pe_c c_symbols_of hr (by omega) (by rfl) (pa_cons (C8.pe_c c_stage_output hr (by omega) (by rfl) (pa_cons (pv 4) (pa_cons (pv 3) pa_nil))) pa_nil))))))
     (pss_one (ps_ret (pe_callTy call_tuple_of (by rfl) z_tuple (by decide +kernel) (pa_cons (pv 2) pa_nil))))))), ?_⟩
  obtain ⟨b, xs, rfl, hTb, hA⟩ := Dp.tupI hd
  have lx := hA.len
  rw [List.length_map] at lx
  have lp := hok.1
  refine ⟨Nat.zero_le _, fun o no => ?_⟩
  refine ⟨u, rfl, .ref b, rfl, b, rfl, ⟨xs, (Same.new no).tup hTb⟩, for_src (Src.tup b xs)
    (fun i σ H' => ∃ vs y4, σ = [some (.ref b), some u, some (.ref o), some vs, y4] ∧ Same H H' ∧ Dp K H' vs (seqD (seqAt (pl.take i) z)) ∧ ∃ ys, H' o = some (.lst ys) ∧ DpAll K H' ys ((trc (pl.take i) z).map rowD))
    ⟨u, _, rfl, Same.new no, hs.mono (Same.new no), [], upd_same, .nil⟩ (fun i σ H' _ h => by obtain ⟨_, _, _, h, _⟩ := h; exact h.tup hTb) (fun i x σ H3 H4 hi hP s4 hy => ?_) fun σ H' hP => ?_⟩
  · obtain ⟨vs, y4, rfl, S3, pq, ys, eo, hY⟩ := hP
    have S4 := S3.trans s4
    obtain ⟨d, hd1, ps⟩ := hA.get hy
    rw [List.getElem?_map] at hd1
    obtain ⟨st, hst, rfl⟩ := Option.map_eq_some_iff.mp hd1
    have hi' : i < pl.length := by omega
    obtain ⟨st3, stok⟩ := hok.2 st (List.mem_of_getElem? hst)
    have hlen := Nat.le_trans (seq_len hok hl i (by omega)) (pow3 (by omega))
    have eo4 := s4 _ _ eo
    have hYl := hY.len
    have trl : ∀ (pl : List (List Rule)) (w : List Sym), (trc pl w).length = pl.length := fun pl => by
      induction pl with
      | nil => intro w; rfl
      | cons a r ih => intro w; show (trc r _).length + 1 = r.length + 1; rw [ih]
    rw [List.length_map, trl, List.length_take] at hYl
    refine ⟨.ref o, rfl, .inl ⟨rfl, _, SqL.of eo4⟩, x, rfl, vs, rfl, x, st, vs, seqAt (pl.take i) z, rfl, ps.mono S4, stok, st3, pq.mono s4, by omega, fun H5 v5 d5 s5 e5 p5 => ?_⟩
    subst e5
    have eo5 := s5 _ _ eo4
    have tu := Tups.upd (o := .lst (ys ++ [v5])) eo5
    have S5 : Same H (upd H5 o (.lst (ys ++ [v5]))) := fun q r e => by
      rw [upd_ne (ne_of_none e no)]
      exact s5 _ _ (S4 _ _ e)
    refine ⟨o, ys, v5, rfl, rfl, eo5, line200 (by omega), ?_⟩
    have hY5 : DpAll K (upd H5 o (.lst (ys ++ [v5]))) (ys ++ [v5]) ((trc (pl.take (i + 1)) z).map rowD) := by
      rw [take_snoc hst, trc_snoc, List.map_append]
      exact DpAll.app (DpAll.tups tu (DpAll.mono (s4.trans s5) hY) (nlAll_map nl_row _)) (.one (Dp.tups tu p5 (nl_row _)))
    refine ⟨x, rfl, vs, rfl, x, st, vs, seqAt (pl.take i) z, rfl, ps.mono S5, stok, st3, Dp.tups tu (pq.mono (s4.trans s5)) (nl_seq _), by omega, fun H6 v6 d6 s6 e6 p6 => ?_⟩
    subst e6
    have lput := putOut_len (stOk_of stok) (seqAt (pl.take i) z)
    refine ⟨v6, _, rfl, p6, by omega, fun H7 v7 d7 s7 e7 p7 => ⟨v7, _, rfl, S5.trans (s6.trans s7), ?_, _, (s6.trans s7) _ _ upd_same, DpAll.mono (s6.trans s7) hY5⟩⟩
    subst e7
    rw [take_snoc hst, seqAt_snoc]
    exact p7
  · obtain ⟨vs, y4, rfl, S3, pq, ys, eo, hY⟩ := hP
    rw [lx, List.take_length] at hY
    exact ⟨.ref o, rfl, o, ys, rfl, .inl ⟨SqL.of eo, fun p hp => k _ _ _ (S3.trans (Same.new hp)) rfl (Dp.tupN hp hY)⟩⟩
end
end K29
namespace K29
open PySem PySem.Spec PyProof.Rows L2 SX
/-! ### the tape -/
/-- the tape at tp, its script's copy at l -/
structure Tape (l : Addr) (H : Hp) (tp : Addr) : Prop where
  ex : ∃ (ns : List Int) (p q r : Int), H tp = some (.lst [.ref l, .int p, .int q, .int r]) ∧ H l = some (.lst (ns.map V.int)) ∧ 0 ≤ p
/-- all but the tape stands -/
def Kp (tp : Addr) (H H' : Hp) : Prop := ∀ b o, b ≠ tp → H b = some o → H' b = some o
section
variable {K : PySem.W.Frag} {H H' : Hp} {tp l : Addr}
theorem Kp.refl : Kp tp H H := fun _ _ _ e => e
theorem Kp.trans {H2 : Hp} (a : Kp tp H H') (b : Kp tp H' H2) : Kp tp H H2 := fun c o n e => b c o n (a c o n e)
theorem Kp.of (s : Same H H') : Kp tp H H' := fun b o _ e => s b o e
theorem Kp.upd {o : HO} : Kp tp H (upd H tp o) := fun b u n e => by rw [upd_ne n]; exact e
theorem Tape.lst (t : Tape l H tp) : ∃ l, H tp = some (.lst l) := by
  obtain ⟨ns, p, q, r, e, _⟩ := t.ex
  exact ⟨_, e⟩
theorem Tape.nl (t : Tape l H tp) : l ≠ tp := by
  obtain ⟨ns, p, q, r, e, el, _⟩ := t.ex
  rintro rfl
  rw [e] at el
  cases ns <;> simp at el
theorem Tape.mono (t : Tape l H tp) (s : Same H H') : Tape l H' tp := by
  obtain ⟨ns, p, q, r, e, e2, h⟩ := t.ex
  exact ⟨ns, p, q, r, s _ _ e, s _ _ e2, h⟩
/-- a list other than the tape's own two changes -/
theorem Tape.upd {o : Addr} {u' : HO} (t : Tape l H tp) (n1 : o ≠ tp) (n2 : o ≠ l) : Tape l (L2.upd H o u') tp := by
  obtain ⟨ns, p, q, r, e, e2, h0⟩ := t.ex
  exact ⟨ns, p, q, r, by rw [upd_ne (Ne.symm n1)]; exact e, by rw [upd_ne (Ne.symm n2)]; exact e2, h0⟩
theorem Kp.tups (k : Kp tp H H') (t : Tape l H tp) : Tups H H' := fun a xs r => by
  obtain ⟨l, e⟩ := t.lst
  have ne : a ≠ tp := by
    rintro rfl
    rcases r with r | ⟨u, r⟩
    · rw [e] at r; cases r
    · rw [e] at r; cases r
  rcases r with r | ⟨u, r⟩
  · exact .inl (k _ _ ne r)
  · exact .inr ⟨u, k _ _ ne r⟩
theorem tp_ne {b : Addr} (t : Tape l H tp) (h : H b = none) : b ≠ tp := by
  rintro rfl
  obtain ⟨l, e⟩ := t.lst
  rw [h] at e
  cases e
theorem tl_ne {b : Addr} (t : Tape l H tp) (h : H b = none) : b ≠ l := by
  rintro rfl
  obtain ⟨ns, p, q, r, e, e2, h0⟩ := t.ex
  rw [h] at e2
  cases e2
theorem atI_mem {α : Type} {xs : List α} {r : Int} (h0 : 0 ≤ r) (h1 : r < xs.length) : ∃ v, atI xs r = some v ∧ v ∈ xs := by
  have hk : r.toNat < xs.length := by omega
  have e : ((r.toNat : Nat) : Int) = r := by omega
  have q := atI_nat (List.getElem?_eq_getElem hk)
  rw [e] at q
  exact ⟨xs[r.toNat], q, List.getElem_mem hk⟩
end
theorem emp : ("" : Str) = S [] := by decide +kernel
def upper : List Nat := (List.range 26).map (· + 65)
def lower : List Nat := (List.range 26).map (· + 97)
theorem upper_eq : ("ABCDEFGHIJKLMNOPQRSTUVWXYZ" : Str) = S upper := by decide +kernel
theorem lower_eq : ("abcdefghijklmnopqrstuvwxyz" : Str) = S lower := by decide +kernel
theorem holders_eq : ("@ABCDEFGHIJKLMNOPQRSTUVWXYZ" : Str) = S (64 :: upper) := by decide +kernel
theorem upper_mem {c : Nat} (h : c ∈ upper) : 65 ≤ c ∧ c ≤ 90 := by
  unfold upper at h
  obtain ⟨k, hk, rfl⟩ := List.mem_map.mp h
  rw [List.mem_range] at hk
  omega
theorem lower_mem {c : Nat} : c ∈ lower ↔ 97 ≤ c ∧ c ≤ 122 := by
  unfold lower
  rw [List.mem_map]
  constructor
  · rintro ⟨k, hk, rfl⟩
    rw [List.mem_range] at hk
    omega
  · intro h
    exact ⟨c - 97, List.mem_range.mpr (by omega), by omega⟩
section
variable {P : Program} {w : World} {K : PySem.W.Frag} {mg : Str → Option Value} {base : Heap}
abbrev s__law_tape : Stmt := topS 22
theorem sc__law_tape : FnScope ["_law_script", "_law_total", "_law_cell"] ["_law_script"] (defScope s__law_tape) := ⟨rfl, rfl, rfl, by decide +kernel, rfl, by decide +kernel, by decide +kernel⟩
def spTape (K : PySem.W.Frag) : Sp := fun vs H Q _ => ∃ (a : Addr) (ns : List Int), vs = [.ref a] ∧ SqL K H a (ns.map V.int) ∧ ns.length ≤ 63 ∧ ∀ (H' : Hp) (tp l : Addr), Same H H' → H tp = none → Tape l H' tp → Q (.ref tp) H'
theorem ok__law_tape (D : Df K mg "_law_tape" s__law_tape ["_law_script"]) (z_int : mg "int" = none) (z_abs : mg "abs" = none) (z_list : mg "list" = none) : C8.Cal P w K mg base 1 "_law_tape" (spTape K) [] := by
  refine D.cal sc__law_tape (fun vs H Q E h => ?_) (fun f cdv A outer s H vs Q E hr h => ?_)
  · obtain ⟨_, _, rfl, _⟩ := h
    rfl
  obtain ⟨a, ns, rfl, hL, hl, k⟩ := h
  refine ⟨_, (pss_cons (ps_set (i := 1) sc__law_tape.nd rfl (by first | exact .inl rfl | exact .inr rfl) pe_int)
     (pss_cons (ps_for PassesOwn.never rfl (pi_list (pv 0)) (pg_name (i := 2) sc__law_tape.nd rfl (by first | exact .inl rfl | exact .inr rfl))
     (pss_one (ps_set (i := 1) sc__law_tape.nd rfl (by first | exact .inl rfl | exact .inr rfl) (pe_op op_mod (pe_callTy call_int1 (by rfl) z_int (by decide +kernel) (pa_cons (pe_op op_add (pe_op op_mul (pv 1) pe_int) (pe_callB call_abs (by rfl) z_abs (by decide +kernel) (pa_cons (pe_callTy call_int1 (by rfl) z_int (by decide +kernel) (pa_cons (pv 2) pa_nil)) pa_nil))) pa_nil)) pe_int))))
     (pss_one (ps_ret (pe_lst (pa_cons (pe_callTy call_list_of (by rfl) z_list (by decide +kernel) (pa_cons (pv 0) pa_nil)) (pa_cons pe_int (pa_cons pe_int (pa_cons (pv 1) pa_nil))))))))), ?_⟩
  refine ⟨.ref a, rfl, a, rfl, ⟨_, hL⟩, for_src (Src.list a (ns.map V.int)) (fun i σ H' => Same H H' ∧ ∃ (t : Int) (y : Option V), σ = [some (.ref a), some (.int t), y])
    ⟨Same.refl _, _, _, rfl⟩ (fun i σ H' _ h => by obtain ⟨h, _⟩ := h; exact h.seq hL) (fun i x σ H1 H2 hi hP s2 hy => ?_) fun σ H' hP => ?_⟩
  · obtain ⟨S1, t, y, rfl⟩ := hP
    rw [List.getElem?_map] at hy
    obtain ⟨n, _, rfl⟩ := Option.map_eq_some_iff.mp hy
    refine ⟨_, rfl, _, _, rfl, rfl, .inr ⟨by decide, by decide⟩, _, rfl, .inl ⟨_, rfl, _, rfl, _, _, rfl, rfl, .inl ⟨_, rfl, _, _, rfl, rfl, (by decide : (0 : Int) < 2147483647), S1.trans s2, _, _, rfl⟩⟩⟩
  · obtain ⟨S1, t, y, rfl⟩ := hP
    refine ⟨.ref a, rfl, a, _, rfl, .inl (S1.seq hL), fun l hl' => ⟨_, rfl, (by decide : 4 ≤ sizeLine), fun tp htp => ?_⟩⟩
    have n1 : l ≠ tp := ne_of_none (H := upd H' l (.lst (ns.map V.int))) upd_same htp
    refine k _ tp l (S1.trans ((Same.new hl').trans (Same.new htp))) (S1.free ((Same.new hl').free htp)) ⟨ns, 0, 0, t, upd_same, ?_, by decide⟩
    rw [upd_ne n1]
    exact upd_same
abbrev s__law_draw : Stmt := topS 23
theorem sc__law_draw : FnScope ["_law_tape_here", "_law_many", "_law_place", "_law_number"] ["_law_tape_here", "_law_many"] (defScope s__law_draw) := ⟨rfl, rfl, rfl, by decide +kernel, rfl, by decide +kernel, by decide +kernel⟩
/-- what a draw gives: a number below the many -/
def spDraw : Sp := fun vs H Q _ => ∃ (tp l : Addr) (m : Int), vs = [.ref tp, .int m] ∧ Tape l H tp ∧ m ≤ 1000 ∧ ∀ (H' : Hp) (r : Int), Kp tp H H' → Tape l H' tp → 0 ≤ r → (r < m ∨ r < 1) → Q (.int r) H'
theorem max_pos (m b : Int) (hb : 0 < b) : 0 < (if b > m then b else m) := by
  split <;> omega
theorem mod_max {n m : Int} : 0 ≤ n % (if (1 : Int) > m then 1 else m) ∧ (n % (if (1 : Int) > m then 1 else m) < m ∨ n % (if (1 : Int) > m then 1 else m) < 1) := by
  have h := max_pos m 1 (by decide)
  have h1 := Int.emod_nonneg n (Int.ne_of_gt h)
  have h2 := Int.emod_lt_of_pos n h
  refine ⟨h1, ?_⟩
  split at h2 <;> rename_i c
  · right; rw [if_pos c] at h1 ⊢; exact h2
  · left; rw [if_neg c] at h1 ⊢; exact h2
theorem ok__law_draw (D : Df K mg "_law_draw" s__law_draw ["_law_tape_here", "_law_many"]) (z_int : mg "int" = none) (z_abs : mg "abs" = none) (z_len : mg "len" = none) (z_max : mg "max" = none) : C8.Cal P w K mg base 1 "_law_draw" spDraw [] := by
  refine D.cal sc__law_draw (fun vs H Q E h => ?_) (fun f cdv A outer s H vs Q E hr h => ?_)
  · obtain ⟨_, _, _, rfl, _⟩ := h
    rfl
  obtain ⟨tp, l, m, rfl, hT, hm, k⟩ := h
  refine ⟨_, (C8.pss_cut (ps_if (pt_cmpR op_eq (pe_ix ix_list (pv 0) pe_int (fun _ _ => rfl)) pe_int (nomark _))
     (pss_cons (ps_set (i := 2) sc__law_draw.nd rfl (by first | exact .inl rfl | exact .inr rfl) (pe_ix ix_list (pv 0) pe_int (fun _ _ => rfl)))
     (pss_cons (ps_set (i := 3) sc__law_draw.nd rfl (by first | exact .inl rfl | exact .inr rfl) pe_int)
     (C8.pss_cut (ps_if (pt_cmpR op_lt (pv 2) (pe_callB call_len_seq (by rfl) z_len (by decide +kernel) (pa_cons (pe_ix ix_list (pv 0) pe_int (fun _ _ => rfl)) pa_nil)) (nomark _))
     (pss_one (ps_set (i := 3) sc__law_draw.nd rfl (by first | exact .inl rfl | exact .inr rfl) (pe_callB call_abs (by rfl) z_abs (by decide +kernel) (pa_cons (pe_callTy call_int1 (by rfl) z_int (by decide +kernel) (pa_cons (pe_ix ix_list (pe_ix ix_list (pv 0) pe_int (fun _ _ => rfl)) (pv 2) (fun _ _ => rfl)) pa_nil)) pa_nil))))
     (pss_cons (ps_asg (pe_op op_mod (pe_callTy call_int1 (by rfl) z_int (by decide +kernel) (pa_cons (pe_op op_add (pe_op op_add (pe_op op_mul (pe_ix ix_list (pv 0) pe_int (fun _ _ => rfl)) pe_int) (pv 2)) pe_int) pa_nil)) pe_int) (pg_sub (pv 0) pe_int set_list))
     (pss_one (ps_set (i := 3) sc__law_draw.nd rfl (by first | exact .inl rfl | exact .inr rfl) (pe_ix ix_list (pv 0) pe_int (fun _ _ => rfl))))))
     (pss_cons (ps_asg (pe_op op_add (pv 2) pe_int) (pg_sub (pv 0) pe_int set_list))
     (pss_cons (ps_if (pt_cmpR op_lt (pv 3) (pe_op op_pow pe_int pe_int) (nomark _))
     (pss_cons (ps_set (i := 3) sc__law_draw.nd rfl (by first | exact .inl rfl | exact .inr rfl) (pe_op op_mod (pe_callTy call_int1 (by rfl) z_int (by decide +kernel) (pa_cons (pe_op op_add (pe_op op_add (pe_op op_mul (pv 3) pe_int) (pe_op op_mul (pv 2) pe_int)) pe_int) pa_nil)) pe_int))
     (pss_cons (ps_set (i := 3) sc__law_draw.nd rfl (by first | exact .inl rfl | exact .inr rfl) (pe_op op_mod (pe_callTy call_int1 (by rfl) z_int (by decide +kernel) (pa_cons (pe_op op_mul (pv 3) pe_int) pa_nil)) pe_int))
     (pss_one (ps_ret (pe_op op_mod (pe_callTy call_int1 (by rfl) z_int (by decide +kernel) (pa_cons (pv 3) pa_nil)) (pe_callB (call_max2 rfl) (by rfl) z_max (by decide +kernel) (pa_cons (pv 1) (pa_cons pe_int pa_nil))))))))
     pss_nil)
     (pss_one (ps_asg (pv 3) (pg_sub (pv 0) pe_int set_list))))))))
     pss_nil)
     (pss_cons (ps_set (i := 3) sc__law_draw.nd rfl (by first | exact .inl rfl | exact .inr rfl) (pe_ix ix_list (pv 0) pe_int (fun _ _ => rfl)))
     (pss_cons (ps_asg (pe_op op_fdiv (pv 3) (pe_callB (call_max2 rfl) (by rfl) z_max (by decide +kernel) (pa_cons (pv 1) (pa_cons pe_int pa_nil)))) (pg_sub (pv 0) pe_int set_list))
     (pss_one (ps_ret (pe_op op_mod (pe_callTy call_int1 (by rfl) z_int (by decide +kernel) (pa_cons (pv 3) pa_nil)) (pe_callB (call_max2 rfl) (by rfl) z_max (by decide +kernel) (pa_cons (pv 1) (pa_cons pe_int pa_nil))))))))), ?_⟩
  obtain ⟨ns, p, q, r, e, el, hp⟩ := hT.ex
  have nl := hT.nl
  have wr : ∀ (H1 : Hp), Kp tp H H1 → ∀ p q r : Int, H1 tp = some (.lst [.ref l, .int p, .int q, .int r]) → 0 ≤ p → Tape l H1 tp := fun H1 kp p q r e h => ⟨ns, p, q, r, e, kp _ _ nl el, h⟩
  refine ⟨fun σ' H' => ∃ y2 y3, σ' = [some (.ref tp), some (.int m), y2, y3] ∧ Kp tp H H' ∧ ∃ p q r : Int, H' tp = some (.lst [.ref l, .int p, .int q, .int r]) ∧ 0 ≤ p, ?_, fun σ' H' hM => ?_⟩
  · refine ⟨.ref tp, rfl, tp, _, 2, _, rfl, rfl, SqL.of e, atI_nat (j := 2) rfl, rfl, _, rfl, ite2 (fun c => ?_) (fun c => ?_)⟩
    · refine ⟨.ref tp, rfl, tp, _, 1, _, rfl, rfl, SqL.of e, atI_nat (j := 1) rfl, ?_⟩
      refine ⟨fun σ' H' => ∃ n : Int, σ' = [some (.ref tp), some (.int m), some (.int p), some (.int n)] ∧ Kp tp H H' ∧ ∃ r : Int, H' tp = some (.lst [.ref l, .int p, .int q, .int r]), ?_, fun σ' H' hM => ?_⟩
      · refine ⟨_, rfl, .ref tp, rfl, tp, _, 0, _, rfl, rfl, SqL.of e, atI_nat (j := 0) rfl, l, _, rfl, .inl (SqL.of el), _, _, rfl, rfl, _, rfl, ite2 (fun c2 => ?_) (fun c2 => ?_)⟩
        · have c3 := of_decide_eq_true c2
          obtain ⟨x, hx, hx2⟩ := atI_mem (xs := ns.map V.int) hp c3
          obtain ⟨n, _, rfl⟩ := List.mem_map.mp hx2
          exact ⟨.ref tp, rfl, tp, _, 0, _, rfl, rfl, SqL.of e, atI_nat (j := 0) rfl, _, rfl, l, _, p, _, rfl, rfl, SqL.of el, hx, .inl ⟨_, rfl, _, rfl, _, rfl, Kp.refl, r, e⟩⟩
        · refine ⟨.ref tp, rfl, tp, _, 3, _, rfl, rfl, SqL.of e, atI_nat (j := 3) rfl, _, _, rfl, rfl, .inr ⟨by decide, by decide⟩, _, rfl, _, _, rfl, rfl, _, _, rfl, rfl, .inl ⟨_, rfl, _, _, rfl, rfl, (by decide : (0 : Int) < 2147483647), .ref tp, rfl, tp, _, 3, 3, rfl, rfl, e, rfl, ?_⟩⟩
          exact ⟨.ref tp, rfl, tp, _, 3, _, rfl, rfl, SqL.of upd_same, atI_nat (j := 3) rfl, _, rfl, Kp.upd, _, upd_same⟩
      · obtain ⟨n, rfl, kp, r', e'⟩ := hM
        -- tape[1] = place + 1
        refine ⟨_, rfl, _, _, rfl, rfl, .ref tp, rfl, tp, _, 1, 1, rfl, rfl, e', rfl, ?_⟩
        have kp2 : Kp tp H (upd H' tp (.lst [.ref l, .int (p + 1), .int q, .int r'])) := kp.trans Kp.upd
        refine ⟨_, rfl, _, _, rfl, rfl, ⟨by decide, by decide, by decide⟩, _, _, rfl, rfl, _, rfl, ite2 (fun c2 => ?_) (fun c2 => ?_)⟩
        · refine ⟨_, rfl, _, _, rfl, rfl, .inr ⟨by decide, by decide⟩, _, rfl, _, _, rfl, rfl, .inr ⟨by decide, by decide⟩, _, _, rfl, rfl, _, _, rfl, rfl, .inl ⟨_, rfl, _, _, rfl, rfl, (by decide : (0 : Int) < 2147483647), ?_⟩⟩
          refine ⟨_, rfl, _, _, rfl, rfl, .inr ⟨by decide, by decide⟩, .inl ⟨_, rfl, _, _, rfl, rfl, (by decide : (0 : Int) < 2147483629), ?_⟩⟩
          refine ⟨_, rfl, .inl ⟨_, rfl, _, rfl, _, _, rfl, _, _, rfl, rfl, max_pos _ _ (by decide), k _ _ kp2 (wr _ kp2 _ _ _ upd_same (by omega)) mod_max.1 mod_max.2⟩⟩
        · refine ⟨_, rfl, .ref tp, rfl, tp, _, 2, 2, rfl, rfl, upd_same, rfl, ?_⟩
          exact ⟨_, _, rfl, kp2.trans Kp.upd, _, _, _, upd_same, by omega⟩
    · exact ⟨_, _, rfl, Kp.refl, p, q, r, e, hp⟩
  · obtain ⟨y2, y3, rfl, kp, p', q', r', e', hp'⟩ := hM
    refine ⟨.ref tp, rfl, tp, _, 2, _, rfl, rfl, SqL.of e', atI_nat (j := 2) rfl, ?_⟩
    refine ⟨_, rfl, _, rfl, _, _, rfl, _, _, rfl, rfl, ⟨max_pos _ _ (by decide), ?_⟩, .ref tp, rfl, tp, _, 2, 2, rfl, rfl, e', rfl, ?_⟩
    · split <;> omega
    · have kp2 := kp.trans (Kp.upd (o := .lst [.ref l, .int p', .int (q' / (if (2 : Int) > m then 2 else m)), .int r']))
      exact ⟨_, rfl, .inl ⟨_, rfl, _, rfl, _, _, rfl, _, _, rfl, rfl, max_pos _ _ (by decide), k _ _ kp2 (wr _ kp2 _ _ _ upd_same hp') mod_max.1 mod_max.2⟩⟩
abbrev s__law_rising : Stmt := topS 24
theorem sc__law_rising : FnScope ["_law_tape_here", "_law_signs", "_law_many", "_law_found", "_law_at", "_law_k"] ["_law_tape_here", "_law_signs", "_law_many"] (defScope s__law_rising) := ⟨rfl, rfl, rfl, by decide +kernel, rfl, by decide +kernel, by decide +kernel⟩
def spRising : Sp := fun vs H Q _ => ∃ (tp tl : Addr) (sg : List Nat) (m : Int), vs = [.ref tp, .str (S sg), .int m] ∧ Tape tl H tp ∧ 0 ≤ m ∧ m ≤ sg.length ∧ sg.length ≤ 30 ∧
  ∀ (H' : Hp) (l : List Nat), Kp tp H H' → Tape tl H' tp → (l.length : Int) = m → (∀ c ∈ l, c ∈ sg) → Q (.str (S l)) H'
theorem ok__law_rising (D : Df K mg "_law_rising" s__law_rising ["_law_tape_here", "_law_signs", "_law_many"]) (z_len : mg "len" = none) (z_range : mg "range" = none) (c__law_draw : C8.Cal P w K mg base 1 "_law_draw" spDraw []) : C8.Cal P w K mg base 2 "_law_rising" spRising [] := by
  refine D.cal sc__law_rising (fun vs H Q E h => ?_) (fun f cdv A outer s H vs Q E hr h => ?_)
  · obtain ⟨_, _, _, _, rfl, _⟩ := h
    rfl
  obtain ⟨tp, tl, sg, m, rfl, hT, h0, h1, h30, k⟩ := h
  refine ⟨_, (pss_cons (ps_set (i := 3) sc__law_rising.nd rfl (by first | exact .inl rfl | exact .inr rfl) pe_str)
     (pss_cons (ps_set (i := 4) sc__law_rising.nd rfl (by first | exact .inl rfl | exact .inr rfl) pe_int)
     (pss_cons (ps_for PassesOwn.never rfl (pi_range1 (by rfl) z_range (pa_cons (pv 2) pa_nil)) (pg_name (i := 5) sc__law_rising.nd rfl (by first | exact .inl rfl | exact .inr rfl))
     (pss_cons (ps_set (i := 4) sc__law_rising.nd rfl (by first | exact .inl rfl | exact .inr rfl) (pe_op op_add (pv 4) (C8.pe_c c__law_draw hr (by omega) (by rfl) (pa_cons (pv 0) (pa_cons (pe_op op_sub (pe_op op_add (pe_op op_add (pe_op op_sub (pe_callB call_len_str (by rfl) z_len (by decide +kernel) (pa_cons (pv 1) pa_nil)) (pv 2)) (pv 5)) pe_int) (pv 4)) pa_nil)))))
     (pss_cons (ps_set (i := 3) sc__law_rising.nd rfl (by first | exact .inl rfl | exact .inr rfl) (pe_op op_add_str (pv 3) (pe_ix ix_str (pv 1) (pv 4) (fun _ _ => rfl))))
     (pss_one (ps_set (i := 4) sc__law_rising.nd rfl (by first | exact .inl rfl | exact .inr rfl) (pe_op op_add (pv 4) pe_int))))))
     (pss_one (ps_ret (pv 3)))))), ?_⟩
  refine ⟨_, rfl, m, rfl, by omega, by omega, for_src (Src.rng 0 m.toNat)
    (fun i σ H' => ∃ (l : List Nat) (at_ : Int) (y : Option V), σ = [some (.ref tp), some (.str (S sg)), some (.int m), some (.str (S l)), some (.int at_), y] ∧ Kp tp H H' ∧ Tape tl H' tp ∧ l.length = i ∧ (∀ c ∈ l, c ∈ sg) ∧ 0 ≤ at_ ∧ at_ ≤ sg.length - m + i)
    ⟨[], 0, _, (by rw [← emp]; rfl), Kp.refl, hT, rfl, (fun c h => (by cases h)), by omega, by omega⟩ (fun _ _ _ _ _ => trivial) (fun i x σ H1 H2 hi hP s2 hy => ?_) fun σ H' hP => ?_⟩
  · obtain ⟨l, at_, y, rfl, kp, tT, hl, hc, a0, a1⟩ := hP
    subst hy
    have ls : (S sg).length ≤ sizeLine := by rw [S_len]; exact Nat.le_of_lt (line200 (by omega))
    refine ⟨_, rfl, .ref tp, rfl, _, rfl, _, rfl, ls, _, rfl, _, _, rfl, rfl, _, rfl, _, _, rfl, rfl, _, _, rfl, rfl, _, rfl, _, _, rfl, rfl, ?_⟩
    rw [S_len]
    refine ⟨tp, tl, _, rfl, tT.mono s2, by omega, fun H3 r kp3 t3 r0 r1 => ⟨_, _, rfl, rfl, ?_⟩⟩
    have rb : at_ + r < sg.length := by omega
    obtain ⟨c, hc1, hc2⟩ := atI_mem (xs := (S sg).cps.toList) (r := at_ + r) (by omega) (by show at_ + r < ((S sg).cps.toList.length : Nat); simpa [S] using rb)
    refine ⟨_, rfl, _, rfl, _, rfl, _, _, c, rfl, rfl, ls, hc1, _, _, rfl, rfl, ?_, ?_⟩
    · rw [S_len, S_len, List.length_singleton]
      exact Nat.le_of_lt (line200 (by omega))
    · refine ⟨_, rfl, _, _, rfl, rfl, l ++ [c], at_ + r + 1, _, (by rw [S_cat]; rfl), kp.trans ((Kp.of s2).trans kp3), t3, (by rw [List.length_append, hl]; rfl), fun d hd => ?_, by omega, by omega⟩
      rcases List.mem_append.mp hd with h | h
      · exact hc d h
      · rw [List.mem_singleton.mp h]
        simpa [S] using hc2
  · obtain ⟨l, at_, y, rfl, kp, tT, hl, hc, a0, a1⟩ := hP
    exact ⟨_, rfl, k H' l kp tT (by omega) hc⟩
abbrev s__law_owners : Stmt := topS 25
theorem sc__law_owners : FnScope ["_law_tape_here"] ["_law_tape_here"] (defScope s__law_owners) := ⟨rfl, rfl, rfl, by decide +kernel, rfl, by decide +kernel, by decide +kernel⟩
def spOwners : Sp := fun vs H Q _ => ∃ tp tl : Addr, vs = [.ref tp] ∧ Tape tl H tp ∧ ∀ (H' : Hp) (l : List Nat), Kp tp H H' → Tape tl H' tp → 1 ≤ l.length → l.length ≤ 3 → (∀ c ∈ l, c ∈ upper) → Q (.str (S l)) H'
theorem ok__law_owners (D : Df K mg "_law_owners" s__law_owners ["_law_tape_here"]) (c__law_draw : C8.Cal P w K mg base 1 "_law_draw" spDraw []) (c__law_rising : C8.Cal P w K mg base 2 "_law_rising" spRising []) : C8.Cal P w K mg base 3 "_law_owners" spOwners [] := by
  refine D.cal sc__law_owners (fun vs H Q E h => ?_) (fun f cdv A outer s H vs Q E hr h => ?_)
  · obtain ⟨_, _, rfl, _⟩ := h
    rfl
  obtain ⟨tp, tl, rfl, hT, k⟩ := h
  refine ⟨_, (pss_one (ps_ret (C8.pe_c c__law_rising hr (by omega) (by rfl) (pa_cons (pv 0) (pa_cons pe_str (pa_cons (pe_ix ix_list (pe_lst (pa_cons pe_int (pa_cons pe_int (pa_cons pe_int (pa_cons pe_int (pa_cons pe_int (pa_cons pe_int pa_nil))))))) (C8.pe_c c__law_draw hr (by omega) (by rfl) (pa_cons (pv 0) (pa_cons pe_int pa_nil))) (fun _ _ => rfl)) pa_nil)))))), ?_⟩
  refine ⟨_, rfl, (by decide : 6 ≤ sizeLine), fun o no => ⟨_, rfl, tp, tl, _, rfl, hT.mono (Same.new no), by decide, fun H1 r kp t1 r0 r1 => ?_⟩⟩
  have no' := tp_ne hT no
  have e1 := kp o _ no' upd_same
  obtain ⟨v, hv, hm⟩ := atI_mem (xs := [V.int 1, .int 2, .int 2, .int 2, .int 2, .int 3]) r0 (by show r < (6 : Nat); omega)
  obtain ⟨j, rfl, j1, j3⟩ : ∃ j : Int, v = .int j ∧ 1 ≤ j ∧ j ≤ 3 := by
    simp only [List.mem_cons, List.not_mem_nil, or_false] at hm
    rcases hm with h | h | h | h | h | h <;> exact ⟨_, h, by omega, by omega⟩
  refine ⟨o, _, r, _, rfl, rfl, SqL.of e1, hv, tp, tl, upper, j, (by rw [← upper_eq]; rfl), t1, by omega, (by show j ≤ ((upper.length : Nat) : Int); rw [show upper.length = 26 from rfl]; omega), by decide, fun H2 l kp2 t2 hl hc => k H2 l ((Kp.of (Same.new no)).trans (kp.trans kp2)) t2 (by omega) (by omega) hc⟩
end
end K29
namespace K29
open PySem PySem.Spec PyProof.Rows L2 SX
/-! ### [c for c in text if ..] -/
inductive Pk (R : Nat → Bool → Prop) : List Nat → List Nat → Prop where
  | nil : Pk R [] []
  | yes {l cs : List Nat} {c : Nat} : Pk R l cs → R c true → Pk R (l ++ [c]) (cs ++ [c])
  | no {l cs : List Nat} {c : Nat} : Pk R l cs → R c false → Pk R (l ++ [c]) cs
theorem Pk.sub {R : Nat → Bool → Prop} {l cs : List Nat} (h : Pk R l cs) : (∀ c ∈ cs, c ∈ l) ∧ cs.length ≤ l.length := by
  induction h with
  | nil => exact ⟨fun c h => h, Nat.le_refl _⟩
  | yes _ _ ih =>
    refine ⟨fun c h => ?_, by rw [List.length_append, List.length_append]; exact Nat.add_le_add_right ih.2 _⟩
    rcases List.mem_append.mp h with h | h
    · exact List.mem_append_left _ (ih.1 c h)
    · exact List.mem_append_right _ h
  | no _ _ ih => exact ⟨fun c h => List.mem_append_left _ (ih.1 c h), by rw [List.length_append]; exact Nat.le_add_right_of_le ih.2⟩
theorem Pk.filter {p : Nat → Bool} {l cs : List Nat} (h : Pk (fun c b => b = p c) l cs) : cs = l.filter p := by
  induction h with
  | nil => rfl
  | yes _ r ih => rw [List.filter_append, ← ih, List.filter_cons_of_pos (by rw [← r])]; rfl
  | no _ r ih => rw [List.filter_append, ← ih, List.filter_cons_of_neg (by rw [← r]; decide)]; simp
theorem lc_pick {l : List Nat} {i : Nat} {tt : TT} {σ : L2.St} {H1 : Hp} {D : Addr} {Qd : Hp → Prop} (hi : i < σ.length) (hl : l.length ≤ 100) (Iv : Hp → Prop) (R : Nat → Bool → Prop) (iv0 : Iv (upd H1 D (.lst [])))
    (ivD : ∀ H2 acc u, Iv H2 → H2 D = some (.lst acc) → Iv (upd H2 D u))
    (step : ∀ c H2 acc (Q' : Bool → Hp → Prop), c ∈ l → Iv H2 → H2 D = some (.lst acc) → (∀ b H3, Iv H3 → H3 D = some (.lst acc) → R c b → Q' b H3) → tt ((wipe σ [i]).set i (some (.str (S [c])))) H2 Q')
    (done : ∀ H2 cs, Iv H2 → Pk R l cs → H2 D = some (.lst (cs.map fun c => .str (S [c]))) → Qd H2) :
    ∃ W : Nat → Nat → Hp → Prop, (∃ m, W 0 m (upd H1 D (.lst []))) ∧ ∀ j m H, W j m H →
      ((Its (S l)).stop j H ∧ Qd H) ∨ ((Its (S l)).go j H ∧ ∃ Nx : Hp → Prop, (∀ H', Nx H' → ∃ m', m' < m ∧ W (j + 1) m' H') ∧ ∀ x H', (Its (S l)).yld j H x H' → gName i x (wipe σ [i]) H' fun σ2 H2 => wipe σ2 [i] = wipe σ [i] ∧ tt σ2 H2 fun b H3 =>
        if b = true then tVar i σ2 H3 fun y H4 => ∃ acc, H4 D = some (.lst acc) ∧ acc.length < sizeLine ∧ Nx (upd H4 D (.lst (acc ++ [y]))) else Nx H3) := by
  have X := Src.str l
  refine ⟨fun j m H => j + m = l.length ∧ Iv H ∧ ∃ cs, Pk R (l.take j) cs ∧ H D = some (.lst (cs.map fun c => .str (S [c]))), ⟨l.length, Nat.zero_add _, iv0, [], .nil, upd_same⟩, fun j m H hW => ?_⟩
  obtain ⟨e, iv, cs, hp, eD⟩ := hW
  by_cases hj : j < l.length
  · refine .inr ⟨X.go j H hj trivial, fun H' => Iv H' ∧ ∃ cs, Pk R (l.take (j + 1)) cs ∧ H' D = some (.lst (cs.map fun c => .str (S [c]))), fun H' hN => ⟨m - 1, by omega, by omega, hN⟩, fun x H' hy => ?_⟩
    obtain ⟨rfl, c, hc, rfl⟩ := hy
    have hc' : l[j]? = some c := by simpa [S] using hc
    have hsub := hp.sub.2
    rw [List.length_take] at hsub
    have tk : l.take (j + 1) = l.take j ++ [c] := by rw [List.take_add_one, hc']; rfl
    refine ⟨?_, step c H' _ _ (List.mem_of_getElem? hc') iv eD fun b H3 iv3 e3 r => ?_⟩
    · simp [wipe]
    · cases b with
      | true =>
        refine iteT ⟨.str (S [c]), ?_, _, e3, line200 (by rw [List.length_map]; omega), ivD H3 _ _ iv3 e3, cs ++ [c], ?_, ?_⟩
        · simp [wipe, hi]
        · rw [tk]; exact .yes hp r
        · rw [upd_same, List.map_append]; rfl
      | false =>
        refine iteF ⟨iv3, cs, ?_, e3⟩
        rw [tk]; exact .no hp r
  · have ej : j = l.length := by omega
    subst ej
    rw [List.take_length] at hp
    exact .inl ⟨X.stop H trivial, done H cs iv hp eD⟩
theorem join_emp : ∀ cs : List Nat, TL.joinL [] (cs.map fun c => [c]) = cs
  | [] => rfl
  | [c] => rfl
  | c :: d :: r => by
    have ih := join_emp (d :: r)
    show [c] ++ [] ++ TL.joinL [] ((d :: r).map fun c => [c]) = c :: d :: r
    rw [ih]
    rfl
theorem join_chars (cs : List Nat) : Txt.join "" (cs.map fun c => S [c]) = S cs := by
  rw [emp, show (cs.map fun c => S [c]) = (cs.map fun c => [c]).map S by rw [List.map_map]; rfl, join_S, join_emp]
theorem sum_ones : ∀ cs : List Nat, ((cs.map fun c => S [c]).map (·.length)).sum = cs.length
  | [] => rfl
  | c :: r => by
    rw [List.map_cons, List.map_cons, List.sum_cons, sum_ones r, S_len]
    show 1 + r.length = r.length + 1
    omega
/-! ### blurred patterns -/
def blurL (p0 p1 : Nat) (ls : List Nat) : List Nat := if p0 ∉ ls ∧ p1 ∉ ls then ls else lower.filter fun c => decide (c ∈ ls ++ [p0, p1])
def blur (p0 p1 : Nat) : Tree → Tree
  | .empty => .empty
  | .cls n h l => .cls n h (blurL p0 p1 l)
  | .or p q => .or (blur p0 p1 p) (blur p0 p1 q)
  | .and p q => .and (blur p0 p1 p) (blur p0 p1 q)
  | .thn p q => .thn (blur p0 p1 p) (blur p0 p1 q)
  | .star p => .star (blur p0 p1 p)
  | .not p => .not (blur p0 p1 p)
def blurR (p0 p1 : Nat) (r : Rule) : Rule := { r with before := blur p0 p1 r.before, ls := blurL p0 p1 r.ls, after := blur p0 p1 r.after }
theorem blurL_ok {p0 p1 : Nat} (h0 : p0 ∈ lower) (h1 : p1 ∈ lower) (ls : List Nat) : p0 ∈ blurL p0 p1 ls ↔ p1 ∈ blurL p0 p1 ls := by
  unfold blurL
  split
  · rename_i h
    exact ⟨fun a => absurd a h.1, fun a => absurd a h.2⟩
  · simp [List.mem_filter, h0, h1]
theorem blur_ok {p0 p1 : Nat} (h0 : p0 ∈ lower) (h1 : p1 ∈ lower) : ∀ t : Tree, Blr p0 p1 (blur p0 p1 t)
  | .empty => trivial
  | .cls _ _ l => blurL_ok h0 h1 l
  | .or p q => ⟨blur_ok h0 h1 p, blur_ok h0 h1 q⟩
  | .and p q => ⟨blur_ok h0 h1 p, blur_ok h0 h1 q⟩
  | .thn p q => ⟨blur_ok h0 h1 p, blur_ok h0 h1 q⟩
  | .star p => blur_ok h0 h1 p
  | .not p => blur_ok h0 h1 p
theorem blur_ht (p0 p1 : Nat) : ∀ t : Tree, (blur p0 p1 t).ht = t.ht
  | .empty => rfl
  | .cls _ _ _ => rfl
  | .or p q => by simp only [blur, Tree.ht, blur_ht p0 p1 p, blur_ht p0 p1 q]
  | .and p q => by simp only [blur, Tree.ht, blur_ht p0 p1 p, blur_ht p0 p1 q]
  | .thn p q => by simp only [blur, Tree.ht, blur_ht p0 p1 p, blur_ht p0 p1 q]
  | .star p => by simp only [blur, Tree.ht, blur_ht p0 p1 p]
  | .not p => by simp only [blur, Tree.ht, blur_ht p0 p1 p]
theorem blur_name (p0 p1 : Nat) : ∀ t : Tree, (blur p0 p1 t).name = t.name
  | .empty => rfl
  | .cls _ _ _ => rfl
  | .or _ _ => rfl
  | .and _ _ => rfl
  | .thn _ _ => rfl
  | .star _ => rfl
  | .not _ => rfl
theorem blur_kids (p0 p1 : Nat) : ∀ t : Tree, (blur p0 p1 t).kids = t.kids.map (blur p0 p1)
  | .empty => rfl
  | .cls _ _ _ => rfl
  | .or _ _ => rfl
  | .and _ _ => rfl
  | .thn _ _ => rfl
  | .star _ => rfl
  | .not _ => rfl
/-- the classes' texts are short -/
def TOk : Tree → Prop
  | .empty => True
  | .cls _ h l => h.length ≤ 30 ∧ l.length ≤ 30
  | .or p q => TOk p ∧ TOk q
  | .and p q => TOk p ∧ TOk q
  | .thn p q => TOk p ∧ TOk q
  | .star p => TOk p
  | .not p => TOk p
theorem kids_ok : ∀ {t : Tree}, TOk t → ∀ k ∈ t.kids, TOk k
  | .empty, _, k, h => by cases h
  | .cls _ _ _, _, k, h => by cases h
  | .or p q, o, k, h => by
    simp only [Tree.kids, List.mem_cons, List.not_mem_nil, or_false] at h
    rcases h with rfl | rfl
    · exact o.1
    · exact o.2
  | .and p q, o, k, h => by
    simp only [Tree.kids, List.mem_cons, List.not_mem_nil, or_false] at h
    rcases h with rfl | rfl
    · exact o.1
    · exact o.2
  | .thn p q, o, k, h => by
    simp only [Tree.kids, List.mem_cons, List.not_mem_nil, or_false] at h
    rcases h with rfl | rfl
    · exact o.1
    · exact o.2
  | .star p, o, k, h => by
    simp only [Tree.kids, List.mem_cons, List.not_mem_nil, or_false] at h
    subst h; exact o
  | .not p, o, k, h => by
    simp only [Tree.kids, List.mem_cons, List.not_mem_nil, or_false] at h
    subst h; exact o
theorem kids_ne {t : Tree} (h : t.name ≠ "class") (h2 : t.name ≠ "empty") : t.kids ≠ [] := by
  cases t <;> first | exact absurd rfl h | exact absurd rfl h2 | (simp [Tree.kids])
theorem cut_tail {x : V} {r : List V} : cutV (x :: r) (some 1) none = r := by
  unfold cutV
  rw [show (1 : Int) = ((1 : Nat) : Int) from rfl, HT.sIx_nat, HT.sIx_none, List.length_cons, Nat.min_eq_left (by omega)]
  exact List.take_of_length_le (by rw [List.drop_succ_cons, List.drop_zero]; omega)
theorem cut_not {x : V} {r : List V} : ¬ (HT.sIx (x :: r).length 0 (some 1) = 0 ∧ HT.sIx (x :: r).length (x :: r).length none = (x :: r).length) := fun z => by
  have z1 := z.1
  rw [show (1 : Int) = ((1 : Nat) : Int) from rfl, HT.sIx_nat, List.length_cons] at z1
  omega
section
variable {P : Program} {w : World} {K : PySem.W.Frag} {mg : Str → Option Value} {base : Heap}
abbrev s__law_blurred : Stmt := topS 26
theorem sc__law_blurred : FnScope ["_law_tree", "_law_pair", "_law_listed", "_law_sign", "_law_operand"] ["_law_tree", "_law_pair"] (defScope s__law_blurred) := ⟨rfl, rfl, rfl, by decide +kernel, rfl, by decide +kernel, by decide +kernel⟩
def spBlurred (K : PySem.W.Frag) (n : Nat) : Sp := fun vs H Q _ => ∃ v t p0 p1, vs = [v, .str (S [p0, p1])] ∧ Dp K H v (Tree.data t) ∧ t.ht ≤ n ∧ TOk t ∧ Ret K H Q (· = (blur p0 p1 t).data)
theorem ok__law_blurred {n : Nat} (D : Df K mg "_law_blurred" s__law_blurred ["_law_tree", "_law_pair"]) (z_tuple : mg "tuple" = none) (c__law_blurred : C8.Cal P w K mg base n "_law_blurred" (spBlurred K n) []) : C8.Cal P w K mg base (n + 1) "_law_blurred" (spBlurred K (n + 1)) [] := by
  refine D.cal sc__law_blurred (fun vs H Q E h => ?_) (fun f cdv A outer s H vs Q E hr h => ?_)
  · obtain ⟨_, _, _, _, rfl, _⟩ := h
    rfl
  obtain ⟨v, t, p0, p1, rfl, hd, hh, ht, k⟩ := h
  refine ⟨_, (pss_cons (ps_if (pt_cmpR op_eq (pe_ix ix_tup (pv 0) pe_int (fun _ _ => rfl)) pe_str (nomark _))
     (pss_one (ps_ret (pv 0)))
     pss_nil)
     (pss_cons (ps_if (pt_cmpR op_eq (pe_ix ix_tup (pv 0) pe_int (fun _ _ => rfl)) pe_str (nomark _))
     (pss_cons (ps_if (PW.pt (pw_and (pt_cmpR op_notIn_sign (pe_ix ix_str (pv 1) pe_int (fun _ _ => rfl)) (pe_ix ix_tup (pv 0) pe_int (fun _ _ => rfl)) (by rfl)) (pw_and1 (pt_cmpR op_notIn_sign (pe_ix ix_str (pv 1) pe_int (fun _ _ => rfl)) (pe_ix ix_tup (pv 0) pe_int (fun _ _ => rfl)) (by rfl)))))
     (pss_one (ps_ret (pv 0)))
     pss_nil)
     (pss_cons (ps_set (i := 2) sc__law_blurred.nd rfl (by first | exact .inl rfl | exact .inr rfl) (pe_op op_add_str (pe_ix ix_tup (pv 0) pe_int (fun _ _ => rfl)) (pv 1)))
     (pss_one (ps_ret (pe_tup (pa_cons pe_str (pa_cons (pe_ix ix_tup (pv 0) pe_int (fun _ _ => rfl)) (pa_cons (pe_ix ix_tup (pv 0) pe_int (fun _ _ => rfl)) (pa_cons (pe_join pe_str (pe_lc (own := [("_law_sign", 3)]) rfl sc__law_blurred.nd (pi_str pe_str) (blkOk_by (by with_unfolding_all rfl)) (fun _ _ _ _ _ => (pg_name (i := 3) sc__law_blurred.nd rfl (by first | exact .inl rfl | exact .inr rfl))) (fun _ _ _ _ _ => (pts_one (pt_cmpR op_in_sign (pv 3) (pv 2) (by rfl)))) (fun _ _ _ _ _ => (pv 3)))) pa_nil)))))))))
     pss_nil)
     (pss_one (ps_ret (pe_op op_catT (pe_tup (pa_cons (pe_ix ix_tup (pv 0) pe_int (fun _ _ => rfl)) pa_nil)) (pe_callTy call_tuple_of (by rfl) z_tuple (by decide +kernel) (pa_cons (pe_lc (own := [("_law_operand", 4)]) rfl sc__law_blurred.nd (pi_tup (pe_slice sl_tup (pv 0) (po_some pe_int) po_none)) (blkOk_by (by with_unfolding_all rfl)) (fun _ _ _ _ _ => (pg_name (i := 4) sc__law_blurred.nd rfl (by first | exact .inl rfl | exact .inr rfl))) (fun _ _ _ _ _ => pts_nil) (fun _ _ _ _ _ => (C8.pe_c c__law_blurred hr (by omega) (by rfl) (pa_cons (pv 4) (pa_cons (pv 1) pa_nil))))) pa_nil))))))), ?_⟩
  obtain ⟨a, r, ds, rfl, hT, hr', e, hk⟩ := treeI hd
  refine ⟨.ref a, rfl, a, _, 0, _, rfl, rfl, hT, atI_nat (j := 0) rfl, rfl, _, rfl, ite2 (fun c => ?_) (fun c => ?_)⟩
  · have c' := name_empty t (str_eq (of_decide_eq_true c))
    subst c'
    exact ⟨_, rfl, k _ _ _ (Same.refl _) rfl hd⟩
  have ne : t.name ≠ "empty" := fun z => c (decide_eq_true (congrArg V.str z))
  refine ⟨.ref a, rfl, a, _, 0, _, rfl, rfl, hT, atI_nat (j := 0) rfl, rfl, _, rfl, ite2 (fun c2 => ?_) (fun c2 => ?_)⟩
  · obtain ⟨nb, hs, ls, rfl⟩ := name_class t (str_eq (of_decide_eq_true c2))
    obtain ⟨a2, xs, ea, hT2, hA⟩ := Dp.tupI (show Dp K H (.ref a) (.tuple [.str "class", .bool nb, .str (S hs), .str (S ls)]) from hd)
    cases ea
    obtain ⟨v0, r0, rfl, h0, hA⟩ := hA.consI
    obtain ⟨v1, r1, rfl, h1, hA⟩ := hA.consI
    obtain ⟨v2, r2, rfl, h2, hA⟩ := hA.consI
    obtain ⟨v3, r3, rfl, h3, hA⟩ := hA.consI
    obtain rfl := hA.nilI
    rw [h0.strI, h1.blI, h2.strI, h3.strI] at hT2
    have ls2 : (S [p0, p1]).length ≤ sizeLine := by rw [S_len]; exact Nat.le_of_lt (line200 (by show 2 ≤ _; omega))
    have at0 : atI (S [p0, p1]).cps.toList ((0 : Nat) : Int) = some p0 := atI_nat rfl
    have at1 : atI (S [p0, p1]).cps.toList ((1 : Nat) : Int) = some p1 := atI_nat rfl
    have same : p0 ∉ ls ∧ p1 ∉ ls → blurL p0 p1 ls = ls := fun h => if_pos h
    -- the other letters
    have rest : ¬ (p0 ∉ ls ∧ p1 ∉ ls) → (blur p0 p1 (.cls nb hs ls)).data = .tuple [.str "class", .bool nb, .str (S hs), .str (S (lower.filter fun c => decide (c ∈ ls ++ [p0, p1])))] := fun h => by
      show PyData.tuple [.str "class", .bool nb, .str (S hs), .str (S (blurL p0 p1 ls))] = _
      unfold blurL
      rw [if_neg h]
    refine ⟨_, rfl, _, _, _, rfl, rfl, ls2, at0, .ref a, rfl, a, _, 3, _, rfl, rfl, hT2, atI_nat (j := 3) rfl, p0, _, rfl, rfl, _, rfl, ?_⟩
    have fin : ¬ (p0 ∉ ls ∧ p1 ∉ ls) → ∀ (D1 : Addr) (H2 : Hp) (cs : List Nat), Same H H2 → Pk (fun c b => b = decide (c ∈ ls ++ [p0, p1])) lower cs → (cs.map fun c => S [c]).map (·.length) = (cs.map fun c => S [c]).map (·.length) →
        (((cs.map fun c => S [c]).map (·.length)).sum + (cs.map fun c => S [c]).length * ("" : Str).length ≤ 16777216 ∧ [V.str "class", .bl nb, .str (S hs), .str (Txt.join "" (cs.map fun c => S [c]))].length ≤ sizeLine ∧ ∀ p, H2 p = none → Q (.ref p) (upd H2 p (.tup [V.str "class", .bl nb, .str (S hs), .str (Txt.join "" (cs.map fun c => S [c]))]))) := fun hn D1 H2 cs s2 hp _ => by
      refine ⟨?_, (by simp [sizeLine_eq]), fun p hp2 => k _ _ _ (s2.trans (Same.new hp2)) rfl ?_⟩
      · have := hp.sub.2
        rw [show lower.length = 26 from rfl] at this
        rw [sum_ones, emp, S_len, List.length_nil, Nat.mul_zero]
        omega
      · rw [rest hn, join_chars, hp.filter]
        exact Dp.tupN hp2 (.cons (.str _) (.cons (.bl _) (.cons (.str _) (.one (.str _)))))
    have lsum : (S ls).length + (S [p0, p1]).length ≤ sizeLine := by
      have := ht.2
      rw [S_len, S_len]
      exact Nat.le_of_lt (line200 (by show ls.length + 2 ≤ _; omega))
    cases e0 : decide (p0 ∈ ls) with
    | true =>
      have hn : ¬ (p0 ∉ ls ∧ p1 ∉ ls) := fun z => z.1 (of_decide_eq_true e0)
      refine iteF (iteF ⟨.ref a, rfl, a, _, 3, _, rfl, rfl, hT2, atI_nat (j := 3) rfl, _, rfl, _, _, rfl, rfl, lsum, ?_⟩)
      refine ⟨.ref a, rfl, a, _, 1, _, rfl, rfl, hT2, atI_nat (j := 1) rfl, .ref a, rfl, a, _, 2, _, rfl, rfl, hT2, atI_nat (j := 2) rfl, ⟨_, rfl⟩, S lower, (by rw [← lower_eq]), fun D1 hD1 => lc_pick (by simp [L2.start]) (by decide) (Same H) (fun c b => b = decide (c ∈ ls ++ [p0, p1])) (Same.new hD1) (fun H2 acc u s2 _ b q e => by rw [upd_ne (ne_of_none e hD1)]; exact s2 _ _ e) (fun c H2 acc Q' hc s2 e2 el => ?_) fun H2 cs s2 hp e2 => ?_⟩
      · exact ⟨_, rfl, _, rfl, c, S (ls ++ [p0, p1]), rfl, (by rw [S_cat]), _, rfl, el _ H2 s2 e2 (by simp [S])⟩
      · obtain ⟨f1, f2, f3⟩ := fin hn D1 H2 cs s2 hp rfl
        exact ⟨_, D1, cs.map fun c => S [c], rfl, rfl, .inl (SqL.of (by rw [e2, List.map_map] <;> rfl)), f1, f2, f3⟩
    | false =>
      have h0 : p0 ∉ ls := of_decide_eq_false e0
      refine iteT ⟨_, rfl, _, _, _, rfl, rfl, ls2, at1, .ref a, rfl, a, _, 3, _, rfl, rfl, hT2, atI_nat (j := 3) rfl, p1, _, rfl, rfl, _, rfl, ?_⟩
      cases e1 : decide (p1 ∈ ls) with
      | false =>
        refine iteT ⟨_, rfl, k _ _ _ (Same.refl _) rfl ?_⟩
        show Dp K H (.ref a) (.tuple [.str "class", .bool nb, .str (S hs), .str (S (blurL p0 p1 ls))])
        rw [same ⟨h0, of_decide_eq_false e1⟩]
        exact hd
      | true =>
        have hn : ¬ (p0 ∉ ls ∧ p1 ∉ ls) := fun z => z.2 (of_decide_eq_true e1)
        refine iteF ⟨.ref a, rfl, a, _, 3, _, rfl, rfl, hT2, atI_nat (j := 3) rfl, _, rfl, _, _, rfl, rfl, lsum, ?_⟩
        refine ⟨.ref a, rfl, a, _, 1, _, rfl, rfl, hT2, atI_nat (j := 1) rfl, .ref a, rfl, a, _, 2, _, rfl, rfl, hT2, atI_nat (j := 2) rfl, ⟨_, rfl⟩, S lower, (by rw [← lower_eq]), fun D1 hD1 => lc_pick (by simp [L2.start]) (by decide) (Same H) (fun c b => b = decide (c ∈ ls ++ [p0, p1])) (Same.new hD1) (fun H2 acc u s2 _ b q e => by rw [upd_ne (ne_of_none e hD1)]; exact s2 _ _ e) (fun c H2 acc Q' hc s2 e2 el => ?_) fun H2 cs s2 hp e2 => ?_⟩
        · exact ⟨_, rfl, _, rfl, c, S (ls ++ [p0, p1]), rfl, (by rw [S_cat]), _, rfl, el _ H2 s2 e2 (by simp [S])⟩
        · obtain ⟨f1, f2, f3⟩ := fin hn D1 H2 cs s2 hp rfl
          exact ⟨_, D1, cs.map fun c => S [c], rfl, rfl, .inl (SqL.of (by rw [e2, List.map_map] <;> rfl)), f1, f2, f3⟩
  · have c' : t.name ≠ "class" := fun z => c2 (decide_eq_true (congrArg V.str z))
    rw [hk c'] at hr'
    have lr := hr'.len
    rw [List.length_map] at lr
    have lk := kids_len t
    refine ⟨.ref a, rfl, a, _, 0, _, rfl, rfl, hT, atI_nat (j := 0) rfl, (by decide : 1 ≤ sizeLine), fun p hp => ?_⟩
    have sp := Same.new (o := .tup [.str t.name]) hp
    refine ⟨.ref a, rfl, 1, rfl, a, _, rfl, sp.tup hT, cut_not, fun q hq => ?_⟩
    rw [cut_tail]
    have sq := sp.trans (Same.new (o := .tup r) hq)
    refine ⟨q, rfl, ⟨_, .of upd_same⟩, fun D1 hD1 => lc_src (K := K) (Src.tup q r) (fun H' s' => s'.tup (.of upd_same)) hD1 (by omega) (fun i d => ∃ kt, t.kids[i]? = some kt ∧ d = (blur p0 p1 kt).data) (fun i x H2 acc Q' hi s2 e2 hy el => ?_) fun H2 ys es s2 e2 hl hF hA => ?_⟩
    · obtain ⟨d, hd1, hp1⟩ := hr'.get hy
      rw [List.getElem?_map] at hd1
      obtain ⟨kt, hk1, rfl⟩ := Option.map_eq_some_iff.mp hd1
      have hkt := kids_ht t kt (List.mem_of_getElem? hk1)
      exact ⟨rfl, _, rfl, _, rfl, x, kt, p0, p1, rfl, hp1.mono (sq.trans s2), by omega, kids_ok ht kt (List.mem_of_getElem? hk1), fun H3 y d s3 ed pd => by subst ed; exact el H3 y _ s3 ⟨kt, hk1, rfl⟩ (Dp.del (s3 _ _ e2) pd (nl_tree _))⟩
    · have ee : es = (t.kids.map (blur p0 p1)).map Tree.data := by
        refine List.ext_getElem? fun i => ?_
        rcases Nat.lt_or_ge i es.length with z | z
        · obtain ⟨kt, h1, h2⟩ := hF i _ (List.getElem?_eq_getElem z)
          rw [List.getElem?_eq_getElem z, h2, List.getElem?_map, List.getElem?_map, h1]
          rfl
        · rw [List.getElem?_eq_none z, List.getElem?_eq_none (by rw [List.length_map, List.length_map]; omega)]
      subst ee
      have ly := hA.len
      rw [List.length_map, List.length_map] at ly
      refine ⟨D1, ys, rfl, .inl ⟨SqL.of e2, fun p2 hp2 => ?_⟩⟩
      have s3 := s2.trans (Same.new (o := .tup ys) hp2)
      refine ⟨p, p2, [.str t.name], ys, rfl, rfl, ((Same.new hq).trans s3).tup (.of upd_same), .of upd_same, by simp, ?_, fun z => ?_, fun z p4 hp4 => ?_⟩
      · rw [List.length_singleton]
        exact Nat.le_of_lt (line200 (by omega))
      · rw [z] at ly
        have := kids_ne c' ne
        exact absurd (List.length_eq_zero_iff.mp ly.symm) this
      · refine k _ _ _ ((sq.trans s3).trans (Same.new hp4)) rfl ?_
        rw [data_of _ (by rw [blur_name]; exact c'), blur_name, blur_kids]
        exact Dp.tupN hp4 (.cons (.str _) (DpAll.mono (del_le.trans (Same.new hp2)) hA))
theorem all_blurred (D : Df K mg "_law_blurred" s__law_blurred ["_law_tree", "_law_pair"]) (z_tuple : mg "tuple" = none) : ∀ n, C8.Cal P w K mg base n "_law_blurred" (spBlurred K n) []
  | 0 => D.none (fun vs H Q E h => by
      obtain ⟨v, t, _, _, _, _, h, _⟩ := h
      have := ht_pos t
      omega) _
  | n + 1 => ok__law_blurred D z_tuple (all_blurred D z_tuple n)
end
end K29
namespace K29
open PySem PySem.Spec PyProof.Rows L2 SX
/-- a rule as it is drawn -/
structure RW (r : Rule) : Prop where
  ok : ROk r
  before : TOk r.before
  target : r.hs.length ≤ 30 ∧ r.ls.length ≤ 30
  after : TOk r.after
  codes : ∀ c ∈ r.out, c < 128
def PipeW (pl : List (List Rule)) : Prop := pl.length ≤ 3 ∧ ∀ st ∈ pl, st.length ≤ 3 ∧ ∀ r ∈ st, RW r
theorem PipeW.ok {pl : List (List Rule)} (h : PipeW pl) (p0 p1 : Nat) : PipeOk (pl.map fun st => st.map (blurR p0 p1)) := by
  refine ⟨by rw [List.length_map]; exact h.1, fun st hst => ?_⟩
  obtain ⟨s, hs, rfl⟩ := List.mem_map.mp hst
  refine ⟨by rw [List.length_map]; exact (h.2 s hs).1, fun r hr => ?_⟩
  obtain ⟨q, hq, rfl⟩ := List.mem_map.mp hr
  obtain ⟨a, b, c⟩ := ((h.2 s hs).2 q hq).ok
  exact ⟨by show (blur p0 p1 q.before).ht ≤ 4; rw [blur_ht]; exact a, by show (blur p0 p1 q.after).ht ≤ 4; rw [blur_ht]; exact b, c⟩
theorem blurR_ok {p0 p1 : Nat} (h0 : p0 ∈ lower) (h1 : p1 ∈ lower) (r : Rule) : RBlr p0 p1 (blurR p0 p1 r) := ⟨blur_ok h0 h1 _, blurL_ok h0 h1 _, blur_ok h0 h1 _⟩
section
variable {P : Program} {w : World} {K : PySem.W.Frag} {mg : Str → Option Value} {base : Heap}
abbrev s__law_blurred_stages : Stmt := topS 27
theorem sc__law_blurred_stages : FnScope ["_law_pipeline", "_law_pair", "_law_stages_here", "_law_stage", "_law_rules_here", "_law_rule_here", "_law_tree"] ["_law_pipeline", "_law_pair"] (defScope s__law_blurred_stages) := ⟨rfl, rfl, rfl, by decide +kernel, rfl, by decide +kernel, by decide +kernel⟩
def spBlurredStages (K : PySem.W.Frag) : Sp := fun vs H Q _ => ∃ v pl p0 p1, vs = [v, .str (S [p0, p1])] ∧ Dp K H v (pipeD pl) ∧ PipeW pl ∧ Ret K H Q (· = pipeD (pl.map fun st => st.map (blurR p0 p1)))
theorem ok__law_blurred_stages (D : Df K mg "_law_blurred_stages" s__law_blurred_stages ["_law_pipeline", "_law_pair"]) (z_tuple : mg "tuple" = none) (c__law_blurred : C8.Cal P w K mg base 4 "_law_blurred" (spBlurred K 4) []) : C8.Cal P w K mg base 5 "_law_blurred_stages" (spBlurredStages K) [] := by
  refine D.cal sc__law_blurred_stages (fun vs H Q E h => ?_) (fun f cdv A outer s H vs Q E hr h => ?_)
  · obtain ⟨_, _, _, _, rfl, _⟩ := h
    rfl
  obtain ⟨v, pl, p0, p1, rfl, hd, hok, k⟩ := h
  refine ⟨_, (pss_cons (ps_set (i := 2) sc__law_blurred_stages.nd rfl (by first | exact .inl rfl | exact .inr rfl) (pe_lst pa_nil))
     (pss_cons (ps_for PassesOwn.never rfl (pi_tup (pv 0)) (pg_name (i := 3) sc__law_blurred_stages.nd rfl (by first | exact .inl rfl | exact .inr rfl))
     (pss_cons (ps_set (i := 4) sc__law_blurred_stages.nd rfl (by first | exact .inl rfl | exact .inr rfl) (pe_lst pa_nil))
     (pss_cons (ps_for PassesOwn.never rfl (pi_tup (pv 3)) (pg_name (i := 5) sc__law_blurred_stages.nd rfl (by first | exact .inl rfl | exact .inr rfl))
     (pss_one (ps_expr (pe_bm PySem.F.plainAttrs_list PySem.F.slot_list_append PySem.F.type_list_append mt_append (pv 4) (pa_cons (pe_op op_catT (pe_callTy call_tuple_of (by rfl) z_tuple (by decide +kernel) (pa_cons (pe_lc (own := [("_law_tree", 6)]) rfl sc__law_blurred_stages.nd (pi_tup (pe_slice sl_tup (pv 5) po_none (po_some pe_int))) (blkOk_by (by with_unfolding_all rfl)) (fun _ _ _ _ _ => (pg_name (i := 6) sc__law_blurred_stages.nd rfl (by first | exact .inl rfl | exact .inr rfl))) (fun _ _ _ _ _ => pts_nil) (fun _ _ _ _ _ => (C8.pe_c c__law_blurred hr (by omega) (by rfl) (pa_cons (pv 6) (pa_cons (pv 1) pa_nil))))) pa_nil)) (pe_tup (pa_cons (pe_ix ix_tup (pv 5) pe_int (fun _ _ => rfl)) pa_nil))) pa_nil)))))
     (pss_one (ps_expr (pe_bm PySem.F.plainAttrs_list PySem.F.slot_list_append PySem.F.type_list_append mt_append (pv 2) (pa_cons (pe_callTy call_tuple_of (by rfl) z_tuple (by decide +kernel) (pa_cons (pv 4) pa_nil)) pa_nil)))))))
     (pss_one (ps_ret (pe_callTy call_tuple_of (by rfl) z_tuple (by decide +kernel) (pa_cons (pv 2) pa_nil)))))), ?_⟩
  obtain ⟨b, xs, rfl, hTb, hA⟩ := Dp.tupI hd
  have lx := hA.len
  rw [List.length_map] at lx
  have lp := hok.1
  refine ⟨Nat.zero_le _, fun o no => ?_⟩
  refine ⟨.ref b, rfl, b, rfl, ⟨xs, (Same.new no).tup hTb⟩, for_src (Src.tup b xs)
    (fun i σ H' => ∃ y3 y4 y5 y6, σ = [some (.ref b), some (.str (S [p0, p1])), some (.ref o), y3, y4, y5, y6] ∧ Same H H' ∧ ∃ ys, H' o = some (.lst ys) ∧ DpAll K H' ys (((pl.take i).map fun st => st.map (blurR p0 p1)).map stageD))
    ⟨_, _, _, _, rfl, Same.new no, [], upd_same, .nil⟩ (fun i σ H' _ h => by obtain ⟨_, _, _, _, _, h, _⟩ := h; exact h.tup hTb) (fun i x σ H3 H4 hi hP s4 hy => ?_) fun σ H' hP => ?_⟩
  · obtain ⟨y3, y4, y5, y6, rfl, S3, ys, eo, hY⟩ := hP
    have S4 := S3.trans s4
    have eo4 := s4 _ _ eo
    have hY4 := DpAll.mono s4 hY
    obtain ⟨d, hd1, ps⟩ := hA.get hy
    rw [List.getElem?_map] at hd1
    obtain ⟨st, hst, rfl⟩ := Option.map_eq_some_iff.mp hd1
    obtain ⟨st3, stok⟩ := hok.2 st (List.mem_of_getElem? hst)
    obtain ⟨c, cs, rfl, hTc, hAc⟩ := stageI (ps.mono S4)
    have lc := hAc.len
    rw [List.length_map] at lc
    refine ⟨Nat.zero_le _, fun o2 no2 => ?_⟩
    have n2 := Same.new (o := .lst []) no2
    refine ⟨.ref c, rfl, c, rfl, ⟨cs, n2.tup hTc⟩, for_src (Src.tup c cs)
      (fun j σ H' => ∃ z5 z6, σ = [some (.ref b), some (.str (S [p0, p1])), some (.ref o), some (.ref c), some (.ref o2), z5, z6] ∧ Same H4 H' ∧ ∃ zs, H' o2 = some (.lst zs) ∧ DpAll K H' zs (((st.take j).map (blurR p0 p1)).map ruleD))
      ⟨_, _, rfl, n2, [], upd_same, .nil⟩ (fun j σ H' _ h => by obtain ⟨_, _, _, h, _⟩ := h; exact h.tup hTc) (fun j x σ H5 H6 hj hP s6 hy2 => ?_) fun σ H' hP => ?_⟩
    · obtain ⟨z5, z6, rfl, S5, zs, eo5, hZ⟩ := hP
      have S6 := S5.trans s6
      have eo6 := s6 _ _ eo5
      have hZ6 := DpAll.mono s6 hZ
      obtain ⟨d2, hd2, pr⟩ := hAc.get hy2
      rw [List.getElem?_map] at hd2
      obtain ⟨r, hr1, rfl⟩ := Option.map_eq_some_iff.mp hd2
      have rw' := stok r (List.mem_of_getElem? hr1)
      obtain ⟨ar, vb, vt, va, rfl, hTr, pb, pt, pa⟩ := ruleI (pr.mono S6)
      have hA3 : DpAll K H6 [vb, vt, va] ([r.before, .cls r.neg r.hs r.ls, r.after].map Tree.data) := .cons pb (.cons pt (.one pa))
      have tok3 : ∀ t ∈ [r.before, .cls r.neg r.hs r.ls, r.after], TOk t ∧ t.ht ≤ 4 := fun t ht => by
        simp only [List.mem_cons, List.not_mem_nil, or_false] at ht
        rcases ht with rfl | rfl | rfl
        · exact ⟨rw'.before, rw'.ok.1⟩
        · exact ⟨rw'.target, (by show 1 ≤ 4; omega)⟩
        · exact ⟨rw'.after, rw'.ok.2.1⟩
      refine ⟨.ref o2, rfl, .inl ⟨rfl, _, SqL.of eo6⟩, .ref ar, rfl, 3, rfl, ar, _, rfl, hTr, (by rintro ⟨_, z⟩; exact absurd z (by simp [HT.sIx])), fun p hp => ?_⟩
      rw [show cutV [vb, vt, va, .str (S r.out)] none (some 3) = [vb, vt, va] by simp [cutV, HT.sIx]]
      have sp := Same.new (o := .tup [vb, vt, va]) hp
      refine ⟨p, rfl, ⟨_, .of upd_same⟩, fun D1 hD1 => lc_src (K := K) (Src.tup p [vb, vt, va]) (fun H' s' => s'.tup (.of upd_same)) hD1 (by show 3 ≤ _; omega) (fun i d => ∃ t, [r.before, .cls r.neg r.hs r.ls, r.after][i]? = some t ∧ d = (blur p0 p1 t).data) (fun i x H7 acc Q' hi' s7 e7 hy3 el => ?_) fun H7 ws es s7 e7 hl hF hE => ?_⟩
      · obtain ⟨d, hd3, hp1⟩ := hA3.get hy3
        rw [List.getElem?_map] at hd3
        obtain ⟨t, ht1, rfl⟩ := Option.map_eq_some_iff.mp hd3
        obtain ⟨t1, t2⟩ := tok3 t (List.mem_of_getElem? ht1)
        exact ⟨rfl, _, rfl, _, rfl, x, t, p0, p1, rfl, hp1.mono (sp.trans s7), t2, t1, fun H8 y d s8 ed pd => by subst ed; exact el H8 y _ s8 ⟨t, ht1, rfl⟩ (Dp.del (s8 _ _ e7) pd (nl_tree _))⟩
      · have ee : es = ([r.before, .cls r.neg r.hs r.ls, r.after].map (blur p0 p1)).map Tree.data := by
          refine List.ext_getElem? fun i => ?_
          rcases Nat.lt_or_ge i es.length with z | z
          · obtain ⟨kt, h1, h2⟩ := hF i _ (List.getElem?_eq_getElem z)
            rw [List.getElem?_eq_getElem z, h2, List.getElem?_map, List.getElem?_map, h1]
            rfl
          · rw [List.getElem?_eq_none z, List.getElem?_eq_none (by rw [List.length_map, List.length_map]; show 3 ≤ i; rw [hl] at z; exact z)]
        subst ee
        have s67 := sp.trans s7
        have lw := hE.len
        have lw3 : ws.length = 3 := lw
        refine ⟨D1, ws, rfl, .inl ⟨SqL.of e7, fun q hq => ?_⟩⟩
        have s8 := s67.trans (Same.new (o := .tup ws) hq)
        refine ⟨.ref ar, rfl, ar, _, 3, _, rfl, rfl, s8.tup hTr, atI_nat (j := 3) rfl, (by decide : 1 ≤ sizeLine), fun q2 hq2 => ?_⟩
        refine ⟨q, q2, ws, [.str (S r.out)], rfl, rfl, (Same.new hq2).tup (.of upd_same), .of upd_same, ?_, ?_, (fun z => by cases z), fun _ q3 hq3 => ?_⟩
        · intro z; rw [z] at lw3; cases lw3
        · rw [lw3]; exact Nat.le_of_lt (line200 (by show 3 + 1 ≤ _; omega))
        have s9 := s8.trans ((Same.new (o := .tup [.str (S r.out)]) hq2).trans (Same.new (o := .tup (ws ++ [.str (S r.out)])) hq3))
        have eo9 := s9 _ _ eo6
        have lz := hZ.len
        rw [List.length_map, List.length_map, List.length_take] at lz
        have dr : Dp K (upd (upd (upd H7 q (.tup ws)) q2 (.tup [.str (S r.out)])) q3 (.tup (ws ++ [.str (S r.out)]))) (.ref q3) (ruleD (blurR p0 p1 r)) := by
          refine Dp.tupN (ds := ([r.before, .cls r.neg r.hs r.ls, r.after].map (blur p0 p1)).map Tree.data ++ [.str (S r.out)]) hq3 (DpAll.app (DpAll.mono (del_le.trans ((Same.new hq).trans (Same.new hq2))) hE) (.one (.str _)))
        have tu := Tups.upd (o := .lst (zs ++ [.ref q3])) eo9
        refine ⟨o2, zs, .ref q3, rfl, rfl, eo9, line200 (by omega), _, _, rfl, fun q' r' e => ?_, _, upd_same, ?_⟩
        · rw [upd_ne (ne_of_none e no2)]
          exact s9 _ _ (S6 _ _ e)
        · rw [take_snoc hr1, List.map_append, List.map_append]
          exact DpAll.app (DpAll.tups tu (DpAll.mono s9 hZ6) (nlAll_map nl_rule _)) (.one (Dp.tups tu dr (nl_rule _)))
    · obtain ⟨z5, z6, rfl, S5, zs, eo5, hZ⟩ := hP
      rw [lc, List.take_length] at hZ
      have eo' := S5 _ _ eo4
      have ly := hY.len
      rw [List.length_map, List.length_map, List.length_take] at ly
      refine ⟨.ref o, rfl, .inl ⟨rfl, _, SqL.of eo'⟩, .ref o2, rfl, o2, zs, rfl, .inl ⟨SqL.of eo5, fun p hp => ?_⟩⟩
      have sp := Same.new (o := .tup zs) hp
      have eop := sp _ _ eo'
      have tu := Tups.upd (o := .lst (ys ++ [.ref p])) eop
      refine ⟨o, ys, .ref p, rfl, rfl, eop, line200 (by omega), _, _, _, _, rfl, fun q r e => ?_, _, upd_same, ?_⟩
      · rw [upd_ne (ne_of_none e no)]
        exact sp _ _ (S5 _ _ (S4 _ _ e))
      · rw [take_snoc hst, List.map_append, List.map_append]
        exact DpAll.app (DpAll.tups tu (DpAll.mono (S5.trans sp) hY4) (nlAll_map nl_stage _)) (.one (Dp.tups tu (Dp.tupN hp hZ) (nl_stage _)))
  · obtain ⟨y3, y4, y5, y6, rfl, S3, ys, eo, hY⟩ := hP
    rw [lx, List.take_length] at hY
    exact ⟨.ref o, rfl, o, ys, rfl, .inl ⟨SqL.of eo, fun p hp => k _ _ _ (S3.trans (Same.new hp)) rfl (Dp.tupN hp hY)⟩⟩
end
end K29
namespace K29
open PySem PySem.Spec PyProof.Rows L2 SX
/-- what a drawing def gives: data, the tape turned on -/
def Dr (K : PySem.W.Frag) (H : Hp) (Q : VK) (tp tl : Addr) (G : PyData → Prop) : Prop := ∀ H' v d, Kp tp H H' → Tape tl H' tp → G d → Dp K H' v d → Q v H'
/-- the letters and the owners -/
structure Alf (lt ow : List Nat) : Prop where
  l1 : 1 ≤ lt.length
  l3 : lt.length ≤ 3
  o1 : 1 ≤ ow.length
  o3 : ow.length ≤ 3
theorem kp_new {tp D : Addr} {H0 H1 : Hp} {l : Addr} {u : HO} (t : Tape l H0 tp) (k : Kp tp H0 H1) (t1 : Tape l H1 tp) (h : H1 D = none) : Kp tp H0 (upd H1 D u) := fun b o n e => by
  rw [upd_ne]
  · exact k b o n e
  · rintro rfl
    rw [k _ _ n e] at h
    cases h
theorem tape_new {tp D : Addr} {H1 : Hp} {l : Addr} {u : HO} (t : Tape l H1 tp) (h : H1 D = none) : Tape l (upd H1 D u) tp := t.upd (tp_ne t h) (tl_ne t h)
theorem at_sym : ("@" : Str) = S [64] := editor
def clsD (n : Bool) (h l : List Nat) : PyData := .tuple [.str "class", .bool n, .str (S h), .str (S l)]
theorem cls_data (n : Bool) (h l : List Nat) : (Tree.cls n h l).data = clsD n h l := rfl
section
variable {P : Program} {w : World} {K : PySem.W.Frag} {mg : Str → Option Value} {base : Heap}
/-- [c for c in text if draw(k) == 1] -/
theorem lc_draw {l : List Nat} {i : Nat} {σ : L2.St} {H0 H1 : Hp} {D : Addr} {Qd : Hp → Prop} {tp tl : Addr} {m : Int} (hm : m ≤ 1000) (hi : i < σ.length) (hl : l.length ≤ 100) (t0 : Tape tl H0 tp) (k1 : Kp tp H0 H1) (t1 : Tape tl H1 tp) (hD : H1 D = none)
    (tt : TT) (step : ∀ c H2 (Q' : Bool → Hp → Prop), (spDraw [.ref tp, .int m] H2 (fun v H3 => ∃ r : Int, v = .int r ∧ Q' (decide (V.int r = V.int 1)) H3) E0) → tt ((wipe σ [i]).set i (some (.str (S [c])))) H2 Q')
    (done : ∀ (H2 : Hp) (cs : List Nat), Kp tp H0 H2 → Tape tl H2 tp → cs.length ≤ l.length → (∀ c ∈ cs, c ∈ l) → H2 D = some (.lst ((cs.map fun c => S [c]).map V.str)) → Qd H2) :
    ∃ W : Nat → Nat → Hp → Prop, (∃ m, W 0 m (upd H1 D (.lst []))) ∧ ∀ j m H, W j m H →
      ((Its (S l)).stop j H ∧ Qd H) ∨ ((Its (S l)).go j H ∧ ∃ Nx : Hp → Prop, (∀ H', Nx H' → ∃ m', m' < m ∧ W (j + 1) m' H') ∧ ∀ x H', (Its (S l)).yld j H x H' → gName i x (wipe σ [i]) H' fun σ2 H2 => wipe σ2 [i] = wipe σ [i] ∧ tt σ2 H2 fun b H3 =>
        if b = true then tVar i σ2 H3 fun y H4 => ∃ acc, H4 D = some (.lst acc) ∧ acc.length < sizeLine ∧ Nx (upd H4 D (.lst (acc ++ [y]))) else Nx H3) := by
  have n1 := tp_ne t1 hD
  have n2 := tl_ne t1 hD
  have no : H0 D = none := by
    cases e : H0 D with
    | none => rfl
    | some u => rw [k1 _ _ n1 e] at hD; cases hD
  refine lc_pick hi hl (fun H2 => Kp tp H0 H2 ∧ Tape tl H2 tp) (fun _ _ => True) ⟨kp_new t0 k1 t1 hD, tape_new t1 hD⟩ (fun H2 acc u iv _ => ⟨fun b o n e => by rw [upd_ne (ne_of_none e no)]; exact iv.1 b o n e, iv.2.upd n1 n2⟩)
    (fun c H2 acc Q' hc iv e2 el => step c H2 Q' ⟨tp, tl, m, rfl, iv.2, hm, fun H3 r kp t3 _ _ => ⟨r, rfl, el _ H3 ⟨iv.1.trans kp, t3⟩ (kp _ _ n1 e2) trivial⟩⟩) fun H2 cs iv hp e2 => done H2 cs iv.1 iv.2 hp.sub.2 hp.sub.1 (by rw [e2, List.map_map] <;> rfl)
abbrev s__law_leaf : Stmt := topS 28
theorem sc__law_leaf : FnScope ["_law_tape_here", "_law_letters", "_law_owners_here", "_law_choice", "_law_held", "_law_sign"] ["_law_tape_here", "_law_letters", "_law_owners_here"] (defScope s__law_leaf) := ⟨rfl, rfl, rfl, by decide +kernel, rfl, by decide +kernel, by decide +kernel⟩
def spLeaf (K : PySem.W.Frag) : Sp := fun vs H Q _ => ∃ (tp tl : Addr) (lt ow : List Nat), vs = [.ref tp, .str (S lt), .str (S ow)] ∧ Tape tl H tp ∧ Alf lt ow ∧ Dr K H Q tp tl (fun d => ∃ n h l, d = (Tree.cls n h l).data ∧ h.length ≤ 30 ∧ l.length ≤ 30)
theorem ok__law_leaf (D : Df K mg "_law_leaf" s__law_leaf ["_law_tape_here", "_law_letters", "_law_owners_here"]) (z_len : mg "len" = none) (c__law_draw : C8.Cal P w K mg base 1 "_law_draw" spDraw []) : C8.Cal P w K mg base 2 "_law_leaf" (spLeaf K) [] := by
  refine D.cal sc__law_leaf (fun vs H Q E h => ?_) (fun f cdv A outer s H vs Q E hr h => ?_)
  · obtain ⟨_, _, _, _, rfl, _⟩ := h
    rfl
  obtain ⟨tp, tl, lt, ow, rfl, hT, al, k⟩ := h
  refine ⟨_, (pss_cons (ps_set (i := 3) sc__law_leaf.nd rfl (by first | exact .inl rfl | exact .inr rfl) (C8.pe_c c__law_draw hr (by omega) (by rfl) (pa_cons (pv 0) (pa_cons pe_int pa_nil))))
     (pss_cons (ps_if (pt_cmpR op_lt (pv 3) pe_int (nomark _))
     (pss_one (ps_ret (pe_tup (pa_cons pe_str (pa_cons pe_bl (pa_cons pe_str (pa_cons pe_str pa_nil)))))))
     pss_nil)
     (pss_cons (ps_if (pt_cmpR op_lt (pv 3) pe_int (nomark _))
     (pss_one (ps_ret (pe_tup (pa_cons pe_str (pa_cons pe_bl (pa_cons (pe_ix ix_str (pv 2) (C8.pe_c c__law_draw hr (by omega) (by rfl) (pa_cons (pv 0) (pa_cons (pe_callB call_len_str (by rfl) z_len (by decide +kernel) (pa_cons (pv 2) pa_nil)) pa_nil))) (fun _ _ => rfl)) (pa_cons pe_str pa_nil)))))))
     pss_nil)
     (pss_cons (ps_if (pt_cmpR op_eq (pv 3) pe_int (nomark _))
     (pss_one (ps_ret (pe_tup (pa_cons pe_str (pa_cons pe_bl (pa_cons pe_str (pa_cons (pe_ix ix_str (pv 1) (C8.pe_c c__law_draw hr (by omega) (by rfl) (pa_cons (pv 0) (pa_cons (pe_callB call_len_str (by rfl) z_len (by decide +kernel) (pa_cons (pv 1) pa_nil)) pa_nil))) (fun _ _ => rfl)) pa_nil)))))))
     pss_nil)
     (pss_cons (ps_if (pt_cmpR op_eq (pv 3) pe_int (nomark _))
     (pss_one (ps_ret (pe_tup (pa_cons pe_str (pa_cons pe_bl (pa_cons pe_str (pa_cons pe_str pa_nil)))))))
     pss_nil)
     (pss_cons (ps_set (i := 4) sc__law_leaf.nd rfl (by first | exact .inl rfl | exact .inr rfl) (pe_join pe_str (pe_lc (own := [("_law_sign", 5)]) rfl sc__law_leaf.nd (pi_str (pe_op op_add_str pe_str (pv 2))) (blkOk_by (by with_unfolding_all rfl)) (fun _ _ _ _ _ => (pg_name (i := 5) sc__law_leaf.nd rfl (by first | exact .inl rfl | exact .inr rfl))) (fun _ _ _ _ _ => (pts_one (pt_cmpR op_eq (C8.pe_c c__law_draw hr (by omega) (by rfl) (pa_cons (pv 0) (pa_cons pe_int pa_nil))) pe_int (nomark _)))) (fun _ _ _ _ _ => (pv 5)))))
     (pss_one (ps_ret (pe_tup (pa_cons pe_str (pa_cons (pe_cmpR op_eq (C8.pe_c c__law_draw hr (by omega) (by rfl) (pa_cons (pv 0) (pa_cons pe_int pa_nil))) pe_int (nomark _)) (pa_cons (pv 4) (pa_cons (pe_join pe_str (pe_lc (own := [("_law_sign", 5)]) rfl sc__law_leaf.nd (pi_str (pv 1)) (blkOk_by (by with_unfolding_all rfl)) (fun _ _ _ _ _ => (pg_name (i := 5) sc__law_leaf.nd rfl (by first | exact .inl rfl | exact .inr rfl))) (fun _ _ _ _ _ => (pts_one (pt_cmpR op_eq (C8.pe_c c__law_draw hr (by omega) (by rfl) (pa_cons (pv 0) (pa_cons pe_int pa_nil))) pe_int (nomark _)))) (fun _ _ _ _ _ => (pv 5)))) pa_nil))))))))))))), ?_⟩
  have fin : ∀ (H1 : Hp) (n : Bool) (h l : List Nat) (s1 s2 : Str), Kp tp H H1 → Tape tl H1 tp → s1 = S h → s2 = S l → h.length ≤ 30 → l.length ≤ 30 → [V.str "class", .bl n, .str s1, .str s2].length ≤ sizeLine ∧ ∀ p, H1 p = none → Q (.ref p) (upd H1 p (.tup [V.str "class", .bl n, .str s1, .str s2])) :=
    fun H1 n h l s1 s2 kp t1 e1 e2 h1 h2 => ⟨(by simp [sizeLine_eq]), fun p hp => k _ _ _ (kp_new hT kp t1 hp) (tape_new t1 hp) ⟨n, h, l, rfl, h1, h2⟩ (by rw [e1, e2]; exact Dp.tupN hp (.cons (.str _) (.cons (.bl _) (.cons (.str _) (.one (.str _))))))⟩
  have lsz : (S lt).length ≤ sizeLine := by have := al.l3; rw [S_len]; exact Nat.le_of_lt (line200 (by omega))
  have osz : (S ow).length ≤ sizeLine := by have := al.o3; rw [S_len]; exact Nat.le_of_lt (line200 (by omega))
  have a1 := al.l1
  have a2 := al.l3
  have a3 := al.o1
  have a4 := al.o3
  refine ⟨_, rfl, tp, tl, 8, rfl, hT, by decide, fun H1 c k1 t1 c0 c8 => ?_⟩
  refine ⟨_, rfl, _, _, rfl, rfl, _, rfl, ite2 (fun _ => ?_) (fun _ => ?_)⟩
  · exact fin H1 false [] [] _ _ k1 t1 emp emp (Nat.zero_le _) (Nat.zero_le _)
  refine ⟨_, rfl, _, _, rfl, rfl, _, rfl, ite2 (fun _ => ?_) (fun _ => ?_)⟩
  · refine ⟨_, rfl, _, rfl, _, rfl, _, rfl, osz, tp, tl, _, rfl, t1, by rw [S_len]; omega, fun H2 r k2 t2 r0 r1 => ?_⟩
    rw [S_len] at r1
    obtain ⟨ch, h1, h2⟩ := atI_mem (xs := (S ow).cps.toList) (r := r) r0 (by show r < ((S ow).cps.toList.length : Nat); rw [show (S ow).cps.toList = ow by simp [S]]; omega)
    exact ⟨_, _, ch, rfl, rfl, osz, h1, fin H2 false [ch] [] _ _ (k1.trans k2) t2 rfl emp (by simp) (Nat.zero_le _)⟩
  refine ⟨_, rfl, rfl, _, rfl, ite2 (fun _ => ?_) (fun _ => ?_)⟩
  · refine ⟨_, rfl, _, rfl, _, rfl, _, rfl, lsz, tp, tl, _, rfl, t1, by rw [S_len]; omega, fun H2 r k2 t2 r0 r1 => ?_⟩
    rw [S_len] at r1
    obtain ⟨ch, h1, h2⟩ := atI_mem (xs := (S lt).cps.toList) (r := r) r0 (by show r < ((S lt).cps.toList.length : Nat); rw [show (S lt).cps.toList = lt by simp [S]]; omega)
    exact ⟨_, _, ch, rfl, rfl, lsz, h1, fin H2 false [] [ch] _ _ (k1.trans k2) t2 emp rfl (Nat.zero_le _) (by simp)⟩
  refine ⟨_, rfl, rfl, _, rfl, ite2 (fun _ => ?_) (fun _ => ?_)⟩
  · exact fin H1 false [64] [] _ _ k1 t1 at_sym emp (by decide) (Nat.zero_le _)
  -- held
  have hsum : (S [64]).length + (S ow).length ≤ sizeLine := by rw [S_len, S_len]; exact Nat.le_of_lt (line200 (by show 1 + ow.length ≤ _; omega))
  refine ⟨⟨_, rfl⟩, _, rfl, _, _, rfl, rfl, (by rw [at_sym]; exact hsum), S ([64] ++ ow), (by rw [at_sym, S_cat]), fun D1 hD1 => lc_draw (m := 2) (by decide) (by simp [L2.start]) (by rw [List.length_append]; show 1 + ow.length ≤ 100; omega) hT k1 t1 hD1 _ (fun c H2 Q' h => ?_) fun H2 cs k2 t2 hcs _ e2 => ?_⟩
  · obtain ⟨tp', tl', m', e, h1, h2, h3⟩ := h
    exact ⟨_, rfl, tp', tl', m', e, h1, h2, fun H3 r a b c' d => by
      obtain ⟨r', e', q⟩ := h3 H3 r a b c' d
      cases e'
      exact ⟨rfl, _, rfl, q⟩⟩
  · have hcs' : cs.length ≤ 1 + ow.length := by rw [List.length_append] at hcs; exact hcs
    refine ⟨_, D1, cs.map fun c => S [c], rfl, rfl, .inl (SqL.of e2), by rw [sum_ones, emp, S_len, List.length_nil, Nat.mul_zero]; omega, ?_⟩
    rw [join_chars]
    -- the last tuple
    refine ⟨_, rfl, tp, tl, 2, rfl, t2, by decide, fun H3 r k3 t3 r0 r1 => ⟨rfl, _, rfl, ⟨_, rfl⟩, _, rfl, _, rfl, fun D2 hD2 => lc_draw (m := 3) (by decide) (by simp [L2.start]) (by omega) hT (k2.trans k3) t3 hD2 _ (fun c H4 Q' h => ?_) fun H4 ds k4 t4 hds _ e4 => ?_⟩⟩
    · obtain ⟨tp', tl', m', e, h1, h2, h3⟩ := h
      exact ⟨_, rfl, tp', tl', m', e, h1, h2, fun H5 r a b c' d => by
        obtain ⟨r', e', q⟩ := h3 H5 r a b c' d
        cases e'
        exact ⟨rfl, _, rfl, q⟩⟩
    · refine ⟨_, D2, ds.map fun c => S [c], rfl, rfl, .inl (SqL.of e4), by rw [sum_ones, emp, S_len, List.length_nil, Nat.mul_zero]; omega, ?_⟩
      rw [join_chars]
      exact fin H4 _ cs ds _ _ k4 t4 rfl rfl (by omega) (by omega)
abbrev s__law_node : Stmt := topS 29
theorem sc__law_node : FnScope ["_law_tape_here", "_law_letters", "_law_owners_here", "_law_held"] ["_law_tape_here", "_law_letters", "_law_owners_here"] (defScope s__law_node) := ⟨rfl, rfl, rfl, by decide +kernel, rfl, by decide +kernel, by decide +kernel⟩
def spNode (K : PySem.W.Frag) : Sp := fun vs H Q _ => ∃ (tp tl : Addr) (lt ow : List Nat), vs = [.ref tp, .str (S lt), .str (S ow)] ∧ Tape tl H tp ∧ Alf lt ow ∧ Dr K H Q tp tl (fun d => ∃ n h l, d = (Tree.cls n h l).data ∧ h.length ≤ 30 ∧ l.length ≤ 30)
theorem ok__law_node (D : Df K mg "_law_node" s__law_node ["_law_tape_here", "_law_letters", "_law_owners_here"]) (c__law_draw : C8.Cal P w K mg base 1 "_law_draw" spDraw []) (c__law_rising : C8.Cal P w K mg base 2 "_law_rising" spRising []) (c__law_leaf : C8.Cal P w K mg base 2 "_law_leaf" (spLeaf K) []) : C8.Cal P w K mg base 3 "_law_node" (spNode K) [] := by
  refine D.cal sc__law_node (fun vs H Q E h => ?_) (fun f cdv A outer s H vs Q E hr h => ?_)
  · obtain ⟨_, _, _, _, rfl, _⟩ := h
    rfl
  obtain ⟨tp, tl, lt, ow, rfl, hT, al, k⟩ := h
  refine ⟨_, (pss_cons (ps_if (pt_cmpR op_gt (C8.pe_c c__law_draw hr (by omega) (by rfl) (pa_cons (pv 0) (pa_cons pe_int pa_nil))) pe_int (nomark _))
     (pss_one (ps_ret (C8.pe_c c__law_leaf hr (by omega) (by rfl) (pa_cons (pv 0) (pa_cons (pv 1) (pa_cons (pv 2) pa_nil))))))
     pss_nil)
     (pss_cons (ps_set (i := 3) sc__law_node.nd rfl (by first | exact .inl rfl | exact .inr rfl) (C8.pe_c c__law_rising hr (by omega) (by rfl) (pa_cons (pv 0) (pa_cons pe_str (pa_cons (C8.pe_c c__law_draw hr (by omega) (by rfl) (pa_cons (pv 0) (pa_cons pe_int pa_nil))) pa_nil)))))
     (pss_one (ps_ret (pe_tup (pa_cons pe_str (pa_cons (pe_cmpR op_eq (C8.pe_c c__law_draw hr (by omega) (by rfl) (pa_cons (pv 0) (pa_cons pe_int pa_nil))) pe_int (nomark _)) (pa_cons (pv 3) (pa_cons (C8.pe_c c__law_rising hr (by omega) (by rfl) (pa_cons (pv 0) (pa_cons pe_str (pa_cons (C8.pe_c c__law_draw hr (by omega) (by rfl) (pa_cons (pv 0) (pa_cons pe_int pa_nil))) pa_nil)))) pa_nil))))))))), ?_⟩
  have l26 : lower.length = 26 := rfl
  have l27 : (64 :: upper).length = 27 := rfl
  refine ⟨_, rfl, tp, tl, 10, rfl, hT, by decide, fun H1 c k1 t1 c0 c8 => ⟨_, _, rfl, rfl, _, rfl, ite2 (fun _ => ?_) (fun _ => ?_)⟩⟩
  · exact ⟨_, rfl, _, rfl, _, rfl, tp, tl, lt, ow, rfl, t1, al, fun H' v d k2 t2 g p => k _ _ _ (k1.trans k2) t2 g p⟩
  · refine ⟨_, rfl, _, rfl, tp, tl, 5, rfl, t1, by decide, fun H2 r k2 t2 r0 r1 => ⟨tp, tl, 64 :: upper, r, (by rw [← holders_eq]; rfl), t2, r0, (by rw [l27]; omega), (by rw [l27]; omega), fun H3 h k3 t3 hl hc => ?_⟩⟩
    refine ⟨_, rfl, tp, tl, 2, rfl, t3, by decide, fun H4 r2 k4 t4 r20 r21 => ⟨rfl, _, rfl, _, rfl, _, rfl, tp, tl, 4, rfl, t4, by decide, fun H5 r3 k5 t5 r30 r31 => ⟨tp, tl, lower, r3, (by rw [← lower_eq]; rfl), t5, r30, (by rw [l26]; omega), (by rw [l26]; omega), fun H6 l k6 t6 hl6 hc6 => ⟨(by simp [sizeLine_eq]), fun p hp => ?_⟩⟩⟩⟩
    have kk := k1.trans (k2.trans (k3.trans (k4.trans (k5.trans k6))))
    exact k _ _ _ (kp_new hT kk t6 hp) (tape_new t6 hp) ⟨_, h, l, rfl, by omega, by omega⟩ (Dp.tupN hp (.cons (.str _) (.cons (.bl _) (.cons (.str _) (.one (.str _))))))
end
end K29
namespace K29
open PySem PySem.Spec PyProof.Rows L2 SX
theorem itt {A B : Prop} (h : A) : if true = true then A else B := by rw [if_pos rfl]; exact h
theorem itf {A B : Prop} (h : B) : if false = true then A else B := by rw [if_neg Bool.false_ne_true]; exact h
theorem un_of {v : V} (h : v = .str "star" ∨ v = .str "not") : ∃ (f : Tree → Tree) (nm : Str), v = .str nm ∧ ∀ t, (f t).data = .tuple [.str nm, t.data] ∧ (TOk t → TOk (f t)) ∧ (f t).ht = t.ht + 1 := by
  rcases h with rfl | rfl
  · exact ⟨.star, _, rfl, fun t => ⟨rfl, id, rfl⟩⟩
  · exact ⟨.not, _, rfl, fun t => ⟨rfl, id, rfl⟩⟩
theorem bi_of {v : V} (h : v = .str "then" ∨ v = .str "or" ∨ v = .str "and") : ∃ (f : Tree → Tree → Tree) (nm : Str), v = .str nm ∧ ∀ t u, (f t u).data = .tuple [.str nm, t.data, u.data] ∧ (TOk t → TOk u → TOk (f t u)) ∧ (f t u).ht = max t.ht u.ht + 1 := by
  rcases h with rfl | rfl | rfl
  · exact ⟨.thn, _, rfl, fun t u => ⟨rfl, fun a b => ⟨a, b⟩, rfl⟩⟩
  · exact ⟨.or, _, rfl, fun t u => ⟨rfl, fun a b => ⟨a, b⟩, rfl⟩⟩
  · exact ⟨.and, _, rfl, fun t u => ⟨rfl, fun a b => ⟨a, b⟩, rfl⟩⟩
section
variable {P : Program} {w : World} {K : PySem.W.Frag} {mg : Str → Option Value} {base : Heap}
theorem dp_kp {H H' : Hp} {tp l : Addr} {v : V} {d : PyData} (p : Dp K H v d) (k : Kp tp H H') (t : Tape l H tp) (n : nl d = true) : Dp K H' v d := Dp.tups (k.tups t) p n
theorem dpAll_kp {H H' : Hp} {tp l : Addr} {vs : List V} {ds : List PyData} (p : DpAll K H vs ds) (k : Kp tp H H') (t : Tape l H tp) (n : nlAll ds = true) : DpAll K H' vs ds := DpAll.tups (k.tups t) p n
abbrev s__law_wild : Stmt := topS 30
theorem sc__law_wild : FnScope ["_law_tape_here", "_law_letters", "_law_owners_here", "_law_nodes", "_law_choice", "_law_many", "_law_first", "_law_kind"] ["_law_tape_here", "_law_letters", "_law_owners_here", "_law_nodes"] (defScope s__law_wild) := ⟨rfl, rfl, rfl, by decide +kernel, rfl, by decide +kernel, by decide +kernel⟩
def Drawn (m : Int) (d : PyData) : Prop := ∃ t : Tree, d = t.data ∧ TOk t ∧ (t.ht : Int) ≤ m
theorem Drawn.cls {m : Int} (hm : 1 ≤ m) {d : PyData} (g : ∃ n h l, d = (Tree.cls n h l).data ∧ h.length ≤ 30 ∧ l.length ≤ 30) : Drawn m d := by
  obtain ⟨n, h, l, rfl, a, b⟩ := g
  exact ⟨.cls n h l, rfl, ⟨a, b⟩, hm⟩
def spWild (K : PySem.W.Frag) (n : Nat) : Sp := fun vs H Q _ => ∃ (tp tl : Addr) (lt ow : List Nat) (m : Int), vs = [.ref tp, .str (S lt), .str (S ow), .int m] ∧ Tape tl H tp ∧ Alf lt ow ∧ 1 ≤ m ∧ m ≤ n ∧ m ≤ 4 ∧ Dr K H Q tp tl (Drawn m)
theorem ok__law_wild {n : Nat} (D : Df K mg "_law_wild" s__law_wild ["_law_tape_here", "_law_letters", "_law_owners_here", "_law_nodes"]) (z_int : mg "int" = none) (c__law_draw : C8.Cal P w K mg base 1 "_law_draw" spDraw []) (c__law_node : C8.Cal P w K mg base 3 "_law_node" (spNode K) []) (c__law_wild : C8.Cal P w K mg base (n + 3) "_law_wild" (spWild K n) []) : C8.Cal P w K mg base (n + 4) "_law_wild" (spWild K (n + 1)) [] := by
  refine D.cal sc__law_wild (fun vs H Q E h => ?_) (fun f cdv A outer s H vs Q E hr h => ?_)
  · obtain ⟨_, _, _, _, _, rfl, _⟩ := h
    rfl
  obtain ⟨tp, tl, lt, ow, m, rfl, hT, al, m1, mn, m4, k⟩ := h
  refine ⟨_, (pss_cons (ps_set (i := 4) sc__law_wild.nd rfl (by first | exact .inl rfl | exact .inr rfl) (C8.pe_c c__law_draw hr (by omega) (by rfl) (pa_cons (pv 0) (pa_cons pe_int pa_nil))))
     (pss_cons (ps_if (PW.pt (pw_or (pt_cmpR op_lt (pv 3) pe_int (nomark _)) (pw_or1 (pt_cmpR op_eq (pv 4) pe_int (nomark _)))))
     (pss_cons (ps_if (pt_cmpR op_eq (C8.pe_c c__law_draw hr (by omega) (by rfl) (pa_cons (pv 0) (pa_cons pe_int pa_nil))) pe_int (nomark _))
     (pss_one (ps_ret (pe_tup (pa_cons pe_str pa_nil))))
     pss_nil)
     (pss_one (ps_ret (C8.pe_c c__law_node hr (by omega) (by rfl) (pa_cons (pv 0) (pa_cons (pv 1) (pa_cons (pv 2) pa_nil)))))))
     pss_nil)
     (pss_cons (ps_if (PW.pt (pw_or (pt_cmpR op_lt (pv 3) pe_int (nomark _)) (pw_or1 (pt_cmpR op_lt (pv 4) pe_int (nomark _)))))
     (pss_one (ps_ret (pe_tup (pa_cons (pe_ix ix_list (pe_lst (pa_cons pe_str (pa_cons pe_str (pa_cons pe_str pa_nil)))) (pe_op op_mod (pe_callTy call_int1 (by rfl) z_int (by decide +kernel) (pa_cons (pv 4) pa_nil)) pe_int) (fun _ _ => rfl)) (pa_cons (C8.pe_c c__law_wild hr (by omega) (by rfl) (pa_cons (pv 0) (pa_cons (pv 1) (pa_cons (pv 2) (pa_cons (pe_op op_sub (pv 3) pe_int) pa_nil))))) pa_nil)))))
     pss_nil)
     (pss_cons (ps_set (i := 5) sc__law_wild.nd rfl (by first | exact .inl rfl | exact .inr rfl) (pe_op op_add pe_int (C8.pe_c c__law_draw hr (by omega) (by rfl) (pa_cons (pv 0) (pa_cons (pe_op op_sub (pv 3) pe_int) pa_nil)))))
     (pss_cons (ps_set (i := 6) sc__law_wild.nd rfl (by first | exact .inl rfl | exact .inr rfl) (C8.pe_c c__law_wild hr (by omega) (by rfl) (pa_cons (pv 0) (pa_cons (pv 1) (pa_cons (pv 2) (pa_cons (pv 5) pa_nil))))))
     (pss_cons (ps_set (i := 7) sc__law_wild.nd rfl (by first | exact .inl rfl | exact .inr rfl) (pe_ix ix_list (pe_lst (pa_cons pe_str (pa_cons pe_str (pa_cons pe_str (pa_cons pe_str (pa_cons pe_str (pa_cons pe_str (pa_cons pe_str pa_nil)))))))) (pe_op op_sub (pv 4) pe_int) (fun _ _ => rfl)))
     (pss_one (ps_ret (pe_tup (pa_cons (pv 7) (pa_cons (pv 6) (pa_cons (C8.pe_c c__law_wild hr (by omega) (by rfl) (pa_cons (pv 0) (pa_cons (pv 1) (pa_cons (pv 2) (pa_cons (pe_op op_sub (pe_op op_sub (pv 3) pe_int) (pv 5)) pa_nil))))) pa_nil)))))))))))), ?_⟩
  refine ⟨_, rfl, tp, tl, 11, rfl, hT, by decide, fun H1 c k1 t1 c0 c1 => ?_⟩
  refine ⟨_, rfl, _, _, rfl, rfl, _, rfl, ite2 (fun c2 => ?_) (fun c2 => ⟨_, rfl, rfl, _, rfl, ite2 (fun c3 => ?_) (fun c3 => ?_)⟩)⟩
  · refine itt ?_
    refine ⟨_, rfl, tp, tl, 9, rfl, t1, by decide, fun H2 r k2 t2 r0 r1 => ⟨rfl, _, rfl, ite2 (fun _ => ⟨(by simp [sizeLine_eq]), fun p hp => ?_⟩) (fun _ => ⟨_, rfl, _, rfl, _, rfl, tp, tl, lt, ow, rfl, t2, al, fun H' v d k3 t3 g p => ?_⟩)⟩⟩
    · exact k _ _ _ ((k1.trans k2).trans (Kp.of (Same.new hp))) (t2.mono (Same.new hp)) ⟨.empty, rfl, trivial, m1⟩ (Dp.tupN hp (.one (.str _)))
    · exact k _ _ _ (k1.trans (k2.trans k3)) t3 (Drawn.cls m1 g) p
  · refine ⟨_, rfl, tp, tl, 9, rfl, t1, by decide, fun H2 r k2 t2 r0 r1 => ⟨rfl, _, rfl, ite2 (fun _ => ⟨(by simp [sizeLine_eq]), fun p hp => ?_⟩) (fun _ => ⟨_, rfl, _, rfl, _, rfl, tp, tl, lt, ow, rfl, t2, al, fun H' v d k3 t3 g p => ?_⟩)⟩⟩
    · exact k _ _ _ ((k1.trans k2).trans (Kp.of (Same.new hp))) (t2.mono (Same.new hp)) ⟨.empty, rfl, trivial, m1⟩ (Dp.tupN hp (.one (.str _)))
    · exact k _ _ _ (k1.trans (k2.trans k3)) t3 (Drawn.cls m1 g) p
  have m2 : ¬ m < 2 := fun z => c2 (decide_eq_true z)
  have cne : c ≠ 0 := fun z => c3 (decide_eq_true (by rw [z]))
  refine ⟨_, rfl, _, _, rfl, rfl, _, rfl, ite2 (fun c4 => ?_) (fun c4 => ⟨_, rfl, _, _, rfl, rfl, _, rfl, ite2 (fun c5 => ?_) (fun c5 => ?_)⟩)⟩
  · refine itt ?_
    refine ⟨(by decide : 3 ≤ sizeLine), fun o no => ?_⟩
    obtain ⟨kv, hv, hm⟩ := atI_mem (xs := [V.str "star", .str "not", .str "star"]) (r := c % 3) (Int.emod_nonneg _ (by decide)) (by have := Int.emod_lt_of_pos c (b := 3) (by decide); show c % 3 < (3 : Nat); omega)
    obtain ⟨f, nm, rfl, hf⟩ := un_of (v := kv) (by simp only [List.mem_cons, List.not_mem_nil, or_false] at hm; rcases hm with h | h | h <;> simp [h])
    have t1' := t1.mono (Same.new (o := .lst [V.str "star", .str "not", .str "star"]) no)
    refine ⟨_, rfl, .inl ⟨_, rfl, _, _, rfl, rfl, (by decide : (0 : Int) < 3), o, _, _, _, rfl, rfl, SqL.of upd_same, hv, _, rfl, _, rfl, _, rfl, _, rfl, _, _, rfl, rfl, tp, tl, lt, ow, _, rfl, t1', al, by omega, by omega, by omega, fun H2 v d k2 t2 g p => ⟨(by simp [sizeLine_eq]), fun q hq => ?_⟩⟩⟩
    obtain ⟨t, rfl, tok, th⟩ := g
    refine k _ _ _ ((k1.trans (Kp.of (Same.new no))).trans (k2.trans (Kp.of (Same.new hq)))) (t2.mono (Same.new hq)) ⟨f t, rfl, (hf t).2.1 tok, by rw [(hf t).2.2]; omega⟩ ?_
    rw [(hf t).1]
    exact Dp.tupN hq (.cons (.str _) (.one p))
  · refine ⟨(by decide : 3 ≤ sizeLine), fun o no => ?_⟩
    obtain ⟨kv, hv, hm⟩ := atI_mem (xs := [V.str "star", .str "not", .str "star"]) (r := c % 3) (Int.emod_nonneg _ (by decide)) (by have := Int.emod_lt_of_pos c (b := 3) (by decide); show c % 3 < (3 : Nat); omega)
    obtain ⟨f, nm, rfl, hf⟩ := un_of (v := kv) (by simp only [List.mem_cons, List.not_mem_nil, or_false] at hm; rcases hm with h | h | h <;> simp [h])
    have t1' := t1.mono (Same.new (o := .lst [V.str "star", .str "not", .str "star"]) no)
    refine ⟨_, rfl, .inl ⟨_, rfl, _, _, rfl, rfl, (by decide : (0 : Int) < 3), o, _, _, _, rfl, rfl, SqL.of upd_same, hv, _, rfl, _, rfl, _, rfl, _, rfl, _, _, rfl, rfl, tp, tl, lt, ow, _, rfl, t1', al, by omega, by omega, by omega, fun H2 v d k2 t2 g p => ⟨(by simp [sizeLine_eq]), fun q hq => ?_⟩⟩⟩
    obtain ⟨t, rfl, tok, th⟩ := g
    refine k _ _ _ ((k1.trans (Kp.of (Same.new no))).trans (k2.trans (Kp.of (Same.new hq)))) (t2.mono (Same.new hq)) ⟨f t, rfl, (hf t).2.1 tok, by rw [(hf t).2.2]; omega⟩ ?_
    rw [(hf t).1]
    exact Dp.tupN hq (.cons (.str _) (.one p))
  have m3 : ¬ m < 3 := fun z => c4 (decide_eq_true z)
  have c6 : ¬ c < 4 := fun z => c5 (decide_eq_true z)
  refine ⟨_, rfl, _, rfl, _, _, rfl, rfl, tp, tl, _, rfl, t1, by omega, fun H2 r k2 t2 r0 r1 => ⟨_, _, rfl, rfl, ?_⟩⟩
  refine ⟨_, rfl, _, rfl, _, rfl, _, rfl, tp, tl, lt, ow, _, rfl, t2, al, by omega, by omega, by omega, fun H3 v1 d1 k3 t3 g1 p1 => ?_⟩
  obtain ⟨a, rfl, aok, ah⟩ := g1
  refine ⟨(by decide : 7 ≤ sizeLine), fun o no => ?_⟩
  obtain ⟨kv, hv, hm⟩ := atI_mem (xs := [V.str "then", .str "or", .str "then", .str "and", .str "then", .str "or", .str "then"]) (r := c - 4) (by omega) (by show c - 4 < (7 : Nat); omega)
  obtain ⟨f, nm, rfl, hf⟩ := bi_of (v := kv) (by simp only [List.mem_cons, List.not_mem_nil, or_false] at hm; rcases hm with h | h | h | h | h | h | h <;> simp [h])
  have sn := Same.new (o := .lst [V.str "then", .str "or", .str "then", .str "and", .str "then", .str "or", .str "then"]) no
  refine ⟨_, rfl, _, _, rfl, rfl, o, _, _, _, rfl, rfl, SqL.of upd_same, hv, ?_⟩
  refine ⟨_, rfl, _, rfl, _, rfl, _, rfl, _, rfl, _, rfl, _, _, rfl, rfl, _, rfl, _, _, rfl, rfl, tp, tl, lt, ow, _, rfl, t3.mono sn, al, by omega, by omega, by omega, fun H4 v2 d2 k4 t4 g2 p2 => ⟨(by simp [sizeLine_eq]), fun q hq => ?_⟩⟩
  obtain ⟨b, rfl, bok, bh⟩ := g2
  refine k _ _ _ (k1.trans (k2.trans (k3.trans ((Kp.of sn).trans (k4.trans (Kp.of (Same.new hq))))))) (t4.mono (Same.new hq)) ⟨f a b, rfl, (hf a b).2.1 aok bok, by rw [(hf a b).2.2]; omega⟩ ?_
  rw [(hf a b).1]
  exact Dp.tupN hq (.cons (.str _) (.cons (dp_kp (p1.mono sn) k4 (t3.mono sn) (nl_tree a)) (.one p2)))
theorem all_wild (D : Df K mg "_law_wild" s__law_wild ["_law_tape_here", "_law_letters", "_law_owners_here", "_law_nodes"]) (z_int : mg "int" = none) (c__law_draw : C8.Cal P w K mg base 1 "_law_draw" spDraw []) (c__law_node : C8.Cal P w K mg base 3 "_law_node" (spNode K) []) : ∀ n, C8.Cal P w K mg base (n + 3) "_law_wild" (spWild K n) []
  | 0 => D.none (fun vs H Q E h => by obtain ⟨_, _, _, _, _, _, _, _, h1, h2, _⟩ := h; omega) _
  | n + 1 => ok__law_wild D z_int c__law_draw c__law_node (all_wild D z_int c__law_draw c__law_node n)
abbrev s__law_pattern : Stmt := topS 31
theorem sc__law_pattern : FnScope ["_law_tape_here", "_law_letters", "_law_owners_here", "_law_nodes", "_law_shape", "_law_tree", "_law_k", "_law_other", "_law_kind"] ["_law_tape_here", "_law_letters", "_law_owners_here", "_law_nodes"] (defScope s__law_pattern) := ⟨rfl, rfl, rfl, by decide +kernel, rfl, by decide +kernel, by decide +kernel⟩
theorem ok__law_pattern (D : Df K mg "_law_pattern" s__law_pattern ["_law_tape_here", "_law_letters", "_law_owners_here", "_law_nodes"]) (z_range : mg "range" = none) (c__law_draw : C8.Cal P w K mg base 1 "_law_draw" spDraw []) (c__law_node : C8.Cal P w K mg base 3 "_law_node" (spNode K) []) (c__law_wild : C8.Cal P w K mg base 7 "_law_wild" (spWild K 4) []) : C8.Cal P w K mg base 8 "_law_pattern" (spWild K 4) [] := by
  refine D.cal sc__law_pattern (fun vs H Q E h => ?_) (fun f cdv A outer s H vs Q E hr h => ?_)
  · obtain ⟨_, _, _, _, _, rfl, _⟩ := h
    rfl
  obtain ⟨tp, tl, lt, ow, m, rfl, hT, al, m1, mn, m4, k⟩ := h
  refine ⟨_, (pss_cons (ps_set (i := 4) sc__law_pattern.nd rfl (by first | exact .inl rfl | exact .inr rfl) (C8.pe_c c__law_draw hr (by omega) (by rfl) (pa_cons (pv 0) (pa_cons pe_int pa_nil))))
     (pss_cons (ps_if (pt_cmpR op_gt (pv 4) pe_int (nomark _))
     (pss_one (ps_ret (C8.pe_c c__law_wild hr (by omega) (by rfl) (pa_cons (pv 0) (pa_cons (pv 1) (pa_cons (pv 2) (pa_cons (pv 3) pa_nil)))))))
     pss_nil)
     (pss_cons (ps_set (i := 5) sc__law_pattern.nd rfl (by first | exact .inl rfl | exact .inr rfl) (C8.pe_c c__law_node hr (by omega) (by rfl) (pa_cons (pv 0) (pa_cons (pv 1) (pa_cons (pv 2) pa_nil)))))
     (pss_cons (ps_for PassesOwn.never rfl (pi_range1 (by rfl) z_range (pa_cons (pv 3) pa_nil)) (pg_name (i := 6) sc__law_pattern.nd rfl (by first | exact .inl rfl | exact .inr rfl))
     (C8.pss_cut (ps_if (PW.pt (pw_and (pt_cmpR op_eq (pv 4) pe_int (nomark _)) (pw_and1 (pt_cmpR op_le (pe_op op_add (pv 6) pe_int) (pv 3) (nomark _)))))
     (pss_one (ps_set (i := 5) sc__law_pattern.nd rfl (by first | exact .inl rfl | exact .inr rfl) (pe_tup (pa_cons (pe_ix ix_list (pe_lst (pa_cons pe_str (pa_cons pe_str pa_nil))) (C8.pe_c c__law_draw hr (by omega) (by rfl) (pa_cons (pv 0) (pa_cons pe_int pa_nil))) (fun _ _ => rfl)) (pa_cons (pv 5) pa_nil)))))
     pss_nil)
     (pss_one (ps_if (PW.pt (pw_and (pt_cmpR op_gt (pv 4) pe_int (nomark _)) (pw_and1 (pt_cmpR op_le (pe_op op_add (pe_op op_mul pe_int (pv 6)) pe_int) (pv 3) (nomark _)))))
     (pss_cons (ps_set (i := 7) sc__law_pattern.nd rfl (by first | exact .inl rfl | exact .inr rfl) (C8.pe_c c__law_node hr (by omega) (by rfl) (pa_cons (pv 0) (pa_cons (pv 1) (pa_cons (pv 2) pa_nil)))))
     (pss_cons (ps_set (i := 8) sc__law_pattern.nd rfl (by first | exact .inl rfl | exact .inr rfl) (pe_ix ix_list (pe_lst (pa_cons pe_str (pa_cons pe_str (pa_cons pe_str (pa_cons pe_str pa_nil))))) (C8.pe_c c__law_draw hr (by omega) (by rfl) (pa_cons (pv 0) (pa_cons pe_int pa_nil))) (fun _ _ => rfl)))
     (pss_one (ps_set (i := 5) sc__law_pattern.nd rfl (by first | exact .inl rfl | exact .inr rfl) (pe_ix ix_list (pe_lst (pa_cons (pe_tup (pa_cons (pv 8) (pa_cons (pv 5) (pa_cons (pv 7) pa_nil)))) (pa_cons (pe_tup (pa_cons (pv 8) (pa_cons (pv 7) (pa_cons (pv 5) pa_nil)))) pa_nil))) (pe_op op_sub (pv 4) pe_int) (fun _ _ => rfl))))))
     pss_nil))))
     (pss_one (ps_ret (pv 5))))))), ?_⟩
  refine ⟨_, rfl, tp, tl, 12, rfl, hT, by decide, fun H1 c k1 t1 c0 c1 => ?_⟩
  refine ⟨_, rfl, _, _, rfl, rfl, _, rfl, ite2 (fun c2 => ?_) (fun c2 => ?_)⟩
  · exact ⟨_, rfl, _, rfl, _, rfl, _, rfl, tp, tl, lt, ow, m, rfl, t1, al, m1, mn, m4, fun H2 v d k2 t2 g p => k _ _ _ (k1.trans k2) t2 g p⟩
  have c3 : ¬ c > 2 := fun z => c2 (decide_eq_true z)
  refine ⟨_, rfl, _, rfl, _, rfl, tp, tl, lt, ow, rfl, t1, al, fun H2 v0 d0 k2 t2 g0 p0 => ?_⟩
  obtain ⟨t0, rfl, tok0, th0⟩ := Drawn.cls (m := 1) (by decide) g0
  refine ⟨_, rfl, m, rfl, by omega, by omega, for_src (Src.rng 0 m.toNat)
    (fun i σ H' => ∃ (v : V) (t : Tree) (y6 y7 y8 : Option V), σ = [some (.ref tp), some (.str (S lt)), some (.str (S ow)), some (.int m), some (.int c), some v, y6, y7, y8] ∧ Kp tp H H' ∧ Tape tl H' tp ∧ Dp K H' v t.data ∧ TOk t ∧ t.ht ≤ i + 1 ∧ (t.ht : Int) ≤ m)
    ⟨_, t0, _, _, _, rfl, k1.trans k2, t2, p0, tok0, by omega, by omega⟩ (fun _ _ _ _ _ => trivial) (fun i x σ H3 H4 hi hP s4 hy => ?_) fun σ H' hP => ?_⟩
  · obtain ⟨v, t, y6, y7, y8, rfl, kk, tt, pv, tok, th, thm⟩ := hP
    subst hy
    have kk4 := kk.trans (Kp.of s4)
    have tt4 := tt.mono s4
    refine ⟨fun σ' H' => ∃ (v : V) (t : Tree) (y7 y8 : Option V), σ' = [some (.ref tp), some (.str (S lt)), some (.str (S ow)), some (.int m), some (.int c), some v, some (.int (0 + (i : Nat))), y7, y8] ∧ Kp tp H H' ∧ Tape tl H' tp ∧ Dp K H' v t.data ∧ TOk t ∧ t.ht ≤ i + 2 ∧ (0 < c → t.ht ≤ i + 1) ∧ (t.ht : Int) ≤ m, ?_, fun σ' H' hM => ?_⟩
    · have stay : ∃ (v' : V) (t : Tree) (y7' y8' : Option V), ([some (.ref tp), some (.str (S lt)), some (.str (S ow)), some (.int m), some (.int c), some v, some (.int (0 + (i : Nat))), y7, y8] : L2.St) = [some (.ref tp), some (.str (S lt)), some (.str (S ow)), some (.int m), some (.int c), some v', some (.int (0 + (i : Nat))), y7', y8'] ∧ Kp tp H H4 ∧ Tape tl H4 tp ∧ Dp K H4 v' t.data ∧ TOk t ∧ t.ht ≤ i + 2 ∧ (0 < c → t.ht ≤ i + 1) ∧ (t.ht : Int) ≤ m := ⟨_, t, _, _, rfl, kk4, tt4, pv.mono s4, tok, by omega, fun _ => th, thm⟩
      refine ⟨_, rfl, rfl, _, rfl, ite2 (fun e => ⟨_, rfl, _, _, rfl, rfl, _, rfl, _, _, rfl, rfl, _, rfl, ite2 (fun e2 => ?_) (fun e2 => stay)⟩) (fun e => itf stay)⟩
      have ce : c = 0 := V.int.inj (of_decide_eq_true e)
      have e3 : 0 + ((i : Nat) : Int) + 2 ≤ m := of_decide_eq_true e2
      refine ⟨(by decide : 2 ≤ sizeLine), fun o no => ⟨_, rfl, tp, tl, 2, rfl, tt4.mono (Same.new no), by decide, fun H5 r k5 t5 r0 r1 => ?_⟩⟩
      obtain ⟨kv, hv, hm⟩ := atI_mem (xs := [V.str "not", .str "star"]) r0 (by show r < (2 : Nat); omega)
      obtain ⟨f, nm, rfl, hf⟩ := un_of (v := kv) (by simp only [List.mem_cons, List.not_mem_nil, or_false] at hm; rcases hm with h | h <;> simp [h])
      refine ⟨o, _, _, _, rfl, rfl, SqL.of (k5 _ _ (tp_ne tt4 no) upd_same), hv, _, rfl, (by simp [sizeLine_eq]), fun q hq => ?_⟩
      refine ⟨_, f t, _, _, rfl, kk4.trans ((Kp.of (Same.new no)).trans (k5.trans (Kp.of (Same.new hq)))), t5.mono (Same.new hq), ?_, (hf t).2.1 tok, by rw [(hf t).2.2]; omega, fun z => by omega, by rw [(hf t).2.2]; omega⟩
      rw [(hf t).1]
      exact Dp.tupN hq (.cons (.str _) (.one (dp_kp ((pv.mono s4).mono (Same.new no)) k5 (tt4.mono (Same.new no)) (nl_tree t))))
    · obtain ⟨v, t, y7, y8, rfl, kk, tt, pv, tok, th, thc, thm⟩ := hM
      have thn : c ≤ 0 ∨ t.ht ≤ i + 1 := by
        rcases (by omega : 0 < c ∨ c ≤ 0) with z | z
        · exact .inr (thc z)
        · exact .inl z
      have stay : ∃ (v' : V) (t : Tree) (y6' y7' y8' : Option V), ([some (.ref tp), some (.str (S lt)), some (.str (S ow)), some (.int m), some (.int c), some v, some (.int (0 + (i : Nat))), y7, y8] : L2.St) = [some (.ref tp), some (.str (S lt)), some (.str (S ow)), some (.int m), some (.int c), some v', y6', y7', y8'] ∧ Kp tp H H' ∧ Tape tl H' tp ∧ Dp K H' v' t.data ∧ TOk t ∧ t.ht ≤ i + 1 + 1 ∧ (t.ht : Int) ≤ m := ⟨_, t, _, _, _, rfl, kk, tt, pv, tok, by omega, thm⟩
      refine ⟨_, rfl, _, _, rfl, rfl, _, rfl, ite2 (fun e => ⟨_, rfl, _, _, rfl, rfl, .inl ⟨by decide, by decide⟩, _, _, rfl, rfl, _, rfl, _, _, rfl, rfl, _, rfl, ite2 (fun e2 => ?_) (fun e2 => stay)⟩) (fun e => itf stay)⟩
      have ce : c > 0 := of_decide_eq_true e
      have e3 : 2 * (0 + ((i : Nat) : Int)) + 3 ≤ m := of_decide_eq_true e2
      refine ⟨_, rfl, _, rfl, _, rfl, tp, tl, lt, ow, rfl, tt, al, fun H5 v1 d1 k5 t5 g1 p1 => ?_⟩
      obtain ⟨u, rfl, uok, uh⟩ := Drawn.cls (m := 1) (by decide) g1
      refine ⟨(by decide : 4 ≤ sizeLine), fun o no => ⟨_, rfl, tp, tl, 4, rfl, t5.mono (Same.new no), by decide, fun H6 r k6 t6 r0 r1 => ?_⟩⟩
      obtain ⟨kv, hv, hm⟩ := atI_mem (xs := [V.str "then", .str "or", .str "and", .str "then"]) r0 (by show r < (4 : Nat); omega)
      obtain ⟨f, nm, rfl, hf⟩ := bi_of (v := kv) (by simp only [List.mem_cons, List.not_mem_nil, or_false] at hm; rcases hm with h | h | h | h <;> simp [h])
      refine ⟨o, _, _, _, rfl, rfl, SqL.of (k6 _ _ (tp_ne t5 no) upd_same), hv, ?_⟩
      have pu : Dp K H6 v1 u.data := dp_kp (p1.mono (Same.new no)) k6 (t5.mono (Same.new no)) (nl_tree u)
      have pt : Dp K H6 v t.data := dp_kp ((dp_kp pv k5 tt (nl_tree t)).mono (Same.new no)) k6 (t5.mono (Same.new no)) (nl_tree t)
      refine ⟨_, rfl, _, rfl, _, rfl, (by simp [sizeLine_eq]), fun q1 hq1 => ⟨_, rfl, _, rfl, _, rfl, (by simp [sizeLine_eq]), fun q2 hq2 => ⟨(by decide : 2 ≤ sizeLine), fun o2 no2 => ?_⟩⟩⟩
      have s1 := Same.new (o := .tup [.str nm, v, v1]) hq1
      have s2 := Same.new (o := .tup [.str nm, v1, v]) hq2
      have s3 := Same.new (o := .lst [.ref q1, .ref q2]) no2
      obtain ⟨rv, hv2, hm2⟩ := atI_mem (xs := [V.ref q1, .ref q2]) (r := c - 1) (by omega) (by show c - 1 < (2 : Nat); omega)
      refine ⟨_, rfl, _, _, rfl, rfl, o2, _, _, _, rfl, rfl, SqL.of upd_same, hv2, ?_⟩
      have kz := kk.trans (k5.trans ((Kp.of (Same.new no)).trans (k6.trans ((Kp.of s1).trans ((Kp.of s2).trans (Kp.of s3))))))
      have tz := t6.mono (s1.trans (s2.trans s3))
      simp only [List.mem_cons, List.not_mem_nil, or_false] at hm2
      rcases hm2 with rfl | rfl
      · refine ⟨_, f t u, _, _, _, rfl, kz, tz, ?_, (hf t u).2.1 tok uok, by rw [(hf t u).2.2]; omega, by rw [(hf t u).2.2]; omega⟩
        rw [(hf t u).1]
        exact (Dp.tupN hq1 (.cons (.str _) (.cons pt (.one pu)))).mono (s2.trans s3)
      · refine ⟨_, f u t, _, _, _, rfl, kz, tz, ?_, (hf u t).2.1 uok tok, by rw [(hf u t).2.2]; omega, by rw [(hf u t).2.2]; omega⟩
        rw [(hf u t).1]
        exact (Dp.tupN hq2 (.cons (.str _) (.cons (pu.mono s1) (.one (pt.mono s1))))).mono s3
  · obtain ⟨v, t, y6, y7, y8, rfl, kk, tt, pv, tok, th, thm⟩ := hP
    exact ⟨_, rfl, k _ _ _ kk tt ⟨t, rfl, tok, thm⟩ pv⟩
abbrev s__law_flank : Stmt := topS 32
theorem sc__law_flank : FnScope ["_law_tape_here", "_law_letters", "_law_owners_here", "_law_nodes"] ["_law_tape_here", "_law_letters", "_law_owners_here", "_law_nodes"] (defScope s__law_flank) := ⟨rfl, rfl, rfl, by decide +kernel, rfl, by decide +kernel, by decide +kernel⟩
def spFlank (K : PySem.W.Frag) : Sp := fun vs H Q _ => ∃ (tp tl : Addr) (lt ow : List Nat), vs = [.ref tp, .str (S lt), .str (S ow), .int 4] ∧ Tape tl H tp ∧ Alf lt ow ∧ Dr K H Q tp tl (Drawn 4)
theorem ok__law_flank (D : Df K mg "_law_flank" s__law_flank ["_law_tape_here", "_law_letters", "_law_owners_here", "_law_nodes"]) (c__law_draw : C8.Cal P w K mg base 1 "_law_draw" spDraw []) (c__law_pattern : C8.Cal P w K mg base 8 "_law_pattern" (spWild K 4) []) : C8.Cal P w K mg base 9 "_law_flank" (spFlank K) [] := by
  refine D.cal sc__law_flank (fun vs H Q E h => ?_) (fun f cdv A outer s H vs Q E hr h => ?_)
  · obtain ⟨_, _, _, _, rfl, _⟩ := h
    rfl
  obtain ⟨tp, tl, lt, ow, rfl, hT, al, k⟩ := h
  refine ⟨_, (pss_cons (ps_if (pt_cmpR op_eq (C8.pe_c c__law_draw hr (by omega) (by rfl) (pa_cons (pv 0) (pa_cons pe_int pa_nil))) pe_int (nomark _))
     (pss_one (ps_ret (pe_tup (pa_cons pe_str (pa_cons (pe_tup (pa_cons pe_str (pa_cons pe_bl (pa_cons pe_str (pa_cons pe_str pa_nil))))) pa_nil)))))
     pss_nil)
     (pss_one (ps_ret (C8.pe_c c__law_pattern hr (by omega) (by rfl) (pa_cons (pv 0) (pa_cons (pv 1) (pa_cons (pv 2) (pa_cons (pv 3) pa_nil)))))))), ?_⟩
  refine ⟨_, rfl, tp, tl, 3, rfl, hT, by decide, fun H1 c k1 t1 c0 c1 => ⟨rfl, _, rfl, ite2 (fun _ => ?_) (fun _ => ?_)⟩⟩
  · refine ⟨(by simp [sizeLine_eq]), fun q1 hq1 => ⟨(by simp [sizeLine_eq]), fun q2 hq2 => ?_⟩⟩
    refine k _ _ _ (k1.trans ((Kp.of (Same.new hq1)).trans (Kp.of (Same.new hq2)))) ((t1.mono (Same.new hq1)).mono (Same.new hq2)) ⟨.star (.cls false [] []), rfl, ⟨Nat.zero_le _, Nat.zero_le _⟩, (by show ((2 : Nat) : Int) ≤ 4; omega)⟩ (Dp.tupN hq2 (.cons (.str _) (.one ?_)))
    refine Dp.tupN hq1 (.cons (.str _) (.cons (.bl _) (.cons ?_ (.one ?_))))
    · rw [← emp]; exact .str _
    · rw [← emp]; exact .str _
  · exact ⟨_, rfl, _, rfl, _, rfl, _, rfl, tp, tl, lt, ow, 4, rfl, t1, al, by decide, by decide, by decide, fun H2 v d k2 t2 g p => k _ _ _ (k1.trans k2) t2 g p⟩
end
end K29
namespace K29
open PySem PySem.Spec PyProof.Rows L2 SX
/-- a comprehension whose element turns the tape -/
theorem lc_turn {K : PySem.W.Frag} {J : It} {n : Nat} {Ok : Hp → Prop} {Yl : Nat → V → Hp → Prop} {tp tl : Addr} (X : Src J n Ok Yl) {g : TG} {te : TE} {vs : List Nat} {σ : L2.St} {H1 : Hp} {D : Addr} {Qd : Hp → Prop} (t0 : Tape tl H1 tp) (hok : ∀ H', Kp tp H1 H' → Tape tl H' tp → Ok H') (hD : H1 D = none) (hn : n ≤ 1000000) (F : Nat → PyData → Prop) (nlF : ∀ i d, F i d → nl d = true)
    (el : ∀ i x H2 (Q' : VK), i < n → Kp tp H1 H2 → Tape tl H2 tp → Yl i x H2 → (∀ H3 y d, Kp tp H2 H3 → Tape tl H3 tp → F i d → Dp K H3 y d → Q' y H3) →
      g x (wipe σ vs) H2 fun σ2 H3 => wipe σ2 vs = wipe σ vs ∧ te σ2 H3 Q')
    (done : ∀ H2 ys ds, Kp tp H1 H2 → Tape tl H2 tp → H2 D = some (.lst ys) → ds.length = n → (∀ i d, ds[i]? = some d → F i d) → DpAll K H2 ys ds → Qd H2) :
    ∃ W : Nat → Nat → Hp → Prop, (∃ m, W 0 m (upd H1 D (.lst []))) ∧ ∀ i m H, W i m H →
      (J.stop i H ∧ Qd H) ∨ (J.go i H ∧ ∃ Nx : Hp → Prop, (∀ H', Nx H' → ∃ m', m' < m ∧ W (i + 1) m' H') ∧ ∀ x H', J.yld i H x H' → g x (wipe σ vs) H' fun σ2 H2 => wipe σ2 vs = wipe σ vs ∧ tYes σ2 H2 fun b H3 =>
        if b = true then te σ2 H3 fun y H4 => ∃ acc, H4 D = some (.lst acc) ∧ acc.length < sizeLine ∧ Nx (upd H4 D (.lst (acc ++ [y]))) else Nx H3) := by
  have n1 := tp_ne t0 hD
  have n2 := tl_ne t0 hD
  refine ⟨fun i m H => i + m = n ∧ Kp tp H1 H ∧ Tape tl H tp ∧ ∃ ys ds, H D = some (.lst ys) ∧ ds.length = i ∧ (∀ j d, ds[j]? = some d → F j d) ∧ DpAll K H ys ds, ⟨n, Nat.zero_add _, Kp.of (Same.new hD), t0.mono (Same.new hD), [], [], upd_same, rfl, fun j d h => by simp at h, .nil⟩, fun i m H hW => ?_⟩
  obtain ⟨e, sm, tt, ys, ds, eD, hl, hF, hA⟩ := hW
  have hO := hok H sm tt
  by_cases hi : i < n
  · refine .inr ⟨X.go i H hi hO, fun H' => Kp tp H1 H' ∧ Tape tl H' tp ∧ ∃ ys ds, H' D = some (.lst ys) ∧ ds.length = i + 1 ∧ (∀ j d, ds[j]? = some d → F j d) ∧ DpAll K H' ys ds, fun H' hN => ⟨m - 1, by omega, by omega, hN⟩, fun x H' hy => ?_⟩
    obtain ⟨y1, y2⟩ := X.yld i H x H' hi hO hy
    refine el i x H' _ hi (sm.trans (Kp.of y1)) (tt.mono y1) y2 fun H3 y d s3 t3 fd pd => ?_
    have e3 : H3 D = some (.lst ys) := s3 _ _ n1 (y1 _ _ eD)
    have hA3 := DpAll.tups (s3.tups (tt.mono y1)) (DpAll.mono y1 hA) (nlAll_of fun z hz => by
      obtain ⟨j, hj⟩ := List.getElem?_of_mem hz
      exact nlF _ _ (hF j z hj))
    have tu := Tups.upd (o := .lst (ys ++ [y])) e3
    refine ⟨ys, e3, line200 (by rw [hA.len]; omega), fun b o nb eb => ?_, t3.upd n1 n2, ys ++ [y], ds ++ [d], upd_same, by rw [List.length_append, hl]; rfl, fun j d' hj => ?_, ?_⟩
    · have nb2 : b ≠ D := ne_of_none eb hD
      rw [upd_ne nb2]
      exact s3 _ _ nb (y1 _ _ (sm _ _ nb eb))
    · rcases Nat.lt_or_ge j ds.length with q | q
      · rw [List.getElem?_append_left q] at hj
        exact hF j d' hj
      · rw [List.getElem?_append_right q] at hj
        have hj0 : j - ds.length = 0 := by
          rcases Nat.eq_zero_or_pos (j - ds.length) with z | z
          · exact z
          · rw [List.getElem?_eq_none (by rw [List.length_singleton]; exact z)] at hj; cases hj
        rw [hj0] at hj
        have ed : d = d' := Option.some.inj hj
        subst ed
        have : j = i := by omega
        subst this
        exact fd
    · refine DpAll.app (DpAll.tups tu hA3 (nlAll_of fun z hz => ?_)) (.one (Dp.tups tu pd (nlF _ _ fd)))
      obtain ⟨j, hj⟩ := List.getElem?_of_mem hz
      exact nlF _ _ (hF j z hj)
  · have ei : i = n := by omega
    subst ei
    exact .inl ⟨X.stop H hO, done H ys ds sm tt eD hl hF hA⟩
/-- what each is, all are -/
theorem pull_map {α : Type} {f : α → PyData} {G : α → Prop} : ∀ {ds : List PyData}, (∀ (i : Nat) d, ds[i]? = some d → ∃ a, d = f a ∧ G a) → ∃ as : List α, ds = as.map f ∧ ∀ a ∈ as, G a
  | [], _ => ⟨[], rfl, fun a h => by cases h⟩
  | d :: ds, h => by
    obtain ⟨a, rfl, ga⟩ := h 0 d rfl
    obtain ⟨as, rfl, gs⟩ := pull_map (ds := ds) fun i d hd => h (i + 1) d (by simpa using hd)
    refine ⟨a :: as, rfl, fun b hb => ?_⟩
    rcases List.mem_cons.mp hb with rfl | hb
    · exact ga
    · exact gs b hb
section
variable {P : Program} {w : World} {K : PySem.W.Frag} {mg : Str → Option Value} {base : Heap}
abbrev s__law_rule : Stmt := topS 33
theorem sc__law_rule : FnScope ["_law_tape_here", "_law_letters", "_law_owners_here", "_law_nodes", "_law_most", "_law_before", "_law_target", "_law_after", "_law_output", "_law_k"] ["_law_tape_here", "_law_letters", "_law_owners_here", "_law_nodes", "_law_most"] (defScope s__law_rule) := ⟨rfl, rfl, rfl, by decide +kernel, rfl, by decide +kernel, by decide +kernel⟩
def RuleG (d : PyData) : Prop := ∃ r, d = ruleD r ∧ RW r
theorem RuleG.nl {d : PyData} (h : RuleG d) : nl d = true := by
  obtain ⟨r, rfl, _⟩ := h
  exact nl_rule r
def spRule (K : PySem.W.Frag) (G : PyData → Prop) : Sp := fun vs H Q _ => ∃ (tp tl : Addr) (lt ow : List Nat) (mo : Int), vs = [.ref tp, .str (S lt), .str (S ow), .int 4, .int mo] ∧ Tape tl H tp ∧ Alf lt ow ∧ (∀ c ∈ lt, c < 128) ∧ 0 ≤ mo ∧ Dr K H Q tp tl G
theorem ok__law_rule (D : Df K mg "_law_rule" s__law_rule ["_law_tape_here", "_law_letters", "_law_owners_here", "_law_nodes", "_law_most"]) (z_range : mg "range" = none) (z_len : mg "len" = none) (c__law_draw : C8.Cal P w K mg base 1 "_law_draw" spDraw []) (c__law_node : C8.Cal P w K mg base 3 "_law_node" (spNode K) []) (c__law_flank : C8.Cal P w K mg base 9 "_law_flank" (spFlank K) []) : C8.Cal P w K mg base 10 "_law_rule" (spRule K RuleG) [] := by
  refine D.cal sc__law_rule (fun vs H Q E h => ?_) (fun f cdv A outer s H vs Q E hr h => ?_)
  · obtain ⟨_, _, _, _, _, rfl, _⟩ := h
    rfl
  obtain ⟨tp, tl, lt, ow, mo, rfl, hT, al, hlt, hmo, k⟩ := h
  refine ⟨_, (pss_cons (ps_set (i := 5) sc__law_rule.nd rfl (by first | exact .inl rfl | exact .inr rfl) (C8.pe_c c__law_flank hr (by omega) (by rfl) (pa_cons (pv 0) (pa_cons (pv 1) (pa_cons (pv 2) (pa_cons (pv 3) pa_nil))))))
     (pss_cons (ps_set (i := 6) sc__law_rule.nd rfl (by first | exact .inl rfl | exact .inr rfl) (C8.pe_c c__law_node hr (by omega) (by rfl) (pa_cons (pv 0) (pa_cons (pv 1) (pa_cons (pv 2) pa_nil)))))
     (pss_cons (ps_set (i := 7) sc__law_rule.nd rfl (by first | exact .inl rfl | exact .inr rfl) (C8.pe_c c__law_flank hr (by omega) (by rfl) (pa_cons (pv 0) (pa_cons (pv 1) (pa_cons (pv 2) (pa_cons (pv 3) pa_nil))))))
     (pss_cons (ps_set (i := 8) sc__law_rule.nd rfl (by first | exact .inl rfl | exact .inr rfl) pe_str)
     (pss_cons (ps_for PassesOwn.never rfl (pi_range1 (by rfl) z_range (pa_cons (pe_ix ix_list (pe_lst (pa_cons pe_int (pa_cons pe_int (pa_cons pe_int (pa_cons pe_int (pa_cons pe_int (pa_cons pe_int pa_nil))))))) (C8.pe_c c__law_draw hr (by omega) (by rfl) (pa_cons (pv 0) (pa_cons pe_int pa_nil))) (fun _ _ => rfl)) pa_nil)) (pg_name (i := 9) sc__law_rule.nd rfl (by first | exact .inl rfl | exact .inr rfl))
     (pss_one (ps_set (i := 8) sc__law_rule.nd rfl (by first | exact .inl rfl | exact .inr rfl) (pe_op op_add_str (pv 8) (pe_ix ix_list (pe_lst (pa_cons pe_str (pa_cons pe_str (pa_cons (pe_ix ix_str (pv 1) (C8.pe_c c__law_draw hr (by omega) (by rfl) (pa_cons (pv 0) (pa_cons (pe_callB call_len_str (by rfl) z_len (by decide +kernel) (pa_cons (pv 1) pa_nil)) pa_nil))) (fun _ _ => rfl)) pa_nil)))) (C8.pe_c c__law_draw hr (by omega) (by rfl) (pa_cons (pv 0) (pa_cons pe_int pa_nil))) (fun _ _ => rfl))))))
     (pss_one (ps_ret (pe_tup (pa_cons (pv 5) (pa_cons (pv 6) (pa_cons (pv 7) (pa_cons (pe_slice sl_str (pv 8) po_none (po_some (pv 4))) pa_nil)))))))))))), ?_⟩
  have a2 := al.l3
  have a1 := al.l1
  have lsz : (S lt).length ≤ sizeLine := by rw [S_len]; exact Nat.le_of_lt (line200 (by omega))
  refine ⟨_, rfl, _, rfl, _, rfl, _, rfl, tp, tl, lt, ow, rfl, hT, al, fun H1 vb db k1 t1 g1 p1 => ?_⟩
  obtain ⟨b, rfl, bok, bh⟩ := g1
  refine ⟨_, rfl, _, rfl, _, rfl, tp, tl, lt, ow, rfl, t1, al, fun H2 vt dt k2 t2 g2 p2 => ?_⟩
  obtain ⟨tn, th, tls, rfl, th30, tl30⟩ := g2
  refine ⟨_, rfl, _, rfl, _, rfl, _, rfl, tp, tl, lt, ow, rfl, t2, al, fun H3 va da k3 t3 g3 p3 => ?_⟩
  obtain ⟨a, rfl, aok, ah⟩ := g3
  have pb3 : Dp K H3 vb b.data := dp_kp (dp_kp p1 k2 t1 (nl_tree b)) k3 t2 (nl_tree b)
  have pt3 : Dp K H3 vt (Tree.cls tn th tls).data := dp_kp p2 k3 t2 (nl_tree _)
  -- the output
  refine ⟨(by decide : 6 ≤ sizeLine), fun o no => ⟨_, rfl, tp, tl, 6, rfl, t3.mono (Same.new no), by decide, fun H4 r k4 t4 r0 r1 => ?_⟩⟩
  obtain ⟨jv, hv, hm⟩ := atI_mem (xs := [V.int 1, .int 1, .int 1, .int 0, .int 2, .int 3]) r0 (by show r < (6 : Nat); omega)
  obtain ⟨j, rfl, j0, j3⟩ : ∃ j : Int, jv = .int j ∧ 0 ≤ j ∧ j ≤ 3 := by
    simp only [List.mem_cons, List.not_mem_nil, or_false] at hm
    rcases hm with h | h | h | h | h | h <;> exact ⟨_, h, by omega, by omega⟩
  have kk4 := (Kp.of (Same.new (o := .lst [V.int 1, .int 1, .int 1, .int 0, .int 2, .int 3]) no)).trans k4
  refine ⟨o, _, _, _, rfl, rfl, SqL.of (k4 _ _ (tp_ne t3 no) upd_same), hv, j, rfl, by omega, by omega, for_src (Src.rng 0 j.toNat)
    (fun i σ H' => ∃ (out : List Nat) (y9 : Option V), σ = [some (.ref tp), some (.str (S lt)), some (.str (S ow)), some (.int 4), some (.int mo), some vb, some vt, some va, some (.str (S out)), y9] ∧ Kp tp H3 H' ∧ Tape tl H' tp ∧ out.length = i ∧ ∀ c ∈ out, c < 128)
    ⟨[], _, (by rw [← emp]; rfl), kk4, t4, rfl, fun c h => by cases h⟩ (fun _ _ _ _ _ => trivial) (fun i x σ H5 H6 hi hP s6 hy => ?_) fun σ H' hP => ?_⟩
  · obtain ⟨out, y9, rfl, k5, t5, hl, hc⟩ := hP
    subst hy
    refine ⟨_, rfl, _, rfl, _, rfl, _, rfl, _, rfl, lsz, tp, tl, _, rfl, t5.mono s6, by rw [S_len]; omega, fun H7 r k7 t7 r0 r1 => ?_⟩
    rw [S_len] at r1
    obtain ⟨ch, h1, h2⟩ := atI_mem (xs := (S lt).cps.toList) (r := r) r0 (by show r < ((S lt).cps.toList.length : Nat); rw [show (S lt).cps.toList = lt by simp [S]]; omega)
    have hch : ch < 128 := hlt ch (by simpa [S] using h2)
    refine ⟨_, _, ch, rfl, rfl, lsz, h1, (by decide : 3 ≤ sizeLine), fun o2 no2 => ⟨_, rfl, tp, tl, 3, rfl, t7.mono (Same.new no2), by decide, fun H8 r2 k8 t8 r20 r21 => ?_⟩⟩
    obtain ⟨qv, hq, hm2⟩ := atI_mem (xs := [V.str "$", .str "$", .str (S [ch])]) r20 (by show r2 < (3 : Nat); omega)
    obtain ⟨q, rfl, hq2⟩ : ∃ q : Nat, qv = .str (S [q]) ∧ q < 128 := by
      simp only [List.mem_cons, List.not_mem_nil, or_false] at hm2
      rcases hm2 with h | h | h
      · exact ⟨36, by rw [h, dollar], by decide⟩
      · exact ⟨36, by rw [h, dollar], by decide⟩
      · exact ⟨ch, h, hch⟩
    refine ⟨o2, _, _, _, rfl, rfl, SqL.of (k8 _ _ (tp_ne t7 no2) upd_same), hq, _, _, rfl, rfl, ?_, out ++ [q], _, (by rw [S_cat]; rfl), k5.trans ((Kp.of s6).trans (k7.trans ((Kp.of (Same.new no2)).trans k8))), t8, (by rw [List.length_append, hl]; rfl), fun c hc' => ?_⟩
    · rw [S_len, S_len, List.length_singleton]
      exact Nat.le_of_lt (line200 (by omega))
    · rcases List.mem_append.mp hc' with h | h
      · exact hc c h
      · rw [List.mem_singleton.mp h]; exact hq2
  · obtain ⟨out, y9, rfl, k5, t5, hl, hc⟩ := hP
    refine ⟨_, rfl, _, rfl, _, rfl, _, rfl, _, rfl, _, rfl, _, rfl, ?_, (by simp [sizeLine_eq]), fun p hp => ?_⟩
    · rw [S_len]; exact Nat.le_of_lt (line200 (by omega))
    have ecut : cutS (S out) none (some mo) = S (out.take mo.toNat) := by rw [C8.cutS_slice, SX.slice_to hmo]
    rw [ecut]
    have s9 := Same.new (o := .tup [vb, vt, va, .str (S (out.take mo.toNat))]) hp
    refine k _ _ _ (k1.trans (k2.trans (k3.trans (k5.trans (Kp.of s9))))) (t5.mono s9) ⟨⟨b, tn, th, tls, a, out.take mo.toNat⟩, rfl, ⟨⟨by show b.ht ≤ 4; omega, by show a.ht ≤ 4; omega, ?_⟩, bok, ⟨th30, tl30⟩, aok, fun c h => hc c (List.mem_of_mem_take h)⟩⟩ ?_
    · show (out.take mo.toNat).length ≤ 3
      rw [List.length_take]; omega
    · exact Dp.tupN hp (.cons (dp_kp pb3 k5 t3 (nl_tree _)) (.cons (dp_kp pt3 k5 t3 (nl_tree _)) (.cons (dp_kp p3 k5 t3 (nl_tree _)) (.one (.str _)))))
abbrev s__law_rules : Stmt := topS 34
theorem sc__law_rules : FnScope ["_law_tape_here", "_law_letters", "_law_owners_here", "_law_nodes", "_law_most", "_law_k"] ["_law_tape_here", "_law_letters", "_law_owners_here", "_law_nodes", "_law_most"] (defScope s__law_rules) := ⟨rfl, rfl, rfl, by decide +kernel, rfl, by decide +kernel, by decide +kernel⟩
def StageG (d : PyData) : Prop := ∃ st : List Rule, d = stageD st ∧ st.length ≤ 3 ∧ ∀ r ∈ st, RW r
theorem ok__law_rules (D : Df K mg "_law_rules" s__law_rules ["_law_tape_here", "_law_letters", "_law_owners_here", "_law_nodes", "_law_most"]) (z_range : mg "range" = none) (z_tuple : mg "tuple" = none) (c__law_draw : C8.Cal P w K mg base 1 "_law_draw" spDraw []) (c__law_rule : C8.Cal P w K mg base 10 "_law_rule" (spRule K RuleG) []) : C8.Cal P w K mg base 11 "_law_rules" (spRule K StageG) [] := by
  refine D.cal sc__law_rules (fun vs H Q E h => ?_) (fun f cdv A outer s H vs Q E hr h => ?_)
  · obtain ⟨_, _, _, _, _, rfl, _⟩ := h
    rfl
  obtain ⟨tp, tl, lt, ow, mo, rfl, hT, al, hlt, hmo, k⟩ := h
  refine ⟨_, (pss_one (ps_ret (pe_callTy call_tuple_of (by rfl) z_tuple (by decide +kernel) (pa_cons (pe_lc (own := [("_law_k", 5)]) rfl sc__law_rules.nd (pi_range1 (by rfl) z_range (pa_cons (pe_ix ix_list (pe_lst (pa_cons pe_int (pa_cons pe_int (pa_cons pe_int (pa_cons pe_int pa_nil))))) (C8.pe_c c__law_draw hr (by omega) (by rfl) (pa_cons (pv 0) (pa_cons pe_int pa_nil))) (fun _ _ => rfl)) pa_nil)) (blkOk_by (by with_unfolding_all rfl)) (fun _ _ _ _ _ => (pg_name (i := 5) sc__law_rules.nd rfl (by first | exact .inl rfl | exact .inr rfl))) (fun _ _ _ _ _ => pts_nil) (fun _ _ _ _ _ => (C8.pe_c c__law_rule hr (by omega) (by rfl) (pa_cons (pv 0) (pa_cons (pv 1) (pa_cons (pv 2) (pa_cons (pv 3) (pa_cons (pv 4) pa_nil)))))))) pa_nil)))), ?_⟩
  refine ⟨(by decide : 4 ≤ sizeLine), fun o no => ⟨_, rfl, tp, tl, 4, rfl, hT.mono (Same.new no), by decide, fun H4 r k4 t4 r0 r1 => ?_⟩⟩
  obtain ⟨jv, hv, hm⟩ := atI_mem (xs := [V.int 1, .int 2, .int 2, .int 3]) r0 (by show r < (4 : Nat); omega)
  obtain ⟨j, rfl, j0, j3⟩ : ∃ j : Int, jv = .int j ∧ 0 ≤ j ∧ j ≤ 3 := by
    simp only [List.mem_cons, List.not_mem_nil, or_false] at hm
    rcases hm with h | h | h | h <;> exact ⟨_, h, by omega, by omega⟩
  refine ⟨o, _, _, _, rfl, rfl, SqL.of (k4 _ _ (tp_ne hT no) upd_same), hv, j, rfl, by omega, by omega, fun D1 hD1 => lc_turn (K := K) (Src.rng 0 j.toNat) t4 (fun _ _ _ => trivial) hD1 (by omega) (fun _ d => RuleG d) (fun _ d h => h.nl) (fun i x H2 Q' hi k2 t2 hy el => ?_) fun H2 ys ds k2 t2 e2 hl hF hA => ?_⟩
  · exact ⟨rfl, _, rfl, _, rfl, _, rfl, _, rfl, _, rfl, tp, tl, lt, ow, mo, rfl, t2, al, hlt, hmo, fun H3 y d k3 t3 g p => el H3 y d k3 t3 g p⟩
  · obtain ⟨st, rfl, hst⟩ := pull_map hF
    rw [List.length_map] at hl
    refine ⟨D1, ys, rfl, .inl ⟨SqL.of e2, fun q hq => ?_⟩⟩
    exact k _ _ _ ((Kp.of (Same.new no)).trans (k4.trans (k2.trans (Kp.of (Same.new hq))))) (t2.mono (Same.new hq)) ⟨st, rfl, by omega, hst⟩ (Dp.tupN hq hA)
abbrev s__law_stages : Stmt := topS 35
theorem sc__law_stages : FnScope ["_law_tape_here", "_law_letters", "_law_owners_here", "_law_nodes", "_law_wide", "_law_stages_here", "_law_k"] ["_law_tape_here", "_law_letters", "_law_owners_here", "_law_nodes"] (defScope s__law_stages) := ⟨rfl, rfl, rfl, by decide +kernel, rfl, by decide +kernel, by decide +kernel⟩
def PipeG (d : PyData) : Prop := ∃ pl, d = pipeD pl ∧ PipeW pl
def spStages (K : PySem.W.Frag) : Sp := fun vs H Q _ => ∃ (tp tl : Addr) (lt ow : List Nat), vs = [.ref tp, .str (S lt), .str (S ow), .int 4] ∧ Tape tl H tp ∧ Alf lt ow ∧ (∀ c ∈ lt, c < 128) ∧ Dr K H Q tp tl PipeG
theorem ok__law_stages (D : Df K mg "_law_stages" s__law_stages ["_law_tape_here", "_law_letters", "_law_owners_here", "_law_nodes"]) (z_range : mg "range" = none) (z_int : mg "int" = none) (z_tuple : mg "tuple" = none) (c__law_draw : C8.Cal P w K mg base 1 "_law_draw" spDraw []) (c__law_rules : C8.Cal P w K mg base 11 "_law_rules" (spRule K StageG) []) : C8.Cal P w K mg base 12 "_law_stages" (spStages K) [] := by
  refine D.cal sc__law_stages (fun vs H Q E h => ?_) (fun f cdv A outer s H vs Q E hr h => ?_)
  · obtain ⟨_, _, _, _, rfl, _⟩ := h
    rfl
  obtain ⟨tp, tl, lt, ow, rfl, hT, al, hlt, k⟩ := h
  refine ⟨_, (pss_cons (ps_set (i := 4) sc__law_stages.nd rfl (by first | exact .inl rfl | exact .inr rfl) (C8.pe_c c__law_draw hr (by omega) (by rfl) (pa_cons (pv 0) (pa_cons pe_int pa_nil))))
     (pss_cons (ps_set (i := 5) sc__law_stages.nd rfl (by first | exact .inl rfl | exact .inr rfl) (pe_lst pa_nil))
     (pss_cons (ps_for PassesOwn.never rfl (pi_range1 (by rfl) z_range (pa_cons (pe_ix ix_list (pe_lst (pa_cons pe_int (pa_cons pe_int (pa_cons pe_int (pa_cons pe_int pa_nil))))) (C8.pe_c c__law_draw hr (by omega) (by rfl) (pa_cons (pv 0) (pa_cons pe_int pa_nil))) (fun _ _ => rfl)) pa_nil)) (pg_name (i := 6) sc__law_stages.nd rfl (by first | exact .inl rfl | exact .inr rfl))
     (pss_one (ps_expr (pe_bm PySem.F.plainAttrs_list PySem.F.slot_list_append PySem.F.type_list_append mt_append (pv 5) (pa_cons (C8.pe_c c__law_rules hr (by omega) (by rfl) (pa_cons (pv 0) (pa_cons (pv 1) (pa_cons (pv 2) (pa_cons (pv 3) (pa_cons (pe_ix ix_list (pe_lst (pa_cons pe_int (pa_cons pe_int pa_nil))) (pe_callTy call_int1 (by rfl) z_int (by decide +kernel) (pa_cons (pe_cmpR op_eq (pv 6) (pv 4) (nomark _)) pa_nil)) (fun _ _ => rfl)) pa_nil)))))) pa_nil)))))
     (pss_one (ps_ret (pe_callTy call_tuple_of (by rfl) z_tuple (by decide +kernel) (pa_cons (pv 5) pa_nil))))))), ?_⟩
  refine ⟨_, rfl, tp, tl, 3, rfl, hT, by decide, fun H1 wd k1 t1 w0 w1 => ⟨Nat.zero_le _, fun o no => ?_⟩⟩
  have t1' := t1.mono (Same.new (o := .lst []) no)
  refine ⟨(by decide : 4 ≤ sizeLine), fun o1 no1 => ⟨_, rfl, tp, tl, 4, rfl, t1'.mono (Same.new no1), by decide, fun H4 r k4 t4 r0 r1 => ?_⟩⟩
  obtain ⟨jv, hv, hm⟩ := atI_mem (xs := [V.int 1, .int 2, .int 2, .int 3]) r0 (by show r < (4 : Nat); omega)
  obtain ⟨j, rfl, j0, j3⟩ : ∃ j : Int, jv = .int j ∧ 0 ≤ j ∧ j ≤ 3 := by
    simp only [List.mem_cons, List.not_mem_nil, or_false] at hm
    rcases hm with h | h | h | h <;> exact ⟨_, h, by omega, by omega⟩
  have no1' : o1 ≠ tp := tp_ne t1' no1
  have nt : o ≠ tp := tp_ne t1 no
  have ntl : o ≠ tl := tl_ne t1 no
  have kk4 : Kp tp H1 H4 := (Kp.of ((Same.new no).trans (Same.new no1))).trans k4
  refine ⟨o1, _, _, _, rfl, rfl, SqL.of (k4 _ _ no1' upd_same), hv, j, rfl, by omega, by omega, for_src (Src.rng 0 j.toNat)
    (fun i σ H' => ∃ (st : List (List Rule)) (ys : List V) (y6 : Option V), σ = [some (.ref tp), some (.str (S lt)), some (.str (S ow)), some (.int 4), some (.int wd), some (.ref o), y6] ∧ Kp tp H1 H' ∧ Tape tl H' tp ∧ H' o = some (.lst ys) ∧ DpAll K H' ys (st.map stageD) ∧ st.length = i ∧ ∀ s ∈ st, s.length ≤ 3 ∧ ∀ r ∈ s, RW r)
    ⟨[], [], _, rfl, kk4, t4, k4 _ _ nt (Same.new no1 _ _ upd_same), .nil, rfl, fun s h => by cases h⟩ (fun _ _ _ _ _ => trivial) (fun i x σ H5 H6 hi hP s6 hy => ?_) fun σ H' hP => ?_⟩
  · obtain ⟨st, ys, y6, rfl, k5, t5, eo, hA, hl, hst⟩ := hP
    subst hy
    have t6 := t5.mono s6
    have eo6 := s6 _ _ eo
    refine ⟨.ref o, rfl, .inl ⟨rfl, _, SqL.of eo6⟩, _, rfl, _, rfl, _, rfl, _, rfl, (by decide : 2 ≤ sizeLine), fun o3 no3 => ⟨_, rfl, _, rfl, rfl, .inr ⟨_, rfl, ?_⟩⟩⟩
    have s7 := Same.new (o := .lst [V.int 1, .int 3]) no3
    obtain ⟨mv, hv2, hm2⟩ := atI_mem (xs := [V.int 1, .int 3]) (r := if decide (V.int (0 + (i : Nat)) = V.int wd) = true then 1 else 0) (by split <;> decide) (by split <;> decide)
    obtain ⟨mo, rfl, hmo⟩ : ∃ j : Int, mv = .int j ∧ 0 ≤ j := by
      simp only [List.mem_cons, List.not_mem_nil, or_false] at hm2
      rcases hm2 with h | h <;> exact ⟨_, h, by omega⟩
    refine ⟨o3, _, _, _, rfl, rfl, SqL.of upd_same, hv2, tp, tl, lt, ow, mo, rfl, t6.mono s7, al, hlt, hmo, fun H8 y d k8 t8 g p => ?_⟩
    obtain ⟨s, rfl, hs3, hsr⟩ := g
    have eo8 := k8 _ _ nt (s7 _ _ eo6)
    have tu := Tups.upd (o := .lst (ys ++ [y])) eo8
    have ly := hA.len
    rw [List.length_map] at ly
    refine ⟨o, ys, y, rfl, rfl, eo8, line200 (by omega), st ++ [s], _, _, rfl, fun b u nb e => ?_, t8.upd nt ntl, upd_same, ?_, by rw [List.length_append, hl]; rfl, fun s' hs' => ?_⟩
    · rw [upd_ne (ne_of_none e no)]
      exact k8 _ _ nb (s7 _ _ (s6 _ _ (k5 _ _ nb e)))
    · rw [List.map_append]
      exact DpAll.app (DpAll.tups tu (dpAll_kp (DpAll.mono (s6.trans s7) hA) k8 (t6.mono s7) (nlAll_map nl_stage _)) (nlAll_map nl_stage _)) (.one (Dp.tups tu p (nl_stage _)))
    · rcases List.mem_append.mp hs' with h | h
      · exact hst s' h
      · rw [List.mem_singleton.mp h]; exact ⟨hs3, hsr⟩
  · obtain ⟨st, ys, y6, rfl, k5, t5, eo, hA, hl, hst⟩ := hP
    refine ⟨.ref o, rfl, o, ys, rfl, .inl ⟨SqL.of eo, fun p hp => ?_⟩⟩
    exact k _ _ _ (k1.trans (k5.trans (Kp.of (Same.new hp)))) (t5.mono (Same.new hp)) ⟨st, rfl, by omega, hst⟩ (Dp.tupN hp hA)
end
end K29
namespace K29
open PySem PySem.Spec PyProof.Rows L2 SX
def rowOf (lt : List Nat) (h : Nat) : List Sym := lt.map fun c => (h, c)
def symsOf (lt ow : List Nat) : List Sym := (64 :: ow).flatMap (rowOf lt)
theorem rows_len {lt : List Nat} (h : lt.length ≤ 3) (xs : List Nat) : (xs.flatMap (rowOf lt)).length ≤ 3 * xs.length := flat_len (fun x => by rw [rowOf, List.length_map]; exact h) xs
section
variable {P : Program} {w : World} {K : PySem.W.Frag} {mg : Str → Option Value} {base : Heap}
abbrev s__law_symbols : Stmt := topS 36
theorem sc__law_symbols : FnScope ["_law_letters", "_law_owners_here", "_law_found", "_law_owner", "_law_letter"] ["_law_letters", "_law_owners_here"] (defScope s__law_symbols) := ⟨rfl, rfl, rfl, by decide +kernel, rfl, by decide +kernel, by decide +kernel⟩
def spSymbols : Sp := fun vs H Q _ => ∃ (lt ow : List Nat), vs = [.str (S lt), .str (S ow)] ∧ lt.length ≤ 3 ∧ ow.length ≤ 3 ∧ ∀ (H' : Hp) (o : Addr), Same H H' → H o = none → H' o = some (.lst ((symsOf lt ow).map symV)) → Q (.ref o) H'
theorem ok__law_symbols (D : Df K mg "_law_symbols" s__law_symbols ["_law_letters", "_law_owners_here"]) : C8.Cal P w K mg base 1 "_law_symbols" spSymbols [] := by
  refine D.cal sc__law_symbols (fun vs H Q E h => ?_) (fun f cdv A outer s H vs Q E hr h => ?_)
  · obtain ⟨_, _, rfl, _⟩ := h
    rfl
  obtain ⟨lt, ow, rfl, l3, o3, k⟩ := h
  refine ⟨_, (pss_cons (ps_set (i := 2) sc__law_symbols.nd rfl (by first | exact .inl rfl | exact .inr rfl) (pe_lst pa_nil))
     (pss_cons (ps_for PassesOwn.never rfl (pi_str (pe_op op_add_str pe_str (pv 1))) (pg_name (i := 3) sc__law_symbols.nd rfl (by first | exact .inl rfl | exact .inr rfl))
     (pss_one (ps_for PassesOwn.never rfl (pi_str (pv 0)) (pg_name (i := 4) sc__law_symbols.nd rfl (by first | exact .inl rfl | exact .inr rfl))
     (pss_one (ps_expr (pe_bm PySem.F.plainAttrs_list PySem.F.slot_list_append PySem.F.type_list_append mt_append (pv 2) (pa_cons (pe_op op_add_str (pv 3) (pv 4)) pa_nil)))))))
     (pss_one (ps_ret (pv 2))))), ?_⟩
  refine ⟨Nat.zero_le _, fun o no => ?_⟩
  have hsum : (S [64]).length + (S ow).length ≤ sizeLine := by rw [S_len, S_len]; exact Nat.le_of_lt (line200 (by show 1 + ow.length ≤ _; omega))
  refine ⟨_, rfl, _, _, rfl, rfl, (by rw [at_sym]; exact hsum), S ([64] ++ ow), (by rw [at_sym, S_cat]), for_src (Src.str ([64] ++ ow))
    (fun i σ H' => ∃ y3 y4, σ = [some (.str (S lt)), some (.str (S ow)), some (.ref o), y3, y4] ∧ Same H H' ∧ H' o = some (.lst (((([64] ++ ow).take i).flatMap (rowOf lt)).map symV)))
    ⟨_, _, rfl, Same.new no, upd_same⟩ (fun _ _ _ _ _ => trivial) (fun i x σ H1 H2 hi hP s2 hy => ?_) fun σ H' hP => ?_⟩
  · obtain ⟨y3, y4, rfl, S1, eo⟩ := hP
    obtain ⟨h, hh, rfl⟩ := hy
    have S2 := S1.trans s2
    have eo2 := s2 _ _ eo
    refine ⟨_, rfl, _, rfl, for_src (Src.str lt)
      (fun j σ H' => ∃ y4, σ = [some (.str (S lt)), some (.str (S ow)), some (.ref o), some (.str (S [h])), y4] ∧ Same H H' ∧ H' o = some (.lst (((([64] ++ ow).take i).flatMap (rowOf lt) ++ rowOf (lt.take j) h).map symV)))
      ⟨_, rfl, S2, by rw [show rowOf (lt.take 0) h = [] from rfl, List.append_nil]; exact eo2⟩ (fun _ _ _ _ _ => trivial) (fun j x σ H3 H4 hj hP s4 hy => ?_) fun σ H' hP => ?_⟩
    · obtain ⟨y4, rfl, S3, eo3⟩ := hP
      obtain ⟨c, hc, rfl⟩ := hy
      have eo4 := s4 _ _ eo3
      have b1 := rows_len l3 (([64] ++ ow).take i)
      have b2 : (rowOf (lt.take j) h).length ≤ 3 := by rw [rowOf, List.length_map, List.length_take]; omega
      have b3 : (([64] ++ ow).take i).length ≤ 4 := by rw [List.length_take, List.length_append, List.length_singleton]; omega
      refine ⟨.ref o, rfl, .inl ⟨rfl, _, SqL.of eo4⟩, _, rfl, _, rfl, _, _, rfl, rfl, ?_, o, _, _, rfl, rfl, eo4, ?_, _, rfl, fun b u e => ?_, ?_⟩
      · rw [S_len, S_len]; exact Nat.le_of_lt (line200 (by show 1 + 1 ≤ _; omega))
      · rw [List.length_map, List.length_append]; exact line200 (by omega)
      · rw [upd_ne (ne_of_none e no)]
        exact s4 _ _ (S3 _ _ e)
      · rw [upd_same, S_cat]
        unfold rowOf
        rw [take_snoc hc]
        simp only [List.map_append, List.append_assoc]
        rfl
    · obtain ⟨y4, rfl, S3, eo3⟩ := hP
      refine ⟨_, _, rfl, S3, ?_⟩
      rw [eo3, List.take_length, take_snoc hh, List.flatMap_append]
      simp
  · obtain ⟨y3, y4, rfl, S1, eo⟩ := hP
    rw [List.take_length] at eo
    exact ⟨_, rfl, k H' o S1 no eo⟩
abbrev s__law_sequence : Stmt := topS 37
theorem sc__law_sequence : FnScope ["_law_tape_here", "_law_signs", "_law_most", "_law_found", "_law_k"] ["_law_tape_here", "_law_signs", "_law_most"] (defScope s__law_sequence) := ⟨rfl, rfl, rfl, by decide +kernel, rfl, by decide +kernel, by decide +kernel⟩
def spSequence (K : PySem.W.Frag) : Sp := fun vs H Q _ => ∃ (tp tl a : Addr) (sg : List Sym), vs = [.ref tp, .ref a, .int 5] ∧ Tape tl H tp ∧ H a = some (.lst (sg.map symV)) ∧ a ≠ tp ∧ 1 ≤ sg.length ∧ sg.length ≤ 100 ∧ Dr K H Q tp tl (fun d => ∃ w, d = seqD w ∧ w.length ≤ 5 ∧ ∀ s ∈ w, s ∈ sg)
theorem ok__law_sequence (D : Df K mg "_law_sequence" s__law_sequence ["_law_tape_here", "_law_signs", "_law_most"]) (z_range : mg "range" = none) (z_len : mg "len" = none) (z_tuple : mg "tuple" = none) (c__law_draw : C8.Cal P w K mg base 1 "_law_draw" spDraw []) : C8.Cal P w K mg base 2 "_law_sequence" (spSequence K) [] := by
  refine D.cal sc__law_sequence (fun vs H Q E h => ?_) (fun f cdv A outer s H vs Q E hr h => ?_)
  · obtain ⟨_, _, _, _, rfl, _⟩ := h
    rfl
  obtain ⟨tp, tl, a, sg, rfl, hT, ea, na, g1, g2, k⟩ := h
  refine ⟨_, (pss_cons (ps_set (i := 3) sc__law_sequence.nd rfl (by first | exact .inl rfl | exact .inr rfl) (pe_lst pa_nil))
     (pss_cons (ps_for PassesOwn.never rfl (pi_range1 (by rfl) z_range (pa_cons (C8.pe_c c__law_draw hr (by omega) (by rfl) (pa_cons (pv 0) (pa_cons (pe_op op_add (pv 2) pe_int) pa_nil))) pa_nil)) (pg_name (i := 4) sc__law_sequence.nd rfl (by first | exact .inl rfl | exact .inr rfl))
     (pss_one (ps_if (PW.pt (pw_and (pt_truth (pv 3) (by intro _; rfl)) (pw_and1 (pt_cmpR op_eq (C8.pe_c c__law_draw hr (by omega) (by rfl) (pa_cons (pv 0) (pa_cons pe_int pa_nil))) pe_int (nomark _)))))
     (pss_one (ps_expr (pe_bm PySem.F.plainAttrs_list PySem.F.slot_list_append PySem.F.type_list_append mt_append (pv 3) (pa_cons (pe_ix ix_list (pv 3) (pe_un un_neg pe_int) (fun _ _ => rfl)) pa_nil))))
     (pss_one (ps_expr (pe_bm PySem.F.plainAttrs_list PySem.F.slot_list_append PySem.F.type_list_append mt_append (pv 3) (pa_cons (pe_ix ix_list (pv 1) (C8.pe_c c__law_draw hr (by omega) (by rfl) (pa_cons (pv 0) (pa_cons (pe_callB call_len_seq (by rfl) z_len (by decide +kernel) (pa_cons (pv 1) pa_nil)) pa_nil))) (fun _ _ => rfl)) pa_nil)))))))
     (pss_one (ps_ret (pe_callTy call_tuple_of (by rfl) z_tuple (by decide +kernel) (pa_cons (pv 3) pa_nil)))))), ?_⟩
  refine ⟨Nat.zero_le _, fun o no => ?_⟩
  have nt : o ≠ tp := tp_ne hT no
  have ntl : o ≠ tl := tl_ne hT no
  have nao : a ≠ o := ne_of_none ea no
  refine ⟨_, rfl, _, rfl, _, _, rfl, rfl, tp, tl, _, rfl, hT.mono (Same.new no), by decide, fun H1 r k1 t1 r0 r1 => ⟨r, rfl, by omega, by omega, for_src (Src.rng 0 r.toNat)
    (fun i σ H' => ∃ (z : List Sym) (y4 : Option V), σ = [some (.ref tp), some (.ref a), some (.int 5), some (.ref o), y4] ∧ Kp tp H H' ∧ Tape tl H' tp ∧ H' o = some (.lst (z.map symV)) ∧ z.length ≤ i ∧ ∀ s ∈ z, s ∈ sg)
    ⟨[], _, rfl, (Kp.of (Same.new no)).trans k1, t1, k1 _ _ nt upd_same, Nat.le_refl _, fun s h => by cases h⟩ (fun _ _ _ _ _ => trivial) (fun i x σ H3 H4 hi hP s4 hy => ?_) fun σ H' hP => ?_⟩⟩
  · obtain ⟨z, y4, rfl, k3, t3, eo, hl, hz⟩ := hP
    subst hy
    have k4 := k3.trans (Kp.of s4)
    have t4 := t3.mono s4
    have eo4 := s4 _ _ eo
    have fin : ∀ (H5 : Hp) (s : Sym), Kp tp H H5 → Tape tl H5 tp → H5 o = some (.lst (z.map symV)) → s ∈ sg → ∃ (z' : List Sym) (y4' : Option V), ([some (.ref tp), some (.ref a), some (.int 5), some (.ref o), some (.int (0 + (i : Nat)))] : L2.St) = [some (.ref tp), some (.ref a), some (.int 5), some (.ref o), y4'] ∧ Kp tp H (upd H5 o (.lst (z.map symV ++ [symV s]))) ∧ Tape tl (upd H5 o (.lst (z.map symV ++ [symV s]))) tp ∧ (upd H5 o (.lst (z.map symV ++ [symV s]))) o = some (.lst (z'.map symV)) ∧ z'.length ≤ i + 1 ∧ ∀ s ∈ z', s ∈ sg :=
      fun H5 s k5 t5 e5 hs => ⟨z ++ [s], _, rfl, fun b u nb e => by rw [upd_ne (ne_of_none e no)]; exact k5 _ _ nb e, t5.upd nt ntl, by rw [upd_same, List.map_append]; rfl, by rw [List.length_append, List.length_singleton]; omega, fun q hq => by
        rcases List.mem_append.mp hq with h | h
        · exact hz q h
        · rw [List.mem_singleton.mp h]; exact hs⟩
    have zl : (z.map symV).length < sizeLine := by rw [List.length_map]; exact line200 (by omega)
    have sgl : ∀ (H5 : Hp) (r : Int), 0 ≤ r → (r < ((sg.map symV).length : Nat) ∨ r < 1) → ∃ s, s ∈ sg ∧ atI (sg.map symV) r = some (symV s) := fun H5 r r0 r1 => by
      rw [List.length_map] at r1
      obtain ⟨v, hv, hm⟩ := atI_mem (xs := sg.map symV) r0 (by rw [List.length_map]; omega)
      obtain ⟨s, hs, rfl⟩ := List.mem_map.mp hm
      exact ⟨s, hs, hv⟩
    refine ⟨.ref o, rfl, _, .inl ⟨_, SqL.of eo4, rfl⟩, ?_⟩
    rcases List.eq_nil_or_concat z with e | ⟨z0, sl', e⟩
    · subst e
      refine iteF (iteF ⟨.ref o, rfl, .inl ⟨rfl, _, SqL.of eo4⟩, .ref a, rfl, _, rfl, .ref a, rfl, a, _, rfl, .inl (SqL.of (k4 _ _ na ea)), tp, tl, _, rfl, t4, by rw [List.length_map]; omega, fun H5 r5 k5 t5 r50 r51 => ?_⟩)
      obtain ⟨s, hs, hv⟩ := sgl H5 r5 r50 r51
      exact ⟨a, _, _, _, rfl, rfl, SqL.of (k5 _ _ na (k4 _ _ na ea)), hv, o, _, _, rfl, rfl, k5 _ _ nt eo4, zl, fin H5 s (k4.trans k5) t5 (k5 _ _ nt eo4) hs⟩
    · rw [List.concat_eq_append] at e
      subst e
      rw [show (!((z0 ++ [sl']).map symV).isEmpty) = true by simp]
      refine iteT ⟨_, rfl, tp, tl, 4, rfl, t4, by decide, fun H6 r6 k6 t6 _ _ => ⟨rfl, _, rfl, ite2 (fun _ => ?_) (fun _ => ?_)⟩⟩
      · have lst : atI ((z0 ++ [sl']).map symV) (-1) = some (symV sl') := by rw [List.map_append]; exact atI_last _ _
        have eo6 := k6 _ _ nt eo4
        exact ⟨.ref o, rfl, .inl ⟨rfl, _, SqL.of eo6⟩, .ref o, rfl, 1, rfl, o, _, -1, _, rfl, rfl, SqL.of eo6, lst, o, _, _, rfl, rfl, eo6, zl, fin H6 sl' (k4.trans k6) t6 eo6 (hz sl' (by simp))⟩
      · have eo6 := k6 _ _ nt eo4
        have ea6 := k6 _ _ na (k4 _ _ na ea)
        refine ⟨.ref o, rfl, .inl ⟨rfl, _, SqL.of eo6⟩, .ref a, rfl, _, rfl, .ref a, rfl, a, _, rfl, .inl (SqL.of ea6), tp, tl, _, rfl, t6, by rw [List.length_map]; omega, fun H5 r5 k5 t5 r50 r51 => ?_⟩
        obtain ⟨s, hs, hv⟩ := sgl H5 r5 r50 r51
        exact ⟨a, _, _, _, rfl, rfl, SqL.of (k5 _ _ na ea6), hv, o, _, _, rfl, rfl, k5 _ _ nt eo6, zl, fin H5 s ((k4.trans k6).trans k5) t5 (k5 _ _ nt eo6) hs⟩
  · obtain ⟨z, y4, rfl, k3, t3, eo, hl, hz⟩ := hP
    refine ⟨.ref o, rfl, o, _, rfl, .inl ⟨SqL.of eo, fun p hp => ?_⟩⟩
    exact k _ _ _ (k3.trans (Kp.of (Same.new hp))) (t3.mono (Same.new hp)) ⟨z, rfl, by omega, hz⟩ (Dp.tupN hp (of_syms z))
abbrev s__law_belongs : Stmt := topS 38
theorem sc__law_belongs : FnScope ["_law_leaf_here", "_law_sign", "_law_inside"] ["_law_leaf_here", "_law_sign"] (defScope s__law_belongs) := ⟨rfl, rfl, rfl, by decide +kernel, rfl, by decide +kernel, by decide +kernel⟩
def spLBelongs (K : PySem.W.Frag) : Sp := fun vs H Q _ => ∃ v s n h l, vs = [v, symV s] ∧ Dp K H v (Tree.cls n h l).data ∧ Q (.bl (bel s n h l)) H
theorem ok__law_belongs (D : Df K mg "_law_belongs" s__law_belongs ["_law_leaf_here", "_law_sign"]) : C8.Cal P w K mg base 1 "_law_belongs" (spLBelongs K) [] := by
  refine D.cal sc__law_belongs (fun vs H Q E h => ?_) (fun f cdv A outer s H vs Q E hr h => ?_)
  · obtain ⟨v, s, n, h, l, rfl, _⟩ := h
    rfl
  obtain ⟨v, y, n, h, l, rfl, hd, q⟩ := h
  refine ⟨_, (pss_cons (ps_set (i := 2) sc__law_belongs.nd rfl (by first | exact .inl rfl | exact .inr rfl) (pe_and (pe_or (pe_cmpR op_eq (pe_ix ix_tup (pv 0) pe_int (fun _ _ => rfl)) pe_str (nomark _)) (pe_one (pe_cmpR op_in_sign (pe_ix ix_str (pv 1) pe_int (fun _ _ => rfl)) (pe_ix ix_tup (pv 0) pe_int (fun _ _ => rfl)) (by rfl)))) (pe_one (pe_or (pe_cmpR op_eq (pe_ix ix_tup (pv 0) pe_int (fun _ _ => rfl)) pe_str (nomark _)) (pe_one (pe_cmpR op_in_sign (pe_ix ix_str (pv 1) pe_int (fun _ _ => rfl)) (pe_ix ix_tup (pv 0) pe_int (fun _ _ => rfl)) (by rfl)))))))
     (pss_one (ps_ret (pe_cmpR op_ne (pv 2) (pe_ix ix_tup (pv 0) pe_int (fun _ _ => rfl)) (nomark _))))), ?_⟩
  obtain ⟨a, xs, rfl, hT, hA⟩ := Dp.tupI hd
  obtain ⟨v0, r0, rfl, h0, hA⟩ := hA.consI
  obtain ⟨v1, r1, rfl, h1, hA⟩ := hA.consI
  obtain ⟨v2, r2, rfl, h2, hA⟩ := hA.consI
  obtain ⟨v3, r3, rfl, h3, hA⟩ := hA.consI
  obtain rfl := hA.nilI
  rw [h1.blI, h2.strI, h3.strI] at hT
  have len2 : (symS y).length ≤ sizeLine := by rw [S_len, sizeLine_eq]; show 2 ≤ _; omega
  have at0 : atI (symS y).cps.toList ((0 : Nat) : Int) = some y.1 := atI_nat rfl
  have at1 : atI (symS y).cps.toList ((1 : Nat) : Int) = some y.2 := atI_nat rfl
  have i1 := atI_nat (xs := [v0, .bl n, .str (S h), .str (S l)]) (j := 1) rfl
  have i2 := atI_nat (xs := [v0, .bl n, .str (S h), .str (S l)]) (j := 2) rfl
  have i3 := atI_nat (xs := [v0, .bl n, .str (S h), .str (S l)]) (j := 3) rfl
  have fin : ∀ b, b = bel y n h l → Q (.bl b) H := fun b e => by rw [e]; exact q
  refine ⟨.ref a, rfl, a, _, 2, _, rfl, rfl, hT, i2, rfl, _, rfl, ?_⟩
  rw [empty_eq]
  cases e1 : h.isEmpty with
  | true =>
    refine iteT ⟨_, rfl, iteT ⟨.ref a, rfl, a, _, 3, _, rfl, rfl, hT, i3, rfl, _, rfl, ?_⟩⟩
    rw [empty_eq]
    cases e2 : l.isEmpty with
    | true => exact iteT ⟨_, rfl, .ref a, rfl, a, _, 1, _, rfl, rfl, hT, i1, rfl, fin _ (by rw [bel, e1, e2, dec_bl]; cases n <;> rfl)⟩
    | false => exact iteF ⟨_, rfl, _, _, _, rfl, rfl, len2, at1, .ref a, rfl, a, _, 3, _, rfl, rfl, hT, i3, _, _, rfl, rfl, _, rfl, .ref a, rfl, a, _, 1, _, rfl, rfl, hT, i1, rfl, fin _ (by rw [bel, e1, e2, dec_bl]; cases decide (y.2 ∈ l) <;> cases n <;> rfl)⟩
  | false =>
    refine iteF ⟨_, rfl, _, _, _, rfl, rfl, len2, at0, .ref a, rfl, a, _, 2, _, rfl, rfl, hT, i2, _, _, rfl, rfl, _, rfl, ?_⟩
    cases e3 : decide (y.1 ∈ h) with
    | true =>
      refine iteT ⟨.ref a, rfl, a, _, 3, _, rfl, rfl, hT, i3, rfl, _, rfl, ?_⟩
      rw [empty_eq]
      cases e2 : l.isEmpty with
      | true => exact iteT ⟨_, rfl, .ref a, rfl, a, _, 1, _, rfl, rfl, hT, i1, rfl, fin _ (by rw [bel, e1, e2, e3, dec_bl]; cases n <;> rfl)⟩
      | false => exact iteF ⟨_, rfl, _, _, _, rfl, rfl, len2, at1, .ref a, rfl, a, _, 3, _, rfl, rfl, hT, i3, _, _, rfl, rfl, _, rfl, .ref a, rfl, a, _, 1, _, rfl, rfl, hT, i1, rfl, fin _ (by rw [bel, e1, e2, e3, dec_bl]; cases decide (y.2 ∈ l) <;> cases n <;> rfl)⟩
    | false => exact iteF ⟨_, rfl, .ref a, rfl, a, _, 1, _, rfl, rfl, hT, i1, rfl, fin _ (by rw [bel, e1, e3, dec_bl]; cases (l.isEmpty || decide (y.2 ∈ l)) <;> cases n <;> rfl)⟩
end
end K29
namespace K29
open PySem PySem.Spec PyProof.Rows L2 SX
/-! ### tables of truth values in the heap -/
def browV (n : Nat) (f : Nat → Bool) : List V := (List.range n).map fun j => V.bl (f j)
def brow (n : Nat) (f : Nat → Bool) : PyData := .list ((List.range n).map fun j => PyData.bool (f j))
def btab (n : Nat) (f : Nat → Nat → Bool) : PyData := .list ((List.range n).map fun i => brow n (f i))
theorem brow_congr {n : Nat} {f g : Nat → Bool} (h : ∀ j, j < n → f j = g j) : brow n f = brow n g := congrArg PyData.list (range_congr fun j hj => by rw [h j hj])
theorem browV_congr {n : Nat} {f g : Nat → Bool} (h : ∀ j, j < n → f j = g j) : browV n f = browV n g := range_congr fun j hj => by rw [h j hj]
theorem browV_len (n : Nat) (f : Nat → Bool) : (browV n f).length = n := by rw [browV, List.length_map, List.length_range]
theorem ds_of {α : Type} {n : Nat} {F : Nat → α} {ds : List α} (hl : ds.length = n) (h : ∀ (i : Nat) d, ds[i]? = some d → d = F i) : ds = (List.range n).map F := by
  refine List.ext_getElem? fun i => ?_
  rcases Nat.lt_or_ge i ds.length with q | q
  · rw [List.getElem?_eq_getElem q, range_at (by omega), h i _ (List.getElem?_eq_getElem q)]
  · rw [List.getElem?_eq_none q, List.getElem?_eq_none (by rw [List.length_map, List.length_range]; omega)]
theorem dec_int (i j : Nat) : decide (V.int ((j : Nat) : Int) = V.int ((i : Nat) : Int)) = decide (j = i) := by
  rw [Bool.eq_iff_iff, decide_eq_true_iff, decide_eq_true_iff]
  constructor
  · intro h
    have := V.int.inj h
    omega
  · rintro rfl
    rfl
section
variable {K : PySem.W.Frag} {H : Hp}
theorem of_row (n : Nat) (f : Nat → Bool) : DpAll K H (browV n f) ((List.range n).map fun j => PyData.bool (f j)) := by
  have := DpAll.bools (K := K) (H := H) ((List.range n).map f)
  rw [List.map_map, List.map_map] at this
  exact this
theorem Dp_row {q : Addr} {n : Nat} {f : Nat → Bool} (h : SqL K H q (browV n f)) : Dp K H (.ref q) (brow n f) := .lst h (of_row n f)
theorem rowI {v : V} {n : Nat} {f : Nat → Bool} (h : Dp K H v (brow n f)) : ∃ p, v = .ref p ∧ SqL K H p (browV n f) := by
  obtain ⟨a, xs, rfl, h1, h2⟩ := Dp.lstI h
  have e : ((List.range n).map fun j => PyData.bool (f j)) = ((List.range n).map f).map PyData.bool := by rw [List.map_map]; rfl
  rw [e] at h2
  rw [h2.boolsI, List.map_map] at h1
  exact ⟨a, rfl, h1⟩
theorem tabI {v : V} {n : Nat} {f : Nat → Nat → Bool} (h : Dp K H v (btab n f)) : ∃ a ps, v = .ref a ∧ SqL K H a ps ∧ ps.length = n ∧ ∀ i, i < n → ∃ p, atI ps ((i : Nat) : Int) = some (.ref p) ∧ SqL K H p (browV n (f i)) := by
  obtain ⟨a, ps, rfl, h1, h2⟩ := Dp.lstI h
  have hl := h2.len
  rw [List.length_map, List.length_range] at hl
  refine ⟨a, ps, rfl, h1, hl, fun i hi => ?_⟩
  obtain ⟨y, hy, py⟩ := h2.at_ (range_at hi)
  obtain ⟨p, rfl, hp⟩ := rowI py
  exact ⟨p, atI_nat hy, hp⟩
theorem rowAt {n : Nat} {f : Nat → Bool} {j : Nat} (h : j < n) : atI (browV n f) ((j : Nat) : Int) = some (.bl (f j)) := atI_nat (range_at h)
theorem of_get : ∀ {ds : List PyData} {vs : List V}, vs.length = ds.length → (∀ (i : Nat) d, ds[i]? = some d → ∃ y, vs[i]? = some y ∧ Dp K H y d) → DpAll K H vs ds
  | [], [], _, _ => .nil
  | d :: ds, [], h, _ => by simp at h
  | [], y :: vs, h, _ => by simp at h
  | d :: ds, y :: vs, hl, h => by
    obtain ⟨z, hz, pz⟩ := h 0 d rfl
    cases hz
    exact .cons pz (of_get (by simpa using hl) fun i d hd => h (i + 1) d (by simpa using hd))
theorem lc_row (K : PySem.W.Frag) {n : Nat} {f : Nat → Bool} {g : TG} {te : TE} {vs : List Nat} {σ : L2.St} {H1 : Hp} {D : Addr} {Qd : Hp → Prop} (hD : H1 D = none) (hn : n ≤ 1000000)
    (el : ∀ i H2 (Q' : VK), i < n → Same H1 H2 → (∀ H3, Same H2 H3 → Q' (.bl (f i)) H3) → g (.int ((i : Nat) : Int)) (wipe σ vs) H2 fun σ2 H3 => wipe σ2 vs = wipe σ vs ∧ te σ2 H3 Q')
    (done : ∀ H2, Same H1 H2 → H2 D = some (.lst (browV n f)) → Qd H2) :
    ∃ W : Nat → Nat → Hp → Prop, (∃ m, W 0 m (upd H1 D (.lst []))) ∧ ∀ i m H, W i m H →
      ((Itr 0 n).stop i H ∧ Qd H) ∨ ((Itr 0 n).go i H ∧ ∃ Nx : Hp → Prop, (∀ H', Nx H' → ∃ m', m' < m ∧ W (i + 1) m' H') ∧ ∀ x H', (Itr 0 n).yld i H x H' → g x (wipe σ vs) H' fun σ2 H2 => wipe σ2 vs = wipe σ vs ∧ tYes σ2 H2 fun b H3 =>
        if b = true then te σ2 H3 fun y H4 => ∃ acc, H4 D = some (.lst acc) ∧ acc.length < sizeLine ∧ Nx (upd H4 D (.lst (acc ++ [y]))) else Nx H3) :=
  lc_src (K := K) (Src.rng 0 n) (fun _ _ => trivial) hD hn (fun i d => d = .bool (f i)) (fun i x H2 acc Q' hi s2 _ hy k => by
    rw [Int.zero_add] at hy
    subst hy
    exact el i H2 Q' hi s2 fun H3 s3 => k H3 _ _ s3 rfl (.bl _)) fun H2 ys ds s2 e2 hl hF hA => done H2 s2 (by
      have e := ds_of hl hF
      subst e
      have e' : ((List.range n).map fun j => PyData.bool (f j)) = ((List.range n).map f).map PyData.bool := by rw [List.map_map]; rfl
      rw [e'] at hA
      rw [hA.boolsI, List.map_map] at e2
      exact e2)
theorem lc_tab (K : PySem.W.Frag) {n : Nat} {f : Nat → Nat → Bool} {g : TG} {te : TE} {vs : List Nat} {σ : L2.St} {H1 : Hp} {D : Addr} {Qd : Hp → Prop} (hD : H1 D = none) (hn : n ≤ 1000000)
    (el : ∀ i H2 (Q' : VK), i < n → Same H1 H2 → (∀ H3 p, Same H2 H3 → H2 p = none → H3 p = some (.lst (browV n (f i))) → Q' (.ref p) H3) → g (.int ((i : Nat) : Int)) (wipe σ vs) H2 fun σ2 H3 => wipe σ2 vs = wipe σ vs ∧ te σ2 H3 Q')
    (done : ∀ H2, Same H1 H2 → Dp K H2 (.ref D) (btab n f) → Qd H2) :
    ∃ W : Nat → Nat → Hp → Prop, (∃ m, W 0 m (upd H1 D (.lst []))) ∧ ∀ i m H, W i m H →
      ((Itr 0 n).stop i H ∧ Qd H) ∨ ((Itr 0 n).go i H ∧ ∃ Nx : Hp → Prop, (∀ H', Nx H' → ∃ m', m' < m ∧ W (i + 1) m' H') ∧ ∀ x H', (Itr 0 n).yld i H x H' → g x (wipe σ vs) H' fun σ2 H2 => wipe σ2 vs = wipe σ vs ∧ tYes σ2 H2 fun b H3 =>
        if b = true then te σ2 H3 fun y H4 => ∃ acc, H4 D = some (.lst acc) ∧ acc.length < sizeLine ∧ Nx (upd H4 D (.lst (acc ++ [y]))) else Nx H3) :=
  lc_src (K := K) (Src.rng 0 n) (fun _ _ => trivial) hD hn (fun i d => d = brow n (f i)) (fun i x H2 acc Q' hi s2 eD hy k => by
    rw [Int.zero_add] at hy
    subst hy
    refine el i H2 Q' hi s2 fun H3 p s3 np ep => k H3 _ _ s3 rfl (Dp_row (SqL.of ?_))
    rw [del_ne]
    · exact ep
    · exact Ne.symm (ne_of_none eD np)) fun H2 ys ds s2 e2 hl hF hA => done H2 s2 (by
      have e := ds_of hl hF
      subst e
      exact .lst (SqL.of e2) (DpAll.mono del_le hA))
end
/-- a row taken up from others -/
def accB (f1 : Nat → Bool) (g : Nat → Nat → Bool) (b : Nat → Bool) (s j e : Nat) : Bool := b e || (List.range j).any fun r => f1 (s + r) && g (s + r) e
theorem accB_step (f1 : Nat → Bool) (g : Nat → Nat → Bool) (b : Nat → Bool) (s j e : Nat) : accB f1 g b s (j + 1) e = (accB f1 g b s j e || (f1 (s + j) && g (s + j) e)) := by
  unfold accB
  rw [List.range_succ, List.any_append, Bool.or_assoc]
  simp
theorem accB_0 (f1 : Nat → Bool) (g : Nat → Nat → Bool) (b : Nat → Bool) (s : Nat) : accB f1 g b s 0 = b := by
  funext e
  simp [accB]
section
variable {P : Program} {w : World} {K : PySem.W.Frag} {mg : Str → Option Value} {base : Heap}
abbrev s__law_repeated : Stmt := topS 39
theorem sc__law_repeated : FnScope ["_law_first", "_law_many", "_law_found", "_law_back", "_law_at", "_law_ends", "_law_k", "_law_end"] ["_law_first", "_law_many"] (defScope s__law_repeated) := ⟨rfl, rfl, rfl, by decide +kernel, rfl, by decide +kernel, by decide +kernel⟩
def spRepeated (K : PySem.W.Frag) : Sp := fun vs H Q _ => ∃ v p w, vs = [v, .int ((w.length + 1 : Nat) : Int)] ∧ Dp K H v (btab (w.length + 1) (tabAt p w)) ∧ w.length ≤ 800 ∧ Ret K H Q (· = btab (w.length + 1) (tabAt (.star p) w))
theorem ok__law_repeated (D : Df K mg "_law_repeated" s__law_repeated ["_law_first", "_law_many"]) (z_range : mg "range" = none) : C8.Cal P w K mg base 1 "_law_repeated" (spRepeated K) [] := by
  refine D.cal sc__law_repeated (fun vs H Q E h => ?_) (fun f cdv A outer s H vs Q E hr h => ?_)
  · obtain ⟨_, _, _, rfl, _⟩ := h
    rfl
  obtain ⟨v, p, z, rfl, hd, hl, k⟩ := h
  refine ⟨_, (pss_cons (ps_set (i := 2) sc__law_repeated.nd rfl (by first | exact .inl rfl | exact .inr rfl) (pe_lc (own := [("_law_at", 4)]) rfl sc__law_repeated.nd (pi_range1 (by rfl) z_range (pa_cons (pv 1) pa_nil)) (blkOk_by (by with_unfolding_all rfl)) (fun _ _ _ _ _ => (pg_name (i := 4) sc__law_repeated.nd rfl (by first | exact .inl rfl | exact .inr rfl))) (fun _ _ _ _ _ => pts_nil) (fun _ _ _ _ _ => (pe_lst pa_nil))))
     (pss_cons (ps_for PassesOwn.never rfl (pi_range1 (by rfl) z_range (pa_cons (pv 1) pa_nil)) (pg_name (i := 3) sc__law_repeated.nd rfl (by first | exact .inl rfl | exact .inr rfl))
     (pss_cons (ps_set (i := 4) sc__law_repeated.nd rfl (by first | exact .inl rfl | exact .inr rfl) (pe_op op_sub (pe_op op_sub (pv 1) pe_int) (pv 3)))
     (pss_cons (ps_set (i := 5) sc__law_repeated.nd rfl (by first | exact .inl rfl | exact .inr rfl) (pe_lc (own := [("_law_end", 7)]) rfl sc__law_repeated.nd (pi_range1 (by rfl) z_range (pa_cons (pv 1) pa_nil)) (blkOk_by (by with_unfolding_all rfl)) (fun _ _ _ _ _ => (pg_name (i := 7) sc__law_repeated.nd rfl (by first | exact .inl rfl | exact .inr rfl))) (fun _ _ _ _ _ => pts_nil) (fun _ _ _ _ _ => (pe_cmpR op_eq (pv 7) (pv 4) (nomark _)))))
     (pss_cons (ps_for PassesOwn.never rfl (pi_range2 (by rfl) z_range (pa_cons (pe_op op_add (pv 4) pe_int) (pa_cons (pv 1) pa_nil))) (pg_name (i := 6) sc__law_repeated.nd rfl (by first | exact .inl rfl | exact .inr rfl))
     (pss_one (ps_if (pt_val (pe_ix ix_list (pe_ix ix_list (pv 0) (pv 4) (fun _ _ => rfl)) (pv 6) (fun _ _ => rfl)))
     (pss_one (ps_set (i := 5) sc__law_repeated.nd rfl (by first | exact .inl rfl | exact .inr rfl) (pe_lc (own := [("_law_end", 7)]) rfl sc__law_repeated.nd (pi_range1 (by rfl) z_range (pa_cons (pv 1) pa_nil)) (blkOk_by (by with_unfolding_all rfl)) (fun _ _ _ _ _ => (pg_name (i := 7) sc__law_repeated.nd rfl (by first | exact .inl rfl | exact .inr rfl))) (fun _ _ _ _ _ => pts_nil) (fun _ _ _ _ _ => (pe_or (pe_ix (r := rIxL K) ix_list (pv 5) (pv 7) (fun _ _ => rfl)) (pe_one (pe_ix (r := rIxL K) ix_list (pe_ix (r := rIxL K) ix_list (pv 2) (pv 6) (fun _ _ => rfl)) (pv 7) (fun _ _ => rfl))))))))
     pss_nil)))
     (pss_one (ps_asg (pv 5) (pg_sub (pv 2) (pv 4) set_list)))))))
     (pss_one (ps_ret (pv 2))))), ?_⟩
  refine ⟨_, rfl, ((z.length + 1 : Nat) : Int), rfl, by omega, by omega, fun o no => lc_src (K := K) (Src.rng 0 (z.length + 1)) (fun _ _ => trivial) no (by omega) (fun i d => d = .list []) (fun i x H2 acc Q' hi s2 eD hy el => ?_) fun H2 ys0 ds s2 e2 hl2 hF hA => ?_⟩
  · refine ⟨rfl, Nat.zero_le _, fun q hq => el _ _ _ (Same.new hq) rfl (.lst (SqL.of ?_) .nil)⟩
    rw [del_ne (Ne.symm (ne_of_none eD hq))]
    exact upd_same
  have ly0 := hA.len
  rw [hl2] at ly0
  refine ⟨_, rfl, ((z.length + 1 : Nat) : Int), rfl, by omega, by omega, for_src (Src.rng 0 (z.length + 1))
    (fun i σ H' => ∃ y3 y4 y5 y6 y7 ys, σ = [some v, some (.int ((z.length + 1 : Nat) : Int)), some (.ref o), y3, y4, y5, y6, y7] ∧ Same H H' ∧ H' o = some (.lst ys) ∧ ys.length = z.length + 1 ∧ ∀ m, z.length + 1 ≤ m + i → m < z.length + 1 → ∃ y, ys[m]? = some y ∧ Dp K (del H' o) y (brow (z.length + 1) (tabAt (.star p) z m)))
    ⟨_, _, _, _, _, ys0, rfl, s2, e2, ly0, fun m h1 h2 => by omega⟩ (fun _ _ _ _ _ => trivial) (fun i x σ H3 H4 hi hP s4 hy => ?_) fun σ H' hP => ?_⟩
  · obtain ⟨y3, y4, y5, y6, y7, ys, rfl, S3, eo, ly, hys⟩ := hP
    rw [Int.zero_add] at hy
    subst hy
    have S4 := S3.trans s4
    have eo4 := s4 _ _ eo
    have ea : ((z.length + 1 : Nat) : Int) - 1 - ((i : Nat) : Int) = ((z.length - i : Nat) : Int) := by omega
    refine ⟨_, rfl, _, _, rfl, rfl, _, rfl, _, _, rfl, rfl, ?_⟩
    dsimp only
    rw [ea]
    have ha : z.length - i < z.length + 1 := by omega
    generalize eA : z.length - i = a at ha
    refine ⟨_, rfl, ((z.length + 1 : Nat) : Int), rfl, by omega, by omega, fun D1 hD1 => lc_row K (n := z.length + 1) (f := fun e => decide (e = a)) hD1 (by omega) (fun e H5 Q' he s5 kk => ⟨rfl, _, rfl, _, rfl, rfl, ?_⟩) fun H5 s5 e5 => ?_⟩
    · have := kk H5 (Same.refl _)
      rw [← dec_int] at this
      exact this
    have er : (((z.length + 1 : Nat) : Int) - (((a : Nat) : Int) + 1)).toNat = z.length - a := by omega
    refine ⟨_, rfl, _, _, rfl, rfl, _, rfl, _, _, rfl, ⟨by omega, by omega, by omega, by omega⟩, ?_⟩
    dsimp only
    rw [er]
    have neo : D1 ≠ o := Ne.symm (ne_of_none eo4 hD1)
    refine for_src (D := ⟨_, _, fun _ _ => True, fun _ _ => True⟩) (Src.rng (((a : Nat) : Int) + 1) (z.length - a))
      (fun j σ H' => ∃ q y6 y7, σ = [some v, some (.int ((z.length + 1 : Nat) : Int)), some (.ref o), some (.int ((i : Nat) : Int)), some (.int ((a : Nat) : Int)), some (.ref q), y6, y7] ∧ Same H5 H' ∧ q ≠ o ∧ H' q = some (.lst (browV (z.length + 1) (accB (tabAt p z a) (tabAt (.star p) z) (fun e => decide (e = a)) (a + 1) j))))
      ⟨D1, _, _, rfl, Same.refl _, neo, by rw [accB_0]; exact e5⟩ (fun _ _ _ _ _ => trivial) (fun j x σ H6 H7 hj hP s7 hy => ?_) fun σ H' hP => ?_
    · obtain ⟨q, y6, y7, rfl, S6, nq, eq⟩ := hP
      have hx : x = V.int ((a + 1 + j : Nat) : Int) := by rw [hy]; exact congrArg V.int (by omega)
      subst hx
      have S7 := S6.trans s7
      have eq7 := s7 _ _ eq
      have eo7 := S7 _ _ (s5 _ _ eo4)
      obtain ⟨b, ps, rfl, hps, _, hrow⟩ := tabI (hd.mono (S4.trans (s5.trans S7)))
      obtain ⟨pr, hp1, hp2⟩ := hrow a ha
      have hk : a + 1 + j < z.length + 1 := by omega
      refine ⟨.ref b, rfl, _, rfl, b, ps, _, .ref pr, rfl, rfl, hps, hp1, _, rfl, pr, _, _, _, rfl, rfl, hp2, rowAt hk, _, rfl, ?_⟩
      cases ef : tabAt p z a (a + 1 + j) with
      | false =>
        refine iteF ⟨q, _, _, rfl, S7, nq, ?_⟩
        rw [eq7, browV_congr (g := accB (tabAt p z a) (tabAt (.star p) z) (fun e => decide (e = a)) (a + 1) (j + 1)) fun e _ => by rw [accB_step, ef, Bool.false_and, Bool.or_false]]
      | true =>
        obtain ⟨y, hy1, py⟩ := hys (a + 1 + j) (by omega) hk
        obtain ⟨pg, rfl, hpg⟩ := rowI (py.mono ((del_mono (s4.trans (s5.trans S7))).trans del_le))
        refine iteT ⟨_, rfl, ((z.length + 1 : Nat) : Int), rfl, by omega, by omega, fun D2 hD2 => lc_row K (n := z.length + 1) (f := fun e => accB (tabAt p z a) (tabAt (.star p) z) (fun e => decide (e = a)) (a + 1) (j + 1) e) hD2 (by omega) (fun e H8 Q' he s8 kk => ?_) fun H8 s8 e8 => ?_⟩
        · have kq := kk H8 (Same.refl _)
          rw [accB_step, ef, Bool.true_and] at kq
          refine ⟨rfl, .ref q, rfl, _, rfl, q, _, _, _, rfl, rfl, SqL.of (s8 _ _ eq7), rowAt he, _, rfl, ?_⟩
          cases eb : accB (tabAt p z a) (tabAt (.star p) z) (fun e => decide (e = a)) (a + 1) j e with
          | true =>
            rw [eb, Bool.true_or] at kq
            exact iteT kq
          | false =>
            rw [eb, Bool.false_or] at kq
            exact iteF ⟨.ref o, rfl, _, rfl, o, ys, _, _, rfl, rfl, SqL.of (s8 _ _ eo7), atI_nat hy1, _, rfl, pg, _, _, _, rfl, rfl, s8.seq hpg, rowAt he, kq⟩
        · exact ⟨D2, _, _, rfl, S7.trans s8, Ne.symm (ne_of_none eo7 hD2), e8⟩
    · obtain ⟨q, y6, y7, rfl, S6, nq, eq⟩ := hP
      have eo7 := S6 _ _ (s5 _ _ eo4)
      have S5' := s5.trans S6
      refine ⟨_, rfl, .ref o, rfl, _, rfl, o, ys, _, a, rfl, rfl, eo7, ?_, _, _, _, _, _, ys.set a (.ref q), rfl, fun b u e => ?_, upd_same, by rw [List.length_set]; exact ly, fun m h1 h2 => ?_⟩
      · unfold ixN
        rw [if_pos (by omega), if_pos (by omega), Int.toNat_natCast]
      · rw [upd_ne (ne_of_none e no)]
        exact S5' _ _ (S4 _ _ e)
      · rw [del_upds]
        by_cases hm : m = a
        · subst hm
          refine ⟨.ref q, by rw [List.getElem?_set_self (by omega)], Dp_row (SqL.of ?_)⟩
          rw [del_ne nq, eq, browV_congr fun e he => ?_]
          rw [tab_star (by omega) (by omega), accB, show z.length + 1 - (m + 1) = z.length - m by omega]
        · obtain ⟨y, hy1, py⟩ := hys m (by omega) h2
          exact ⟨y, by rw [List.getElem?_set_ne (Ne.symm hm)]; exact hy1, py.mono (del_mono (s4.trans S5'))⟩
  · obtain ⟨y3, y4, y5, y6, y7, ys, rfl, S3, eo, ly, hys⟩ := hP
    refine ⟨_, rfl, k _ _ _ S3 rfl (.lst (SqL.of eo) (of_get (by rw [List.length_map, List.length_range]; exact ly) fun i d hdi => ?_))⟩
    have hi : i < z.length + 1 := by
      have := (List.getElem?_eq_some_iff.mp hdi).1
      rwa [List.length_map, List.length_range] at this
    rw [range_at hi] at hdi
    obtain rfl := Option.some.inj hdi
    obtain ⟨y, h1, h2⟩ := hys i (by omega) hi
    exact ⟨y, h1, h2.mono del_le⟩
end
end K29
namespace K29
open PySem PySem.Spec PyProof.Rows L2 SX
theorem dec_ge (i j : Nat) : decide (((j : Nat) : Int) ≥ ((i : Nat) : Int)) = decide (i ≤ j) := by
  rw [Bool.eq_iff_iff, decide_eq_true_iff, decide_eq_true_iff]
  omega
theorem getD_of {w : List Sym} {i : Nat} (h : i < w.length) : (w.map symV)[i]? = some (symV (w.getD i sym0)) := by
  rw [getD_get _ _ _ h, List.getElem?_map, List.getElem?_eq_getElem h]
  rfl
section
variable {P : Program} {w : World} {K : PySem.W.Frag} {mg : Str → Option Value} {base : Heap}
abbrev s__law_table : Stmt := topS 40
theorem sc__law_table : FnScope ["_law_tree", "_law_row", "_law_many", "_law_first", "_law_second", "_law_found", "_law_at", "_law_ends", "_law_k", "_law_end"] ["_law_tree", "_law_row"] (defScope s__law_table) := ⟨rfl, rfl, rfl, by decide +kernel, rfl, by decide +kernel, by decide +kernel⟩
def spTable (K : PySem.W.Frag) (n : Nat) : Sp := fun vs H Q _ => ∃ v t u w, vs = [v, u] ∧ Dp K H v (Tree.data t) ∧ t.ht ≤ n ∧ Dp K H u (seqD w) ∧ w.length ≤ 800 ∧ Ret K H Q (· = btab (w.length + 1) (tabAt t w))
set_option maxHeartbeats 2000000 in
theorem ok__law_table {n : Nat} (D : Df K mg "_law_table" s__law_table ["_law_tree", "_law_row"]) (z_range : mg "range" = none) (z_len : mg "len" = none) (c__law_belongs : C8.Cal P w K mg base 1 "_law_belongs" (spLBelongs K) []) (c__law_repeated : C8.Cal P w K mg base 1 "_law_repeated" (spRepeated K) []) (c__law_table : C8.Cal P w K mg base (n + 1) "_law_table" (spTable K n) []) : C8.Cal P w K mg base (n + 2) "_law_table" (spTable K (n + 1)) [] := by
  refine D.cal sc__law_table (fun vs H Q E h => ?_) (fun f cdv A outer s H vs Q E hr h => ?_)
  · obtain ⟨_, _, _, _, rfl, _⟩ := h
    rfl
  obtain ⟨v, t, u, z, rfl, hd, hh, hs, hl, k⟩ := h
  refine ⟨_, (pss_cons (ps_set (i := 2) sc__law_table.nd rfl (by first | exact .inl rfl | exact .inr rfl) (pe_op op_add (pe_callB call_len_seq (by rfl) z_len (by decide +kernel) (pa_cons (pv 1) pa_nil)) pe_int))
     (pss_cons (ps_if (pt_cmpR op_eq (pe_ix ix_tup (pv 0) pe_int (fun _ _ => rfl)) pe_str (nomark _))
     (pss_one (ps_ret (pe_lc (own := [("_law_at", 6)]) rfl sc__law_table.nd (pi_range1 (by rfl) z_range (pa_cons (pv 2) pa_nil)) (blkOk_by (by with_unfolding_all rfl)) (fun _ _ _ _ _ => (pg_name (i := 6) sc__law_table.nd rfl (by first | exact .inl rfl | exact .inr rfl))) (fun _ _ _ _ _ => pts_nil) (fun _ _ _ _ _ => (pe_lc (own := [("_law_end", 9)]) rfl sc__law_table.nd (pi_range1 (by rfl) z_range (pa_cons (pv 2) pa_nil)) (blkOk_by (by with_unfolding_all rfl)) (fun _ _ _ _ _ => (pg_name (i := 9) sc__law_table.nd rfl (by first | exact .inl rfl | exact .inr rfl))) (fun _ _ _ _ _ => pts_nil) (fun _ _ _ _ _ => (pe_cmpR op_eq (pv 9) (pv 6) (nomark _))))))))
     pss_nil)
     (pss_cons (ps_if (pt_cmpR op_eq (pe_ix ix_tup (pv 0) pe_int (fun _ _ => rfl)) pe_str (nomark _))
     (pss_one (ps_ret (pe_lc (own := [("_law_at", 6)]) rfl sc__law_table.nd (pi_range1 (by rfl) z_range (pa_cons (pv 2) pa_nil)) (blkOk_by (by with_unfolding_all rfl)) (fun _ _ _ _ _ => (pg_name (i := 6) sc__law_table.nd rfl (by first | exact .inl rfl | exact .inr rfl))) (fun _ _ _ _ _ => pts_nil) (fun _ _ _ _ _ => (pe_lc (own := [("_law_end", 9)]) rfl sc__law_table.nd (pi_range1 (by rfl) z_range (pa_cons (pv 2) pa_nil)) (blkOk_by (by with_unfolding_all rfl)) (fun _ _ _ _ _ => (pg_name (i := 9) sc__law_table.nd rfl (by first | exact .inl rfl | exact .inr rfl))) (fun _ _ _ _ _ => pts_nil) (fun _ _ _ _ _ => (pe_and (pe_cmpR op_eq (pv 9) (pe_op op_add (pv 6) pe_int) (nomark _)) (pe_one (C8.pe_c c__law_belongs hr (by omega) (by rfl) (pa_cons (pv 0) (pa_cons (pe_ix (r := rIxT K) ix_tup (pv 1) (pv 6) (fun _ _ => rfl)) pa_nil)))))))))))
     pss_nil)
     (pss_cons (ps_set (i := 3) sc__law_table.nd rfl (by first | exact .inl rfl | exact .inr rfl) (C8.pe_c c__law_table hr (by omega) (by rfl) (pa_cons (pe_ix ix_tup (pv 0) pe_int (fun _ _ => rfl)) (pa_cons (pv 1) pa_nil))))
     (pss_cons (ps_if (pt_cmpR op_eq (pe_ix ix_tup (pv 0) pe_int (fun _ _ => rfl)) pe_str (nomark _))
     (pss_one (ps_ret (pe_lc (own := [("_law_at", 6)]) rfl sc__law_table.nd (pi_range1 (by rfl) z_range (pa_cons (pv 2) pa_nil)) (blkOk_by (by with_unfolding_all rfl)) (fun _ _ _ _ _ => (pg_name (i := 6) sc__law_table.nd rfl (by first | exact .inl rfl | exact .inr rfl))) (fun _ _ _ _ _ => pts_nil) (fun _ _ _ _ _ => (pe_lc (own := [("_law_end", 9)]) rfl sc__law_table.nd (pi_range1 (by rfl) z_range (pa_cons (pv 2) pa_nil)) (blkOk_by (by with_unfolding_all rfl)) (fun _ _ _ _ _ => (pg_name (i := 9) sc__law_table.nd rfl (by first | exact .inl rfl | exact .inr rfl))) (fun _ _ _ _ _ => pts_nil) (fun _ _ _ _ _ => (pe_and (pe_cmpR op_ge (pv 9) (pv 6) (nomark _)) (pe_one (pe_not (pe_ix (r := rIxL K) ix_list (pe_ix (r := rIxL K) ix_list (pv 3) (pv 6) (fun _ _ => rfl)) (pv 9) (fun _ _ => rfl)))))))))))
     pss_nil)
     (pss_cons (ps_if (pt_cmpR op_eq (pe_ix ix_tup (pv 0) pe_int (fun _ _ => rfl)) pe_str (nomark _))
     (pss_one (ps_ret (C8.pe_c c__law_repeated hr (by omega) (by rfl) (pa_cons (pv 3) (pa_cons (pv 2) pa_nil)))))
     pss_nil)
     (pss_cons (ps_set (i := 4) sc__law_table.nd rfl (by first | exact .inl rfl | exact .inr rfl) (C8.pe_c c__law_table hr (by omega) (by rfl) (pa_cons (pe_ix ix_tup (pv 0) pe_int (fun _ _ => rfl)) (pa_cons (pv 1) pa_nil))))
     (pss_cons (ps_if (pt_cmpR op_eq (pe_ix ix_tup (pv 0) pe_int (fun _ _ => rfl)) pe_str (nomark _))
     (pss_one (ps_ret (pe_lc (own := [("_law_at", 6)]) rfl sc__law_table.nd (pi_range1 (by rfl) z_range (pa_cons (pv 2) pa_nil)) (blkOk_by (by with_unfolding_all rfl)) (fun _ _ _ _ _ => (pg_name (i := 6) sc__law_table.nd rfl (by first | exact .inl rfl | exact .inr rfl))) (fun _ _ _ _ _ => pts_nil) (fun _ _ _ _ _ => (pe_lc (own := [("_law_end", 9)]) rfl sc__law_table.nd (pi_range1 (by rfl) z_range (pa_cons (pv 2) pa_nil)) (blkOk_by (by with_unfolding_all rfl)) (fun _ _ _ _ _ => (pg_name (i := 9) sc__law_table.nd rfl (by first | exact .inl rfl | exact .inr rfl))) (fun _ _ _ _ _ => pts_nil) (fun _ _ _ _ _ => (pe_or (pe_ix (r := rIxL K) ix_list (pe_ix (r := rIxL K) ix_list (pv 3) (pv 6) (fun _ _ => rfl)) (pv 9) (fun _ _ => rfl)) (pe_one (pe_ix (r := rIxL K) ix_list (pe_ix (r := rIxL K) ix_list (pv 4) (pv 6) (fun _ _ => rfl)) (pv 9) (fun _ _ => rfl))))))))))
     pss_nil)
     (pss_cons (ps_if (pt_cmpR op_eq (pe_ix ix_tup (pv 0) pe_int (fun _ _ => rfl)) pe_str (nomark _))
     (pss_one (ps_ret (pe_lc (own := [("_law_at", 6)]) rfl sc__law_table.nd (pi_range1 (by rfl) z_range (pa_cons (pv 2) pa_nil)) (blkOk_by (by with_unfolding_all rfl)) (fun _ _ _ _ _ => (pg_name (i := 6) sc__law_table.nd rfl (by first | exact .inl rfl | exact .inr rfl))) (fun _ _ _ _ _ => pts_nil) (fun _ _ _ _ _ => (pe_lc (own := [("_law_end", 9)]) rfl sc__law_table.nd (pi_range1 (by rfl) z_range (pa_cons (pv 2) pa_nil)) (blkOk_by (by with_unfolding_all rfl)) (fun _ _ _ _ _ => (pg_name (i := 9) sc__law_table.nd rfl (by first | exact .inl rfl | exact .inr rfl))) (fun _ _ _ _ _ => pts_nil) (fun _ _ _ _ _ => (pe_and (pe_ix (r := rIxL K) ix_list (pe_ix (r := rIxL K) ix_list (pv 3) (pv 6) (fun _ _ => rfl)) (pv 9) (fun _ _ => rfl)) (pe_one (pe_ix (r := rIxL K) ix_list (pe_ix (r := rIxL K) ix_list (pv 4) (pv 6) (fun _ _ => rfl)) (pv 9) (fun _ _ => rfl))))))))))
     pss_nil)
     (pss_cons (ps_set (i := 5) sc__law_table.nd rfl (by first | exact .inl rfl | exact .inr rfl) (pe_lst pa_nil))
     (pss_cons (ps_for PassesOwn.never rfl (pi_range1 (by rfl) z_range (pa_cons (pv 2) pa_nil)) (pg_name (i := 6) sc__law_table.nd rfl (by first | exact .inl rfl | exact .inr rfl))
     (pss_cons (ps_set (i := 7) sc__law_table.nd rfl (by first | exact .inl rfl | exact .inr rfl) (pe_op op_rep (pe_lst (pa_cons pe_bl pa_nil)) (pv 2)))
     (pss_cons (ps_for PassesOwn.never rfl (pi_range2 (by rfl) z_range (pa_cons (pv 6) (pa_cons (pv 2) pa_nil))) (pg_name (i := 8) sc__law_table.nd rfl (by first | exact .inl rfl | exact .inr rfl))
     (pss_one (ps_if (pt_val (pe_ix ix_list (pe_ix ix_list (pv 3) (pv 6) (fun _ _ => rfl)) (pv 8) (fun _ _ => rfl)))
     (pss_one (ps_set (i := 7) sc__law_table.nd rfl (by first | exact .inl rfl | exact .inr rfl) (pe_lc (own := [("_law_end", 9)]) rfl sc__law_table.nd (pi_range1 (by rfl) z_range (pa_cons (pv 2) pa_nil)) (blkOk_by (by with_unfolding_all rfl)) (fun _ _ _ _ _ => (pg_name (i := 9) sc__law_table.nd rfl (by first | exact .inl rfl | exact .inr rfl))) (fun _ _ _ _ _ => pts_nil) (fun _ _ _ _ _ => (pe_or (pe_ix (r := rIxL K) ix_list (pv 7) (pv 9) (fun _ _ => rfl)) (pe_one (pe_ix (r := rIxL K) ix_list (pe_ix (r := rIxL K) ix_list (pv 4) (pv 8) (fun _ _ => rfl)) (pv 9) (fun _ _ => rfl))))))))
     pss_nil)))
     (pss_one (ps_expr (pe_bm PySem.F.plainAttrs_list PySem.F.slot_list_append PySem.F.type_list_append mt_append (pv 5) (pa_cons (pv 7) pa_nil)))))))
     (pss_one (ps_ret (pv 5)))))))))))))), ?_⟩
  obtain ⟨au, rfl, hU⟩ := seqI hs
  have em : (((z.map symV).length : Nat) : Int) + 1 = ((z.length + 1 : Nat) : Int) := by simp
  refine ⟨.ref au, rfl, au, _, rfl, .inr hU, _, _, rfl, rfl, ?_⟩
  dsimp only
  rw [em]
  cases t with
  | empty =>
    obtain ⟨a, xs, rfl, hT, hA⟩ := Dp.tupI (show Dp K H v (.tuple [.str "empty"]) from hd)
    obtain ⟨v0, r0, rfl, h0, hA⟩ := hA.consI
    obtain rfl := hA.nilI
    rw [h0.strI] at hT
    refine ⟨.ref a, rfl, a, _, 0, _, rfl, rfl, hT, atI_nat (j := 0) rfl, rfl, _, rfl, ite_yes rfl ?_⟩
    refine ⟨_, rfl, ((z.length + 1 : Nat) : Int), rfl, by omega, by omega, fun o no => lc_tab K (n := z.length + 1) (f := tabAt .empty z) no (by omega) (fun i H2 Q' hi s2 kk => ⟨rfl, _, rfl, ((z.length + 1 : Nat) : Int), rfl, by omega, by omega, fun D2 hD2 => lc_row K (n := z.length + 1) (f := tabAt .empty z i) hD2 (by omega) (fun j H3 Q2 hj s3 kk2 => ⟨rfl, ?_⟩) fun H3 s3 e3 => kk H3 D2 s3 hD2 e3⟩) fun H2 s2 p2 => k _ _ _ s2 rfl p2⟩
    have kq := kk2 H3 (Same.refl _)
    rw [tab_empty (by omega), ← dec_int] at kq
    exact ⟨_, rfl, _, rfl, rfl, kq⟩
  | cls nb hs' ls =>
    obtain ⟨a, xs, rfl, hT, hA⟩ := Dp.tupI (show Dp K H v (.tuple [.str "class", .bool nb, .str (S hs'), .str (S ls)]) from hd)
    obtain ⟨v0, r0, rfl, h0, hA⟩ := hA.consI
    rw [h0.strI] at hT
    refine ⟨.ref a, rfl, a, _, 0, _, rfl, rfl, hT, atI_nat (j := 0) rfl, rfl, _, rfl, ite_no (by decide +kernel) ?_⟩
    refine ⟨.ref a, rfl, a, _, 0, _, rfl, rfl, hT, atI_nat (j := 0) rfl, rfl, _, rfl, ite_yes rfl ?_⟩
    refine ⟨_, rfl, ((z.length + 1 : Nat) : Int), rfl, by omega, by omega, fun o no => lc_tab K (n := z.length + 1) (f := tabAt (.cls nb hs' ls) z) no (by omega) (fun i H2 Q' hi s2 kk => ⟨rfl, _, rfl, ((z.length + 1 : Nat) : Int), rfl, by omega, by omega, fun D2 hD2 => lc_row K (n := z.length + 1) (f := tabAt (.cls nb hs' ls) z i) hD2 (by omega) (fun j H3 Q2 hj s3 kk2 => ⟨rfl, ?_⟩) fun H3 s3 e3 => kk H3 D2 s3 hD2 e3⟩) fun H2 s2 p2 => k _ _ _ s2 rfl p2⟩
    have kq := kk2 H3 (Same.refl _)
    rw [tab_cls (by omega)] at kq
    have e1 : decide (V.int ((j : Nat) : Int) = V.int (((i : Nat) : Int) + 1)) = decide (j = i + 1) := dec_int (i + 1) j
    refine ⟨_, rfl, _, rfl, _, _, rfl, rfl, rfl, _, rfl, ?_⟩
    rw [e1]
    cases e2 : decide (j = i + 1) with
    | false =>
      rw [e2] at kq
      exact iteF kq
    | true =>
      rw [e2, Bool.true_and] at kq
      have hj' := of_decide_eq_true e2
      have S3 := s2.trans s3
      exact iteT ⟨_, rfl, _, rfl, _, rfl, au, _, _, _, rfl, rfl, S3.tup hU, atI_nat (getD_of (by omega)), _, _, _, _, _, rfl, hd.mono S3, kq⟩
  | not p =>
    obtain ⟨a, vp, rfl, hT, pp⟩ := kid1 (hd : Dp K H v (.tuple [.str "not", p.data]))
    have hp : p.ht + 1 ≤ n + 1 := hh
    refine ⟨.ref a, rfl, a, _, 0, _, rfl, rfl, hT, atI_nat (j := 0) rfl, rfl, _, rfl, ite_no (by decide +kernel) ?_⟩
    refine ⟨.ref a, rfl, a, _, 0, _, rfl, rfl, hT, atI_nat (j := 0) rfl, rfl, _, rfl, ite_no (by decide +kernel) ?_⟩
    refine ⟨.ref a, rfl, a, _, 1, _, rfl, rfl, hT, atI_nat (j := 1) rfl, _, rfl, vp, p, .ref au, z, rfl, pp, by omega, hs, hl, fun H1 vf df s1 e1 p1 => ?_⟩
    subst e1
    refine ⟨.ref a, rfl, a, _, 0, _, rfl, rfl, s1.tup hT, atI_nat (j := 0) rfl, rfl, _, rfl, ite_yes rfl ?_⟩
    obtain ⟨af, ps, rfl, hps, _, hrow⟩ := tabI p1
    refine ⟨_, rfl, ((z.length + 1 : Nat) : Int), rfl, by omega, by omega, fun o no => lc_tab K (n := z.length + 1) (f := tabAt (.not p) z) no (by omega) (fun i H2 Q' hi s2 kk => ⟨rfl, _, rfl, ((z.length + 1 : Nat) : Int), rfl, by omega, by omega, fun D2 hD2 => lc_row K (n := z.length + 1) (f := tabAt (.not p) z i) hD2 (by omega) (fun j H3 Q2 hj s3 kk2 => ⟨rfl, ?_⟩) fun H3 s3 e3 => kk H3 D2 s3 hD2 e3⟩) fun H2 s2 p2 => k _ _ _ (s1.trans s2) rfl p2⟩
    have kq := kk2 H3 (Same.refl _)
    rw [tab_not] at kq
    have S3 := s2.trans s3
    obtain ⟨pr, hp1, hp2⟩ := hrow i hi
    refine ⟨_, rfl, _, rfl, _, _, rfl, rfl, _, rfl, ?_⟩
    rw [dec_ge]
    cases e2 : decide (i ≤ j) with
    | false =>
      rw [e2] at kq
      exact iteF kq
    | true =>
      rw [e2, Bool.true_and] at kq
      exact iteT ⟨.ref af, rfl, _, rfl, af, ps, _, _, rfl, rfl, S3.seq hps, hp1, _, rfl, pr, _, _, _, rfl, rfl, S3.seq hp2, rowAt hj, _, rfl, kq⟩
  | star p =>
    obtain ⟨a, vp, rfl, hT, pp⟩ := kid1 (hd : Dp K H v (.tuple [.str "star", p.data]))
    have hp : p.ht + 1 ≤ n + 1 := hh
    refine ⟨.ref a, rfl, a, _, 0, _, rfl, rfl, hT, atI_nat (j := 0) rfl, rfl, _, rfl, ite_no (by decide +kernel) ?_⟩
    refine ⟨.ref a, rfl, a, _, 0, _, rfl, rfl, hT, atI_nat (j := 0) rfl, rfl, _, rfl, ite_no (by decide +kernel) ?_⟩
    refine ⟨.ref a, rfl, a, _, 1, _, rfl, rfl, hT, atI_nat (j := 1) rfl, _, rfl, vp, p, .ref au, z, rfl, pp, by omega, hs, hl, fun H1 vf df s1 e1 p1 => ?_⟩
    subst e1
    refine ⟨.ref a, rfl, a, _, 0, _, rfl, rfl, s1.tup hT, atI_nat (j := 0) rfl, rfl, _, rfl, ite_no (by decide +kernel) ?_⟩
    refine ⟨.ref a, rfl, a, _, 0, _, rfl, rfl, s1.tup hT, atI_nat (j := 0) rfl, rfl, _, rfl, ite_yes rfl ?_⟩
    exact ⟨_, rfl, _, rfl, vf, p, z, rfl, p1, hl, fun H2 v2 d2 s2 e2 p2 => k _ _ _ (s1.trans s2) e2 p2⟩
  | or p q =>
    obtain ⟨a, vp, vq, rfl, hT, pp, pq⟩ := kid2 (hd : Dp K H v (.tuple [.str "or", p.data, q.data]))
    have hp : max p.ht q.ht + 1 ≤ n + 1 := hh
    refine ⟨.ref a, rfl, a, _, 0, _, rfl, rfl, hT, atI_nat (j := 0) rfl, rfl, _, rfl, ite_no (by decide +kernel) ?_⟩
    refine ⟨.ref a, rfl, a, _, 0, _, rfl, rfl, hT, atI_nat (j := 0) rfl, rfl, _, rfl, ite_no (by decide +kernel) ?_⟩
    refine ⟨.ref a, rfl, a, _, 1, _, rfl, rfl, hT, atI_nat (j := 1) rfl, _, rfl, vp, p, .ref au, z, rfl, pp, by omega, hs, hl, fun H1 vf df s1 e1 p1 => ?_⟩
    subst e1
    refine ⟨.ref a, rfl, a, _, 0, _, rfl, rfl, s1.tup hT, atI_nat (j := 0) rfl, rfl, _, rfl, ite_no (by decide +kernel) ?_⟩
    refine ⟨.ref a, rfl, a, _, 0, _, rfl, rfl, s1.tup hT, atI_nat (j := 0) rfl, rfl, _, rfl, ite_no (by decide +kernel) ?_⟩
    refine ⟨.ref a, rfl, a, _, 2, _, rfl, rfl, s1.tup hT, atI_nat (j := 2) rfl, _, rfl, vq, q, .ref au, z, rfl, pq.mono s1, by omega, hs.mono s1, hl, fun H1' vg dg s1' e1' p1' => ?_⟩
    subst e1'
    refine ⟨.ref a, rfl, a, _, 0, _, rfl, rfl, (s1.trans s1').tup hT, atI_nat (j := 0) rfl, rfl, _, rfl, ite_yes rfl ?_⟩
    obtain ⟨af, ps, rfl, hps, _, hrow⟩ := tabI (p1.mono s1')
    obtain ⟨ag, qs, rfl, hqs, _, hrow2⟩ := tabI p1'
    refine ⟨_, rfl, ((z.length + 1 : Nat) : Int), rfl, by omega, by omega, fun o no => lc_tab K (n := z.length + 1) (f := tabAt (.or p q) z) no (by omega) (fun i H2 Q' hi s2 kk => ⟨rfl, _, rfl, ((z.length + 1 : Nat) : Int), rfl, by omega, by omega, fun D2 hD2 => lc_row K (n := z.length + 1) (f := tabAt (.or p q) z i) hD2 (by omega) (fun j H3 Q2 hj s3 kk2 => ⟨rfl, ?_⟩) fun H3 s3 e3 => kk H3 D2 s3 hD2 e3⟩) fun H2 s2 p2 => k _ _ _ ((s1.trans s1').trans s2) rfl p2⟩
    have kq := kk2 H3 (Same.refl _)
    rw [tab_or] at kq
    have S3 := s2.trans s3
    obtain ⟨pr, hp1, hp2⟩ := hrow i hi
    obtain ⟨pr2, hq1, hq2⟩ := hrow2 i hi
    refine ⟨.ref af, rfl, _, rfl, af, ps, _, _, rfl, rfl, S3.seq hps, hp1, _, rfl, pr, _, _, _, rfl, rfl, S3.seq hp2, rowAt hj, _, rfl, ?_⟩
    cases e2 : tabAt p z i j with
    | true =>
      rw [e2, Bool.true_or] at kq
      exact iteT kq
    | false =>
      rw [e2, Bool.false_or] at kq
      exact iteF ⟨.ref ag, rfl, _, rfl, ag, qs, _, _, rfl, rfl, S3.seq hqs, hq1, _, rfl, pr2, _, _, _, rfl, rfl, S3.seq hq2, rowAt hj, kq⟩
  | and p q =>
    obtain ⟨a, vp, vq, rfl, hT, pp, pq⟩ := kid2 (hd : Dp K H v (.tuple [.str "and", p.data, q.data]))
    have hp : max p.ht q.ht + 1 ≤ n + 1 := hh
    refine ⟨.ref a, rfl, a, _, 0, _, rfl, rfl, hT, atI_nat (j := 0) rfl, rfl, _, rfl, ite_no (by decide +kernel) ?_⟩
    refine ⟨.ref a, rfl, a, _, 0, _, rfl, rfl, hT, atI_nat (j := 0) rfl, rfl, _, rfl, ite_no (by decide +kernel) ?_⟩
    refine ⟨.ref a, rfl, a, _, 1, _, rfl, rfl, hT, atI_nat (j := 1) rfl, _, rfl, vp, p, .ref au, z, rfl, pp, by omega, hs, hl, fun H1 vf df s1 e1 p1 => ?_⟩
    subst e1
    refine ⟨.ref a, rfl, a, _, 0, _, rfl, rfl, s1.tup hT, atI_nat (j := 0) rfl, rfl, _, rfl, ite_no (by decide +kernel) ?_⟩
    refine ⟨.ref a, rfl, a, _, 0, _, rfl, rfl, s1.tup hT, atI_nat (j := 0) rfl, rfl, _, rfl, ite_no (by decide +kernel) ?_⟩
    refine ⟨.ref a, rfl, a, _, 2, _, rfl, rfl, s1.tup hT, atI_nat (j := 2) rfl, _, rfl, vq, q, .ref au, z, rfl, pq.mono s1, by omega, hs.mono s1, hl, fun H1' vg dg s1' e1' p1' => ?_⟩
    subst e1'
    refine ⟨.ref a, rfl, a, _, 0, _, rfl, rfl, (s1.trans s1').tup hT, atI_nat (j := 0) rfl, rfl, _, rfl, ite_no (by decide +kernel) ?_⟩
    refine ⟨.ref a, rfl, a, _, 0, _, rfl, rfl, (s1.trans s1').tup hT, atI_nat (j := 0) rfl, rfl, _, rfl, ite_yes rfl ?_⟩
    obtain ⟨af, ps, rfl, hps, _, hrow⟩ := tabI (p1.mono s1')
    obtain ⟨ag, qs, rfl, hqs, _, hrow2⟩ := tabI p1'
    refine ⟨_, rfl, ((z.length + 1 : Nat) : Int), rfl, by omega, by omega, fun o no => lc_tab K (n := z.length + 1) (f := tabAt (.and p q) z) no (by omega) (fun i H2 Q' hi s2 kk => ⟨rfl, _, rfl, ((z.length + 1 : Nat) : Int), rfl, by omega, by omega, fun D2 hD2 => lc_row K (n := z.length + 1) (f := tabAt (.and p q) z i) hD2 (by omega) (fun j H3 Q2 hj s3 kk2 => ⟨rfl, ?_⟩) fun H3 s3 e3 => kk H3 D2 s3 hD2 e3⟩) fun H2 s2 p2 => k _ _ _ ((s1.trans s1').trans s2) rfl p2⟩
    have kq := kk2 H3 (Same.refl _)
    rw [tab_and] at kq
    have S3 := s2.trans s3
    obtain ⟨pr, hp1, hp2⟩ := hrow i hi
    obtain ⟨pr2, hq1, hq2⟩ := hrow2 i hi
    refine ⟨.ref af, rfl, _, rfl, af, ps, _, _, rfl, rfl, S3.seq hps, hp1, _, rfl, pr, _, _, _, rfl, rfl, S3.seq hp2, rowAt hj, _, rfl, ?_⟩
    cases e2 : tabAt p z i j with
    | false =>
      rw [e2, Bool.false_and] at kq
      exact iteF kq
    | true =>
      rw [e2, Bool.true_and] at kq
      exact iteT ⟨.ref ag, rfl, _, rfl, ag, qs, _, _, rfl, rfl, S3.seq hqs, hq1, _, rfl, pr2, _, _, _, rfl, rfl, S3.seq hq2, rowAt hj, kq⟩
  | thn p q =>
    obtain ⟨a, vp, vq, rfl, hT, pp, pq⟩ := kid2 (hd : Dp K H v (.tuple [.str "then", p.data, q.data]))
    have hp : max p.ht q.ht + 1 ≤ n + 1 := hh
    refine ⟨.ref a, rfl, a, _, 0, _, rfl, rfl, hT, atI_nat (j := 0) rfl, rfl, _, rfl, ite_no (by decide +kernel) ?_⟩
    refine ⟨.ref a, rfl, a, _, 0, _, rfl, rfl, hT, atI_nat (j := 0) rfl, rfl, _, rfl, ite_no (by decide +kernel) ?_⟩
    refine ⟨.ref a, rfl, a, _, 1, _, rfl, rfl, hT, atI_nat (j := 1) rfl, _, rfl, vp, p, .ref au, z, rfl, pp, by omega, hs, hl, fun H1 vf df s1 e1 p1 => ?_⟩
    subst e1
    refine ⟨.ref a, rfl, a, _, 0, _, rfl, rfl, s1.tup hT, atI_nat (j := 0) rfl, rfl, _, rfl, ite_no (by decide +kernel) ?_⟩
    refine ⟨.ref a, rfl, a, _, 0, _, rfl, rfl, s1.tup hT, atI_nat (j := 0) rfl, rfl, _, rfl, ite_no (by decide +kernel) ?_⟩
    refine ⟨.ref a, rfl, a, _, 2, _, rfl, rfl, s1.tup hT, atI_nat (j := 2) rfl, _, rfl, vq, q, .ref au, z, rfl, pq.mono s1, by omega, hs.mono s1, hl, fun H1' vg dg s1' e1' p1' => ?_⟩
    subst e1'
    refine ⟨.ref a, rfl, a, _, 0, _, rfl, rfl, (s1.trans s1').tup hT, atI_nat (j := 0) rfl, rfl, _, rfl, ite_no (by decide +kernel) ?_⟩
    refine ⟨.ref a, rfl, a, _, 0, _, rfl, rfl, (s1.trans s1').tup hT, atI_nat (j := 0) rfl, rfl, _, rfl, ite_no (by decide +kernel) ?_⟩
    obtain ⟨af, ps, rfl, hps, _, hrow⟩ := tabI (p1.mono s1')
    obtain ⟨ag, qs, rfl, hqs, _, hrow2⟩ := tabI p1'
    refine ⟨Nat.zero_le _, fun o no => ?_⟩
    have So := Same.new (o := .lst []) no
    refine ⟨_, rfl, ((z.length + 1 : Nat) : Int), rfl, by omega, by omega, for_src (D := ⟨_, _, fun _ _ => True, fun _ _ => True⟩) (Src.rng 0 (z.length + 1))
      (fun i σ H' => ∃ y6 y7 y8 y9, σ = [some (.ref a), some (.ref au), some (.int ((z.length + 1 : Nat) : Int)), some (.ref af), some (.ref ag), some (.ref o), y6, y7, y8, y9] ∧ Same H1' H' ∧ ∃ ys, H' o = some (.lst ys) ∧ DpAll K (del H' o) ys ((List.range i).map fun m => brow (z.length + 1) (tabAt (.thn p q) z m)))
      ⟨_, _, _, _, rfl, So, [], upd_same, .nil⟩ (fun _ _ _ _ _ => trivial) (fun i x σ H3 H4 hi hP s4 hy => ?_) fun σ H' hP => ?_⟩
    · obtain ⟨y6, y7, y8, y9, rfl, S3, ys, eo, hys⟩ := hP
      rw [Int.zero_add] at hy
      subst hy
      have S4 := S3.trans s4
      have eo4 := s4 _ _ eo
      have lys := hys.len
      rw [List.length_map, List.length_range] at lys
      refine ⟨(by decide : 1 ≤ sizeLine), fun o1 no1 => ⟨_, rfl, o1, _, _, rfl, rfl, upd_same, by omega, by omega, ?_, fun q0 nq0 => ?_⟩⟩
      · rw [Int.toNat_natCast, List.length_singleton]
        exact Nat.le_of_lt (line200 (by omega))
      have s5 := (Same.new (o := .lst [V.bl false]) no1).trans (Same.new (o := .lst (List.replicate ((z.length + 1 : Nat) : Int).toNat [V.bl false]).flatten) nq0)
      have er : (((z.length + 1 : Nat) : Int) - ((i : Nat) : Int)).toNat = z.length + 1 - i := by omega
      have nq : q0 ≠ o := by
        rintro rfl
        have := Same.new (o := .lst [V.bl false]) no1 _ _ eo4
        rw [nq0] at this
        cases this
      refine ⟨_, rfl, _, rfl, _, _, rfl, ⟨by omega, by omega, by omega, by omega⟩, ?_⟩
      dsimp only
      rw [er]
      generalize hH5 : (upd (upd H4 o1 (.lst [V.bl false])) q0 (.lst (List.replicate ((z.length + 1 : Nat) : Int).toNat [V.bl false]).flatten)) = H5 at s5 ⊢
      have e5 : H5 q0 = some (.lst (browV (z.length + 1) fun _ => false)) := by
        rw [← hH5, upd_same, Int.toNat_natCast, flat_rep]
        rfl
      refine for_src (D := ⟨_, _, fun _ _ => True, fun _ _ => True⟩) (Src.rng ((i : Nat) : Int) (z.length + 1 - i))
        (fun j σ H' => ∃ q1 y8 y9, σ = [some (.ref a), some (.ref au), some (.int ((z.length + 1 : Nat) : Int)), some (.ref af), some (.ref ag), some (.ref o), some (.int ((i : Nat) : Int)), some (.ref q1), y8, y9] ∧ Same H5 H' ∧ q1 ≠ o ∧ H' q1 = some (.lst (browV (z.length + 1) (accB (tabAt p z i) (tabAt q z) (fun _ => false) i j))))
        ⟨q0, _, _, rfl, Same.refl _, nq, by rw [accB_0]; exact e5⟩ (fun _ _ _ _ _ => trivial) (fun j x σ H6 H7 hj hP s7 hy => ?_) fun σ H' hP => ?_
      · obtain ⟨q1, y8, y9, rfl, S6, nq1, eq⟩ := hP
        have hx : x = V.int ((i + j : Nat) : Int) := by rw [hy]; exact congrArg V.int (by omega)
        subst hx
        have S7 := S6.trans s7
        have eq7 := s7 _ _ eq
        have eo7 := S7 _ _ (s5 _ _ eo4)
        have SS := S4.trans (s5.trans S7)
        have hk : i + j < z.length + 1 := by omega
        obtain ⟨pr, hp1, hp2⟩ := hrow i hi
        obtain ⟨pr2, hq1, hq2⟩ := hrow2 (i + j) hk
        refine ⟨.ref af, rfl, _, rfl, af, ps, _, .ref pr, rfl, rfl, SS.seq hps, hp1, _, rfl, pr, _, _, _, rfl, rfl, SS.seq hp2, rowAt hk, _, rfl, ?_⟩
        cases ef : tabAt p z i (i + j) with
        | false =>
          refine iteF ⟨q1, _, _, rfl, S7, nq1, ?_⟩
          rw [eq7, browV_congr (g := accB (tabAt p z i) (tabAt q z) (fun _ => false) i (j + 1)) fun e _ => by rw [accB_step, ef, Bool.false_and, Bool.or_false]]
        | true =>
          refine iteT ⟨_, rfl, ((z.length + 1 : Nat) : Int), rfl, by omega, by omega, fun D2 hD2 => lc_row K (n := z.length + 1) (f := fun e => accB (tabAt p z i) (tabAt q z) (fun _ => false) i (j + 1) e) hD2 (by omega) (fun e H8 Q' he s8 kk => ?_) fun H8 s8 e8 => ?_⟩
          · have kq := kk H8 (Same.refl _)
            rw [accB_step, ef, Bool.true_and] at kq
            refine ⟨rfl, .ref q1, rfl, _, rfl, q1, _, _, _, rfl, rfl, SqL.of (s8 _ _ eq7), rowAt he, _, rfl, ?_⟩
            cases eb : accB (tabAt p z i) (tabAt q z) (fun _ => false) i j e with
            | true =>
              rw [eb, Bool.true_or] at kq
              exact iteT kq
            | false =>
              rw [eb, Bool.false_or] at kq
              exact iteF ⟨.ref ag, rfl, _, rfl, ag, qs, _, _, rfl, rfl, (SS.trans s8).seq hqs, hq1, _, rfl, pr2, _, _, _, rfl, rfl, (SS.trans s8).seq hq2, rowAt he, kq⟩
          · exact ⟨D2, _, _, rfl, S7.trans s8, Ne.symm (ne_of_none eo7 hD2), e8⟩
      · obtain ⟨q1, y8, y9, rfl, S6, nq1, eq⟩ := hP
        have eo7 := S6 _ _ (s5 _ _ eo4)
        refine ⟨.ref o, rfl, .inl ⟨rfl, _, SqL.of eo7⟩, _, rfl, o, ys, _, rfl, rfl, eo7, line200 (by omega), _, _, _, _, rfl, fun b u e => ?_, _, upd_same, ?_⟩
        · rw [upd_ne (ne_of_none e no)]
          exact S6 _ _ (s5 _ _ (S4 _ _ e))
        · rw [del_upds, range_snoc]
          refine DpAll.app (DpAll.mono (del_mono (s4.trans (s5.trans S6))) hys) (.one (Dp_row (SqL.of ?_)))
          rw [del_ne nq1, eq, browV_congr fun e he => ?_]
          rw [tab_thn (by omega) (by omega), accB, Bool.false_or]
    · obtain ⟨y6, y7, y8, y9, rfl, S3, ys, eo, hys⟩ := hP
      exact ⟨_, rfl, k _ _ _ ((s1.trans s1').trans S3) rfl (.lst (SqL.of eo) (DpAll.mono del_le hys))⟩
theorem all_table (D : Df K mg "_law_table" s__law_table ["_law_tree", "_law_row"]) (z_range : mg "range" = none) (z_len : mg "len" = none) (c__law_belongs : C8.Cal P w K mg base 1 "_law_belongs" (spLBelongs K) []) (c__law_repeated : C8.Cal P w K mg base 1 "_law_repeated" (spRepeated K) []) : ∀ n, C8.Cal P w K mg base (n + 1) "_law_table" (spTable K n) []
  | 0 => D.none (fun vs H Q E h => by
      obtain ⟨v, t, _, _, _, _, h, _⟩ := h
      have := ht_pos t
      omega) _
  | n + 1 => ok__law_table D z_range z_len c__law_belongs c__law_repeated (all_table D z_range z_len c__law_belongs c__law_repeated n)
end
end K29
namespace K29
open PySem PySem.Spec PyProof.Rows L2 SX
/-- as lc_src; what is gathered is known -/
theorem lc_src2 {K : PySem.W.Frag} {J : It} {n : Nat} {Ok : Hp → Prop} {Yl : Nat → V → Hp → Prop} (X : Src J n Ok Yl) {g : TG} {te : TE} {vs : List Nat} {σ : L2.St} {H1 : Hp} {D : Addr} {Qd : Hp → Prop} (hok : ∀ H', Same H1 H' → Ok H') (hD : H1 D = none) (hn : n ≤ 1000000) (F : Nat → PyData → Prop)
    (el : ∀ i x H2 acc ds (Q' : VK), i < n → Same H1 H2 → H2 D = some (.lst acc) → (∀ (j : Nat) d, ds[j]? = some d → F j d) → DpAll K H2 acc ds → Yl i x H2 → (∀ H3 y d, Same H2 H3 → F i d → Dp K (K29.del H3 D) y d → Q' y H3) →
      g x (wipe σ vs) H2 fun σ2 H3 => wipe σ2 vs = wipe σ vs ∧ te σ2 H3 Q')
    (done : ∀ H2 ys ds, Same H1 H2 → H2 D = some (.lst ys) → ds.length = n → (∀ (i : Nat) d, ds[i]? = some d → F i d) → DpAll K (K29.del H2 D) ys ds → Qd H2) :
    ∃ W : Nat → Nat → Hp → Prop, (∃ m, W 0 m (upd H1 D (.lst []))) ∧ ∀ i m H, W i m H →
      (J.stop i H ∧ Qd H) ∨ (J.go i H ∧ ∃ Nx : Hp → Prop, (∀ H', Nx H' → ∃ m', m' < m ∧ W (i + 1) m' H') ∧ ∀ x H', J.yld i H x H' → g x (wipe σ vs) H' fun σ2 H2 => wipe σ2 vs = wipe σ vs ∧ tYes σ2 H2 fun b H3 =>
        if b = true then te σ2 H3 fun y H4 => ∃ acc, H4 D = some (.lst acc) ∧ acc.length < sizeLine ∧ Nx (upd H4 D (.lst (acc ++ [y]))) else Nx H3) := by
  refine ⟨fun i m H => i + m = n ∧ Same H1 H ∧ ∃ ys ds, H D = some (.lst ys) ∧ ds.length = i ∧ (∀ (j : Nat) d, ds[j]? = some d → F j d) ∧ DpAll K (K29.del H D) ys ds, ⟨n, Nat.zero_add _, Same.new hD, [], [], upd_same, rfl, fun j d h => by simp at h, .nil⟩, fun i m H hW => ?_⟩
  obtain ⟨e, sm, ys, ds, eD, hl, hF, hA⟩ := hW
  have hO := hok H sm
  by_cases hi : i < n
  · refine .inr ⟨X.go i H hi hO, fun H' => Same H1 H' ∧ ∃ ys ds, H' D = some (.lst ys) ∧ ds.length = i + 1 ∧ (∀ (j : Nat) d, ds[j]? = some d → F j d) ∧ DpAll K (K29.del H' D) ys ds, fun H' hN => ⟨m - 1, by omega, by omega, hN⟩, fun x H' hy => ?_⟩
    obtain ⟨y1, y2⟩ := X.yld i H x H' hi hO hy
    refine el i x H' ys ds _ hi (sm.trans y1) (y1 _ _ eD) hF (DpAll.mono (del_le.trans y1) hA) y2 fun H3 y d s3 fd pd => ?_
    have e3 : H3 D = some (.lst ys) := s3 _ _ (y1 _ _ eD)
    refine ⟨ys, e3, line200 (by rw [hA.len]; omega), fun b o eb => ?_, ys ++ [y], ds ++ [d], upd_same, by rw [List.length_append, hl]; rfl, fun j d' hj => ?_, ?_⟩
    · have nb : b ≠ D := ne_of_none eb hD
      rw [upd_ne nb]
      exact s3 _ _ (y1 _ _ (sm _ _ eb))
    · rcases Nat.lt_or_ge j ds.length with q | q
      · rw [List.getElem?_append_left q] at hj
        exact hF j d' hj
      · rw [List.getElem?_append_right q] at hj
        have hj0 : j - ds.length = 0 := by
          rcases Nat.eq_zero_or_pos (j - ds.length) with z | z
          · exact z
          · rw [List.getElem?_eq_none (by rw [List.length_singleton]; exact z)] at hj; cases hj
        rw [hj0] at hj
        have ed : d = d' := Option.some.inj hj
        subst ed
        have : j = i := by omega
        subst this
        exact fd
    · rw [del_upds]
      exact DpAll.app (DpAll.mono (del_mono (y1.trans s3)) hA) (.one pd)
  · have ei : i = n := by omega
    subst ei
    exact .inl ⟨X.stop H hO, done H ys ds sm eD hl hF hA⟩
/-- a row of truth values is not a list of lists -/
theorem row_del {K : PySem.W.Frag} {H : Hp} {D : Addr} {acc : List V} {ds : List PyData} {v : V} {n : Nat} {f : Nat → Bool} (eD : H D = some (.lst acc)) (hA : DpAll K H acc ds) (hds : ∀ (j : Nat) d, ds[j]? = some d → ∃ l, d = .list l) (p : Dp K H v (brow (n + 1) f)) : Dp K (K29.del H D) v (brow (n + 1) f) := by
  obtain ⟨a, rfl, h⟩ := rowI p
  refine Dp_row ?_
  have ne : Rd H a (.lst (browV (n + 1) f)) → a ≠ D := by
    rintro r rfl
    have e : acc = browV (n + 1) f := by
      rcases r with r | ⟨u, r⟩
      · rw [eD] at r; cases r; rfl
      · rw [eD] at r; cases r
    have h0 : acc[0]? = some (.bl (f 0)) := by rw [e]; exact range_at (by omega)
    obtain ⟨d, hd, pd⟩ := hA.get h0
    obtain ⟨l, rfl⟩ := hds 0 d hd
    obtain ⟨_, _, e2, _⟩ := Dp.lstI pd
    cases e2
  rcases h with h | h
  · have na := ne h
    rcases h with r | ⟨u, r⟩
    · exact .inl (.inl (by rw [del_ne na]; exact r))
    · exact .inl (.inr ⟨u, by rw [del_ne na]; exact r⟩)
  · exact .inr h
section
variable {P : Program} {w : World} {K : PySem.W.Frag} {mg : Str → Option Value} {base : Heap}
abbrev s__law_applied : Stmt := topS 41
theorem sc__law_applied : FnScope ["_law_stage", "_law_row", "_law_many", "_law_heads", "_law_tails", "_law_found", "_law_k", "_law_first", "_law_i", "_law_rule_here", "_law_ends"] ["_law_stage", "_law_row"] (defScope s__law_applied) := ⟨rfl, rfl, rfl, by decide +kernel, rfl, by decide +kernel, by decide +kernel⟩
def spLApplied (K : PySem.W.Frag) : Sp := fun vs H Q _ => ∃ v st u w, vs = [v, u] ∧ Dp K H v (stageD st) ∧ (∀ r ∈ st, ROk r) ∧ st.length ≤ 3 ∧ Dp K H u (seqD w) ∧ w.length ≤ 800 ∧ Ret K H Q (· = .list ((applied st w).map optD))
set_option maxHeartbeats 2000000 in
theorem ok__law_applied (D : Df K mg "_law_applied" s__law_applied ["_law_stage", "_law_row"]) (z_range : mg "range" = none) (z_len : mg "len" = none) (c__law_belongs : C8.Cal P w K mg base 1 "_law_belongs" (spLBelongs K) []) (c__law_table : C8.Cal P w K mg base 5 "_law_table" (spTable K 4) []) : C8.Cal P w K mg base 6 "_law_applied" (spLApplied K) [] := by
  refine D.cal sc__law_applied (fun vs H Q E h => ?_) (fun f cdv A outer s H vs Q E hr h => ?_)
  · obtain ⟨_, _, _, _, rfl, _⟩ := h
    rfl
  obtain ⟨v, st, u, z, rfl, hd, hok, hst, hs, hl, k⟩ := h
  refine ⟨_, (pss_cons (ps_set (i := 2) sc__law_applied.nd rfl (by first | exact .inl rfl | exact .inr rfl) (pe_callB call_len_seq (by rfl) z_len (by decide +kernel) (pa_cons (pv 1) pa_nil)))
     (pss_cons (ps_setLc (i := 3) (own := [("_law_rule_here", 9)]) rfl sc__law_applied.nd rfl rfl (sw_true rfl rfl rfl rfl) (pi_tup (pv 0)) (blkOk_by (by with_unfolding_all rfl)) (fun _ _ _ _ _ => (pg_name (i := 9) sc__law_applied.nd rfl (by first | exact .inl rfl | exact .inr rfl))) (fun _ _ _ _ _ => pts_nil) (fun _ _ _ _ _ => (pe_ix (r := rIxL K) ix_list (C8.pe_c c__law_table hr (by omega) (by rfl) (pa_cons (pe_ix (r := rIxT K) ix_tup (pv 9) pe_int (fun _ _ => rfl)) (pa_cons (pv 1) pa_nil))) pe_int (fun _ _ => rfl))))
     (pss_cons (ps_setLc (i := 4) (own := [("_law_rule_here", 9)]) rfl sc__law_applied.nd rfl rfl (sw_true rfl rfl rfl rfl) (pi_tup (pv 0)) (blkOk_by (by with_unfolding_all rfl)) (fun _ _ _ _ _ => (pg_name (i := 9) sc__law_applied.nd rfl (by first | exact .inl rfl | exact .inr rfl))) (fun _ _ _ _ _ => pts_nil) (fun _ _ _ _ _ => (pe_lc (own := [("_law_ends", 10)]) rfl sc__law_applied.nd (pi_listK (K := K) rfl (C8.pe_c c__law_table hr (by omega) (by rfl) (pa_cons (pe_ix (r := rIxT K) ix_tup (pv 9) pe_int (fun _ _ => rfl)) (pa_cons (pv 1) pa_nil)))) (blkOk_by (by with_unfolding_all rfl)) (fun _ _ _ _ _ => (pg_name (i := 10) sc__law_applied.nd rfl (by first | exact .inl rfl | exact .inr rfl))) (fun _ _ _ _ _ => pts_nil) (fun _ _ _ _ _ => (pe_ix (r := rIxL K) ix_list (pv 10) (pv 2) (fun _ _ => rfl))))))
     (pss_cons (ps_set (i := 5) sc__law_applied.nd rfl (by first | exact .inl rfl | exact .inr rfl) (pe_lst pa_nil))
     (pss_cons (ps_for PassesOwn.never rfl (pi_range1 (by rfl) z_range (pa_cons (pv 2) pa_nil)) (pg_name (i := 6) sc__law_applied.nd rfl (by first | exact .inl rfl | exact .inr rfl))
     (pss_cons (ps_set (i := 7) sc__law_applied.nd rfl (by first | exact .inl rfl | exact .inr rfl) pe_non)
     (pss_cons (ps_for PassesOwn.never rfl (pi_range1 (by rfl) z_range (pa_cons (pe_callB call_len_seq (by rfl) z_len (by decide +kernel) (pa_cons (pv 0) pa_nil)) pa_nil)) (pg_name (i := 8) sc__law_applied.nd rfl (by first | exact .inl rfl | exact .inr rfl))
     (pss_one (ps_if (PW.pt (pw_and (pt_cmpR op_isN (pv 7) pe_non (nomark _)) (pw_and (pt_val (pe_ix ix_list (pe_ix ix_list (pv 3) (pv 8) (fun _ _ => rfl)) (pv 6) (fun _ _ => rfl))) (pw_and (pt_val (pe_ix ix_list (pe_ix ix_list (pv 4) (pv 8) (fun _ _ => rfl)) (pe_op op_add (pv 6) pe_int) (fun _ _ => rfl))) (pw_and1 (pt_val (C8.pe_c c__law_belongs hr (by omega) (by rfl) (pa_cons (pe_ix ix_tup (pe_ix ix_tup (pv 0) (pv 8) (fun _ _ => rfl)) pe_int (fun _ _ => rfl)) (pa_cons (pe_ix ix_tup (pv 1) (pv 6) (fun _ _ => rfl)) pa_nil)))))))))
     (pss_one (ps_set (i := 7) sc__law_applied.nd rfl (by first | exact .inl rfl | exact .inr rfl) (pv 8)))
     pss_nil)))
     (pss_one (ps_expr (pe_bm PySem.F.plainAttrs_list PySem.F.slot_list_append PySem.F.type_list_append mt_append (pv 5) (pa_cons (pv 7) pa_nil)))))))
     (pss_one (ps_ret (pv 5)))))))), ?_⟩
  obtain ⟨au, rfl, hU⟩ := seqI hs
  obtain ⟨b, xs, rfl, hTb, hA⟩ := stageI hd
  have lx := hA.len
  rw [List.length_map] at lx
  have em : (((z.map symV).length : Nat) : Int) = ((z.length : Nat) : Int) := by simp
  refine ⟨.ref au, rfl, au, _, rfl, .inr hU, ?_⟩
  rw [em]
  have ruleAt : ∀ {H' : Hp} {i : Nat} {x : V}, Same H H' → xs[i]? = some x → ∃ r, st[i]? = some r ∧ ROk r ∧ ∃ ar vb vt va, x = .ref ar ∧ SqT K H' ar [vb, vt, va, .str (S r.out)] ∧ Dp K H' vb r.before.data ∧ Dp K H' vt (Tree.cls r.neg r.hs r.ls).data ∧ Dp K H' va r.after.data := fun s' hx => by
    obtain ⟨d, hd1, pd⟩ := hA.get hx
    rw [List.getElem?_map] at hd1
    obtain ⟨r, h1, rfl⟩ := Option.map_eq_some_iff.mp hd1
    exact ⟨r, h1, hok r (List.mem_of_getElem? h1), ruleI (pd.mono s')⟩
  -- heads
  refine ⟨.ref b, rfl, b, rfl, ⟨xs, hTb⟩, fun D1 hD1 => lc_src2 (K := K) (Src.tup b xs) (fun H' s' => s'.tup hTb) hD1 (by omega) (fun i d => ∃ r, st[i]? = some r ∧ d = brow (z.length + 1) (tabAt r.before z 0)) (fun i x H2 acc ds Q' hi s2 eD hF hAc hy el => ?_) fun H2 hds' ds s2 e2 hl2 hF hE => ?_⟩
  · obtain ⟨r, hr1, rok, ar, vb, vt, va, rfl, hTr, pb, pt, pa⟩ := ruleAt s2 hy
    refine ⟨rfl, _, rfl, ar, _, 0, _, rfl, rfl, hTr, atI_nat (j := 0) rfl, _, rfl, vb, r.before, .ref au, z, rfl, pb, rok.1, hs.mono s2, hl, fun H3 v3 d3 s3 e3 p3 => ?_⟩
    subst e3
    obtain ⟨a3, ps, rfl, hps, _, hrow⟩ := tabI p3
    obtain ⟨pr, hp1, hp2⟩ := hrow 0 (by omega)
    refine ⟨a3, ps, _, .ref pr, rfl, rfl, hps, hp1, el H3 _ _ s3 ⟨r, hr1, rfl⟩ (row_del (s3 _ _ eD) (DpAll.mono s3 hAc) (fun j d hj => ?_) (Dp_row hp2))⟩
    obtain ⟨r', _, rfl⟩ := hF j d hj
    exact ⟨_, rfl⟩
  have hh : ∀ (i : Nat) r, st[i]? = some r → ∃ p, hds'[i]? = some (.ref p) ∧ SqL K H2 p (browV (z.length + 1) (tabAt r.before z 0)) := fun i r hr1 => by
    have hi : i < ds.length := by rw [hl2, lx]; exact (List.getElem?_eq_some_iff.mp hr1).1
    obtain ⟨r', hr2, ed⟩ := hF i _ (List.getElem?_eq_getElem hi)
    rw [hr1] at hr2
    cases hr2
    obtain ⟨y, hy, py⟩ := hE.at_ (List.getElem?_eq_getElem hi)
    rw [ed] at py
    obtain ⟨p, rfl, hp⟩ := rowI py
    exact ⟨p, hy, del_le.seq hp⟩
  -- tails
  refine ⟨.ref b, rfl, b, rfl, ⟨xs, s2.tup hTb⟩, fun D2 hD2 => lc_src (K := K) (Src.tup b xs) (fun H' s' => s'.tup (s2.tup hTb)) hD2 (by omega) (fun i d => ∃ r, st[i]? = some r ∧ d = brow (z.length + 1) fun m => tabAt r.after z m z.length) (fun i x H3 acc Q' hi s3 eD hy el => ?_) fun H3 tls ds2 s3 e3 hl3 hF3 hE3 => ?_⟩
  · obtain ⟨r, hr1, rok, ar, vb, vt, va, rfl, hTr, pb, pt, pa⟩ := ruleAt (s2.trans s3) hy
    refine ⟨rfl, _, rfl, ar, _, 2, _, rfl, rfl, hTr, atI_nat (j := 2) rfl, _, rfl, va, r.after, .ref au, z, rfl, pa, rok.2.1, hs.mono (s2.trans s3), hl, fun H4 v4 d4 s4 e4 p4 => ?_⟩
    subst e4
    obtain ⟨a4, ps, rfl, hps, lps, hrow⟩ := tabI p4
    refine ⟨a4, rfl, ⟨ps, hps⟩, fun D3 hD3 => lc_src (K := K) (Src.list a4 ps) (fun H' s' => s'.seq hps) hD3 (by omega) (fun m d => d = .bool (tabAt r.after z m z.length)) (fun m x H5 acc Q2 hm s5 e5 hy5 el5 => ?_) fun H5 ys5 ds5 s5 e5 hl5 hF5 hE5 => ?_⟩
    · obtain ⟨pr, hp1, hp2⟩ := hrow m (by omega)
      have hy6 := atI_nat hy5
      rw [hp1] at hy6
      cases hy6
      exact ⟨rfl, _, rfl, _, rfl, pr, _, _, _, rfl, rfl, s5.seq hp2, rowAt (by omega), el5 H5 _ _ (Same.refl _) rfl (.bl _)⟩
    · have e := ds_of hl5 hF5
      subst e
      rw [lps] at hE5
      refine el H5 _ _ (s4.trans s5) ⟨r, hr1, rfl⟩ (.lst (SqL.of (by rw [del_ne (Ne.symm (ne_of_none (s4 _ _ eD) hD3))]; exact e5)) ?_)
      have e' : ((List.range (z.length + 1)).map fun j => PyData.bool (tabAt r.after z j z.length)) = ((List.range (z.length + 1)).map fun j => tabAt r.after z j z.length).map PyData.bool := by rw [List.map_map]; rfl
      rw [e'] at hE5 ⊢
      rw [hE5.boolsI]
      exact DpAll.bools _
  have ht : ∀ (i : Nat) r, st[i]? = some r → ∃ p, tls[i]? = some (.ref p) ∧ SqL K H3 p (browV (z.length + 1) fun m => tabAt r.after z m z.length) := fun i r hr1 => by
    have hi : i < ds2.length := by rw [hl3, lx]; exact (List.getElem?_eq_some_iff.mp hr1).1
    obtain ⟨r', hr2, ed⟩ := hF3 i _ (List.getElem?_eq_getElem hi)
    rw [hr1] at hr2
    cases hr2
    obtain ⟨y, hy, py⟩ := hE3.at_ (List.getElem?_eq_getElem hi)
    rw [ed] at py
    obtain ⟨p, rfl, hp⟩ := rowI py
    exact ⟨p, hy, del_le.seq hp⟩
  have S3 := s2.trans s3
  refine ⟨Nat.zero_le _, fun o no => ?_⟩
  have noH : H o = none := S3.free no
  have So := Same.new (o := .lst []) no
  refine ⟨_, rfl, ((z.length : Nat) : Int), rfl, by omega, by omega, for_src (D := ⟨_, _, fun _ _ => True, fun _ _ => True⟩) (Src.rng 0 z.length)
    (fun i σ H' => ∃ y6 y7 y8 y9 y10, σ = [some (.ref b), some (.ref au), some (.int ((z.length : Nat) : Int)), some (.ref D1), some (.ref D2), some (.ref o), y6, y7, y8, y9, y10] ∧ Same H3 H' ∧ H' o = some (.lst (((List.range i).map fun m => firstR st z m).map optV)))
    ⟨_, _, _, _, _, rfl, So, upd_same⟩ (fun _ _ _ _ _ => trivial) (fun i x σ H5 H6 hi hP s6 hy => ?_) fun σ H' hP => ?_⟩
  · obtain ⟨y6, y7, y8, y9, y10, rfl, S5, eo⟩ := hP
    rw [Int.zero_add] at hy
    subst hy
    have S6 := S5.trans s6
    have eo6 := s6 _ _ eo
    have SH := S3.trans S6
    refine ⟨.ref b, rfl, b, _, rfl, .inr (SH.tup hTb), _, rfl, by omega, by omega, for_src (D := ⟨_, _, fun _ _ => True, fun _ _ => True⟩) (Src.rng 0 xs.length)
      (fun j σ H' => ∃ y8 y9 y10, σ = [some (.ref b), some (.ref au), some (.int ((z.length : Nat) : Int)), some (.ref D1), some (.ref D2), some (.ref o), some (.int ((i : Nat) : Int)), some (optV (fIx (st.take j) z i)), y8, y9, y10] ∧ Same H6 H')
      ⟨_, _, _, rfl, Same.refl _⟩ (fun _ _ _ _ _ => trivial) (fun j x σ H7 H8 hj hP s8 hy => ?_) fun σ H' hP => ?_⟩
    · obtain ⟨y8, y9, y10, rfl, S7⟩ := hP
      rw [Int.zero_add] at hy
      subst hy
      have S8 := S7.trans s8
      have SH8 := SH.trans S8
      have SA : Same H3 H8 := S6.trans S8
      obtain ⟨r, hr1, rok, ar, vb, vt, va, ex, hTr, pb, pt, pa⟩ := ruleAt SH8 (List.getElem?_eq_getElem hj)
      obtain ⟨ph, hh1, hh2⟩ := hh j r hr1
      obtain ⟨pt', ht1, ht2⟩ := ht j r hr1
      have hj1 : xs[j]? = some (.ref ar) := by rw [List.getElem?_eq_getElem hj, ex]
      have skip : fIx (st.take (j + 1)) z i = fIx (st.take j) z i → ∃ y8' y9' y10', ([some (.ref b), some (.ref au), some (.int ((z.length : Nat) : Int)), some (.ref D1), some (.ref D2), some (.ref o), some (.int ((i : Nat) : Int)), some (optV (fIx (st.take j) z i)), some (.int ((j : Nat) : Int)), y9, y10] : L2.St) = [some (.ref b), some (.ref au), some (.int ((z.length : Nat) : Int)), some (.ref D1), some (.ref D2), some (.ref o), some (.int ((i : Nat) : Int)), some (optV (fIx (st.take (j + 1)) z i)), y8', y9', y10'] ∧ Same H6 H8 := fun q => by
        rw [q]
        exact ⟨_, _, _, rfl, S8⟩
      refine ⟨_, rfl, rfl, _, rfl, ?_⟩
      cases e0 : fIx (st.take j) z i with
      | some x0 =>
        have q : fIx (st.take (j + 1)) z i = fIx (st.take j) z i := by rw [fIx_step hr1, e0]
        rw [e0] at skip
        exact iteF (iteF (skip (by rw [q, e0])))
      | none =>
        have q : fits r z i = false → fIx (st.take (j + 1)) z i = none := fun q => by rw [fIx_step hr1, e0, q]; rfl
        rw [e0] at skip
        have f1 := tab_head (t := r.before) (w := z) (k := i) (by omega)
        have f2 := tab_tail (t := r.after) (w := z) (k := i + 1) (by omega)
        have hrow1 := rowAt (n := z.length + 1) (f := tabAt r.before z 0) (j := i) (by omega)
        have hrow2 := rowAt (n := z.length + 1) (f := fun m => tabAt r.after z m z.length) (j := i + 1) (by omega)
        rw [f1] at hrow1
        rw [f2] at hrow2
        refine iteT ⟨.ref D1, rfl, _, rfl, D1, _, _, _, rfl, rfl, SqL.of (SA _ _ (s3 _ _ e2)), atI_nat hh1, _, rfl, ph, _, _, _, rfl, rfl, (s3.trans SA).seq hh2, hrow1, _, rfl, ?_⟩
        cases e1 : mt r.before (z.take i) with
        | false => exact iteF (iteF (skip (q (by rw [fits, e1]; rfl))))
        | true =>
          refine iteT ⟨.ref D2, rfl, _, rfl, D2, _, _, _, rfl, rfl, SqL.of (SA _ _ e3), atI_nat ht1, _, rfl, _, _, rfl, rfl, pt', _, _, _, rfl, rfl, SA.seq ht2, hrow2, _, rfl, ?_⟩
          cases e2' : mt r.after (z.drop (i + 1)) with
          | false => exact iteF (iteF (skip (q (by rw [fits, e1, e2']; rfl))))
          | true =>
            refine iteT ⟨.ref b, rfl, _, rfl, b, xs, _, .ref ar, rfl, rfl, SH8.tup hTb, atI_nat hj1, ar, _, 1, vt, rfl, rfl, hTr, atI_nat (j := 1) rfl, .ref au, rfl, _, rfl, au, _, _, _, rfl, rfl, SH8.tup hU, atI_nat (getD_of hi), vt, z.getD i sym0, r.neg, r.hs, r.ls, rfl, pt, _, rfl, ?_⟩
            cases e3' : bel (z.getD i sym0) r.neg r.hs r.ls with
            | false => exact iteF (skip (q (by rw [fits, e1, e2', e3']; rfl)))
            | true =>
              have fo' : fIx (st.take (j + 1)) z i = some j := by
                have : fits r z i = true := by rw [fits, e1, e2', e3']; rfl
                rw [fIx_step hr1, e0, this]
                rfl
              refine iteT ⟨_, rfl, some (.int ((j : Nat) : Int)), y9, y10, ?_, S8⟩
              rw [fo']
              rfl
    · obtain ⟨y8, y9, y10, rfl, S7⟩ := hP
      have eo7 := S7 _ _ eo6
      have e : fIx (st.take xs.length) z i = firstR st z i := by rw [lx, List.take_length]; rfl
      rw [e]
      refine ⟨.ref o, rfl, .inl ⟨rfl, _, SqL.of eo7⟩, _, rfl, o, _, _, rfl, rfl, eo7, ?_, _, _, _, _, _, rfl, fun b' u' e' => ?_, ?_⟩
      · rw [List.length_map, List.length_map, List.length_range]; exact line200 (by omega)
      · rw [upd_ne (ne_of_none e' no)]
        exact S7 _ _ (S6 _ _ e')
      · rw [upd_same, range_snoc, List.map_append]
        rfl
  · obtain ⟨y6, y7, y8, y9, y10, rfl, S5, eo⟩ := hP
    exact ⟨_, rfl, k _ _ _ (S3.trans S5) rfl (.lst (SqL.of eo) (optD_all (applied st z)))⟩
end
end K29
namespace K29
open PySem PySem.Spec PyProof.Rows L2 SX
theorem out_snoc (out : List Nat) (c : Nat) (s : Sym) : outSyms (out ++ [c]) s = outSyms out s ++ [if c = 36 then s else (64, c)] := by
  unfold outSyms
  rw [List.map_append]
  rfl
theorem optI {K : PySem.W.Frag} {H : Hp} {v : V} {o : Option Nat} (h : Dp K H v (optD o)) : v = optV o := by
  cases o with
  | none => exact h.nonI
  | some i => exact h.intI
theorem opts_of {K : PySem.W.Frag} {H : Hp} : ∀ {l : List (Option Nat)} {vs : List V}, DpAll K H vs (l.map optD) → vs = l.map optV
  | [], _, h => h.nilI
  | o :: l, _, h => by
    obtain ⟨v, r, rfl, h1, h2⟩ := h.consI
    rw [optI h1, opts_of h2]
    rfl
section
variable {P : Program} {w : World} {K : PySem.W.Frag} {mg : Str → Option Value} {base : Heap}
abbrev s__law_put_out : Stmt := topS 42
theorem sc__law_put_out : FnScope ["_law_stage", "_law_row", "_law_applied_here", "_law_found", "_law_k", "_law_sign"] ["_law_stage", "_law_row", "_law_applied_here"] (defScope s__law_put_out) := ⟨rfl, rfl, rfl, by decide +kernel, rfl, by decide +kernel, by decide +kernel⟩
def spPutOut (K : PySem.W.Frag) : Sp := fun vs H Q _ => ∃ v st u w x, vs = [v, u, x] ∧ Dp K H v (stageD st) ∧ (∀ r ∈ st, ROk r) ∧ Dp K H u (seqD w) ∧ w.length ≤ 800 ∧ Dp K H x (.list ((applied st w).map optD)) ∧ ∀ H' o ys, Same H H' → H' o = some (.lst ys) → DpAll K H' ys ((putOut st w).map pairD) → Q (.ref o) H'
set_option maxHeartbeats 2000000 in
theorem ok__law_put_out (D : Df K mg "_law_put_out" s__law_put_out ["_law_stage", "_law_row", "_law_applied_here"]) (z_range : mg "range" = none) (z_len : mg "len" = none) (z_int : mg "int" = none) : C8.Cal P w K mg base 1 "_law_put_out" (spPutOut K) [] := by
  refine D.cal sc__law_put_out (fun vs H Q E h => ?_) (fun f cdv A outer s H vs Q E hr h => ?_)
  · obtain ⟨_, _, _, _, _, rfl, _⟩ := h
    rfl
  obtain ⟨v, st, u, z, x, rfl, hd, hok, hs, hl, hx, k⟩ := h
  refine ⟨_, (pss_cons (ps_set (i := 3) sc__law_put_out.nd rfl (by first | exact .inl rfl | exact .inr rfl) (pe_lst pa_nil))
     (pss_cons (ps_for PassesOwn.never rfl (pi_range1 (by rfl) z_range (pa_cons (pe_callB call_len_seq (by rfl) z_len (by decide +kernel) (pa_cons (pv 1) pa_nil)) pa_nil)) (pg_name (i := 4) sc__law_put_out.nd rfl (by first | exact .inl rfl | exact .inr rfl))
     (pss_one (ps_if (pt_cmpR op_notN (pe_ix ix_list (pv 2) (pv 4) (fun _ _ => rfl)) pe_non (nomark _))
     (pss_one (ps_for PassesOwn.never rfl (pi_str (pe_ix ix_tup (pe_ix ix_tup (pv 0) (pe_ix ix_list (pv 2) (pv 4) (fun _ _ => rfl)) (fun _ _ => rfl)) pe_int (fun _ _ => rfl))) (pg_name (i := 5) sc__law_put_out.nd rfl (by first | exact .inl rfl | exact .inr rfl))
     (pss_one (ps_expr (pe_bm PySem.F.plainAttrs_list PySem.F.slot_list_append PySem.F.type_list_append mt_append (pv 3) (pa_cons (pe_tup (pa_cons (pe_ix ix_list (pe_lst (pa_cons (pe_op op_add_str pe_str (pv 5)) (pa_cons (pe_ix ix_tup (pv 1) (pv 4) (fun _ _ => rfl)) pa_nil))) (pe_callTy call_int1 (by rfl) z_int (by decide +kernel) (pa_cons (pe_cmpR op_eq (pv 5) pe_str (nomark _)) pa_nil)) (fun _ _ => rfl)) (pa_cons (pv 4) pa_nil))) pa_nil))))))
     pss_nil)))
     (pss_one (ps_ret (pv 3))))), ?_⟩
  obtain ⟨au, rfl, hU⟩ := seqI hs
  obtain ⟨b, xs, rfl, hTb, hA⟩ := stageI hd
  obtain ⟨ax, os, rfl, hLx, hO⟩ := Dp.lstI hx
  have eos := opts_of hO
  subst eos
  have em : (((z.map symV).length : Nat) : Int) = ((z.length : Nat) : Int) := by simp
  refine ⟨Nat.zero_le _, fun o no => ?_⟩
  have So := Same.new (o := .lst []) no
  refine ⟨.ref au, rfl, au, _, rfl, .inr (So.tup hU), ?_⟩
  rw [em]
  refine ⟨_, rfl, by omega, by omega, for_src (D := ⟨_, _, fun _ _ => True, fun _ _ => True⟩) (Src.rng 0 z.length)
    (fun i σ H' => ∃ y4 y5, σ = [some (.ref b), some (.ref au), some (.ref ax), some (.ref o), y4, y5] ∧ Same H H' ∧ ∃ ys, H' o = some (.lst ys) ∧ DpAll K H' ys (((List.range i).flatMap (putAt st z)).map pairD))
    ⟨_, _, rfl, So, [], upd_same, .nil⟩ (fun _ _ _ _ _ => trivial) (fun i x σ H3 H4 hi hP s4 hy => ?_) fun σ H' hP => ?_⟩
  · obtain ⟨y4, y5, rfl, S3, ys, eo, hY⟩ := hP
    rw [Int.zero_add] at hy
    subst hy
    have S4 := S3.trans s4
    have eo4 := s4 _ _ eo
    have hY4 := DpAll.mono s4 hY
    have at1 : atI ((applied st z).map optV) ((i : Nat) : Int) = some (optV (firstR st z i)) := atI_nat (by
      unfold applied
      rw [List.map_map, range_at hi]
      rfl)
    refine ⟨.ref ax, rfl, _, rfl, ax, _, _, _, rfl, rfl, S4.seq hLx, at1, rfl, _, rfl, ?_⟩
    have len0 : ∀ m, ((List.range m).flatMap (putAt st z)).length ≤ 3 * m := fun m => by
      have := flat_len (f := putAt st z) (c := 3) (fun q => putAt_len (fun r hr => (hok r hr).2.2) z q) (List.range m)
      rwa [List.length_range] at this
    cases e0 : firstR st z i with
    | none =>
      refine iteF ⟨_, _, rfl, S4, ys, eo4, ?_⟩
      rw [flat_range, show putAt st z i = [] by rw [putAt, e0], List.append_nil]
      exact hY4
    | some ri =>
      have hri := firstR_lt e0
      have hr1 : st[ri]? = some st[ri] := List.getElem?_eq_getElem hri
      generalize hrr : st[ri] = r at hr1
      obtain ⟨y, hy1, py⟩ := hA.at_ (i := ri) (d := ruleD r) (by rw [List.getElem?_map, hr1]; rfl)
      obtain ⟨ar, vb, vt, va, rfl, hTr, _, _, _⟩ := ruleI (py.mono S4)
      rw [e0] at at1
      have rok := hok r (List.mem_of_getElem? hr1)
      have eput : putAt st z i = (outSyms r.out (z.getD i sym0)).map fun s => (s, i) := by rw [putAt, e0]; simp only [hr1]
      refine iteT ⟨.ref b, rfl, .ref ax, rfl, _, rfl, ax, _, _, _, rfl, rfl, S4.seq hLx, at1, b, xs, _, _, rfl, rfl, S4.tup hTb, atI_nat hy1, ar, _, 3, _, rfl, rfl, hTr, atI_nat (j := 3) rfl, S r.out, rfl, ?_⟩
      refine for_src (D := ⟨_, _, fun _ _ => True, fun _ _ => True⟩) (Src.str r.out)
        (fun j σ H' => ∃ y5, σ = [some (.ref b), some (.ref au), some (.ref ax), some (.ref o), some (.int ((i : Nat) : Int)), y5] ∧ Same H H' ∧ ∃ ys, H' o = some (.lst ys) ∧ DpAll K H' ys (((List.range i).flatMap (putAt st z) ++ (outSyms (r.out.take j) (z.getD i sym0)).map fun s => (s, i)).map pairD))
        ⟨_, rfl, S4, ys, eo4, by rw [show ((outSyms (r.out.take 0) (z.getD i sym0)).map fun s => (s, i)) = [] from rfl, List.append_nil]; exact hY4⟩ (fun _ _ _ _ _ => trivial) (fun j x σ H5 H6 hj hP s6 hy => ?_) fun σ H' hP => ?_
      · obtain ⟨y5, rfl, S5, ws, eo5, hW⟩ := hP
        obtain ⟨c, hc, rfl⟩ := hy
        have S6 := S5.trans s6
        have eo6 := s6 _ _ eo5
        have hW6 := DpAll.mono s6 hW
        refine ⟨.ref o, rfl, .inl ⟨rfl, _, SqL.of eo6⟩, _, rfl, _, _, rfl, rfl, ?_, .ref au, rfl, _, rfl, au, _, _, _, rfl, rfl, S6.tup hU, atI_nat (getD_of hi), (by decide : 2 ≤ sizeLine), fun o2 no2 => ⟨_, rfl, rfl, .inr ⟨_, rfl, ?_⟩⟩⟩
        · rw [editor, S_len, S_len]; exact Nat.le_of_lt (line200 (by show 1 + 1 ≤ _; omega))
        have hv : atI [V.str ("@" ++ S [c]), symV (z.getD i sym0)] (if decide (V.str (S [c]) = V.str "$") = true then 1 else 0) = some (symV (if c = 36 then z.getD i sym0 else (64, c))) := by
          by_cases h36 : c = 36
          · subst h36
            rw [if_pos (decide_eq_true (by rw [dollar])), if_pos rfl]
            exact atI_nat (j := 1) rfl
          · rw [if_neg (fun q => h36 (by
              have := S_inj (str_eq ((of_decide_eq_true q).trans (congrArg V.str dollar)))
              cases this
              rfl)), if_neg h36]
            rw [editor, S_cat]
            exact atI_nat (j := 0) rfl
        have s7 := Same.new (o := .lst [V.str ("@" ++ S [c]), symV (z.getD i sym0)]) no2
        refine ⟨o2, _, _, _, rfl, rfl, SqL.of upd_same, hv, _, rfl, (by decide : 2 ≤ sizeLine), fun p hp => ?_⟩
        have s8 := s7.trans (Same.new (o := .tup [symV (if c = 36 then z.getD i sym0 else (64, c)), .int ((i : Nat) : Int)]) hp)
        have eo8 := s8 _ _ eo6
        have lw := hW6.len
        have l0 := len0 i
        have l1 : (outSyms (r.out.take j) (z.getD i sym0)).length ≤ 3 := by
          unfold outSyms
          rw [List.length_map, List.length_take]
          have := rok.2.2
          omega
        rw [List.length_map, List.length_append, List.length_map] at lw
        have tu := Tups.upd (o := .lst (ws ++ [.ref p])) eo8
        refine ⟨o, ws, .ref p, rfl, rfl, eo8, line200 (by omega), _, rfl, fun b' u' e' => ?_, _, upd_same, ?_⟩
        · rw [upd_ne (ne_of_none e' no)]
          exact s8 _ _ (S6 _ _ e')
        · have e : ∀ (X : List (Sym × Nat)) (A : List Sym) (y : Sym), (X ++ (A ++ [y]).map fun s => (s, i)).map pairD = (X ++ A.map fun s => (s, i)).map pairD ++ [pairD (y, i)] := fun X A y => by simp
          rw [take_snoc hc, out_snoc, e]
          exact DpAll.app (DpAll.tups tu (DpAll.mono s8 hW6) (nlAll_map nl_pair _)) (.one (Dp.tups tu (Dp.tupN hp (.cons (.str _) (.one (.int _)))) rfl))
      · obtain ⟨y5, rfl, S5, ws, eo5, hW⟩ := hP
        rw [List.take_length, ← eput, ← flat_range] at hW
        exact ⟨_, _, rfl, S5, ws, eo5, hW⟩
  · obtain ⟨y4, y5, rfl, S3, ys, eo, hY⟩ := hP
    exact ⟨_, rfl, k H' o ys S3 eo hY⟩
end
end K29
namespace K29
open PySem PySem.Spec PyProof.Rows L2 SX
section
variable {P : Program} {w : World} {K : PySem.W.Frag} {mg : Str → Option Value} {base : Heap}
abbrev s__law_cascade : Stmt := topS 43
theorem sc__law_cascade : FnScope ["_law_pipeline", "_law_document", "_law_pairs", "_law_traces", "_law_stage", "_law_row", "_law_applied_here", "_law_k", "_law_pair", "_law_sign"] ["_law_pipeline", "_law_document"] (defScope s__law_cascade) := ⟨rfl, rfl, rfl, by decide +kernel, rfl, by decide +kernel, by decide +kernel⟩
def spCascade (K : PySem.W.Frag) : Sp := fun vs H Q _ => ∃ v pl u w, vs = [v, u] ∧ Dp K H v (pipeD pl) ∧ PipeOk pl ∧ Dp K H u (seqD w) ∧ w.length ≤ 6 ∧ Ret K H Q fun d => ∃ ds, d = .tuple [pairsD (exc pl w), ds]
set_option maxHeartbeats 2000000 in
theorem ok__law_cascade (D : Df K mg "_law_cascade" s__law_cascade ["_law_pipeline", "_law_document"]) (z_range : mg "range" = none) (z_len : mg "len" = none) (z_tuple : mg "tuple" = none) (c__law_applied : C8.Cal P w K mg base 6 "_law_applied" (spLApplied K) []) (c__law_put_out : C8.Cal P w K mg base 1 "_law_put_out" (spPutOut K) []) : C8.Cal P w K mg base 7 "_law_cascade" (spCascade K) [] := by
  refine D.cal sc__law_cascade (fun vs H Q E h => ?_) (fun f cdv A outer s H vs Q E hr h => ?_)
  · obtain ⟨_, _, _, _, rfl, _⟩ := h
    rfl
  obtain ⟨v, pl, u, z, rfl, hd, hok, hs, hl, k⟩ := h
  refine ⟨_, (pss_cons (ps_set (i := 2) sc__law_cascade.nd rfl (by first | exact .inl rfl | exact .inr rfl) (pe_lc (own := [("_law_k", 7)]) rfl sc__law_cascade.nd (pi_range1 (by rfl) z_range (pa_cons (pe_callB call_len_seq (by rfl) z_len (by decide +kernel) (pa_cons (pv 1) pa_nil)) pa_nil)) (blkOk_by (by with_unfolding_all rfl)) (fun _ _ _ _ _ => (pg_name (i := 7) sc__law_cascade.nd rfl (by first | exact .inl rfl | exact .inr rfl))) (fun _ _ _ _ _ => pts_nil) (fun _ _ _ _ _ => (pe_tup (pa_cons (pe_ix (r := rIxT K) ix_tup (pv 1) (pv 7) (fun _ _ => rfl)) (pa_cons (pv 7) pa_nil))))))
     (pss_cons (ps_set (i := 3) sc__law_cascade.nd rfl (by first | exact .inl rfl | exact .inr rfl) (pe_lst pa_nil))
     (pss_cons (ps_for PassesOwn.never rfl (pi_tup (pv 0)) (pg_name (i := 4) sc__law_cascade.nd rfl (by first | exact .inl rfl | exact .inr rfl))
     (pss_cons (ps_set (i := 5) sc__law_cascade.nd rfl (by first | exact .inl rfl | exact .inr rfl) (pe_callTy call_tuple_of (by rfl) z_tuple (by decide +kernel) (pa_cons (pe_lc (own := [("_law_pair", 8)]) rfl sc__law_cascade.nd (pi_list (pv 2)) (blkOk_by (by with_unfolding_all rfl)) (fun _ _ _ _ _ => (pg_name (i := 8) sc__law_cascade.nd rfl (by first | exact .inl rfl | exact .inr rfl))) (fun _ _ _ _ _ => pts_nil) (fun _ _ _ _ _ => (pe_ix (r := rIxT K) ix_tup (pv 8) pe_int (fun _ _ => rfl)))) pa_nil)))
     (pss_cons (ps_set (i := 6) sc__law_cascade.nd rfl (by first | exact .inl rfl | exact .inr rfl) (C8.pe_c c__law_applied hr (by omega) (by rfl) (pa_cons (pv 4) (pa_cons (pv 5) pa_nil))))
     (pss_cons (ps_set (i := 2) sc__law_cascade.nd rfl (by first | exact .inl rfl | exact .inr rfl) (pe_lc (own := [("_law_sign", 9), ("_law_k", 7)]) rfl sc__law_cascade.nd (pi_list (C8.pe_c c__law_put_out hr (by omega) (by rfl) (pa_cons (pv 4) (pa_cons (pv 5) (pa_cons (pv 6) pa_nil))))) (blkOk_by (by with_unfolding_all rfl)) (fun _ _ _ _ _ => (pg_tupK (K := K) (n := 2) rfl rfl (pgs_cons (pg_name (i := 9) sc__law_cascade.nd rfl (by first | exact .inl rfl | exact .inr rfl)) (pgs_cons (pg_name (i := 7) sc__law_cascade.nd rfl (by first | exact .inl rfl | exact .inr rfl)) pgs_nil)))) (fun _ _ _ _ _ => pts_nil) (fun _ _ _ _ _ => (pe_tup (pa_cons (pv 9) (pa_cons (pe_ix (r := rIxT K) ix_tup (pe_ix (r := rIxL K) ix_list (pv 2) (pv 7) (fun _ _ => rfl)) pe_int (fun _ _ => rfl)) pa_nil))))))
     (pss_one (ps_expr (pe_bm PySem.F.plainAttrs_list PySem.F.slot_list_append PySem.F.type_list_append mt_append (pv 3) (pa_cons (pe_callTy call_tuple_of (by rfl) z_tuple (by decide +kernel) (pa_cons (pv 6) pa_nil)) pa_nil))))))))
     (pss_one (ps_ret (pe_tup (pa_cons (pe_callTy call_tuple_of (by rfl) z_tuple (by decide +kernel) (pa_cons (pv 2) pa_nil)) (pa_cons (pe_callTy call_tuple_of (by rfl) z_tuple (by decide +kernel) (pa_cons (pv 3) pa_nil)) pa_nil)))))))), ?_⟩
  obtain ⟨au, rfl, hU⟩ := seqI hs
  obtain ⟨b, xs, rfl, hTb, hA⟩ := Dp.tupI hd
  have lx := hA.len
  rw [List.length_map] at lx
  have lp := hok.1
  refine ⟨.ref au, rfl, au, _, rfl, .inr hU, _, rfl, by rw [List.length_map]; omega, by rw [List.length_map]; omega, fun D1 hD1 => lc_src (K := K) (Src.rng 0 (z.map symV).length) (fun _ _ => trivial) hD1 (by rw [List.length_map]; omega) (fun i d => d = pairD (z.getD i sym0, i)) (fun i x H2 acc Q' hi s2 e2 hy el => ?_) fun H2 zs0 es s2 e2 hl2 hF hE => ?_⟩
  · rw [Int.zero_add] at hy
    subst hy
    rw [List.length_map] at hi
    exact ⟨rfl, .ref au, rfl, _, rfl, au, _, _, _, rfl, rfl, s2.tup hU, atI_nat (getD_of hi), _, rfl, (by decide : 2 ≤ sizeLine), fun p hp => el _ _ _ (Same.new hp) rfl (Dp.del (Same.new hp _ _ e2) (Dp.tupN hp (.cons (.str _) (.one (.int _)))) rfl)⟩
  have ee : es = (numb z).map pairD := by
    rw [ds_of hl2 hF, List.length_map, numb, List.map_map]
    rfl
  subst ee
  refine ⟨Nat.zero_le _, fun o no => ?_⟩
  have So := Same.new (o := .lst []) no
  have n1 : D1 ≠ o := ne_of_none e2 no
  refine ⟨.ref b, rfl, b, rfl, ⟨xs, So.tup (s2.tup hTb)⟩, for_src (D := ⟨_, _, fun _ _ => True, fun _ _ => True⟩) (Src.tup b xs)
    (fun i σ H' => ∃ pp zs ys ds y4 y5 y6 y7 y8 y9, σ = [some (.ref b), some (.ref au), some (.ref pp), some (.ref o), y4, y5, y6, y7, y8, y9] ∧ Same H H' ∧ pp ≠ o ∧ H' pp = some (.lst zs) ∧ DpAll K H' zs ((excFrom (pl.take i) (numb z)).map pairD) ∧ H' o = some (.lst ys) ∧ DpAll K H' ys ds ∧ nlAll ds = true ∧ ds.length = i)
    ⟨D1, zs0, [], [], _, _, _, _, _, _, rfl, s2.trans So, n1, So _ _ e2, DpAll.mono (del_le.trans So) hE, upd_same, .nil, rfl, rfl⟩
    (fun i σ H' _ h => by obtain ⟨_, _, _, _, _, _, _, _, _, _, _, h, _⟩ := h; exact h.tup hTb) (fun i x σ H3 H4 hi hP s4 hy => ?_) fun σ H' hP => ?_⟩
  · obtain ⟨pp, zs, ys, ds, y4, y5, y6, y7, y8, y9, rfl, S3, npo, ep, hZ, eo, hY, nlds, lds⟩ := hP
    have S4 := S3.trans s4
    have ep4 := s4 _ _ ep
    have eo4 := s4 _ _ eo
    have hZ4 := DpAll.mono s4 hZ
    obtain ⟨d, hd1, pst⟩ := hA.get hy
    rw [List.getElem?_map] at hd1
    obtain ⟨st, hst, rfl⟩ := Option.map_eq_some_iff.mp hd1
    have hi' : i < pl.length := by omega
    obtain ⟨st3, stok⟩ := hok.2 st (List.mem_of_getElem? hst)
    have hlen := Nat.le_trans (exc_len hok hl i (by omega)) (pow3 (by omega))
    generalize hps : excFrom (pl.take i) (numb z) = ps at hZ hZ4 hlen
    have lz := hZ.len
    rw [List.length_map] at lz
    -- row
    refine ⟨.ref pp, rfl, pp, rfl, ⟨zs, SqL.of ep4⟩, fun D2 hD2 => lc_src (K := K) (Src.list pp zs) (fun H' s' => SqL.of (s' _ _ ep4)) hD2 (by omega) (fun j d => ∃ q, ps[j]? = some q ∧ d = symD q.1) (fun j x' H5 acc Q' hj s5 e5 hy' el => ?_) fun H5 rs es5 s5 e5 hl5 hF5 hE5 => ?_⟩
    · obtain ⟨d', hd2, pd⟩ := hZ4.get hy'
      rw [List.getElem?_map] at hd2
      obtain ⟨q, hq, rfl⟩ := Option.map_eq_some_iff.mp hd2
      obtain ⟨c, rfl, hTc⟩ := pairI (pd.mono s5)
      exact ⟨rfl, _, rfl, c, _, 0, _, rfl, rfl, hTc, atI_nat (j := 0) rfl, el H5 _ _ (Same.refl _) ⟨q, hq, rfl⟩ (.str _)⟩
    have e5' : es5 = (ps.map (·.1)).map symD := by
      refine List.ext_getElem? fun j => ?_
      rcases Nat.lt_or_ge j es5.length with q | q
      · obtain ⟨c', h1, h2⟩ := hF5 j _ (List.getElem?_eq_getElem q)
        rw [List.getElem?_eq_getElem q, h2, List.getElem?_map, List.getElem?_map, h1]
        rfl
      · rw [List.getElem?_eq_none q, List.getElem?_eq_none (by rw [List.length_map, List.length_map]; omega)]
    subst e5'
    refine ⟨D2, rs, rfl, .inl ⟨SqL.of e5, fun rp hrp => ?_⟩⟩
    have s6 := s5.trans (Same.new (o := .tup rs) hrp)
    have prow : Dp K (upd H5 rp (.tup rs)) (.ref rp) (seqD (ps.map (·.1))) := Dp.tupN hrp (DpAll.mono del_le hE5)
    generalize upd H5 rp (.tup rs) = H6 at s6 prow ⊢
    have lrow : (ps.map (·.1)).length ≤ 800 := by rw [List.length_map]; omega
    -- applied
    refine ⟨_, rfl, _, rfl, x, st, .ref rp, ps.map (·.1), rfl, pst.mono (S4.trans s6), stok, st3, prow, lrow, fun H7 va da s7 e7 p7 => ?_⟩
    subst e7
    have S7 := S4.trans (s6.trans s7)
    -- put out
    refine ⟨_, rfl, _, rfl, _, rfl, x, st, .ref rp, ps.map (·.1), va, rfl, pst.mono S7, stok, prow.mono s7, lrow, p7, fun H8 o8 ys8 s8 e8 hA8 => ?_⟩
    have lp8 := hA8.len
    rw [List.length_map] at lp8
    have lput := putOut_len (stOk_of stok) (ps.map (·.1))
    rw [List.length_map] at lput
    have sAll := s6.trans (s7.trans s8)
    have ep8 := sAll _ _ ep4
    have eo8 := sAll _ _ eo4
    have hZ8 := DpAll.mono sAll hZ4
    refine ⟨o8, rfl, ⟨ys8, SqL.of e8⟩, fun D3 hD3 => lc_src (K := K) (Src.list o8 ys8) (fun H' s' => SqL.of (s' _ _ e8)) hD3 (by omega) (fun j d => ∃ q, (putOut st (ps.map (·.1)))[j]? = some q ∧ d = pairD (q.1, (ps.map (·.2)).getD q.2 0)) (fun j x' H9 acc Q' hj s9 e9 hy' el => ?_) fun H9 ws fs s9 e9 hl9 hF9 hE9 => ?_⟩
    · obtain ⟨d', hd2, pd⟩ := hA8.get hy'
      rw [List.getElem?_map] at hd2
      obtain ⟨q, h1, rfl⟩ := Option.map_eq_some_iff.mp hd2
      obtain ⟨c, rfl, hTc⟩ := pairI (pd.mono s9)
      have hq := putOut_pos (List.mem_of_getElem? h1)
      rw [List.length_map] at hq
      obtain ⟨yq, hyq, pyq⟩ := hZ8.at_ (i := q.2) (d := pairD ps[q.2]) (by rw [List.getElem?_map, List.getElem?_eq_getElem hq]; rfl)
      obtain ⟨cq, rfl, hTq⟩ := pairI (pyq.mono s9)
      have eg : (ps.map (·.2)).getD q.2 0 = ps[q.2].2 := by rw [getD_get _ _ _ (by rw [List.length_map]; exact hq), List.getElem_map]
      refine ⟨c, _, rfl, hTc, rfl, _, _, rfl, _, _, rfl, rfl, rfl, _, rfl, _, rfl, _, rfl, pp, zs, _, _, rfl, rfl, SqL.of (s9 _ _ ep8), atI_nat hyq, cq, _, 1, _, rfl, rfl, hTq, atI_nat (j := 1) rfl, (by decide : 2 ≤ sizeLine), fun p hp => ?_⟩
      refine el _ _ _ (Same.new hp) ⟨q, h1, rfl⟩ (Dp.del (Same.new hp _ _ e9) (Dp.tupN hp (.cons (.str _) (.one ?_))) rfl)
      show Dp K _ _ (.int (((ps.map (·.2)).getD q.2 0 : Nat) : Int))
      rw [eg]
      exact .int _
    have ee9 : fs = (stageStep st ps).map pairD := by
      unfold stageStep
      refine List.ext_getElem? fun j => ?_
      rcases Nat.lt_or_ge j fs.length with q | q
      · obtain ⟨c', h1, h2⟩ := hF9 j _ (List.getElem?_eq_getElem q)
        rw [List.getElem?_eq_getElem q, h2, List.getElem?_map, List.getElem?_map, h1]
        rfl
      · rw [List.getElem?_eq_none q, List.getElem?_eq_none (by rw [List.length_map, List.length_map]; omega)]
    subst ee9
    have eo9 := s9 _ _ eo8
    have p9 := p7.mono (s8.trans s9)
    obtain ⟨aa, os, rfl, hLa, hO⟩ := Dp.lstI p9
    have nD3 : D3 ≠ o := Ne.symm (ne_of_none eo8 hD3)
    refine ⟨.ref o, rfl, .inl ⟨rfl, _, SqL.of eo9⟩, _, rfl, aa, os, rfl, .inl ⟨hLa, fun p2 hp2 => ?_⟩⟩
    have s10 := Same.new (o := .tup os) hp2
    have eo10 := s10 _ _ eo9
    have ly := hY.len
    have tu := Tups.upd (o := .lst (ys ++ [.ref p2])) eo10
    have sT := sAll.trans (s9.trans s10)
    refine ⟨o, ys, .ref p2, rfl, rfl, eo10, line200 (by omega), D3, ws, _, ds ++ [.tuple ((applied st (ps.map (·.1))).map optD)], _, _, _, _, _, _, rfl, fun b' u' e' => ?_, nD3, by rw [upd_ne nD3]; exact s10 _ _ e9, ?_, upd_same, ?_, ?_, by rw [List.length_append, lds]; rfl⟩
    · rw [upd_ne (ne_of_none e' (s2.free no))]
      exact sT _ _ (S4 _ _ e')
    · rw [take_snoc hst, exc_snoc, hps]
      exact DpAll.tups tu (DpAll.mono (del_le.trans s10) hE9) (nlAll_map nl_pair _)
    · exact DpAll.app (DpAll.tups tu (DpAll.mono (s4.trans sT) hY) nlds) (.one (Dp.tups tu (Dp.tupN hp2 hO) (nlAll_map nl_opt _)))
    · refine nlAll_of fun d' hd' => ?_
      rcases List.mem_append.mp hd' with h | h
      · exact nlAll_mem nlds d' h
      · rw [List.mem_singleton.mp h]
        exact nlAll_map nl_opt _
  · obtain ⟨pp, zs, ys, ds, y4, y5, y6, y7, y8, y9, rfl, S3, npo, ep, hZ, eo, hY, nlds, lds⟩ := hP
    rw [lx, List.take_length] at hZ
    refine ⟨.ref pp, rfl, pp, zs, rfl, .inl ⟨SqL.of ep, fun p1 hp1 => ⟨.ref o, rfl, o, ys, rfl, .inl ⟨SqL.of (Same.new hp1 _ _ eo), fun p2 hp2 => ⟨(by decide : 2 ≤ sizeLine), fun p3 hp3 => ?_⟩⟩⟩⟩⟩
    have s1 := Same.new (o := .tup zs) hp1
    have s2' := Same.new (o := .tup ys) hp2
    refine k _ _ _ (S3.trans (s1.trans (s2'.trans (Same.new hp3)))) ⟨_, rfl⟩ (Dp.tupN hp3 (.cons ((Dp.tupN hp1 hZ).mono s2') (.one (Dp.tupN hp2 (DpAll.mono s1 hY)))))
end
end K29
/-! The end for a law that asks repr of tuples: its def is told for the caller's own surroundings, where no repr is under way. -/
namespace K29
open PySem PySem.Spec PyProof.Rows L2 SX
section
variable {P : Program} {w : World} {K : PySem.W.Frag} {mg : Str → Option Value} {base : Heap}
/-- what is asked of the call of a def at given surroundings -/
def Runs (P : Program) (w : World) (A : Around) (f : Addr) (outer : List Env) (s : Shared) (H : Hp) (args : Args) (Q : VK) (E : XK) : Prop :=
  codeAny (model P w) A (.call (.ref f) args) (CR CX0 outer P w H s Q E) s
theorem run_at {x qual : Str} {st : Stmt} {f : Addr} {fd : FuncData} {N ps : List Str} {k : Nat} (F : Fun K x qual st f fd) (S : FnScope N ps (defScope st)) {A : Around} {outer : List Env} {s : Shared} {H : Hp} {args : Args} {us : List Value} {vs : List V} {Q : VK} {E : XK}
    (cnt : vs.length = ps.length) (room : Room (k + 1) A) (e0 : Env0 P w K mg base A outer s H) (bnd : BindsTo s fd args (ps.zip us)) (rel : Vals vs us)
    (body : ∀ cdv, Room k (A.deeper (envOfC qual (defScope st) s.heap.objs.size f cdv)) → ∃ t, PSs (cxOf CX0 P w K mg base N qual (defScope st) f cdv A outer s H E).nox (defBody st) t ∧ t { nx := fun _ H' => Q .non H', rt := Q } (start N vs) H) :
    Runs P w A f outer s H args Q E := by
  obtain ⟨oc, od, kV, doc, pm, an, cdv, ct, osl, rfl, look, code⟩ := F.ex
  have stands : ∀ {b : Addr} {o : Obj}, base.get? b = some o → s.heap.get? b = some o := fun q => (e0.bs _ _ q).1
  have inK : K.In s.heap := e0.mod.kin.keeps fun _ _ q => stands q
  have nolim : s.heap.NoLimit := e0.mod.nolimit.keeps fun _ _ q => stands q
  unfold Runs
  refine codeAny_call_function room.depth (inK _ _ look) rfl S.co S.gen rfl (PySem.W.codeRec_of inK code) (bnd _ _ _ _ (wpAny_newFunctionEnv_cells S.kind ?_ ?_))
  · rintro ⟨n, u⟩ hm
    cases S.par n (List.of_mem_zip hm).1 with
    | inl q => exact .inl q
    | inr q => exact .inr ⟨q, PySem.W.cellsFrom_some _ _ _ (.inl q)⟩
  · rintro env rfl s1 step
    refine ⟨nolim.keeps step.toInCall.keep, codeAny_func ?_⟩
    obtain ⟨t, reads, goal⟩ := body cdv (room.deeper _)
    have inv0 : Inv (cxOf CX0 P w K mg base N qual (defScope st) f cdv A outer s H E) [] (start N vs) H s1 := inv_start S room.hd e0 cnt rel step
    refine wpAny_mono (reads.nox.run [] s1 (start N vs) H _ inv0 goal) (fun out s2 fin => ?_) fun _ _ q => q
    cases out with
    | brk => exact False.elim fin.choose_spec.choose_spec.2
    | cont => exact False.elim fin.choose_spec.choose_spec.2
    | next =>
      obtain ⟨_, H', J, q⟩ := fin
      exact ⟨V.non, H', J.os, J.bare, J.base, J.hok, rfl, q⟩
    | ret u =>
      obtain ⟨v, _, H', J, rv, q⟩ := fin
      exact ⟨v, H', J.os, J.bare, J.base, J.hok, rv, q⟩
/-- the heap that knows the script alone, where the module does not know it -/
def seen (K : PySem.W.Frag) (a : Addr) (o : Obj) (xs : List V) : Hp := fun b => if b = a ∧ K.lookup a = none then some (.frz o (.lst xs)) else none
theorem seen_none {a b : Addr} {o : Obj} {xs : List V} (h : ¬ (b = a ∧ K.lookup a = none)) : seen K a o xs b = none := if_neg h
theorem seen_some {a b : Addr} {o : Obj} {xs : List V} {u : HO} (h : seen K a o xs b = some u) : (b = a ∧ K.lookup a = none) ∧ u = .frz o (.lst xs) := by
  unfold seen at h
  split at h
  · rename_i c
    exact ⟨c, (Option.some.inj h).symm⟩
  · cases h
theorem seen_only (a : Addr) (o : Obj) (xs : List V) : Only (seen K a o xs) := fun b => by
  cases e : seen K a o xs b with
  | none => exact .inl rfl
  | some u =>
    obtain ⟨_, rfl⟩ := seen_some e
    exact .inr ⟨_, _, rfl⟩
theorem top_call {mb : Str → Option Value} {f a : Addr} {s : Shared} {vs : List Value} {ns : List Int} (inK : K.In s.heap) (nsG : s.heap.Ns mainGlobals mg) (nsB : s.heap.Ns builtinsNs mb) (bb : ∀ y : Str, y ≠ "__name__" → mb y = bootBuiltins y) (nolim : s.heap.NoLimit) (gens : s.gens = #[])
    (script : s.heap.get? a = some { cls := .type "list", data := .seq vs.toArray }) (nums : IntsAre vs ns) (short : ns.length ≤ sizeLine)
    (law : ∀ (base : Heap) (H : Hp), K.In base → base.Ns mainGlobals mg → Env0 P w K mg base callerA [] s H → SqL K H a (ns.map V.int) → Runs P w callerA f [] s H ⟨[.ref a], []⟩ (fun v _ => v = .bl true) fun _ _ _ => False) :
    codeAny (model P w) callerA (.call (.ref f) ⟨[.ref a], []⟩) (fun r s' => r = .ok (.ret (.bool true)) ∧ OldK s.heap s'.heap ∧ s'.os = s.os ∧ AllBare s'.gens) s := by
  generalize eO : ({ cls := .type "list", data := .seq vs.toArray } : Obj) = O at script
  generalize eH : seen K a O (ns.map V.int) = H
  have rv := vals_ints nums
  have only : Only H := by rw [← eH]; exact seen_only _ _ _
  have at_a : ∀ {b : Addr}, H b ≠ none → b = a ∧ K.lookup a = none := fun {b} q => by
    cases e : H b with
    | none => exact absurd e q
    | some u => rw [← eH] at e; exact (seen_some e).1
  have hok : HOk P w H s.heap := fun b u e => by
    rw [← eH] at e
    obtain ⟨⟨rfl, _⟩, rfl⟩ := seen_some e
    subst eO
    exact ⟨script, by rw [List.length_map]; exact short, vs, _, rv, script⟩
  have known : SqL K H a (ns.map V.int) := by
    cases e : K.lookup a with
    | none => exact .inl (.inr ⟨O, by rw [← eH]; exact if_pos ⟨rfl, e⟩⟩)
    | some o =>
      have q := inK a o e
      rw [script] at q
      cases q
      subst eO
      exact .inr ⟨_, vs.toArray, _, e, rfl, rfl, rfl, by rw [List.size_toArray, nums.length]; exact short, by simpa using rv⟩
  have under : ∀ {b : Addr} {m : Str → Option Value}, s.heap.Ns b m → (hidT s.heap H).Ns b m := fun {b m} ⟨o, es, ep, q, d, r⟩ => by
    refine ⟨o, es, ep, hidT_get q ?_, d, r⟩
    cases e : H b with
    | none => rfl
    | some u =>
      obtain ⟨rfl, _⟩ := at_a (b := b) (by rw [e]; simp)
      rw [script] at q
      cases q
      subst eO
      cases d
  have inB : K.In (hidT s.heap H) := fun b o q => hidT_get (inK b o q) (by
    cases e : H b with
    | none => rfl
    | some u =>
      obtain ⟨rfl, z⟩ := at_a (b := b) (by rw [e]; simp)
      rw [z] at q
      cases q)
  have lim : (hidT s.heap H).NoLimit := by
    obtain ⟨mc, l1, l2⟩ := nolim
    exact ⟨mc, under l1, l2⟩
  have e0 : Env0 P w K mg (hidT s.heap H) callerA [] s H :=
    ⟨rfl, ⟨inB, under nsG, ⟨mb, under nsB, bb⟩, lim⟩, fun _ _ q => of_hidT q, Nat.le_of_eq (hidT_size _ _), trivial, fun b q => absurd (show b ∈ ([] : List Addr) from q) (by simp), hok, .of_eq gens⟩
  have go := law _ H inB (under nsG) e0 known
  unfold Runs at go
  refine codeAny_mono go fun r s' fin => ?_
  match r, fin with
  | .error _, z => exact False.elim z
  | .ok .next, z => exact False.elim z
  | .ok .brk, z => exact False.elim z
  | .ok .cont, z => exact False.elim z
  | .ok (.ret u), ⟨v, H', os, bare, un, hok', rr, q⟩ =>
    obtain rfl : v = .bl true := q
    obtain rfl : u = Value.bool true := rr
    refine ⟨rfl, OldK.of_keep fun b o eb => ?_, os, bare⟩
    cases e : H b with
    | none => exact un.keep b o eb e (by intro z; exact absurd (show b ∈ ([] : List Addr) from z) (by simp)) (by simp)
    | some t =>
      rcases only b with z | ⟨ob, zs, z⟩
      · rw [e] at z
        cases z
      · obtain ⟨g1, _⟩ := hok b _ z
        obtain ⟨g2, _⟩ := hok' b _ (un.frzs b ob _ z)
        rw [eb] at g1
        cases g1
        exact g2
end
theorem top_walk {l : PySem.W.OpenLaw} {n : Nat} {q : Program} {loose : List Str} {XP : (Str → Option Value) → Heap → Prop} {YP : World → Heap → Prop} {d : DefRec} {K : Params → PySem.W.Frag}
    (most : l.most = some n) (fits : n ≤ sizeLine) (nodef : d.params.defaults = []) (has : ∀ (w : World) (h : Heap), YP w h → (K w.params).In h)
    (law : ∀ (w : World) (mg : Str → Option Value) (f : Addr) (h : Heap), (K w.params).In h → h.Ns mainGlobals mg → mg d.name = some (.ref f) →
      ∀ (base : Heap) (s : Shared) (H : Hp) (a : Addr) (ns : List Int), (K w.params).In base → base.Ns mainGlobals mg → Env0 l.prog w (K w.params) mg base callerA [] s H → SqL (K w.params) H a (ns.map V.int) → ns.length ≤ n →
        Runs l.prog w callerA f [] s H ⟨[.ref a], []⟩ (fun v _ => v = .bl true) fun _ _ _ => False) :
    PySem.W.WalkO q loose XP YP l.row.toRowW d [] (fun f vs => PySem.call f vs) := by
  refine Att.attach_call most nodef fun w _ s mg mb f o pm cd doc a vs ns G Y _ _ _ named obj nums short gens => ?_
  have inK := has w _ Y
  exact top_call inK G.T.g G.T.b G.T.builtins G.T.nolimit gens obj nums (Nat.le_trans short fits) fun base H b1 b2 e0 known => law w mg f _ inK G.T.g named base s H a ns b1 b2 e0 known short
end K29
/-! What repr asks of the data: short texts. -/
namespace K29
open PySem PySem.Spec PyProof.Rows L2 SX
structure Shw (d : PyData) : Prop where
  sh : d.showable = true
  nd : d.hasDict = false
  lv : d.leavesShort 8 = true
theorem shw_all : ∀ {xs : List PyData}, (∀ x ∈ xs, Shw x) → PyData.showableAll xs = true ∧ PyData.hasDictAll xs = false ∧ PyData.leavesShortAll 8 xs = true
  | [], _ => ⟨rfl, rfl, rfl⟩
  | x :: xs, h => by
    have h1 := h x (List.mem_cons_self ..)
    obtain ⟨a, b, c⟩ := shw_all fun y hy => h y (List.mem_cons_of_mem _ hy)
    simp only [PyData.showableAll, PyData.hasDictAll, PyData.leavesShortAll, h1.sh, h1.nd, h1.lv, a, b, c]
    exact ⟨rfl, rfl, rfl⟩
theorem Shw.tup {xs : List PyData} (h : ∀ x ∈ xs, Shw x) : Shw (.tuple xs) := by
  obtain ⟨a, b, c⟩ := shw_all h
  exact ⟨by simpa only [PyData.showable] using a, by simpa only [PyData.hasDict] using b, by simpa only [PyData.leavesShort] using c⟩
theorem depth_all : ∀ {xs : List PyData} {c : Nat}, (∀ x ∈ xs, x.depth ≤ c) → PyData.depthAll xs ≤ c
  | [], _, _ => by simp only [PyData.depthAll]; omega
  | x :: xs, c, h => by
    have h1 := h x (List.mem_cons_self ..)
    have h2 := depth_all (c := c) fun y hy => h y (List.mem_cons_of_mem x hy)
    simp only [PyData.depthAll]
    omega
theorem bulk_all : ∀ {xs : List PyData} {c : Nat}, (∀ x ∈ xs, x.bulk ≤ c) → PyData.bulkAll xs ≤ (c + 1) * xs.length
  | [], _, _ => by simp only [PyData.bulkAll]; omega
  | x :: xs, c, h => by
    have h1 := h x (List.mem_cons_self ..)
    have h2 := bulk_all (c := c) fun y hy => h y (List.mem_cons_of_mem x hy)
    simp only [PyData.bulkAll, List.length_cons, Nat.mul_succ]
    omega
theorem shw_int {n : Nat} (h : n < 6) : Shw (.int (n : Nat)) := by
  have : n = 0 ∨ n = 1 ∨ n = 2 ∨ n = 3 ∨ n = 4 ∨ n = 5 := by omega
  rcases this with rfl | rfl | rfl | rfl | rfl | rfl <;> exact ⟨by decide +kernel, rfl, by decide +kernel⟩
theorem shw_sym {s : Sym} (h1 : s.1 < 128) (h2 : s.2 < 128) : Shw (symD s) := ⟨rfl, rfl, by
  simp only [PyData.leavesShort, List.all_eq_true, decide_eq_true_eq]
  intro c hc
  have hc' : c = s.1 ∨ c = s.2 := by simpa [S] using hc
  rcases hc' with rfl | rfl <;> omega⟩
/-- fit for repr -/
structure Rp (d : PyData) : Prop where
  sh : d.showable = true
  nd : d.hasDict = false
  dp : d.depth ≤ 60
  sz : d.shown.length ≤ sizeLine
theorem Rp.of {d : PyData} (h : Shw d) (hd : d.depth ≤ 60) (hb : d.bulk ≤ 1048576) : Rp d :=
  ⟨h.sh, h.nd, hd, PyData.shown_fits_bulk (B := 8) (by decide) (by decide) h.lv (Nat.le_trans hb (by decide))⟩
def PairOk (p : Sym × Nat) : Prop := p.1.1 < 128 ∧ p.1.2 < 128 ∧ p.2 < 6
theorem rp_pairs {ps : List (Sym × Nat)} (h : ∀ p ∈ ps, PairOk p) (hl : ps.length ≤ 162) : Rp (pairsD ps) := by
  refine Rp.of (Shw.tup fun x hx => ?_) ?_ ?_
  · obtain ⟨p, hp, rfl⟩ := List.mem_map.mp hx
    obtain ⟨a, b, c⟩ := h p hp
    exact Shw.tup fun y hy => by
      simp only [List.mem_cons, List.not_mem_nil, or_false] at hy
      rcases hy with rfl | rfl
      · exact shw_sym a b
      · exact shw_int c
  · have := depth_all (xs := ps.map pairD) (c := 1) fun x hx => by
      obtain ⟨p, hp, rfl⟩ := List.mem_map.mp hx
      exact Nat.le_refl _
    show PyData.depth (.tuple (ps.map pairD)) ≤ 60
    simp only [PyData.depth]
    omega
  · have := bulk_all (xs := ps.map pairD) (c := 4) fun x hx => by
      obtain ⟨p, hp, rfl⟩ := List.mem_map.mp hx
      exact Nat.le_refl _
    show PyData.bulk (.tuple (ps.map pairD)) ≤ 1048576
    simp only [PyData.bulk]
    rw [List.length_map] at this
    omega
theorem rp_trace {ls : List (List (Option Nat))} (hl : ls.length ≤ 3) (h : ∀ l ∈ ls, l.length ≤ 162 ∧ ∀ i, some i ∈ l → i < 6) : Rp (traceD ls) := by
  refine Rp.of (Shw.tup fun x hx => ?_) ?_ ?_
  · obtain ⟨l, hl, rfl⟩ := List.mem_map.mp hx
    refine Shw.tup fun y hy => ?_
    obtain ⟨o, ho, rfl⟩ := List.mem_map.mp hy
    cases o with
    | none => exact ⟨rfl, rfl, rfl⟩
    | some i => exact shw_int ((h l hl).2 i ho)
  · have := depth_all (xs := ls.map rowD) (c := 1) fun x hx => by
      obtain ⟨l, hl, rfl⟩ := List.mem_map.mp hx
      have := depth_all (xs := l.map optD) (c := 0) fun y hy => by
        obtain ⟨o, ho, rfl⟩ := List.mem_map.mp hy
        cases o <;> exact Nat.le_refl _
      show PyData.depth (.tuple (l.map optD)) ≤ 1
      simp only [PyData.depth]
      omega
    show PyData.depth (.tuple (ls.map rowD)) ≤ 60
    simp only [PyData.depth]
    omega
  · have := bulk_all (xs := ls.map rowD) (c := 162) fun x hx => by
      obtain ⟨l, hl, rfl⟩ := List.mem_map.mp hx
      have := bulk_all (xs := l.map optD) (c := 0) fun y hy => by
        obtain ⟨o, ho, rfl⟩ := List.mem_map.mp hy
        cases o <;> exact Nat.le_refl _
      have := (h l hl).1
      show PyData.bulk (.tuple (l.map optD)) ≤ 162
      simp only [PyData.bulk]
      rw [List.length_map] at *
      omega
    show PyData.bulk (.tuple (ls.map rowD)) ≤ 1048576
    simp only [PyData.bulk]
    rw [List.length_map] at this
    omega
/-! ### codes and places of what a cascade puts out -/
theorem getD_mem {w : List Sym} {k : Nat} (h : k < w.length) : w.getD k sym0 ∈ w := by
  rw [getD_get _ _ _ h]
  exact List.getElem_mem h
theorem put_codes {st : List Rule} {w : List Sym} (hw : ∀ s ∈ w, s.1 < 128 ∧ s.2 < 128) (hs : ∀ r ∈ st, ∀ c ∈ r.out, c < 128) : ∀ p ∈ putOut st w, p.1.1 < 128 ∧ p.1.2 < 128 := by
  intro p hp
  obtain ⟨k, hk, hp⟩ := List.mem_flatMap.mp hp
  rw [List.mem_range] at hk
  unfold putAt at hp
  split at hp
  · cases hp
  · split at hp
    · cases hp
    · rename_i r hr
      obtain ⟨s, hs', rfl⟩ := List.mem_map.mp hp
      obtain ⟨c, hc, rfl⟩ := List.mem_map.mp hs'
      split
      · exact hw _ (getD_mem hk)
      · exact ⟨(by show 64 < 128; decide), hs r (List.mem_of_getElem? hr) c hc⟩
theorem stage_pairs {st : List Rule} {ps : List (Sym × Nat)} (hp : ∀ p ∈ ps, PairOk p) (hs : ∀ r ∈ st, ∀ c ∈ r.out, c < 128) : ∀ p ∈ stageStep st ps, PairOk p := by
  intro p h
  obtain ⟨q, hq, rfl⟩ := List.mem_map.mp h
  obtain ⟨a, b⟩ := put_codes (w := ps.map (·.1)) (fun s hs' => by
    obtain ⟨p, h1, rfl⟩ := List.mem_map.mp hs'
    exact ⟨(hp p h1).1, (hp p h1).2.1⟩) hs q hq
  refine ⟨a, b, ?_⟩
  have hk := putOut_pos hq
  show (ps.map (·.2)).getD q.2 0 < 6
  have hk' : q.2 < (ps.map (·.2)).length := by rw [List.length_map] at hk ⊢; exact hk
  rw [getD_get _ _ _ hk', List.getElem_map]
  exact (hp _ (List.getElem_mem _)).2.2
theorem exc_pairs : ∀ {pl : List (List Rule)} {ps : List (Sym × Nat)}, (∀ p ∈ ps, PairOk p) → (∀ st ∈ pl, ∀ r ∈ st, ∀ c ∈ r.out, c < 128) → ∀ p ∈ excFrom pl ps, PairOk p
  | [], ps, h, _ => h
  | st :: pl, ps, h, hs => exc_pairs (pl := pl) (ps := stageStep st ps) (stage_pairs h (hs st (List.mem_cons_self ..))) fun s hs' => hs s (List.mem_cons_of_mem _ hs')
theorem numb_pairs {w : List Sym} (hw : ∀ s ∈ w, s.1 < 128 ∧ s.2 < 128) (hl : w.length ≤ 6) : ∀ p ∈ numb w, PairOk p := by
  intro p hp
  obtain ⟨k, hk, rfl⟩ := List.mem_map.mp hp
  rw [List.mem_range] at hk
  obtain ⟨a, b⟩ := hw _ (getD_mem hk)
  exact ⟨a, b, by show k < 6; omega⟩
theorem trc_len : ∀ (pl : List (List Rule)) (w : List Sym), (trc pl w).length = pl.length
  | [], _ => rfl
  | st :: pl, w => by rw [trc, List.length_cons, trc_len pl, List.length_cons]
theorem trc_rows : ∀ {pl : List (List Rule)} {w : List Sym} {N : Nat}, (∀ st ∈ pl, st.length ≤ 3 ∧ StOk st) → w.length * 3 ^ pl.length ≤ N → ∀ l ∈ trc pl w, l.length ≤ N ∧ ∀ i, some i ∈ l → i < 6
  | [], _, _, _, _, l, hl => by cases hl
  | st :: pl, w, N, hs, hN, l, hl => by
    rw [trc, List.mem_cons] at hl
    rw [List.length_cons, Nat.pow_succ] at hN
    obtain ⟨s3, sok⟩ := hs st (List.mem_cons_self ..)
    rcases hl with rfl | hl
    · constructor
      · unfold applied
        rw [List.length_map, List.length_range]
        have h1 : 1 ≤ 3 ^ pl.length * 3 := Nat.mul_pos (Nat.pos_of_ne_zero (by simp)) (by decide)
        exact Nat.le_trans (Nat.le_mul_of_pos_right _ h1) hN
      · intro i hi
        obtain ⟨k, _, hk⟩ := List.mem_map.mp hi
        have := firstR_lt hk
        omega
    · refine trc_rows (pl := pl) (fun s hs' => hs s (List.mem_cons_of_mem _ hs')) ?_ l hl
      have := putOut_len sok w
      rw [List.length_map]
      refine Nat.le_trans (Nat.mul_le_mul_right _ this) ?_
      rw [Nat.mul_comm 3, Nat.mul_assoc, Nat.mul_comm 3]
      exact hN
end K29
namespace K29
open PySem PySem.Spec PyProof.Rows L2 SX
theorem drop_cut {xs : List V} {n : Nat} (h : n ≤ xs.length) : cutV xs (some ((n : Nat) : Int)) none = xs.drop n := by
  unfold cutV
  rw [HT.sIx_nat, HT.sIx_none, Nat.min_eq_left h]
  exact List.take_of_length_le (by rw [List.length_drop]; omega)
theorem syms_drop (lt ow : List Nat) : (symsOf lt ow).drop lt.length = ow.flatMap (rowOf lt) := by
  unfold symsOf
  rw [List.flatMap_cons, List.drop_append_of_le_length (by rw [rowOf, List.length_map]; exact Nat.le_refl _), List.drop_eq_nil_of_le (by rw [rowOf, List.length_map]; exact Nat.le_refl _)]
  rfl
theorem ixN_at {n k : Nat} (h : k < n) : ixN n ((k : Nat) : Int) = some k := by
  unfold ixN
  rw [if_pos (by omega), if_pos (by omega), Int.toNat_natCast]
section
variable {P : Program} {w : World} {K : PySem.W.Frag} {mg : Str → Option Value} {base : Heap}
abbrev s_law : Stmt := topS 44
theorem sc_law : FnScope ["_law_script", "_law_tape_here", "_law_letters", "_law_owners_here", "_law_pair", "_law_pipeline", "_law_signs", "_law_first", "_law_at", "_law_holder", "_law_second", "_law_told", "_law_due", "_law_sign", "_law_origin"] ["_law_script"] (defScope s_law) := ⟨rfl, rfl, rfl, by decide +kernel, rfl, by decide +kernel, by decide +kernel⟩
/-- what the law's def finds at hand -/
structure Calls (P : Program) (w : World) (K : PySem.W.Frag) (mg : Str → Option Value) (base : Heap) : Prop where
  tape : C8.Cal P w K mg base 1 "_law_tape" (spTape K) []
  draw : C8.Cal P w K mg base 1 "_law_draw" spDraw []
  rising : C8.Cal P w K mg base 2 "_law_rising" spRising []
  owners : C8.Cal P w K mg base 3 "_law_owners" spOwners []
  blurred : C8.Cal P w K mg base 5 "_law_blurred_stages" (spBlurredStages K) []
  stages : C8.Cal P w K mg base 12 "_law_stages" (spStages K) []
  symbols : C8.Cal P w K mg base 1 "_law_symbols" spSymbols []
  sequence : C8.Cal P w K mg base 2 "_law_sequence" (spSequence K) []
  cascade : C8.Cal P w K mg base 7 "_law_cascade" (spCascade K) []
  excerpt : C8.Cal P w K mg base 17 "excerpt" (spExcerpt K) []
  trace : C8.Cal P w K mg base 17 "trace" (spTrace K) []
set_option maxHeartbeats 4000000 in
theorem ok_law {f : Addr} {fd : FuncData} (F : Fun K "law" "law" s_law f fd) (C : Calls P w K mg base) (z_len : mg "len" = none) (z_list : mg "list" = none) (z_tuple : mg "tuple" = none) (z_repr : mg "repr" = none)
    {s : Shared} {H : Hp} {a : Addr} {ns : List Int} (room : Room 18 callerA) (e0 : Env0 P w K mg base callerA [] s H) (bnd : BindsTo s fd ⟨[.ref a], []⟩ [("_law_script", .ref a)]) (script : SqL K H a (ns.map V.int)) (short : ns.length ≤ 63) :
    Runs P w callerA f [] s H ⟨[.ref a], []⟩ (fun v _ => v = .bl true) fun _ _ _ => False := by
  refine run_at (k := 17) (ps := ["_law_script"]) (us := [.ref a]) (vs := [.ref a]) F sc_law rfl room e0 bnd (.cons rfl .nil) fun cdv hr => ?_
  have hu64 := hr.units
  have hgd : (callerA.deeper (envOfC "law" (defScope s_law) s.heap.objs.size f cdv)).guards = some [] := rfl
  have c__law_tape := C.tape
  have c__law_draw := C.draw
  have c__law_rising := C.rising
  have c__law_owners := C.owners
  have c__law_blurred_stages := C.blurred
  have c__law_stages := C.stages
  have c__law_symbols := C.symbols
  have c__law_sequence := C.sequence
  have c__law_cascade := C.cascade
  have c_excerpt := C.excerpt
  have c_trace := C.trace
  refine ⟨_, (pss_cons (ps_set (i := 1) sc_law.nd rfl (by first | exact .inl rfl | exact .inr rfl) (C8.pe_c c__law_tape hr (by omega) (by rfl) (pa_cons (pv 0) pa_nil)))
     (pss_cons (ps_set (i := 2) sc_law.nd rfl (by first | exact .inl rfl | exact .inr rfl) (C8.pe_c c__law_rising hr (by omega) (by rfl) (pa_cons (pv 1) (pa_cons pe_str (pa_cons (pe_op op_add pe_int (C8.pe_c c__law_draw hr (by omega) (by rfl) (pa_cons (pv 1) (pa_cons pe_int pa_nil)))) pa_nil)))))
     (pss_cons (ps_set (i := 3) sc_law.nd rfl (by first | exact .inl rfl | exact .inr rfl) (C8.pe_c c__law_owners hr (by omega) (by rfl) (pa_cons (pv 1) pa_nil)))
     (pss_cons (ps_set (i := 4) sc_law.nd rfl (by first | exact .inl rfl | exact .inr rfl) (pe_slice sl_str (pv 2) po_none (po_some pe_int)))
     (C8.pss_cut (ps_if (pt_cmpR op_eq (C8.pe_c c__law_draw hr (by omega) (by rfl) (pa_cons (pv 1) (pa_cons pe_int pa_nil))) pe_int (nomark _))
     (pss_one (ps_set (i := 4) sc_law.nd rfl (by first | exact .inl rfl | exact .inr rfl) (pe_op op_add_str (pe_ix ix_str (pv 2) (pe_un un_neg pe_int) (fun _ _ => rfl)) (pe_ix ix_str (pv 2) pe_int (fun _ _ => rfl)))))
     pss_nil)
     (pss_cons (ps_set (i := 5) sc_law.nd rfl (by first | exact .inl rfl | exact .inr rfl) (C8.pe_c c__law_blurred_stages hr (by omega) (by rfl) (pa_cons (C8.pe_c c__law_stages hr (by omega) (by rfl) (pa_cons (pv 1) (pa_cons (pv 2) (pa_cons (pv 3) (pa_cons pe_int pa_nil))))) (pa_cons (pv 4) pa_nil))))
     (pss_cons (ps_set (i := 6) sc_law.nd rfl (by first | exact .inl rfl | exact .inr rfl) (pe_slice sl_list (C8.pe_c c__law_symbols hr (by omega) (by rfl) (pa_cons (pv 2) (pa_cons (pv 3) pa_nil))) (po_some (pe_callB call_len_str (by rfl) z_len (by decide +kernel) (pa_cons (pv 2) pa_nil))) po_none))
     (pss_cons (ps_set (i := 7) sc_law.nd rfl (by first | exact .inl rfl | exact .inr rfl) (pe_op op_cat (pe_callTy call_list_of (by rfl) z_list (by decide +kernel) (pa_cons (C8.pe_c c__law_sequence hr (by omega) (by rfl) (pa_cons (pv 1) (pa_cons (pv 6) (pa_cons pe_int pa_nil)))) pa_nil)) (pe_lst (pa_cons (pe_ix ix_list (pv 6) pe_int (fun _ _ => rfl)) pa_nil))))
     (pss_cons (ps_set (i := 8) sc_law.nd rfl (by first | exact .inl rfl | exact .inr rfl) (C8.pe_c c__law_draw hr (by omega) (by rfl) (pa_cons (pv 1) (pa_cons (pe_callB call_len_seq (by rfl) z_len (by decide +kernel) (pa_cons (pv 7) pa_nil)) pa_nil))))
     (pss_cons (ps_set (i := 9) sc_law.nd rfl (by first | exact .inl rfl | exact .inr rfl) (pe_ix ix_str (pv 3) (C8.pe_c c__law_draw hr (by omega) (by rfl) (pa_cons (pv 1) (pa_cons (pe_callB call_len_str (by rfl) z_len (by decide +kernel) (pa_cons (pv 3) pa_nil)) pa_nil))) (fun _ _ => rfl)))
     (pss_cons (ps_asg (pe_op op_add_str (pv 9) (pe_ix ix_str (pv 4) pe_int (fun _ _ => rfl))) (pg_sub (pv 7) (pv 8) set_list))
     (pss_cons (ps_set (i := 10) sc_law.nd rfl (by first | exact .inl rfl | exact .inr rfl) (pe_callTy call_list_of (by rfl) z_list (by decide +kernel) (pa_cons (pv 7) pa_nil)))
     (pss_cons (ps_asg (pe_op op_add_str (pv 9) (pe_ix ix_str (pv 4) pe_int (fun _ _ => rfl))) (pg_sub (pv 10) (pv 8) set_list))
     (pss_cons (ps_set (i := 11) sc_law.nd rfl (by first | exact .inl rfl | exact .inr rfl) (C8.pe_c c_excerpt hr (by omega) (by rfl) (pa_cons (pv 5) (pa_cons (pe_callTy call_tuple_of (by rfl) z_tuple (by decide +kernel) (pa_cons (pv 7) pa_nil)) pa_nil))))
     (pss_cons (ps_if (pt_cmpR op_ne (pe_callB (cr_reprD hgd hu64) (by rfl) z_repr (by decide +kernel) (pa_cons (pv 11) pa_nil)) (pe_callB (cr_reprD hgd hu64) (by rfl) z_repr (by decide +kernel) (pa_cons (pe_ix ix_tup (C8.pe_c c__law_cascade hr (by omega) (by rfl) (pa_cons (pv 5) (pa_cons (pe_callTy call_tuple_of (by rfl) z_tuple (by decide +kernel) (pa_cons (pv 7) pa_nil)) pa_nil))) pe_int (fun _ _ => rfl)) pa_nil)) (nomark _))
     (pss_one (ps_ret pe_bl))
     pss_nil)
     (pss_cons (ps_set (i := 12) sc_law.nd rfl (by first | exact .inl rfl | exact .inr rfl) (pe_lst pa_nil))
     (pss_cons (ps_for PassesOwn.never rfl (pi_tup (pv 11)) (pg_tup rfl (pgs_cons (pg_name (i := 13) sc_law.nd rfl (by first | exact .inl rfl | exact .inr rfl)) (pgs_cons (pg_name (i := 14) sc_law.nd rfl (by first | exact .inl rfl | exact .inr rfl)) pgs_nil)))
     (C8.pss_cut (ps_if (PW.pt (pw_and (pt_cmpR op_eq (pv 14) (pv 8) (nomark _)) (pw_and1 (pt_cmpR op_eq (pv 13) (pe_ix ix_list (pv 7) (pv 8) (fun _ _ => rfl)) (nomark _)))))
     (pss_one (ps_set (i := 13) sc_law.nd rfl (by first | exact .inl rfl | exact .inr rfl) (pe_ix ix_list (pv 10) (pv 8) (fun _ _ => rfl))))
     pss_nil)
     (pss_one (ps_expr (pe_bm PySem.F.plainAttrs_list PySem.F.slot_list_append PySem.F.type_list_append mt_append (pv 12) (pa_cons (pe_tup (pa_cons (pv 13) (pa_cons (pv 14) pa_nil))) pa_nil))))))
     (pss_cons (ps_if (pt_cmpR op_ne (pe_callB (cr_reprD hgd hu64) (by rfl) z_repr (by decide +kernel) (pa_cons (C8.pe_c c_excerpt hr (by omega) (by rfl) (pa_cons (pv 5) (pa_cons (pe_callTy call_tuple_of (by rfl) z_tuple (by decide +kernel) (pa_cons (pv 10) pa_nil)) pa_nil))) pa_nil)) (pe_callB (cr_reprD hgd hu64) (by rfl) z_repr (by decide +kernel) (pa_cons (pe_callTy call_tuple_of (by rfl) z_tuple (by decide +kernel) (pa_cons (pv 12) pa_nil)) pa_nil)) (nomark _))
     (pss_one (ps_ret pe_bl))
     pss_nil)
     (pss_one (ps_ret (pe_cmpR op_eq (pe_callB (cr_reprD hgd hu64) (by rfl) z_repr (by decide +kernel) (pa_cons (C8.pe_c c_trace hr (by omega) (by rfl) (pa_cons (pv 5) (pa_cons (pe_callTy call_tuple_of (by rfl) z_tuple (by decide +kernel) (pa_cons (pv 10) pa_nil)) pa_nil))) pa_nil)) (pe_callB (cr_reprD hgd hu64) (by rfl) z_repr (by decide +kernel) (pa_cons (C8.pe_c c_trace hr (by omega) (by rfl) (pa_cons (pv 5) (pa_cons (pe_callTy call_tuple_of (by rfl) z_tuple (by decide +kernel) (pa_cons (pv 7) pa_nil)) pa_nil))) pa_nil)) (nomark _)))))))))))))))))))))), ?_⟩
  have l26 : lower.length = 26 := rfl
  -- the tape
  refine ⟨_, rfl, a, ns, rfl, script, short, fun H1 tp tl s1 ntp t1 => ?_⟩
  -- the letters
  refine ⟨_, rfl, _, rfl, tp, tl, 2, rfl, t1, by decide, fun H2 r2 k2 t2 r20 r21 => ⟨_, _, rfl, rfl, ?_⟩⟩
  refine ⟨tp, tl, lower, _, (by rw [← lower_eq]; rfl), t2, by omega, by omega, by omega, fun H3 lt k3 t3 ltl ltm => ?_⟩
  have lt2 : 2 ≤ lt.length := by omega
  have lt3 : lt.length ≤ 3 := by omega
  -- the owners
  refine ⟨_, rfl, tp, tl, rfl, t3, fun H4 ow k4 t4 ow1 ow3 owm => ?_⟩
  have al : Alf lt ow := ⟨by omega, lt3, ow1, ow3⟩
  have lsz : (S lt).length ≤ sizeLine := by rw [S_len]; exact Nat.le_of_lt (line200 (by omega))
  have osz : (S ow).length ≤ sizeLine := by rw [S_len]; exact Nat.le_of_lt (line200 (by omega))
  have codes : ∀ c ∈ lt, c < 128 := fun c hc => by have := lower_mem.mp (ltm c hc); omega
  -- the pair
  refine ⟨_, rfl, 2, rfl, _, rfl, lsz, ?_⟩
  obtain ⟨q0, q1, lr, elt⟩ : ∃ q0 q1 lr, lt = q0 :: q1 :: lr := by
    match lt, lt2 with
    | x :: y :: r, _ => exact ⟨x, y, r, rfl⟩
  have cut2 : cutS (S lt) none (some 2) = S [q0, q1] := by
    rw [C8.cutS_slice, SX.slice_to (by decide), elt]
    rfl
  rw [cut2]
  refine ⟨fun σ' H' => ∃ p0 p1, σ' = [some (.ref a), some (.ref tp), some (.str (S lt)), some (.str (S ow)), some (.str (S [p0, p1])), none, none, none, none, none, none, none, none, none, none] ∧ p0 ∈ lt ∧ p1 ∈ lt ∧ Kp tp H4 H' ∧ Tape tl H' tp, ?_, fun σ' H5 hM => ?_⟩
  · have m0 : q0 ∈ lt := by rw [elt]; simp
    have m1 : q1 ∈ lt := by rw [elt]; simp
    refine ⟨_, rfl, tp, tl, 2, rfl, t4, by decide, fun H5 r5 k5 t5 r50 r51 => ⟨rfl, _, rfl, ite2 (fun _ => ?_) (fun _ => ⟨q0, q1, rfl, m0, m1, k5, t5⟩)⟩⟩
    obtain ⟨li, ll, ell⟩ : ∃ li ll, lt = li ++ [ll] := by
      rcases List.eq_nil_or_concat lt with e | ⟨x, y, e⟩
      · rw [e] at lt2; exact absurd lt2 (by decide)
      · exact ⟨x, y, by rw [e, List.concat_eq_append]⟩
    have toL : ∀ l : List Nat, (S l).cps.toList = l := fun l => by simp [S]
    have atl : atI (S lt).cps.toList (-1) = some ll := by rw [toL, ell]; exact atI_last _ _
    have at0 : atI (S lt).cps.toList ((0 : Nat) : Int) = some q0 := by rw [toL, elt]; exact atI_nat rfl
    have s11 : (S [ll]).length + (S [q0]).length ≤ sizeLine := by rw [S_len, S_len]; exact Nat.le_of_lt (line200 (by show 1 + 1 ≤ _; omega))
    refine ⟨_, rfl, 1, rfl, _, -1, ll, rfl, rfl, lsz, atl, _, rfl, _, _, q0, rfl, rfl, lsz, at0, _, _, rfl, rfl, s11, ll, q0, ?_, by rw [ell]; simp, m0, k5, t5⟩
    have e : (S [ll] ++ S [q0]) = S [ll, q0] := by rw [S_cat]; rfl
    show (List.set _ 4 (some (V.str (S [ll] ++ S [q0])))) = _
    rw [e]
    rfl
  obtain ⟨p0, p1, rfl, mp0, mp1, k5, t5⟩ := hM
  have hp0 := ltm p0 mp0
  have hp1 := ltm p1 mp1
  -- the pipeline
  refine ⟨_, rfl, _, rfl, _, rfl, tp, tl, lt, ow, rfl, t5, al, codes, fun H6 v6 d6 k6 t6 g6 p6 => ?_⟩
  obtain ⟨pl, rfl, plw⟩ := g6
  refine ⟨_, rfl, v6, pl, p0, p1, rfl, p6, plw, fun H7 vp d7 s7 e7 p7 => ?_⟩
  subst e7
  generalize hpb : (pl.map fun st => st.map (blurR p0 p1)) = pb at p7
  have pbok : PipeOk pb := by rw [← hpb]; exact plw.ok p0 p1
  have pbr : ∀ st ∈ pb, ∀ r ∈ st, RBlr p0 p1 r := by
    rw [← hpb]
    intro st hst r hr
    obtain ⟨s', _, rfl⟩ := List.mem_map.mp hst
    obtain ⟨r', _, rfl⟩ := List.mem_map.mp hr
    exact blurR_ok hp0 hp1 r'
  have pbc : ∀ st ∈ pb, ∀ r ∈ st, ∀ c ∈ r.out, c < 128 := by
    rw [← hpb]
    intro st hst r hr
    obtain ⟨s', hs', rfl⟩ := List.mem_map.mp hst
    obtain ⟨r', hr', rfl⟩ := List.mem_map.mp hr
    exact ((plw.2 s' hs').2 r' hr').codes
  have t7 := t6.mono s7
  -- the symbols
  refine ⟨_, rfl, _, rfl, lt, ow, rfl, lt3, ow3, fun H8 o8 s8 no8 eo8 => ⟨_, rfl, _, rfl, lsz, ((lt.length : Nat) : Int), (by rw [S_len]), ?_⟩⟩
  refine ⟨o8, _, rfl, SqL.of eo8, fun sg8 nsg => ?_⟩
  have ecut : cutV ((symsOf lt ow).map symV) (some ((lt.length : Nat) : Int)) none = (ow.flatMap (rowOf lt)).map symV := by
    rw [drop_cut, ← List.map_drop, syms_drop]
    rw [List.length_map, symsOf, List.flatMap_cons, List.length_append, rowOf, List.length_map]
    omega
  rw [ecut]
  generalize hsg : ow.flatMap (rowOf lt) = sg
  have sgm : ∀ y ∈ sg, y.1 ∈ ow ∧ y.2 ∈ lt := fun y hy => by
    rw [← hsg] at hy
    obtain ⟨h, hh, hy⟩ := List.mem_flatMap.mp hy
    obtain ⟨c, hc, rfl⟩ := List.mem_map.mp hy
    exact ⟨hh, hc⟩
  have sgc : ∀ y ∈ sg, y.1 < 128 ∧ y.2 < 128 := fun y hy => by
    obtain ⟨a1, a2⟩ := sgm y hy
    have := upper_mem (owm _ a1)
    exact ⟨by omega, codes _ a2⟩
  obtain ⟨sg0, sgr, esg⟩ : ∃ y r, sg = y :: r := by
    match ow, ow1, hsg with
    | h :: r, _, hsg => exact ⟨(h, q0), _, by rw [← hsg, List.flatMap_cons, elt]; rfl⟩
  have sgl : sg.length ≤ 9 := by rw [← hsg]; have := rows_len lt3 ow; omega
  have sgl1 : 1 ≤ sg.length := by rw [esg]; simp
  have snsg := Same.new (o := .lst (sg.map symV)) nsg
  have t8 := (t7.mono s8).mono snsg
  have ntsg : sg8 ≠ tp := tp_ne (t7.mono s8) nsg
  -- the sequence
  refine ⟨_, rfl, _, rfl, tp, tl, sg8, sg, rfl, t8, upd_same, ntsg, sgl1, by omega, fun H9 v9 d9 k9 t9 g9 p9 => ?_⟩
  obtain ⟨w0, rfl, w05, w0m⟩ := g9
  obtain ⟨q9, rfl, hT9⟩ := seqI p9
  have esg9 := k9 _ _ ntsg upd_same
  refine ⟨q9, _, rfl, .inr hT9, fun l9 nl9 => ?_⟩
  have sl9 := Same.new (o := .lst (w0.map symV)) nl9
  refine ⟨_, rfl, sg8, _, _, _, rfl, rfl, SqL.of (sl9 _ _ esg9), atI_nat (j := 0) (by rw [esg]; rfl), (by decide : 1 ≤ sizeLine), fun o9 no9 => ?_⟩
  have so9 := Same.new (o := .lst [symV sg0]) no9
  refine ⟨l9, o9, _, _, rfl, rfl, so9 _ _ upd_same, upd_same, ?_, fun fa nfa => ?_⟩
  · rw [List.length_map]; exact Nat.le_of_lt (line200 (by show w0.length + 1 ≤ _; omega))
  have sfa := Same.new (o := .lst (w0.map symV ++ [symV sg0])) nfa
  have ewn : w0.map symV ++ [symV sg0] = (w0 ++ [sg0]).map symV := by rw [List.map_append]; rfl
  rw [ewn] at sfa ⊢
  generalize hwn : w0 ++ [sg0] = wn at sfa ⊢
  have wnl : wn.length ≤ 6 := by rw [← hwn, List.length_append, List.length_singleton]; omega
  have wn1 : 1 ≤ wn.length := by rw [← hwn, List.length_append, List.length_singleton]; omega
  have wnc : ∀ y ∈ wn, y.1 < 128 ∧ y.2 < 128 := fun y hy => by
    rw [← hwn] at hy
    rcases List.mem_append.mp hy with h | h
    · exact sgc y (w0m y h)
    · rw [List.mem_singleton.mp h]; exact sgc sg0 (by rw [esg]; simp)
  have sA := sl9.trans (so9.trans sfa)
  have t9' := t9.mono sA
  have nft : fa ≠ tp := tp_ne ((t9.mono sl9).mono so9) nfa
  have k79 : Kp tp H7 _ := (Kp.of (s8.trans snsg)).trans (k9.trans (Kp.of sA))
  have efa9 : (upd (upd (upd H9 l9 (.lst (w0.map symV))) o9 (.lst [symV sg0])) fa (.lst (wn.map symV))) fa = some (.lst (wn.map symV)) := upd_same
  generalize (upd (upd (upd H9 l9 (.lst (w0.map symV))) o9 (.lst [symV sg0])) fa (.lst (wn.map symV))) = H9' at sA t9' k79 efa9 ⊢
  -- the place
  refine ⟨_, rfl, .ref fa, rfl, fa, _, rfl, .inl (SqL.of efa9), tp, tl, _, rfl, t9', by rw [List.length_map]; omega, fun H10 r10 k10 t10 rr0 rr1 => ?_⟩
  rw [List.length_map] at rr1
  obtain ⟨at_, rfl⟩ : ∃ n : Nat, r10 = ((n : Nat) : Int) := ⟨r10.toNat, by omega⟩
  have hat : at_ < wn.length := by omega
  -- the holder
  refine ⟨_, rfl, _, rfl, _, rfl, _, rfl, osz, tp, tl, _, rfl, t10, by rw [S_len]; omega, fun H11 r11 k11 t11 ro0 ro1 => ?_⟩
  rw [S_len] at ro1
  obtain ⟨x, hx1, hx2⟩ := atI_mem (xs := (S ow).cps.toList) (r := r11) ro0 (by show r11 < ((S ow).cps.toList.length : Nat); rw [show (S ow).cps.toList = ow by simp [S]]; omega)
  have hx3 : x ∈ ow := by simpa [S] using hx2
  have hxu := upper_mem (owm x hx3)
  have hx64 : x ≠ 64 := by omega
  refine ⟨_, _, x, rfl, rfl, osz, hx1, ?_⟩
  have k711 := k79.trans (k10.trans k11)
  have p11 := dp_kp p7 k711 t7 (nl_pipe pb)
  have efa11 := k11 _ _ nft (k10 _ _ nft efa9)
  -- first[at] = holder + pair[0]
  have psz : (S [p0, p1]).length ≤ sizeLine := by rw [S_len]; exact Nat.le_of_lt (line200 (by show 2 ≤ _; omega))
  have at0 : atI (S [p0, p1]).cps.toList ((0 : Nat) : Int) = some p0 := atI_nat rfl
  have at1 : atI (S [p0, p1]).cps.toList ((1 : Nat) : Int) = some p1 := atI_nat rfl
  have s11 : ∀ c : Nat, (S [x]).length + (S [c]).length ≤ sizeLine := fun c => by rw [S_len, S_len]; exact Nat.le_of_lt (line200 (by show 1 + 1 ≤ _; omega))
  refine ⟨_, rfl, _, rfl, _, _, p0, rfl, rfl, psz, at0, _, _, rfl, rfl, s11 p0, .ref fa, rfl, _, rfl, fa, _, _, at_, rfl, rfl, efa11, ixN_at (by rw [List.length_map]; exact hat), ?_⟩
  have eset : ∀ (z : List Sym) (c : Nat), (z.map symV).set at_ (.str (S [x] ++ S [c])) = (z.set at_ (x, c)).map symV := fun z c => by
    rw [S_cat, List.map_set]
    rfl
  rw [eset]
  generalize hw1 : wn.set at_ (x, p0) = w1
  have w1l : w1.length = wn.length := by rw [← hw1, List.length_set]
  have tu1 := Tups.upd (o := .lst (w1.map symV)) efa11
  have p12 := Dp.tups tu1 p11 (nl_pipe pb)
  have efa12 : (upd H11 fa (.lst (w1.map symV))) fa = some (.lst (w1.map symV)) := upd_same
  generalize (upd H11 fa (.lst (w1.map symV))) = H12 at p12 efa12 ⊢
  -- second
  refine ⟨.ref fa, rfl, fa, _, rfl, .inl (SqL.of efa12), fun gb ngb => ?_⟩
  have sgb := Same.new (o := .lst (w1.map symV)) ngb
  have nfg : fa ≠ gb := ne_of_none efa12 ngb
  refine ⟨_, rfl, _, rfl, _, _, p1, rfl, rfl, psz, at1, _, _, rfl, rfl, s11 p1, .ref gb, rfl, _, rfl, gb, _, _, at_, rfl, rfl, upd_same, ixN_at (by rw [List.length_map]; omega), ?_⟩
  rw [eset]
  generalize hw2 : w1.set at_ (x, p1) = w2
  have w2l : w2.length = wn.length := by rw [← hw2, List.length_set, w1l]
  have tu2 := Tups.upd (H := upd H12 gb (.lst (w1.map symV))) (o := .lst (w2.map symV)) upd_same
  have p14 := Dp.tups tu2 (p12.mono sgb) (nl_pipe pb)
  have efa14 : (upd (upd H12 gb (.lst (w1.map symV))) gb (.lst (w2.map symV))) fa = some (.lst (w1.map symV)) := by rw [upd_ne nfg]; exact sgb _ _ efa12
  have egb14 : (upd (upd H12 gb (.lst (w1.map symV))) gb (.lst (w2.map symV))) gb = some (.lst (w2.map symV)) := upd_same
  generalize (upd (upd H12 gb (.lst (w1.map symV))) gb (.lst (w2.map symV))) = H14 at p14 efa14 egb14 ⊢
  -- the plain law
  have h1at : w1[at_]? = some (x, p0) := by rw [← hw1, List.getElem?_set_self hat]
  have h2at : w2[at_]? = some (x, p1) := by rw [← hw2, List.getElem?_set_self (by omega)]
  have w1c : ∀ y ∈ w1, y.1 < 128 ∧ y.2 < 128 := fun y hy => by
    rw [← hw1] at hy
    rcases List.mem_or_eq_of_mem_set hy with h | h
    · exact wnc y h
    · rw [h]; exact ⟨by show x < 128; omega, codes p0 mp0⟩
  have w2c : ∀ y ∈ w2, y.1 < 128 ∧ y.2 < 128 := fun y hy => by
    rw [← hw2] at hy
    rcases List.mem_or_eq_of_mem_set hy with h | h
    · exact w1c y h
    · rw [h]; exact ⟨by show x < 128; omega, codes p1 mp1⟩
  have w16 : w1.length ≤ 6 := by omega
  have w26 : w2.length ≤ 6 := by omega
  have enum : numb w2 = (numb w1).map (swp (x, p0) (x, p1) at_) := by rw [← hw2]; exact numb_set h1at
  have eexc : exc pb w2 = (exc pb w1).map (swp (x, p0) (x, p1) at_) := by
    unfold exc
    rw [enum]
    exact exc_swp hx64 pb pbr (numb w1)
  have etrc : trc pb w2 = trc pb w1 := by
    have h := trc_swp (n := at_) hx64 pb pbr (numb w1)
    rw [← enum, numb_syms, numb_syms] at h
    exact h
  have lenx : ∀ z : List Sym, z.length ≤ 6 → (exc pb z).length ≤ 162 := fun z hz => by
    have := exc_len pbok hz pb.length (Nat.le_refl _)
    rw [List.take_length] at this
    exact Nat.le_trans this (pow3 pbok.1)
  have rp1 : Rp (pairsD (exc pb w1)) := rp_pairs (exc_pairs (numb_pairs w1c w16) pbc) (lenx w1 w16)
  have rp2 : Rp (pairsD (exc pb w2)) := rp_pairs (exc_pairs (numb_pairs w2c w26) pbc) (lenx w2 w26)
  have rpt : ∀ z : List Sym, z.length ≤ 6 → Rp (traceD (trc pb z)) := fun z hz => by
    refine rp_trace (by rw [trc_len]; exact pbok.1) (trc_rows (fun st hst => ⟨(pbok.2 st hst).1, fun r hr => ((pbok.2 st hst).2 r hr).2.2⟩) ?_)
    refine Nat.le_trans (Nat.mul_le_mul_right _ hz) ?_
    exact pow3 pbok.1
  -- told
  refine ⟨_, rfl, .ref fa, rfl, fa, _, rfl, .inl ⟨SqL.of efa14, fun q15 nq15 => ?_⟩⟩
  have s15 := Same.new (o := .tup (w1.map symV)) nq15
  refine ⟨vp, pb, .ref q15, w1, rfl, p14.mono s15, pbok, Dp.tupN nq15 (of_syms w1), w16, fun H16 vt dt s16 e16 p16 => ?_⟩
  subst e16
  obtain ⟨ta, txs, rfl, hTt, hAt⟩ := Dp.tupI p16
  have S16 := s15.trans s16
  have pp16 := p14.mono S16
  have ef16 := S16 _ _ efa14
  have eg16 := S16 _ _ egb14
  -- repr(told) != repr(cascade(..)[0])
  refine ⟨_, rfl, _, _, rfl, p16, rp1.sh, rp1.nd, rp1.dp, rp1.sz, ?_⟩
  refine ⟨_, rfl, .ref fa, rfl, fa, _, rfl, .inl ⟨SqL.of ef16, fun q17 nq17 => ?_⟩⟩
  have s17 := Same.new (o := .tup (w1.map symV)) nq17
  refine ⟨vp, pb, .ref q17, w1, rfl, pp16.mono s17, pbok, Dp.tupN nq17 (of_syms w1), w16, fun H18 vc dc s18 e18 p18 => ?_⟩
  obtain ⟨dsc, rfl⟩ := e18
  obtain ⟨ca, cxs, rfl, hTc, hAc⟩ := Dp.tupI p18
  obtain ⟨c0, cr, rfl, pc0, _⟩ := hAc.consI
  obtain ⟨ca0, _, rfl, _, _⟩ := Dp.tupI pc0
  have S18 := s17.trans s18
  refine ⟨ca, _, 0, _, rfl, rfl, hTc, atI_nat (j := 0) rfl, _, _, rfl, pc0, rp1.sh, rp1.nd, rp1.dp, rp1.sz, rfl, _, rfl, ?_⟩
  rw [decide_eq_true rfl]
  refine iteF ?_
  -- due
  refine ⟨Nat.zero_le _, fun o no => ?_⟩
  have So := Same.new (o := .lst []) no
  have S19 := S18.trans So
  refine ⟨.ref ta, rfl, ta, rfl, ⟨txs, S19.tup hTt⟩, for_src (Src.tup ta txs)
    (fun i σ H' => ∃ y13 y14, σ = [some (.ref a), some (.ref tp), some (.str (S lt)), some (.str (S ow)), some (.str (S [p0, p1])), some vp, some (.ref sg8), some (.ref fa), some (.int ((at_ : Nat) : Int)), some (.str (S [x])), some (.ref gb), some (.ref ta), some (.ref o), y13, y14] ∧ Same H18 H' ∧ ∃ ys, H' o = some (.lst ys) ∧ DpAll K H' ys ((((exc pb w1).take i).map (swp (x, p0) (x, p1) at_)).map pairD))
    ⟨_, _, rfl, So, [], upd_same, .nil⟩ (fun i σ H' _ h => by obtain ⟨_, _, _, h, _⟩ := h; exact h.tup (S18.tup hTt)) (fun i y σ H20 H21 hi hP s21 hy => ?_) fun σ H22 hP => ?_⟩
  · obtain ⟨y13, y14, rfl, S20, ys, eo, hY⟩ := hP
    have S21 := S20.trans s21
    have eo21 := s21 _ _ eo
    have hY21 := DpAll.mono s21 hY
    obtain ⟨d, hd1, pd⟩ := hAt.get hy
    rw [List.getElem?_map] at hd1
    obtain ⟨q, hq, rfl⟩ := Option.map_eq_some_iff.mp hd1
    obtain ⟨T, rfl, hTT⟩ := pairI (pd.mono (S18.trans S21))
    have ef21 := (S18.trans S21) _ _ ef16
    have eg21 := (S18.trans S21) _ _ eg16
    refine ⟨T, _, rfl, hTT, rfl, _, _, rfl, _, _, rfl, rfl, ?_⟩
    refine ⟨fun σ' H' => H' = H21 ∧ σ' = [some (.ref a), some (.ref tp), some (.str (S lt)), some (.str (S ow)), some (.str (S [p0, p1])), some vp, some (.ref sg8), some (.ref fa), some (.int ((at_ : Nat) : Int)), some (.str (S [x])), some (.ref gb), some (.ref ta), some (.ref o), some (symV (swp (x, p0) (x, p1) at_ q).1), some (.int ((q.2 : Nat) : Int))], ?_, fun σ' H' hM => ?_⟩
    · refine ⟨_, rfl, _, rfl, rfl, _, rfl, ite2 (fun e1 => ⟨_, rfl, .ref fa, rfl, _, rfl, fa, _, _, _, rfl, rfl, SqL.of ef21, atI_nat (j := at_) (by rw [List.getElem?_map, h1at]; rfl), rfl, _, rfl, ite2 (fun e2 => ?_) (fun e2 => ?_)⟩) (fun e1 => itf ?_)⟩
      · have n1 : q.2 = at_ := by have := V.int.inj (of_decide_eq_true e1); omega
        have n2 : q.1 = (x, p0) := by
          have := S_inj (str_eq (of_decide_eq_true e2))
          cases q with
          | mk s n =>
            cases s with
            | mk s1 s2 =>
              simp only [List.cons.injEq, and_true] at this
              obtain ⟨rfl, rfl⟩ := this
              rfl
        refine ⟨.ref gb, rfl, _, rfl, gb, _, _, _, rfl, rfl, SqL.of eg21, atI_nat (j := at_) (by rw [List.getElem?_map, h2at]; rfl), rfl, ?_⟩
        unfold swp
        rw [if_pos ⟨n1, n2⟩]
        rfl
      · refine ⟨rfl, ?_⟩
        unfold swp
        rw [if_neg (fun z => e2 (decide_eq_true (by rw [z.2])))]
        rfl
      · refine ⟨rfl, ?_⟩
        unfold swp
        rw [if_neg (fun z => e1 (decide_eq_true (by rw [z.1])))]
        rfl
    · obtain ⟨rfl, rfl⟩ := hM
      refine ⟨.ref o, rfl, .inl ⟨rfl, _, SqL.of eo21⟩, _, rfl, _, rfl, (by decide : 2 ≤ sizeLine), fun p hp => ?_⟩
      have sp := Same.new (o := .tup [symV (swp (x, p0) (x, p1) at_ q).1, .int ((q.2 : Nat) : Int)]) hp
      have eop := sp _ _ eo21
      have ly := hY.len
      rw [List.length_map, List.length_map, List.length_take] at ly
      have lx := lenx w1 w16
      have tu := Tups.upd (o := .lst (ys ++ [.ref p])) eop
      refine ⟨o, ys, .ref p, rfl, rfl, eop, line200 (by omega), _, _, rfl, fun b u e => ?_, _, upd_same, ?_⟩
      · rw [upd_ne (ne_of_none e no)]
        exact sp _ _ (S21 _ _ e)
      · rw [take_snoc hq, List.map_append, List.map_append]
        refine DpAll.app (DpAll.tups tu (DpAll.mono sp hY21) (nlAll_map nl_pair _)) (.one (Dp.tups tu ?_ (nl_pair _)))
        refine Dp.tupN hp (.cons (.str _) (.one ?_))
        rw [swp_2]
        exact .int _
  · obtain ⟨y13, y14, rfl, S20, ys, eo, hY⟩ := hP
    have lxs := hAt.len
    rw [List.length_map] at lxs
    rw [lxs, List.take_length, ← eexc] at hY
    have S22 := S18.trans S20
    have pp22 := pp16.mono S22
    have ef22 := S22 _ _ ef16
    have eg22 := S22 _ _ eg16
    -- repr(excerpt(second)) != repr(tuple(due))
    refine ⟨_, rfl, .ref gb, rfl, gb, _, rfl, .inl ⟨SqL.of eg22, fun q23 nq23 => ?_⟩⟩
    have s23 := Same.new (o := .tup (w2.map symV)) nq23
    refine ⟨vp, pb, .ref q23, w2, rfl, pp22.mono s23, pbok, Dp.tupN nq23 (of_syms w2), w26, fun H24 v24 d24 s24 e24 p24 => ?_⟩
    subst e24
    obtain ⟨a24, _, rfl, _, _⟩ := Dp.tupI p24
    have S24 := s23.trans s24
    refine ⟨_, _, rfl, p24, rp2.sh, rp2.nd, rp2.dp, rp2.sz, .ref o, rfl, o, ys, rfl, .inl ⟨SqL.of (S24 _ _ eo), fun q25 nq25 => ?_⟩⟩
    have s25 := Same.new (o := .tup ys) nq25
    have p25 : Dp K _ (.ref q25) (pairsD (exc pb w2)) := Dp.tupN nq25 (DpAll.mono S24 hY)
    refine ⟨_, _, rfl, p25, rp2.sh, rp2.nd, rp2.dp, rp2.sz, rfl, _, rfl, ?_⟩
    rw [decide_eq_true rfl]
    refine iteF ?_
    -- the traces
    have S25 := S24.trans s25
    have pp25 := pp22.mono S25
    have ef25 := S25 _ _ ef22
    have eg25 := S25 _ _ eg22
    refine ⟨_, rfl, .ref gb, rfl, gb, _, rfl, .inl ⟨SqL.of eg25, fun q26 nq26 => ?_⟩⟩
    have s26 := Same.new (o := .tup (w2.map symV)) nq26
    refine ⟨vp, pb, .ref q26, w2, rfl, pp25.mono s26, pbok, Dp.tupN nq26 (of_syms w2), w26, fun H27 v27 d27 s27 e27 p27 => ?_⟩
    subst e27
    obtain ⟨a27, _, rfl, _, _⟩ := Dp.tupI p27
    have S27 := s26.trans s27
    refine ⟨_, _, rfl, p27, (rpt w2 w26).sh, (rpt w2 w26).nd, (rpt w2 w26).dp, (rpt w2 w26).sz, _, rfl, .ref fa, rfl, fa, _, rfl, .inl ⟨SqL.of (S27 _ _ ef25), fun q28 nq28 => ?_⟩⟩
    have s28 := Same.new (o := .tup (w1.map symV)) nq28
    refine ⟨vp, pb, .ref q28, w1, rfl, (pp25.mono S27).mono s28, pbok, Dp.tupN nq28 (of_syms w1), w16, fun H29 v29 d29 s29 e29 p29 => ?_⟩
    subst e29
    obtain ⟨a29, _, rfl, _, _⟩ := Dp.tupI p29
    refine ⟨_, _, rfl, p29, (rpt w1 w16).sh, (rpt w1 w16).nd, (rpt w1 w16).dp, (rpt w1 w16).sz, rfl, ?_⟩
    rw [etrc, decide_eq_true rfl]
end
end K29
/-! The defs as they stand behind the top; the law's end. -/
namespace K29
open PySem PySem.Spec PyProof.Rows L2 SX
/-- a def of the text at its module name, as the written part holds it -/
structure At (K : PySem.W.Frag) (x : Str) (st : Stmt) (f : Addr) : Prop where
  ex : ∃ (oc : Value) (od : Option Addr) (kV doc pm : Value) (an : Option Addr) (cd ct : Value) (sl : Array (Option Value)),
    K.lookup f = some ⟨oc, od, .func (PySem.W.fnOf x x (defArgs st) (defBody st) (defScope st) .none kV doc pm an cd ct), sl⟩ ∧ PySem.W.codeIn K cd x = true
  nm : PySem.W.nsIn K mainGlobals x = some (some (.ref f))
  kp : PySem.W.keepIn K (.ref f) = true
theorem at_mk {K : PySem.W.Frag} {x : Str} {st : Stmt} {f : Addr} {oc kV doc pm cd ct : Value} {od an : Option Addr} {sl : Array (Option Value)} (a : PySem.W.nsIn K mainGlobals x = some (some (.ref f)))
    (l : K.lookup f = some ⟨oc, od, .func (PySem.W.fnOf x x (defArgs st) (defBody st) (defScope st) .none kV doc pm an cd ct), sl⟩) (c : PySem.W.codeIn K cd x = true) (k : PySem.W.keepIn K (.ref f) = true) : ∃ f, At K x st f := ⟨f, ⟨_, _, _, _, _, _, _, _, _, l, c⟩, a, k⟩
theorem At.fn {K : PySem.W.Frag} {x : Str} {st : Stmt} {f : Addr} (h : At K x st f) : ∃ fd, Fun K x x st f fd := by
  obtain ⟨oc, od, kV, doc, pm, an, cd, ct, sl, l, c⟩ := h.ex
  exact ⟨_, fun_mk l c h.kp⟩
theorem At.df {K : PySem.W.Frag} {x : Str} {st : Stmt} {ps : List Str} {h : Heap} {mg : Str → Option Value} (X : K.In h) (G : h.Ns mainGlobals mg) (d : ∃ f, At K x st f)
    (b : ∀ (kV doc pm : Value) (an : Option Addr) (cdv ct : Value) (us : List Value), us.length = ps.length → bindArgs (PySem.W.fnOf x x (defArgs st) (defBody st) (defScope st) .none kV doc pm an cdv ct) ⟨us, []⟩ = pure (ps.zip us)) : Df K mg x st ps := by
  obtain ⟨f, d⟩ := d
  obtain ⟨fd, F⟩ := d.fn
  exact ⟨f, fd, F, PySem.W.mg_of X G d.nm, F.binds b⟩
theorem ed_mk {K : PySem.W.Frag} {v : Value} (h : PySem.W.nsIn K mainGlobals "EDITOR" = some (some v)) (e : ∃ tk, v = .str (S [64]) tk) : ∃ tk, PySem.W.nsIn K mainGlobals "EDITOR" = some (some (.str (S [64]) tk)) := by
  obtain ⟨tk, rfl⟩ := e
  exact ⟨tk, h⟩
/-- all that the top has written -/
structure Top (K : PySem.W.Frag) : Prop where
  d_operands : ∃ f, At K "operands" (topS 1) f
  d_mirrored : ∃ f, At K "mirrored" (topS 2) f
  d_belongs : ∃ f, At K "belongs" (topS 4) f
  d_distinct : ∃ f, At K "distinct" (topS 5) f
  d_state_of_then : ∃ f, At K "state_of_then" (topS 6) f
  d_state_of_star : ∃ f, At K "state_of_star" (topS 7) f
  d_state_of_two : ∃ f, At K "state_of_two" (topS 8) f
  d_started : ∃ f, At K "started" (topS 9) f
  d_advanced : ∃ f, At K "advanced" (topS 10) f
  d_beginnings : ∃ f, At K "beginnings" (topS 11) f
  d_endings : ∃ f, At K "endings" (topS 12) f
  d_rule_output : ∃ f, At K "rule_output" (topS 15) f
  d_rules_applied : ∃ f, At K "rules_applied" (topS 16) f
  d_stage_output : ∃ f, At K "stage_output" (topS 17) f
  d_symbols_of : ∃ f, At K "symbols_of" (topS 18) f
  d_excerpt : ∃ f, At K "excerpt" (topS 19) f
  d_trace : ∃ f, At K "trace" (topS 20) f
  d__law_tape : ∃ f, At K "_law_tape" (topS 22) f
  d__law_draw : ∃ f, At K "_law_draw" (topS 23) f
  d__law_rising : ∃ f, At K "_law_rising" (topS 24) f
  d__law_owners : ∃ f, At K "_law_owners" (topS 25) f
  d__law_blurred : ∃ f, At K "_law_blurred" (topS 26) f
  d__law_blurred_stages : ∃ f, At K "_law_blurred_stages" (topS 27) f
  d__law_leaf : ∃ f, At K "_law_leaf" (topS 28) f
  d__law_node : ∃ f, At K "_law_node" (topS 29) f
  d__law_wild : ∃ f, At K "_law_wild" (topS 30) f
  d__law_pattern : ∃ f, At K "_law_pattern" (topS 31) f
  d__law_flank : ∃ f, At K "_law_flank" (topS 32) f
  d__law_rule : ∃ f, At K "_law_rule" (topS 33) f
  d__law_rules : ∃ f, At K "_law_rules" (topS 34) f
  d__law_stages : ∃ f, At K "_law_stages" (topS 35) f
  d__law_symbols : ∃ f, At K "_law_symbols" (topS 36) f
  d__law_sequence : ∃ f, At K "_law_sequence" (topS 37) f
  d__law_belongs : ∃ f, At K "_law_belongs" (topS 38) f
  d__law_repeated : ∃ f, At K "_law_repeated" (topS 39) f
  d__law_table : ∃ f, At K "_law_table" (topS 40) f
  d__law_applied : ∃ f, At K "_law_applied" (topS 41) f
  d__law_put_out : ∃ f, At K "_law_put_out" (topS 42) f
  d__law_cascade : ∃ f, At K "_law_cascade" (topS 43) f
  d_law : ∃ f, At K "law" (topS 44) f
  z_tuple : PySem.W.nsIn K mainGlobals "tuple" = some none
  z_any : PySem.W.nsIn K mainGlobals "any" = some none
  z_sorted : PySem.W.nsIn K mainGlobals "sorted" = some none
  z_len : PySem.W.nsIn K mainGlobals "len" = some none
  z_enumerate : PySem.W.nsIn K mainGlobals "enumerate" = some none
  z_range : PySem.W.nsIn K mainGlobals "range" = some none
  z_int : PySem.W.nsIn K mainGlobals "int" = some none
  z_abs : PySem.W.nsIn K mainGlobals "abs" = some none
  z_list : PySem.W.nsIn K mainGlobals "list" = some none
  z_max : PySem.W.nsIn K mainGlobals "max" = some none
  z_repr : PySem.W.nsIn K mainGlobals "repr" = some none
  m_EDITOR : ∃ tk, PySem.W.nsIn K mainGlobals "EDITOR" = some (some (.str (S [64]) tk))
set_option maxHeartbeats 4000000 in
theorem calls_of {P : Program} {w : World} {K : PySem.W.Frag} {h base : Heap} {mg : Str → Option Value} (T : Top K) (X : K.In h) (G : h.Ns mainGlobals mg) : Calls P w K mg base := by
  have z_tuple := PySem.W.mg_none_of X G T.z_tuple
  have z_any := PySem.W.mg_none_of X G T.z_any
  have z_sorted := PySem.W.mg_none_of X G T.z_sorted
  have z_len := PySem.W.mg_none_of X G T.z_len
  have z_enumerate := PySem.W.mg_none_of X G T.z_enumerate
  have z_range := PySem.W.mg_none_of X G T.z_range
  have z_int := PySem.W.mg_none_of X G T.z_int
  have z_abs := PySem.W.mg_none_of X G T.z_abs
  have z_list := PySem.W.mg_none_of X G T.z_list
  have z_max := PySem.W.mg_none_of X G T.z_max
  have z_repr := PySem.W.mg_none_of X G T.z_repr
  obtain ⟨tk, mE⟩ := T.m_EDITOR
  rw [← editor] at mE
  have m_EDITOR := PySem.W.mg_of X G mE
  have D_operands : Df K mg "operands" (topS 1) ["tree"] := At.df X G T.d_operands fun _ _ _ _ _ _ us hl => match us, hl with | [_], _ => rfl
  have D_mirrored : Df K mg "mirrored" (topS 2) ["tree"] := At.df X G T.d_mirrored fun _ _ _ _ _ _ us hl => match us, hl with | [_], _ => rfl
  have D_belongs : Df K mg "belongs" (topS 4) ["symbol", "tree"] := At.df X G T.d_belongs fun _ _ _ _ _ _ us hl => match us, hl with | [_, _], _ => rfl
  have D_distinct : Df K mg "distinct" (topS 5) ["states"] := At.df X G T.d_distinct fun _ _ _ _ _ _ us hl => match us, hl with | [_], _ => rfl
  have D_state_of_then : Df K mg "state_of_then" (topS 6) ["tree", "first", "rests"] := At.df X G T.d_state_of_then fun _ _ _ _ _ _ us hl => match us, hl with | [_, _, _], _ => rfl
  have D_state_of_star : Df K mg "state_of_star" (topS 7) ["tree", "rests", "whole"] := At.df X G T.d_state_of_star fun _ _ _ _ _ _ us hl => match us, hl with | [_, _, _], _ => rfl
  have D_state_of_two : Df K mg "state_of_two" (topS 8) ["tree", "first", "second"] := At.df X G T.d_state_of_two fun _ _ _ _ _ _ us hl => match us, hl with | [_, _, _], _ => rfl
  have D_started : Df K mg "started" (topS 9) ["tree"] := At.df X G T.d_started fun _ _ _ _ _ _ us hl => match us, hl with | [_], _ => rfl
  have D_advanced : Df K mg "advanced" (topS 10) ["tree", "state", "symbol"] := At.df X G T.d_advanced fun _ _ _ _ _ _ us hl => match us, hl with | [_, _, _], _ => rfl
  have D_beginnings : Df K mg "beginnings" (topS 11) ["tree", "sequence"] := At.df X G T.d_beginnings fun _ _ _ _ _ _ us hl => match us, hl with | [_, _], _ => rfl
  have D_endings : Df K mg "endings" (topS 12) ["tree", "sequence"] := At.df X G T.d_endings fun _ _ _ _ _ _ us hl => match us, hl with | [_, _], _ => rfl
  have D_rule_output : Df K mg "rule_output" (topS 15) ["rule", "symbol"] := At.df X G T.d_rule_output fun _ _ _ _ _ _ us hl => match us, hl with | [_, _], _ => rfl
  have D_rules_applied : Df K mg "rules_applied" (topS 16) ["stage", "sequence"] := At.df X G T.d_rules_applied fun _ _ _ _ _ _ us hl => match us, hl with | [_, _], _ => rfl
  have D_stage_output : Df K mg "stage_output" (topS 17) ["stage", "sequence"] := At.df X G T.d_stage_output fun _ _ _ _ _ _ us hl => match us, hl with | [_, _], _ => rfl
  have D_symbols_of : Df K mg "symbols_of" (topS 18) ["excerpt_pairs"] := At.df X G T.d_symbols_of fun _ _ _ _ _ _ us hl => match us, hl with | [_], _ => rfl
  have D_excerpt : Df K mg "excerpt" (topS 19) ["pipeline", "document"] := At.df X G T.d_excerpt fun _ _ _ _ _ _ us hl => match us, hl with | [_, _], _ => rfl
  have D_trace : Df K mg "trace" (topS 20) ["pipeline", "document"] := At.df X G T.d_trace fun _ _ _ _ _ _ us hl => match us, hl with | [_, _], _ => rfl
  have D__law_tape : Df K mg "_law_tape" (topS 22) ["_law_script"] := At.df X G T.d__law_tape fun _ _ _ _ _ _ us hl => match us, hl with | [_], _ => rfl
  have D__law_draw : Df K mg "_law_draw" (topS 23) ["_law_tape_here", "_law_many"] := At.df X G T.d__law_draw fun _ _ _ _ _ _ us hl => match us, hl with | [_, _], _ => rfl
  have D__law_rising : Df K mg "_law_rising" (topS 24) ["_law_tape_here", "_law_signs", "_law_many"] := At.df X G T.d__law_rising fun _ _ _ _ _ _ us hl => match us, hl with | [_, _, _], _ => rfl
  have D__law_owners : Df K mg "_law_owners" (topS 25) ["_law_tape_here"] := At.df X G T.d__law_owners fun _ _ _ _ _ _ us hl => match us, hl with | [_], _ => rfl
  have D__law_blurred : Df K mg "_law_blurred" (topS 26) ["_law_tree", "_law_pair"] := At.df X G T.d__law_blurred fun _ _ _ _ _ _ us hl => match us, hl with | [_, _], _ => rfl
  have D__law_blurred_stages : Df K mg "_law_blurred_stages" (topS 27) ["_law_pipeline", "_law_pair"] := At.df X G T.d__law_blurred_stages fun _ _ _ _ _ _ us hl => match us, hl with | [_, _], _ => rfl
  have D__law_leaf : Df K mg "_law_leaf" (topS 28) ["_law_tape_here", "_law_letters", "_law_owners_here"] := At.df X G T.d__law_leaf fun _ _ _ _ _ _ us hl => match us, hl with | [_, _, _], _ => rfl
  have D__law_node : Df K mg "_law_node" (topS 29) ["_law_tape_here", "_law_letters", "_law_owners_here"] := At.df X G T.d__law_node fun _ _ _ _ _ _ us hl => match us, hl with | [_, _, _], _ => rfl
  have D__law_wild : Df K mg "_law_wild" (topS 30) ["_law_tape_here", "_law_letters", "_law_owners_here", "_law_nodes"] := At.df X G T.d__law_wild fun _ _ _ _ _ _ us hl => match us, hl with | [_, _, _, _], _ => rfl
  have D__law_pattern : Df K mg "_law_pattern" (topS 31) ["_law_tape_here", "_law_letters", "_law_owners_here", "_law_nodes"] := At.df X G T.d__law_pattern fun _ _ _ _ _ _ us hl => match us, hl with | [_, _, _, _], _ => rfl
  have D__law_flank : Df K mg "_law_flank" (topS 32) ["_law_tape_here", "_law_letters", "_law_owners_here", "_law_nodes"] := At.df X G T.d__law_flank fun _ _ _ _ _ _ us hl => match us, hl with | [_, _, _, _], _ => rfl
  have D__law_rule : Df K mg "_law_rule" (topS 33) ["_law_tape_here", "_law_letters", "_law_owners_here", "_law_nodes", "_law_most"] := At.df X G T.d__law_rule fun _ _ _ _ _ _ us hl => match us, hl with | [_, _, _, _, _], _ => rfl
  have D__law_rules : Df K mg "_law_rules" (topS 34) ["_law_tape_here", "_law_letters", "_law_owners_here", "_law_nodes", "_law_most"] := At.df X G T.d__law_rules fun _ _ _ _ _ _ us hl => match us, hl with | [_, _, _, _, _], _ => rfl
  have D__law_stages : Df K mg "_law_stages" (topS 35) ["_law_tape_here", "_law_letters", "_law_owners_here", "_law_nodes"] := At.df X G T.d__law_stages fun _ _ _ _ _ _ us hl => match us, hl with | [_, _, _, _], _ => rfl
  have D__law_symbols : Df K mg "_law_symbols" (topS 36) ["_law_letters", "_law_owners_here"] := At.df X G T.d__law_symbols fun _ _ _ _ _ _ us hl => match us, hl with | [_, _], _ => rfl
  have D__law_sequence : Df K mg "_law_sequence" (topS 37) ["_law_tape_here", "_law_signs", "_law_most"] := At.df X G T.d__law_sequence fun _ _ _ _ _ _ us hl => match us, hl with | [_, _, _], _ => rfl
  have D__law_belongs : Df K mg "_law_belongs" (topS 38) ["_law_leaf_here", "_law_sign"] := At.df X G T.d__law_belongs fun _ _ _ _ _ _ us hl => match us, hl with | [_, _], _ => rfl
  have D__law_repeated : Df K mg "_law_repeated" (topS 39) ["_law_first", "_law_many"] := At.df X G T.d__law_repeated fun _ _ _ _ _ _ us hl => match us, hl with | [_, _], _ => rfl
  have D__law_table : Df K mg "_law_table" (topS 40) ["_law_tree", "_law_row"] := At.df X G T.d__law_table fun _ _ _ _ _ _ us hl => match us, hl with | [_, _], _ => rfl
  have D__law_applied : Df K mg "_law_applied" (topS 41) ["_law_stage", "_law_row"] := At.df X G T.d__law_applied fun _ _ _ _ _ _ us hl => match us, hl with | [_, _], _ => rfl
  have D__law_put_out : Df K mg "_law_put_out" (topS 42) ["_law_stage", "_law_row", "_law_applied_here"] := At.df X G T.d__law_put_out fun _ _ _ _ _ _ us hl => match us, hl with | [_, _, _], _ => rfl
  have D__law_cascade : Df K mg "_law_cascade" (topS 43) ["_law_pipeline", "_law_document"] := At.df X G T.d__law_cascade fun _ _ _ _ _ _ us hl => match us, hl with | [_, _], _ => rfl
  have operands := ok_operands (P := P) (w := w) (base := base) D_operands
  have mirrored := all_mirrored D_mirrored z_tuple operands
  have belongs := ok_belongs (P := P) (w := w) (base := base) D_belongs
  have distinct := ok_distinct (P := P) (w := w) (base := base) D_distinct z_sorted
  have started := all_started D_started D_state_of_star D_state_of_then D_state_of_two z_any z_tuple distinct
  have advanced := all_advanced D_advanced D_started D_state_of_star D_state_of_then D_state_of_two z_any z_tuple distinct belongs
  have beginnings := ok_beginnings D_beginnings (started 4) (advanced 4)
  have endings := ok_endings D_endings (mirrored 4) beginnings
  have rule_output := ok_rule_output (P := P) (w := w) (base := base) D_rule_output z_tuple m_EDITOR
  have symbols_of := ok_symbols_of (P := P) (w := w) (base := base) D_symbols_of z_tuple
  have rules_applied := ok_rules_applied D_rules_applied z_len z_enumerate z_tuple beginnings endings belongs
  have stage_output := ok_stage_output D_stage_output z_enumerate z_tuple rules_applied rule_output
  have excerpt := ok_excerpt D_excerpt z_enumerate z_tuple stage_output symbols_of
  have trace := ok_trace D_trace z_tuple rules_applied stage_output symbols_of
  have tape := ok__law_tape (P := P) (w := w) (base := base) D__law_tape z_int z_abs z_list
  have draw := ok__law_draw (P := P) (w := w) (base := base) D__law_draw z_int z_abs z_len z_max
  have rising := ok__law_rising D__law_rising z_len z_range draw
  have owners := ok__law_owners D__law_owners draw rising
  have blurred := ok__law_blurred_stages (P := P) (w := w) (base := base) D__law_blurred_stages z_tuple (all_blurred D__law_blurred z_tuple 4)
  have leaf := ok__law_leaf D__law_leaf z_len draw
  have node := ok__law_node D__law_node draw rising leaf
  have wild := all_wild D__law_wild z_int draw node
  have pattern_ := ok__law_pattern D__law_pattern z_range draw node (wild 4)
  have flank := ok__law_flank D__law_flank draw pattern_
  have rule_ := ok__law_rule D__law_rule z_range z_len draw node flank
  have rules := ok__law_rules D__law_rules z_range z_tuple draw rule_
  have stages := ok__law_stages D__law_stages z_range z_int z_tuple draw rules
  have symbols := ok__law_symbols (P := P) (w := w) (base := base) D__law_symbols
  have sequence := ok__law_sequence D__law_sequence z_range z_len z_tuple draw
  have lbelongs := ok__law_belongs (P := P) (w := w) (base := base) D__law_belongs
  have repeated := ok__law_repeated (P := P) (w := w) (base := base) D__law_repeated z_range
  have table := all_table D__law_table z_range z_len lbelongs repeated
  have lapplied := ok__law_applied D__law_applied z_range z_len lbelongs (table 4)
  have putout := ok__law_put_out (P := P) (w := w) (base := base) D__law_put_out z_range z_len z_int
  have cascade := ok__law_cascade D__law_cascade z_range z_len z_tuple lapplied putout
  exact ⟨tape, draw, rising, owners, blurred, stages, symbols, sequence, cascade, excerpt, trace⟩
theorem law_runs {P : Program} {w : World} {K : PySem.W.Frag} {h base : Heap} {mg : Str → Option Value} {f a : Addr} {s : Shared} {H : Hp} {ns : List Int} (T : Top K) (X : K.In h) (G : h.Ns mainGlobals mg) (named : mg "law" = some (.ref f))
    (e0 : Env0 P w K mg base callerA [] s H) (script : SqL K H a (ns.map V.int)) (short : ns.length ≤ 63) : Runs P w callerA f [] s H ⟨[.ref a], []⟩ (fun v _ => v = .bl true) fun _ _ _ => False := by
  obtain ⟨f', d⟩ := T.d_law
  have e := named.symm.trans (PySem.W.mg_of X G d.nm)
  cases e
  obtain ⟨oc, od, kV, doc, pm, an, cd, ct, sl, l, c⟩ := d.ex
  exact ok_law (fun_mk l c d.kp) (calls_of T X G) (PySem.W.mg_none_of X G T.z_len) (PySem.W.mg_none_of X G T.z_list) (PySem.W.mg_none_of X G T.z_tuple) (PySem.W.mg_none_of X G T.z_repr) ⟨rfl, by decide, by decide⟩ e0 (.of_eq rfl) script short
end K29
open PySem PySem.W PyProof.Rows
set_option maxHeartbeats 0 in
theorem PySem.Challenge.cw_excerptcheck_k29_whole_symbols_exchanged_holds : PySem.Challenge.rw_excerptcheck_k29_whole_symbols_exchanged.Holds := by
  w_on; o_law; k_head; (case hw => w_witness2)
  k_fill
  refine K29.top_walk (l := PySem.Challenge.rw_excerptcheck_k29_whole_symbols_exchanged) (n := 63) rfl (by decide) rfl (fun w h Y => PySem.W.kIn_of Y) ?F
  case F =>
    intro w mg f h KX G named base s H a ns _ _ e0 script short
    refine K29.law_runs ?T KX G named e0 script short
    case T =>
      constructor
      case d_operands => refine' K29.at_mk ?a ?l ?c ?k; (case a => k_is); (case l => k_is); (case c => k_is); (case k => k_is)
      case d_mirrored => refine' K29.at_mk ?a ?l ?c ?k; (case a => k_is); (case l => k_is); (case c => k_is); (case k => k_is)
      case d_belongs => refine' K29.at_mk ?a ?l ?c ?k; (case a => k_is); (case l => k_is); (case c => k_is); (case k => k_is)
      case d_distinct => refine' K29.at_mk ?a ?l ?c ?k; (case a => k_is); (case l => k_is); (case c => k_is); (case k => k_is)
      case d_state_of_then => refine' K29.at_mk ?a ?l ?c ?k; (case a => k_is); (case l => k_is); (case c => k_is); (case k => k_is)
      case d_state_of_star => refine' K29.at_mk ?a ?l ?c ?k; (case a => k_is); (case l => k_is); (case c => k_is); (case k => k_is)
      case d_state_of_two => refine' K29.at_mk ?a ?l ?c ?k; (case a => k_is); (case l => k_is); (case c => k_is); (case k => k_is)
      case d_started => refine' K29.at_mk ?a ?l ?c ?k; (case a => k_is); (case l => k_is); (case c => k_is); (case k => k_is)
      case d_advanced => refine' K29.at_mk ?a ?l ?c ?k; (case a => k_is); (case l => k_is); (case c => k_is); (case k => k_is)
      case d_beginnings => refine' K29.at_mk ?a ?l ?c ?k; (case a => k_is); (case l => k_is); (case c => k_is); (case k => k_is)
      case d_endings => refine' K29.at_mk ?a ?l ?c ?k; (case a => k_is); (case l => k_is); (case c => k_is); (case k => k_is)
      case d_rule_output => refine' K29.at_mk ?a ?l ?c ?k; (case a => k_is); (case l => k_is); (case c => k_is); (case k => k_is)
      case d_rules_applied => refine' K29.at_mk ?a ?l ?c ?k; (case a => k_is); (case l => k_is); (case c => k_is); (case k => k_is)
      case d_stage_output => refine' K29.at_mk ?a ?l ?c ?k; (case a => k_is); (case l => k_is); (case c => k_is); (case k => k_is)
      case d_symbols_of => refine' K29.at_mk ?a ?l ?c ?k; (case a => k_is); (case l => k_is); (case c => k_is); (case k => k_is)
      case d_excerpt => refine' K29.at_mk ?a ?l ?c ?k; (case a => k_is); (case l => k_is); (case c => k_is); (case k => k_is)
      case d_trace => refine' K29.at_mk ?a ?l ?c ?k; (case a => k_is); (case l => k_is); (case c => k_is); (case k => k_is)
      case d__law_tape => refine' K29.at_mk ?a ?l ?c ?k; (case a => k_is); (case l => k_is); (case c => k_is); (case k => k_is)
      case d__law_draw => refine' K29.at_mk ?a ?l ?c ?k; (case a => k_is); (case l => k_is); (case c => k_is); (case k => k_is)
      case d__law_rising => refine' K29.at_mk ?a ?l ?c ?k; (case a => k_is); (case l => k_is); (case c => k_is); (case k => k_is)
      case d__law_owners => refine' K29.at_mk ?a ?l ?c ?k; (case a => k_is); (case l => k_is); (case c => k_is); (case k => k_is)
      case d__law_blurred => refine' K29.at_mk ?a ?l ?c ?k; (case a => k_is); (case l => k_is); (case c => k_is); (case k => k_is)
      case d__law_blurred_stages => refine' K29.at_mk ?a ?l ?c ?k; (case a => k_is); (case l => k_is); (case c => k_is); (case k => k_is)
      case d__law_leaf => refine' K29.at_mk ?a ?l ?c ?k; (case a => k_is); (case l => k_is); (case c => k_is); (case k => k_is)
      case d__law_node => refine' K29.at_mk ?a ?l ?c ?k; (case a => k_is); (case l => k_is); (case c => k_is); (case k => k_is)
      case d__law_wild => refine' K29.at_mk ?a ?l ?c ?k; (case a => k_is); (case l => k_is); (case c => k_is); (case k => k_is)
      case d__law_pattern => refine' K29.at_mk ?a ?l ?c ?k; (case a => k_is); (case l => k_is); (case c => k_is); (case k => k_is)
      case d__law_flank => refine' K29.at_mk ?a ?l ?c ?k; (case a => k_is); (case l => k_is); (case c => k_is); (case k => k_is)
      case d__law_rule => refine' K29.at_mk ?a ?l ?c ?k; (case a => k_is); (case l => k_is); (case c => k_is); (case k => k_is)
      case d__law_rules => refine' K29.at_mk ?a ?l ?c ?k; (case a => k_is); (case l => k_is); (case c => k_is); (case k => k_is)
      case d__law_stages => refine' K29.at_mk ?a ?l ?c ?k; (case a => k_is); (case l => k_is); (case c => k_is); (case k => k_is)
      case d__law_symbols => refine' K29.at_mk ?a ?l ?c ?k; (case a => k_is); (case l => k_is); (case c => k_is); (case k => k_is)
      case d__law_sequence => refine' K29.at_mk ?a ?l ?c ?k; (case a => k_is); (case l => k_is); (case c => k_is); (case k => k_is)
      case d__law_belongs => refine' K29.at_mk ?a ?l ?c ?k; (case a => k_is); (case l => k_is); (case c => k_is); (case k => k_is)
      case d__law_repeated => refine' K29.at_mk ?a ?l ?c ?k; (case a => k_is); (case l => k_is); (case c => k_is); (case k => k_is)
      case d__law_table => refine' K29.at_mk ?a ?l ?c ?k; (case a => k_is); (case l => k_is); (case c => k_is); (case k => k_is)
      case d__law_applied => refine' K29.at_mk ?a ?l ?c ?k; (case a => k_is); (case l => k_is); (case c => k_is); (case k => k_is)
      case d__law_put_out => refine' K29.at_mk ?a ?l ?c ?k; (case a => k_is); (case l => k_is); (case c => k_is); (case k => k_is)
      case d__law_cascade => refine' K29.at_mk ?a ?l ?c ?k; (case a => k_is); (case l => k_is); (case c => k_is); (case k => k_is)
      case d_law => refine' K29.at_mk ?a ?l ?c ?k; (case a => k_is); (case l => k_is); (case c => k_is); (case k => k_is)
      case z_tuple => k_is
      case z_any => k_is
      case z_sorted => k_is
      case z_len => k_is
      case z_enumerate => k_is
      case z_range => k_is
      case z_int => k_is
      case z_abs => k_is
      case z_list => k_is
      case z_max => k_is
      case z_repr => k_is
      case m_EDITOR => refine' K29.ed_mk ?m ?e; (case m => k_is); (case e => exact ⟨_, rfl⟩)

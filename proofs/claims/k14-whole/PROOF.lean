import PyProof.Rows.All
import Wide.All
import OpenK.AllK
import Wide.FinOn
import HandS.ForMost
import HandS.IsInst
import HandS.TupAny
import HandS.Deep
import HandS.Zip
import HandS.Style
import HandS.SortInts
import HandS.SortKw
import HandS.SortRule
import HandS.Conv
import HandS.More
import HandS.Strs
import KE.SortData
import PySem.Challenge.RW_standtogether_k14_whole_trees_and_partie
import HandS.Walk
import HandS.NamedTupSort
set_option Elab.async false
set_option linter.all false
set_option maxRecDepth 100000
set_option maxHeartbeats 4000000
/-! Trees of parties: the rows that a tree tells, in plain Lean. -/
namespace ST

inductive PT where
  | leaf (g : Int)
  | node (r : Bool) (bs : List PT)

namespace PT
theorem ind {P : PT → Prop} (hl : ∀ g, P (.leaf g)) (hn : ∀ r bs, (∀ b ∈ bs, P b) → P (.node r bs)) : ∀ t, P t := fun t =>
  PT.rec (motive_1 := P) (motive_2 := fun bs => ∀ b ∈ bs, P b) hl (fun r bs ih => hn r bs ih) (fun b hb => nomatch hb)
    (fun h t ih1 ih2 b hb => by
      rcases List.mem_cons.mp hb with e | hb
      · subst e; exact ih1
      · exact ih2 b hb) t

mutual
def gs : PT → List Int
  | .leaf g => [g]
  | .node _ bs => gsL bs
def gsL : List PT → List Int
  | [] => []
  | b :: bs => gs b ++ gsL bs
end
@[simp] theorem gs_leaf (g : Int) : gs (.leaf g) = [g] := by simp [gs]
@[simp] theorem gs_node (r : Bool) (bs : List PT) : gs (.node r bs) = gsL bs := by simp [gs]
@[simp] theorem gsL_nil : gsL [] = [] := by simp [gsL]
@[simp] theorem gsL_cons (b : PT) (bs : List PT) : gsL (b :: bs) = gs b ++ gsL bs := by simp [gsL]
@[simp] theorem gsL_append (as bs : List PT) : gsL (as ++ bs) = gsL as ++ gsL bs := by
  induction as with
  | nil => simp
  | cons a as ih => simp [ih]
theorem mem_gsL {g : Int} {bs : List PT} : g ∈ gsL bs ↔ ∃ b ∈ bs, g ∈ gs b := by
  induction bs with
  | nil => simp
  | cons a as ih => simp [ih]
theorem gsL_perm {as bs : List PT} (h : as.Perm bs) : (gsL as).Perm (gsL bs) := by
  induction h with
  | nil => exact .refl _
  | cons x _ ih => simpa using ih.append_left (gs x)
  | swap x y l => simpa [← List.append_assoc] using (List.perm_append_comm (l₁ := gs y) (l₂ := gs x)).append_right (gsL l)
  | trans _ _ h1 h2 => exact h1.trans h2
theorem gsL_flatMap (bs : List PT) : gsL bs = bs.flatMap gs := by
  induction bs with
  | nil => rfl
  | cons a as ih => simp [ih]

/-- enough branches everywhere -/
inductive Wf : PT → Prop
  | leaf (g : Int) : Wf (.leaf g)
  | node {r : Bool} {bs : List PT} : (∀ b ∈ bs, Wf b) → (if r then 3 else 2) ≤ bs.length → Wf (.node r bs)
theorem Wf.br {r : Bool} {bs : List PT} (h : Wf (.node r bs)) : ∀ b ∈ bs, Wf b := by cases h; assumption
theorem Wf.two {r : Bool} {bs : List PT} (h : Wf (.node r bs)) : 2 ≤ bs.length := by
  cases h with
  | node _ h => cases r <;> simp at h <;> omega
theorem Wf.three {bs : List PT} (h : Wf (.node true bs)) : 3 ≤ bs.length := by
  cases h with
  | node _ h => simpa using h
theorem Wf.ne {t : PT} (h : Wf t) : gs t ≠ [] := by
  induction t using PT.ind with
  | hl g => simp
  | hn r bs ih =>
    have h2 := h.two
    match bs, h2 with
    | b :: _, _ => simp [ih b (by simp) (h.br b (by simp))]

/-! ### rows -/
mutual
inductive Fr : PT → List Int → Prop
  | leaf (g : Int) : Fr (.leaf g) [g]
  | any {bs bs' : List PT} {l : List Int} : bs'.Perm bs → FrL bs' l → Fr (.node false bs) l
  | row {bs : List PT} {l : List Int} : FrL bs l → Fr (.node true bs) l
  | rev {bs : List PT} {l : List Int} : FrL bs.reverse l → Fr (.node true bs) l
inductive FrL : List PT → List Int → Prop
  | nil : FrL [] []
  | cons {t : PT} {ts : List PT} {a b : List Int} : Fr t a → FrL ts b → FrL (t :: ts) (a ++ b)
end
theorem fr_leaf {g : Int} {l : List Int} : Fr (.leaf g) l ↔ l = [g] := ⟨fun h => by cases h; rfl, fun h => h ▸ .leaf g⟩
theorem fr_any {bs : List PT} {l : List Int} : Fr (.node false bs) l ↔ ∃ bs' : List PT, bs'.Perm bs ∧ FrL bs' l :=
  ⟨fun h => by cases h with | any p h => exact ⟨_, p, h⟩, fun ⟨_, p, h⟩ => .any p h⟩
theorem fr_row {bs : List PT} {l : List Int} : Fr (.node true bs) l ↔ FrL bs l ∨ FrL bs.reverse l :=
  ⟨fun h => by
    cases h with
    | row h => exact .inl h
    | rev h => exact .inr h, fun h => h.elim .row .rev⟩
@[simp] theorem frl_nil {l : List Int} : FrL [] l ↔ l = [] := ⟨fun h => by cases h; rfl, fun h => h ▸ .nil⟩
theorem frl_cons {t : PT} {ts : List PT} {l : List Int} : FrL (t :: ts) l ↔ ∃ a b, l = a ++ b ∧ Fr t a ∧ FrL ts b :=
  ⟨fun h => by cases h with | cons h1 h2 => exact ⟨_, _, rfl, h1, h2⟩, fun ⟨_, _, e, h1, h2⟩ => e ▸ .cons h1 h2⟩
theorem frl_one {t : PT} {l : List Int} : FrL [t] l ↔ Fr t l := by
  rw [frl_cons]
  constructor
  · rintro ⟨a, b, rfl, h1, h2⟩
    rw [frl_nil.mp h2, List.append_nil]; exact h1
  · intro h
    exact ⟨l, [], by simp, h, .nil⟩
theorem frl_append {as bs : List PT} {l : List Int} : FrL (as ++ bs) l ↔ ∃ a b, l = a ++ b ∧ FrL as a ∧ FrL bs b := by
  induction as generalizing l with
  | nil =>
    constructor
    · intro h; exact ⟨[], l, rfl, .nil, h⟩
    · rintro ⟨a, b, rfl, h1, h2⟩
      rw [frl_nil.mp h1]; exact h2
  | cons t ts ih =>
    rw [List.cons_append, frl_cons]
    constructor
    · rintro ⟨a, b, rfl, h1, h2⟩
      obtain ⟨c, d, rfl, h3, h4⟩ := ih.mp h2
      exact ⟨a ++ c, d, by simp, .cons h1 h3, h4⟩
    · rintro ⟨a, b, rfl, h1, h2⟩
      obtain ⟨c, d, rfl, h3, h4⟩ := frl_cons.mp h1
      exact ⟨c, d ++ b, by simp, h3, ih.mpr ⟨d, b, rfl, h4, h2⟩⟩

theorem frl_perm_of {bs : List PT} (ih : ∀ b ∈ bs, ∀ l, Fr b l → l.Perm (gs b)) : ∀ {l : List Int}, FrL bs l → l.Perm (gsL bs) := by
  induction bs with
  | nil => intro l h; simp at h; simp [h]
  | cons b bs ihb =>
    intro l h
    obtain ⟨x, y, rfl, h1, h2⟩ := frl_cons.mp h
    simpa using (ih b (by simp) x h1).append (ihb (fun c hc => ih c (by simp [hc])) h2)
theorem fr_perm {t : PT} : ∀ {l : List Int}, Fr t l → l.Perm (gs t) := by
  induction t using PT.ind with
  | hl g => intro l h; rw [fr_leaf.mp h]; simp
  | hn r bs ih =>
    intro l h
    rw [gs_node]
    cases r with
    | false =>
      obtain ⟨bs', p, h⟩ := fr_any.mp h
      exact (frl_perm_of (fun b hb _ => ih b (p.mem_iff.mp hb)) h).trans (gsL_perm p)
    | true =>
      rcases fr_row.mp h with h | h
      · exact frl_perm_of (fun b hb _ => ih b hb) h
      · exact (frl_perm_of (fun b hb _ => ih b (by simpa using hb)) h).trans (gsL_perm bs.reverse_perm)
theorem frl_perm {bs : List PT} {l : List Int} (h : FrL bs l) : l.Perm (gsL bs) := frl_perm_of (fun _ _ _ h => fr_perm h) h

theorem frl_some_of {bs : List PT} (ih : ∀ b ∈ bs, ∃ l, Fr b l) : ∃ l, FrL bs l := by
  induction bs with
  | nil => exact ⟨[], .nil⟩
  | cons b bs ihb =>
    obtain ⟨x, hx⟩ := ih b (by simp)
    obtain ⟨y, hy⟩ := ihb fun c hc => ih c (by simp [hc])
    exact ⟨x ++ y, .cons hx hy⟩
theorem fr_some (t : PT) : ∃ l, Fr t l := by
  induction t using PT.ind with
  | hl g => exact ⟨[g], .leaf g⟩
  | hn r bs ih =>
    obtain ⟨l, h⟩ := frl_some_of ih
    cases r with
    | false => exact ⟨l, .any (.refl _) h⟩
    | true => exact ⟨l, .row h⟩
theorem frl_some (bs : List PT) : ∃ l, FrL bs l := frl_some_of fun b _ => fr_some b

theorem frl_rev_of {bs : List PT} (ih : ∀ b ∈ bs, ∀ l, Fr b l → Fr b l.reverse) : ∀ {l : List Int}, FrL bs l → FrL bs.reverse l.reverse := by
  induction bs with
  | nil => intro l h; simp at h; subst h; simpa using FrL.nil
  | cons b bs ihb =>
    intro l h
    obtain ⟨x, y, rfl, h1, h2⟩ := frl_cons.mp h
    rw [List.reverse_cons, List.reverse_append]
    exact frl_append.mpr ⟨_, _, rfl, ihb (fun c hc => ih c (by simp [hc])) h2, frl_one.mpr (ih b (by simp) x h1)⟩
theorem fr_rev {t : PT} : ∀ {l : List Int}, Fr t l → Fr t l.reverse := by
  induction t using PT.ind with
  | hl g => intro l h; rw [fr_leaf.mp h]; exact .leaf g
  | hn r bs ih =>
    intro l h
    cases r with
    | false =>
      obtain ⟨bs', p, h⟩ := fr_any.mp h
      exact .any (bs'.reverse_perm.trans p) (frl_rev_of (fun b hb _ => ih b (p.mem_iff.mp hb)) h)
    | true =>
      rcases fr_row.mp h with h | h
      · exact .rev (frl_rev_of (fun b hb _ => ih b hb) h)
      · exact .row (by simpa using frl_rev_of (fun b hb _ => ih b (by simpa using hb)) h)
theorem frl_rev {bs : List PT} {l : List Int} (h : FrL bs l) : FrL bs.reverse l.reverse := frl_rev_of (fun _ _ _ h => fr_rev h) h
theorem frl_rev_iff {bs : List PT} {l : List Int} : FrL bs.reverse l ↔ FrL bs l.reverse :=
  ⟨fun h => by simpa using frl_rev h, fun h => by simpa using frl_rev h⟩

/-- branches with the same rows -/
theorem frl_map {f : PT → PT} {bs : List PT} (h : ∀ b ∈ bs, ∀ l, Fr (f b) l ↔ Fr b l) : ∀ {l : List Int}, FrL (bs.map f) l ↔ FrL bs l := by
  induction bs with
  | nil => simp
  | cons b bs ih =>
    intro l
    rw [List.map_cons, frl_cons, frl_cons]
    have h1 := h b (by simp)
    have h2 := fun l => ih (fun c hc => h c (by simp [hc])) (l := l)
    constructor
    · rintro ⟨x, y, rfl, a, b⟩; exact ⟨x, y, rfl, (h1 x).mp a, (h2 y).mp b⟩
    · rintro ⟨x, y, rfl, a, b⟩; exact ⟨x, y, rfl, (h1 x).mpr a, (h2 y).mpr b⟩
theorem fr_any_perm {as bs : List PT} (p : as.Perm bs) {l : List Int} : Fr (.node false as) l ↔ Fr (.node false bs) l := by
  rw [fr_any, fr_any]
  exact ⟨fun ⟨c, q, h⟩ => ⟨c, q.trans p, h⟩, fun ⟨c, q, h⟩ => ⟨c, q.trans p.symm, h⟩⟩
theorem fr_row_rev {bs : List PT} {l : List Int} : Fr (.node true bs.reverse) l ↔ Fr (.node true bs) l := by
  rw [fr_row, fr_row, List.reverse_reverse]; exact Or.comm
end PT
end ST
namespace ST
/-! ### where the guests of a party stand in a row -/
section
variable {X : Int → Prop} {a b l : List Int}
def Zs (X : Int → Prop) (l : List Int) : Prop := ∀ g ∈ l, ¬ X g
def Os (X : Int → Prop) (l : List Int) : Prop := ∀ g ∈ l, X g
/-- at the right end, at the left end, somewhere together -/
def RA (X : Int → Prop) (l : List Int) : Prop := ∃ x y, l = x ++ y ∧ Zs X x ∧ Os X y
def LA (X : Int → Prop) (l : List Int) : Prop := ∃ x y, l = x ++ y ∧ Os X x ∧ Zs X y
def Cv (X : Int → Prop) (l : List Int) : Prop := ∃ x y z, l = x ++ (y ++ z) ∧ Zs X x ∧ Os X y ∧ Zs X z
theorem zs_nil : Zs X [] := fun _ h => nomatch h
theorem os_nil : Os X [] := fun _ h => nomatch h
theorem zs_append : Zs X (a ++ b) ↔ Zs X a ∧ Zs X b := by
  simp only [Zs, List.mem_append]
  exact ⟨fun h => ⟨fun g m => h g (.inl m), fun g m => h g (.inr m)⟩, fun h g m => m.elim (h.1 g) (h.2 g)⟩
theorem os_append : Os X (a ++ b) ↔ Os X a ∧ Os X b := by
  simp only [Os, List.mem_append]
  exact ⟨fun h => ⟨fun g m => h g (.inl m), fun g m => h g (.inr m)⟩, fun h g m => m.elim (h.1 g) (h.2 g)⟩
theorem zs_perm (p : a.Perm b) : Zs X a ↔ Zs X b := ⟨fun h g m => h g (p.mem_iff.mpr m), fun h g m => h g (p.mem_iff.mp m)⟩
theorem os_perm (p : a.Perm b) : Os X a ↔ Os X b := ⟨fun h g m => h g (p.mem_iff.mpr m), fun h g m => h g (p.mem_iff.mp m)⟩
theorem zs_rev : Zs X l.reverse ↔ Zs X l := zs_perm l.reverse_perm
theorem os_rev : Os X l.reverse ↔ Os X l := os_perm l.reverse_perm
theorem zs_os (h : Zs X l) (k : Os X l) : l = [] := by
  cases l with
  | nil => rfl
  | cons g r => exact absurd (k g (by simp)) (h g (by simp))
theorem RA.zs (h : Zs X l) : RA X l := ⟨l, [], by simp, h, os_nil⟩
theorem RA.os (h : Os X l) : RA X l := ⟨[], l, rfl, zs_nil, h⟩
theorem LA.zs (h : Zs X l) : LA X l := ⟨[], l, rfl, os_nil, h⟩
theorem LA.os (h : Os X l) : LA X l := ⟨l, [], by simp, h, zs_nil⟩
theorem RA.cv (h : RA X l) : Cv X l := by
  obtain ⟨x, y, rfl, h1, h2⟩ := h
  exact ⟨x, y, [], by simp, h1, h2, zs_nil⟩
theorem LA.cv (h : LA X l) : Cv X l := by
  obtain ⟨x, y, rfl, h1, h2⟩ := h
  exact ⟨[], x, y, rfl, zs_nil, h1, h2⟩
theorem RA.rev (h : RA X l) : LA X l.reverse := by
  obtain ⟨x, y, rfl, h1, h2⟩ := h
  exact ⟨y.reverse, x.reverse, by simp, os_rev.mpr h2, zs_rev.mpr h1⟩
theorem LA.rev (h : LA X l) : RA X l.reverse := by
  obtain ⟨x, y, rfl, h1, h2⟩ := h
  exact ⟨y.reverse, x.reverse, by simp, zs_rev.mpr h2, os_rev.mpr h1⟩
theorem la_rev : LA X l.reverse ↔ RA X l := ⟨fun h => by simpa using h.rev, RA.rev⟩
theorem ra_rev : RA X l.reverse ↔ LA X l := ⟨fun h => by simpa using h.rev, LA.rev⟩
theorem Cv.rev (h : Cv X l) : Cv X l.reverse := by
  obtain ⟨x, y, z, rfl, h1, h2, h3⟩ := h
  exact ⟨z.reverse, y.reverse, x.reverse, by simp, zs_rev.mpr h3, os_rev.mpr h2, zs_rev.mpr h1⟩
theorem cv_rev : Cv X l.reverse ↔ Cv X l := ⟨fun h => by simpa using h.rev, Cv.rev⟩
theorem ra_append : RA X (a ++ b) ↔ (Zs X a ∧ RA X b) ∨ (RA X a ∧ Os X b) := by
  constructor
  · rintro ⟨x, y, e, h1, h2⟩
    rcases List.append_eq_append_iff.mp e with ⟨c, rfl, rfl⟩ | ⟨c, rfl, rfl⟩
    · exact .inl ⟨(zs_append.mp h1).1, ⟨c, y, rfl, (zs_append.mp h1).2, h2⟩⟩
    · exact .inr ⟨⟨x, c, rfl, h1, (os_append.mp h2).1⟩, (os_append.mp h2).2⟩
  · rintro (⟨h, x, y, rfl, h1, h2⟩ | ⟨⟨x, y, rfl, h1, h2⟩, h⟩)
    · exact ⟨a ++ x, y, by simp, zs_append.mpr ⟨h, h1⟩, h2⟩
    · exact ⟨x, y ++ b, by simp, h1, os_append.mpr ⟨h2, h⟩⟩
theorem la_append : LA X (a ++ b) ↔ (Os X a ∧ LA X b) ∨ (LA X a ∧ Zs X b) := by
  constructor
  · rintro ⟨x, y, e, h1, h2⟩
    rcases List.append_eq_append_iff.mp e with ⟨c, rfl, rfl⟩ | ⟨c, rfl, rfl⟩
    · exact .inl ⟨(os_append.mp h1).1, ⟨c, y, rfl, (os_append.mp h1).2, h2⟩⟩
    · exact .inr ⟨⟨x, c, rfl, h1, (zs_append.mp h2).1⟩, (zs_append.mp h2).2⟩
  · rintro (⟨h, x, y, rfl, h1, h2⟩ | ⟨⟨x, y, rfl, h1, h2⟩, h⟩)
    · exact ⟨a ++ x, y, by simp, os_append.mpr ⟨h, h1⟩, h2⟩
    · exact ⟨x, y ++ b, by simp, h1, zs_append.mpr ⟨h2, h⟩⟩
theorem cv_append : Cv X (a ++ b) ↔ (Zs X a ∧ Cv X b) ∨ (Cv X a ∧ Zs X b) ∨ (RA X a ∧ LA X b) := by
  constructor
  · rintro ⟨x, y, z, e, h1, h2, h3⟩
    rcases List.append_eq_append_iff.mp e with ⟨c, rfl, rfl⟩ | ⟨c, rfl, e'⟩
    · exact .inl ⟨(zs_append.mp h1).1, ⟨c, y, z, rfl, (zs_append.mp h1).2, h2, h3⟩⟩
    · rcases List.append_eq_append_iff.mp e' with ⟨d, rfl, rfl⟩ | ⟨d, rfl, rfl⟩
      · exact .inr (.inl ⟨⟨x, y, d, rfl, h1, h2, (zs_append.mp h3).1⟩, (zs_append.mp h3).2⟩)
      · exact .inr (.inr ⟨⟨x, c, rfl, h1, (os_append.mp h2).1⟩, ⟨d, z, rfl, (os_append.mp h2).2, h3⟩⟩)
  · rintro (⟨h, x, y, z, rfl, h1, h2, h3⟩ | ⟨⟨x, y, z, rfl, h1, h2, h3⟩, h⟩ | ⟨⟨x, y, rfl, h1, h2⟩, ⟨u, v, rfl, h3, h4⟩⟩)
    · exact ⟨a ++ x, y, z, by simp, zs_append.mpr ⟨h, h1⟩, h2, h3⟩
    · exact ⟨x, y, z ++ b, by simp, h1, h2, zs_append.mpr ⟨h3, h⟩⟩
    · exact ⟨x, y ++ u, v, by simp, h1, os_append.mpr ⟨h2, h3⟩, h4⟩
theorem cv_mid {n m k : List Int} (h1 : Zs X n) (h2 : Zs X k) : Cv X (n ++ (m ++ k)) ↔ Cv X m := by
  constructor
  · intro h
    rcases cv_append.mp h with ⟨_, h⟩ | ⟨_, h⟩ | ⟨h, h'⟩
    · rcases cv_append.mp h with ⟨h, _⟩ | ⟨h, _⟩ | ⟨h, _⟩
      · exact (RA.zs h).cv
      · exact h
      · exact h.cv
    · exact (RA.zs (zs_append.mp h).1).cv
    · rcases la_append.mp h' with ⟨h, _⟩ | ⟨h, _⟩
      · exact (RA.os h).cv
      · exact h.cv
  · intro h
    exact cv_append.mpr (.inl ⟨h1, cv_append.mpr (.inr (.inl ⟨h, h2⟩))⟩)
end

namespace PT
section
variable {X : Int → Prop}
theorem fr_mem {t : PT} {l : List Int} (h : Fr t l) {g : Int} : g ∈ l ↔ g ∈ gs t := (fr_perm h).mem_iff
theorem frl_mem {bs : List PT} {l : List Int} (h : FrL bs l) {g : Int} : g ∈ l ↔ ∃ b ∈ bs, g ∈ gs b := (frl_perm h).mem_iff.trans mem_gsL
theorem fr_ne {t : PT} (w : Wf t) {l : List Int} (h : Fr t l) : l ≠ [] := fun e => by
  subst e
  exact w.ne (List.nil_perm.mp (fr_perm h))
theorem ra_split {bs : List PT} : ∀ {l : List Int}, FrL bs l → RA X l →
    ∃ (N S F : List PT) (n s f : List Int), bs = N ++ (S ++ F) ∧ l = n ++ (s ++ f) ∧ FrL N n ∧ FrL S s ∧ FrL F f ∧ Zs X n ∧ RA X s ∧ Os X f ∧ (S = [] ∨ ∃ t, S = [t] ∧ ¬ Zs X s ∧ ¬ Os X s) := by
  induction bs with
  | nil =>
    intro l h _
    exact ⟨[], [], [], [], [], [], rfl, by simpa using h, .nil, .nil, .nil, zs_nil, .zs zs_nil, os_nil, .inl rfl⟩
  | cons t ts ih =>
    intro l h hr
    obtain ⟨a, b, rfl, h1, h2⟩ := frl_cons.mp h
    rcases ra_append.mp hr with ⟨ha, hb⟩ | ⟨ha, hb⟩
    · obtain ⟨N, S, F, n, s, f, rfl, rfl, q1, q2, q3, q4, q5, q6, q7⟩ := ih h2 hb
      exact ⟨t :: N, S, F, a ++ n, s, f, rfl, by simp, .cons h1 q1, q2, q3, zs_append.mpr ⟨ha, q4⟩, q5, q6, q7⟩
    · by_cases hz : Zs X a
      · exact ⟨[t], [], ts, a, [], b, rfl, rfl, frl_one.mpr h1, .nil, h2, hz, .zs zs_nil, hb, .inl rfl⟩
      · by_cases ho : Os X a
        · exact ⟨[], [], t :: ts, [], [], a ++ b, rfl, rfl, .nil, .nil, .cons h1 h2, zs_nil, .zs zs_nil, os_append.mpr ⟨ho, hb⟩, .inl rfl⟩
        · exact ⟨[], [t], ts, [], a, b, rfl, rfl, .nil, frl_one.mpr h1, h2, zs_nil, ha, hb, .inr ⟨t, rfl, hz, ho⟩⟩
/-- the last branch that has a guest of the party -/
theorem la_split {bs : List PT} : ∀ {l : List Int}, (∀ b ∈ bs, Wf b) → FrL bs l → LA X l →
    Zs X l ∨ ∃ (F : List PT) (t : PT) (N : List PT) (f c n : List Int), bs = F ++ (t :: N) ∧ l = f ++ (c ++ n) ∧ FrL F f ∧ Os X f ∧ Fr t c ∧ LA X c ∧ ¬ Zs X c ∧ FrL N n ∧ Zs X n := by
  induction bs with
  | nil => intro l _ h _; simp at h; subst h; exact .inl zs_nil
  | cons t ts ih =>
    intro l w h hl
    obtain ⟨a, b, rfl, h1, h2⟩ := frl_cons.mp h
    rcases la_append.mp hl with ⟨ha, hb⟩ | ⟨ha, hb⟩
    · refine .inr ?_
      rcases ih (fun c hc => w c (by simp [hc])) h2 hb with hz | ⟨F, t', N, f, c, n, rfl, rfl, q1, q2, q3, q4, q5, q6, q7⟩
      · exact ⟨[], t, ts, [], a, b, rfl, rfl, .nil, os_nil, h1, .os ha, fun z => fr_ne (w t (by simp)) h1 (zs_os z ha), h2, hz⟩
      · exact ⟨t :: F, t', N, a ++ f, c, n, rfl, by simp, .cons h1 q1, os_append.mpr ⟨ha, q2⟩, q3, q4, q5, q6, q7⟩
    · by_cases hz : Zs X a
      · exact .inl (zs_append.mpr ⟨hz, hb⟩)
      · exact .inr ⟨[], t, ts, [], a, b, rfl, rfl, .nil, os_nil, h1, ha, hz, h2, hb⟩
/-- the branches with a guest of the party, where these stand together -/
inductive Mid (X : Int → Prop) : List PT → List Int → Prop
  | none : Mid X [] []
  | one {t : PT} {c : List Int} : Fr t c → Cv X c → ¬ Zs X c → Mid X [t] c
  | more {t t' : PT} {F : List PT} {a f b : List Int} : Fr t a → RA X a → ¬ Zs X a → FrL F f → Os X f → Fr t' b → LA X b → ¬ Zs X b → Mid X (t :: (F ++ [t'])) (a ++ (f ++ b))
theorem cv_split {bs : List PT} : ∀ {l : List Int}, (∀ b ∈ bs, Wf b) → FrL bs l → Cv X l →
    ∃ (N M K : List PT) (n m k : List Int), bs = N ++ (M ++ K) ∧ l = n ++ (m ++ k) ∧ FrL N n ∧ Zs X n ∧ Mid X M m ∧ FrL K k ∧ Zs X k := by
  induction bs with
  | nil => intro l _ h _; simp at h; subst h; exact ⟨[], [], [], [], [], [], rfl, rfl, .nil, zs_nil, .none, .nil, zs_nil⟩
  | cons t ts ih =>
    intro l w h hl
    have wt := w t (by simp)
    have w' : ∀ b ∈ ts, Wf b := fun c hc => w c (by simp [hc])
    obtain ⟨a, b, rfl, h1, h2⟩ := frl_cons.mp h
    have first : Zs X a → Cv X b → ∃ (N M K : List PT) (n m k : List Int), t :: ts = N ++ (M ++ K) ∧ a ++ b = n ++ (m ++ k) ∧ FrL N n ∧ Zs X n ∧ Mid X M m ∧ FrL K k ∧ Zs X k := by
      intro ha hb
      obtain ⟨N, M, K, n, m, k, rfl, rfl, q1, q2, q3, q4, q5⟩ := ih w' h2 hb
      exact ⟨t :: N, M, K, a ++ n, m, k, rfl, by simp, .cons h1 q1, zs_append.mpr ⟨ha, q2⟩, q3, q4, q5⟩
    rcases cv_append.mp hl with ⟨ha, hb⟩ | ⟨ha, hb⟩ | ⟨ha, hb⟩
    · exact first ha hb
    · by_cases hz : Zs X a
      · exact first hz (RA.zs hb).cv
      · exact ⟨[], [t], ts, [], a, b, rfl, rfl, .nil, zs_nil, .one h1 ha hz, h2, hb⟩
    · by_cases hz : Zs X a
      · exact first hz hb.cv
      · rcases la_split w' h2 hb with hzb | ⟨F, t', N, f, c, n, rfl, rfl, q1, q2, q3, q4, q5, q6, q7⟩
        · exact ⟨[], [t], ts, [], a, b, rfl, rfl, .nil, zs_nil, .one h1 ha.cv hz, h2, hzb⟩
        · exact ⟨[], t :: (F ++ [t']), N, [], a ++ (f ++ c), n, by simp, by simp, .nil, zs_nil, .more h1 ha hz q1 q2 q3 q4 q5, q6, q7⟩
theorem Mid.frl {M : List PT} {m : List Int} (h : Mid X M m) : FrL M m := by
  cases h with
  | none => exact .nil
  | one h => exact frl_one.mpr h
  | more h1 _ _ h2 _ h3 => exact .cons h1 (frl_append.mpr ⟨_, _, rfl, h2, frl_one.mpr h3⟩)
theorem Mid.cv {M : List PT} {m : List Int} (h : Mid X M m) : Cv X m := by
  cases h with
  | none => exact (RA.zs zs_nil).cv
  | one _ h => exact h
  | more _ h1 _ _ h2 _ h3 => exact cv_append.mpr (.inr (.inr ⟨h1, la_append.mpr (.inl ⟨h2, h3⟩)⟩))
end

/-! ### a tree's share of a party -/
inductive Sh where
  | no | so | al
  deriving DecidableEq
def sh (p : List Int) (t : PT) : Sh := if (gs t).all (fun g => decide (g ∈ p)) then .al else if (gs t).any (fun g => decide (g ∈ p)) then .so else .no
def part (s : Sh) (p : List Int) (bs : List PT) : List PT := bs.filter fun b => decide (sh p b = s)
section
variable {p : List Int} {t : PT} {bs : List PT} {l : List Int}
abbrev In (p : List Int) : Int → Prop := fun g => g ∈ p
theorem sh_al : sh p t = .al ↔ Os (In p) (gs t) := by
  unfold sh
  by_cases h : (gs t).all (fun g => decide (g ∈ p)) = true
  · rw [if_pos h]
    exact ⟨fun _ g hg => by simpa using List.all_eq_true.mp h g hg, fun _ => rfl⟩
  · rw [if_neg h]
    refine ⟨fun e => ?_, fun k => absurd (List.all_eq_true.mpr fun g hg => by simpa using k g hg) h⟩
    split at e <;> cases e
theorem sh_no (w : gs t ≠ []) : sh p t = Sh.no ↔ Zs (In p) (gs t) := by
  unfold sh
  by_cases h : (gs t).all (fun g => decide (g ∈ p)) = true
  · rw [if_pos h]
    refine ⟨fun e => Sh.noConfusion e, fun k => absurd (zs_os k fun g hg => ?_) w⟩
    simpa using List.all_eq_true.mp h g hg
  · rw [if_neg h]
    by_cases h2 : (gs t).any (fun g => decide (g ∈ p)) = true
    · rw [if_pos h2]
      refine ⟨fun e => Sh.noConfusion e, fun k => ?_⟩
      obtain ⟨g, hg, hp⟩ := List.any_eq_true.mp h2
      exact absurd (by simpa using hp) (k g hg)
    · rw [if_neg h2]
      refine ⟨fun _ g hg hp => h2 (List.any_eq_true.mpr ⟨g, hg, by simpa using hp⟩), fun _ => rfl⟩
theorem fr_al (h : Fr t l) : Os (In p) l ↔ sh p t = .al := (os_perm (fr_perm h)).trans sh_al.symm
theorem fr_no (w : Wf t) (h : Fr t l) : Zs (In p) l ↔ sh p t = .no := (zs_perm (fr_perm h)).trans (sh_no w.ne).symm
theorem fr_so (w : Wf t) (h : Fr t l) : sh p t = .so ↔ ¬ Zs (In p) l ∧ ¬ Os (In p) l := by
  rw [fr_al h, fr_no w h]
  cases sh p t <;> simp
theorem frl_al (w : ∀ b ∈ bs, Wf b) (h : FrL bs l) : Os (In p) l ↔ ∀ b ∈ bs, sh p b = .al := by
  rw [os_perm (frl_perm h)]
  constructor
  · intro k b hb
    exact sh_al.mpr fun g hg => k g (mem_gsL.mpr ⟨b, hb, hg⟩)
  · intro k g hg
    obtain ⟨b, hb, hg⟩ := mem_gsL.mp hg
    exact sh_al.mp (k b hb) g hg
theorem frl_no (w : ∀ b ∈ bs, Wf b) (h : FrL bs l) : Zs (In p) l ↔ ∀ b ∈ bs, sh p b = .no := by
  rw [zs_perm (frl_perm h)]
  constructor
  · intro k b hb
    exact (sh_no (w b hb).ne).mpr fun g hg => k g (mem_gsL.mpr ⟨b, hb, hg⟩)
  · intro k g hg
    obtain ⟨b, hb, hg⟩ := mem_gsL.mp hg
    exact (sh_no (w b hb).ne).mp (k b hb) g hg
theorem mem_part {s : Sh} {b : PT} : b ∈ part s p bs ↔ b ∈ bs ∧ sh p b = s := by unfold part; simp
theorem part_append (s : Sh) (as bs : List PT) : part s p (as ++ bs) = part s p as ++ part s p bs := List.filter_append ..
theorem part_all {s : Sh} (h : ∀ b ∈ bs, sh p b = s) : part s p bs = bs := List.filter_eq_self.mpr fun b hb => by simp [h b hb]
theorem part_none {s : Sh} (h : ∀ b ∈ bs, sh p b ≠ s) : part s p bs = [] := List.filter_eq_nil_iff.mpr fun b hb => by simp [h b hb]
theorem part_other {s u : Sh} (h : ∀ b ∈ bs, sh p b = s) (d : s ≠ u) : part u p bs = [] := part_none fun b hb e => d ((h b hb).symm.trans e)
theorem part_perm {s : Sh} {as : List PT} (q : as.Perm bs) : (part s p as).Perm (part s p bs) := q.filter _
theorem parts_perm (bs : List PT) : (part .no p bs ++ (part .so p bs ++ part .al p bs)).Perm bs := by
  induction bs with
  | nil => exact .refl _
  | cons b bs ih =>
    unfold part at ih ⊢
    cases e : sh p b with
    | no => simpa [List.filter_cons, e] using ih
    | so => simpa [List.filter_cons, e] using (List.perm_middle.trans (ih.cons b))
    | al =>
      simp only [List.filter_cons, e, decide_true, if_true, if_false, Bool.false_eq_true, decide_false, reduceCtorEq]
      rw [← List.append_assoc]
      refine List.perm_middle.trans ?_
      rw [List.append_assoc]
      exact ih.cons b
theorem ra_parts (w : ∀ b ∈ bs, Wf b) (h : FrL bs l) (hr : RA (In p) l) :
    ∃ n s f, l = n ++ (s ++ f) ∧ bs = part .no p bs ++ (part .so p bs ++ part .al p bs) ∧ FrL (part .no p bs) n ∧ FrL (part .so p bs) s ∧ FrL (part .al p bs) f ∧ RA (In p) s ∧ (part .so p bs).length ≤ 1 := by
  obtain ⟨N, S, F, n, s, f, rfl, rfl, q1, q2, q3, q4, q5, q6, q7⟩ := ra_split h hr
  have wN : ∀ b ∈ N, Wf b := fun b hb => w b (by simp [hb])
  have wS : ∀ b ∈ S, Wf b := fun b hb => w b (by simp [hb])
  have wF : ∀ b ∈ F, Wf b := fun b hb => w b (by simp [hb])
  have eN := (frl_no wN q1).mp q4
  have eF := (frl_al wF q3).mp q6
  have eS : ∀ b ∈ S, sh p b = .so := by
    rcases q7 with rfl | ⟨t, rfl, z1, z2⟩
    · intro b hb; cases hb
    · intro b hb
      simp at hb; subst hb
      exact (fr_so (wS b (by simp)) (frl_one.mp q2)).mpr ⟨z1, z2⟩
  have a1 : part .no p (N ++ (S ++ F)) = N := by
    rw [part_append, part_append, part_all eN, part_other eS (by decide), part_other eF (by decide)]; simp
  have a2 : part .so p (N ++ (S ++ F)) = S := by
    rw [part_append, part_append, part_other eN (by decide), part_all eS, part_other eF (by decide)]; simp
  have a3 : part .al p (N ++ (S ++ F)) = F := by
    rw [part_append, part_append, part_other eN (by decide), part_other eS (by decide), part_all eF]; simp
  rw [a1, a2, a3]
  refine ⟨n, s, f, rfl, rfl, q1, q2, q3, q5, ?_⟩
  rcases q7 with rfl | ⟨t, rfl, _⟩ <;> simp
theorem ra_join {N S F : List PT} {n s f : List Int} (w : ∀ b ∈ N ++ (S ++ F), Wf b) (h1 : FrL N n) (h3 : FrL F f) (e1 : ∀ b ∈ N, sh p b = .no) (e3 : ∀ b ∈ F, sh p b = .al) (hs : RA (In p) s) : RA (In p) (n ++ (s ++ f)) :=
  ra_append.mpr (.inl ⟨(frl_no (fun b hb => w b (by simp [hb])) h1).mpr e1, ra_append.mpr (.inr ⟨hs, (frl_al (fun b hb => w b (by simp [hb])) h3).mpr e3⟩)⟩)
end
end PT
end ST
namespace ST
namespace PT
open Classical
/-! ### the program's own way with a party, as plain functions -/
def grouped (bs : List PT) : List PT := if bs.length < 2 then bs else [.node false bs]
theorem frl_grouped {bs : List PT} {l : List Int} : FrL (grouped bs) l ↔ ∃ bs' : List PT, bs'.Perm bs ∧ FrL bs' l := by
  unfold grouped
  by_cases h : bs.length < 2
  · rw [if_pos h]
    refine ⟨fun k => ⟨bs, .refl _, k⟩, fun ⟨bs', q, k⟩ => ?_⟩
    match bs, h with
    | [], _ => rw [List.perm_nil.mp q] at k; exact k
    | [b], _ => rw [List.perm_singleton.mp q] at k; exact k
  · rw [if_neg h, frl_one, fr_any]
theorem frl_grouped_rev {bs : List PT} {l : List Int} (h : FrL (grouped bs) l) : FrL (grouped bs) l.reverse := by
  obtain ⟨bs', q, k⟩ := frl_grouped.mp h
  exact frl_grouped.mpr ⟨bs'.reverse, bs'.reverse_perm.trans q, frl_rev k⟩
theorem wf_grouped {bs : List PT} (w : ∀ b ∈ bs, Wf b) : ∀ b ∈ grouped bs, Wf b := by
  unfold grouped
  by_cases h : bs.length < 2
  · rw [if_pos h]; exact w
  · rw [if_neg h]
    intro b hb
    simp at hb; subst hb
    exact .node w (by simp; omega)

noncomputable def ledEnd (p : List Int) (r : Bool) (bs m : List PT) : Option (List PT) :=
  if r = false then some (grouped (part .no p bs) ++ (m ++ grouped (part .al p bs)))
  else if part .no p bs ++ (part .so p bs ++ part .al p bs) = bs then some (part .no p bs ++ (m ++ part .al p bs))
  else if part .no p bs.reverse ++ (part .so p bs.reverse ++ part .al p bs.reverse) = bs.reverse then some (part .no p bs.reverse ++ (m ++ part .al p bs.reverse))
  else none
theorem size_mem {r : Bool} {b : PT} {bs : List PT} (h : b ∈ bs) : sizeOf b < sizeOf (PT.node r bs) := by
  have h1 := List.sizeOf_lt_of_mem h
  simp only [PT.node.sizeOf_spec]
  omega
theorem part_sub {s : Sh} {p : List Int} {b : PT} {bs : List PT} (h : b ∈ part s p bs) : b ∈ bs := (mem_part.mp h).1
noncomputable def led (p : List Int) (t : PT) : Option (List PT) :=
  if sh p t ≠ .so then some [t] else
  match t with
  | .leaf g => some [.leaf g]
  | .node r bs =>
    match h : part .so p bs with
    | [] => ledEnd p r bs []
    | [s] =>
      match led p s with
      | none => none
      | some m => ledEnd p r bs m
    | _ :: _ :: _ => none
termination_by sizeOf t
decreasing_by exact size_mem (part_sub (by rw [h]; simp))
theorem led_other {p : List Int} {t : PT} (h : sh p t ≠ .so) : led p t = some [t] := by rw [led.eq_def, if_pos h]
theorem led_nil {p : List Int} {r : Bool} {bs : List PT} (h : sh p (.node r bs) = .so) (e : part .so p bs = []) : led p (.node r bs) = ledEnd p r bs [] := by
  rw [led, if_neg (by simp [h])]
  split
  · rfl
  · rename_i s e'; rw [e] at e'; cases e'
  · rename_i a b c e'; rw [e] at e'; cases e'
theorem led_one {p : List Int} {r : Bool} {bs : List PT} {s : PT} (h : sh p (.node r bs) = .so) (e : part .so p bs = [s]) : led p (.node r bs) = (led p s).bind (ledEnd p r bs) := by
  rw [led, if_neg (by simp [h])]
  split
  · rename_i e'; rw [e] at e'; cases e'
  · rename_i s' e'; rw [e] at e'; cases e'
    cases led p s <;> rfl
  · rename_i a b c e'; rw [e] at e'; cases e'
theorem led_more {p : List Int} {r : Bool} {bs : List PT} (h : sh p (.node r bs) = .so) (e : 1 < (part .so p bs).length) : led p (.node r bs) = none := by
  rw [led, if_neg (by simp [h])]
  split
  · rename_i e'; rw [e'] at e; simp at e
  · rename_i s' e'; rw [e'] at e; simp at e
  · rfl
theorem leaf_so {p : List Int} {g : Int} : sh p (.leaf g) ≠ .so := by
  unfold sh
  by_cases h : g ∈ p <;> simp [h]

section
variable {p : List Int} {r : Bool} {bs : List PT} {l : List Int}
theorem not_both {X : Int → Prop} {l : List Int} (h1 : RA X l) (h2 : LA X l) (z : ¬ Zs X l) : Os X l := by
  obtain ⟨x, y, e1, hx, hy⟩ := h1
  obtain ⟨u, v, e2, hu, hv⟩ := h2
  cases x with
  | nil => rw [e1]; exact hy
  | cons g x =>
    cases u with
    | nil => exact absurd (e2 ▸ hv) z
    | cons g' u =>
      rw [e1, List.cons_append, List.cons_append] at e2
      have e3 : g = g' := (List.cons.inj e2).1
      exact absurd (hu g' (by simp)) (e3 ▸ hx g (by simp))
theorem sh_all_no (w : ∀ b ∈ bs, Wf b) (h0 : bs ≠ []) (h : ∀ b ∈ bs, sh p b = .no) : sh p (.node r bs) = .no := by
  obtain ⟨l, hl⟩ := frl_some bs
  have hz := (frl_no w hl).mpr h
  have e : gs (.node r bs) ≠ [] := by
    match bs, h0 with
    | b :: _, _ => simp [(w b (by simp)).ne]
  refine (sh_no e).mpr ?_
  rw [gs_node]
  exact (zs_perm (frl_perm hl)).mp hz
theorem sh_all_al (w : ∀ b ∈ bs, Wf b) (h : ∀ b ∈ bs, sh p b = .al) : sh p (.node r bs) = .al := by
  obtain ⟨l, hl⟩ := frl_some bs
  refine sh_al.mpr ?_
  rw [gs_node]
  exact (os_perm (frl_perm hl)).mp ((frl_al w hl).mpr h)
theorem part_rev {s : Sh} : part s p bs.reverse = (part s p bs).reverse := by unfold part; rw [List.filter_reverse]
theorem led_end_spec (w : ∀ b ∈ bs, Wf b) (h3 : 1 < bs.length) (hso : sh p (.node r bs) = .so) (m : Option (List PT))
    (hm : ∀ s, (FrL (part .so p bs) s ∧ RA (In p) s) ↔ ∃ L, m = some L ∧ FrL L s) (h1 : (part .so p bs).length ≤ 1) :
    (Fr (.node r bs) l ∧ RA (In p) l) ↔ ∃ L, m.bind (ledEnd p r bs) = some L ∧ FrL L l := by
  cases r with
  | false =>
    constructor
    · rintro ⟨hf, hr⟩
      obtain ⟨bs', q, hf⟩ := fr_any.mp hf
      obtain ⟨n, s, f, rfl, e, k1, k2, k3, k4, _⟩ := ra_parts (fun b hb => w b (q.mem_iff.mp hb)) hf hr
      have q2 : (part .so p bs').Perm (part .so p bs) := part_perm q
      have hs2 : FrL (part .so p bs) s := by
        have e2 : part .so p bs' = part .so p bs := by
          match hh : part .so p bs, h1 with
          | [], _ => rw [hh] at q2; exact List.perm_nil.mp q2
          | [b], _ => rw [hh] at q2; exact List.perm_singleton.mp q2
        rw [← e2]; exact k2
      obtain ⟨L, rfl, hL⟩ := (hm s).mp ⟨hs2, k4⟩
      refine ⟨_, by rw [Option.bind_some]; unfold ledEnd; rw [if_pos rfl], ?_⟩
      exact frl_append.mpr ⟨n, s ++ f, rfl, frl_grouped.mpr ⟨_, part_perm q, k1⟩, frl_append.mpr ⟨s, f, rfl, hL, frl_grouped.mpr ⟨_, part_perm q, k3⟩⟩⟩
    · rintro ⟨L, e, hL⟩
      obtain ⟨M, rfl, e'⟩ := Option.bind_eq_some_iff.mp e
      unfold ledEnd at e'; rw [if_pos rfl] at e'
      cases e'
      obtain ⟨n, y, rfl, k1, k2⟩ := frl_append.mp hL
      obtain ⟨s, f, rfl, k2, k3⟩ := frl_append.mp k2
      obtain ⟨N, qN, k1⟩ := frl_grouped.mp k1
      obtain ⟨F, qF, k3⟩ := frl_grouped.mp k3
      obtain ⟨hs, hr⟩ := (hm s).mpr ⟨M, rfl, k2⟩
      have q : (N ++ (part .so p bs ++ F)).Perm bs := ((qN.append ((List.Perm.refl _).append qF))).trans (parts_perm bs)
      refine ⟨.any q (frl_append.mpr ⟨_, _, rfl, k1, frl_append.mpr ⟨_, _, rfl, hs, k3⟩⟩), ?_⟩
      exact ra_join (S := part .so p bs) (fun b hb => w b (q.mem_iff.mp hb)) k1 k3 (fun b hb => (mem_part.mp (qN.mem_iff.mp hb)).2) (fun b hb => (mem_part.mp (qF.mem_iff.mp hb)).2) hr
  | true =>
    -- one of the two directions, for branches in some order
    have key : ∀ cs : List PT, (∀ b ∈ cs, Wf b) → (part .so p cs = part .so p bs) → ∀ l, (FrL cs l ∧ RA (In p) l) ↔ (part .no p cs ++ (part .so p cs ++ part .al p cs) = cs ∧ ∃ M, m = some M ∧ FrL (part .no p cs ++ (M ++ part .al p cs)) l) := by
      intro cs wc e l
      constructor
      · rintro ⟨hf, hr⟩
        obtain ⟨n, s, f, rfl, e1, k1, k2, k3, k4, _⟩ := ra_parts wc hf hr
        rw [e] at k2
        obtain ⟨M, rfl, hM⟩ := (hm s).mp ⟨k2, k4⟩
        exact ⟨e1.symm, M, rfl, frl_append.mpr ⟨_, _, rfl, k1, frl_append.mpr ⟨_, _, rfl, hM, k3⟩⟩⟩
      · rintro ⟨e1, M, rfl, hL⟩
        obtain ⟨n, y, rfl, k1, k2⟩ := frl_append.mp hL
        obtain ⟨s, f, rfl, k2, k3⟩ := frl_append.mp k2
        obtain ⟨hs, hr⟩ := (hm s).mpr ⟨M, rfl, k2⟩
        rw [← e] at hs
        refine ⟨?_, ra_join (S := part .so p cs) (fun b hb => wc b (by rw [← e1]; exact hb)) k1 k3 (fun b hb => (mem_part.mp hb).2) (fun b hb => (mem_part.mp hb).2) hr⟩
        rw [← e1]
        exact frl_append.mpr ⟨_, _, rfl, k1, frl_append.mpr ⟨_, _, rfl, hs, k3⟩⟩
    have er : part .so p bs.reverse = part .so p bs := by
      have q2 : (part .so p bs.reverse).Perm (part .so p bs) := part_perm bs.reverse_perm
      match hh : part .so p bs, h1 with
      | [], _ => rw [hh] at q2; exact List.perm_nil.mp q2
      | [b], _ => rw [hh] at q2; exact List.perm_singleton.mp q2
    have k1 := key bs w rfl
    have k2 := key bs.reverse (fun b hb => w b (by simpa using hb)) er
    -- not both orders
    have nb : part .no p bs ++ (part .so p bs ++ part .al p bs) = bs → part .no p bs.reverse ++ (part .so p bs.reverse ++ part .al p bs.reverse) = bs.reverse → False := by
      intro e1 e2
      rw [part_rev, part_rev, part_rev] at e2
      have e3 : part .al p bs ++ (part .so p bs ++ part .no p bs) = bs := by
        have q := congrArg List.reverse e2
        simpa using q
      have h0 : bs ≠ [] := by intro z; rw [z] at h3; simp at h3
      have eq : ∀ {s : Sh} {b : PT}, b ∈ part s p bs → sh p b = s := fun h => (mem_part.mp h).2
      generalize hN : part .no p bs = N at *
      generalize hS : part .so p bs = S at *
      generalize hF : part .al p bs = F at *
      match S, F, N, h1, e1, e3 with
      | [], [], N, _, e1, _ =>
        have : sh p (.node true bs) = .no := sh_all_no w h0 fun b hb => eq (s := .no) (by rw [hN]; simpa [← e1] using hb)
        rw [hso] at this; cases this
      | [], F, [], _, e1, _ =>
        have : sh p (.node true bs) = .al := sh_all_al w fun b hb => eq (s := .al) (by rw [hF]; simpa [← e1] using hb)
        rw [hso] at this; cases this
      | _, f :: F, n :: N, _, e1, e3 =>
        rw [← e1] at e3
        have e4 := (List.cons.inj e3).1
        have a1 := eq (s := .al) (b := f) (by rw [hF]; simp)
        have a2 := eq (s := .no) (b := n) (by rw [hN]; simp)
        rw [e4, a2] at a1; cases a1
      | [s], [], [], _, e1, _ => rw [← e1] at h3; simp at h3
      | [s], f :: F, [], _, e1, e3 =>
        rw [← e1] at e3
        have e4 := (List.cons.inj e3).1
        have a1 := eq (s := .al) (b := f) (by rw [hF]; simp)
        have a2 := eq (s := .so) (b := s) (by rw [hS]; simp)
        rw [e4, a2] at a1; cases a1
      | [s], [], n :: N, _, e1, e3 =>
        rw [← e1] at e3
        have e4 := (List.cons.inj e3).1
        have a1 := eq (s := .so) (b := s) (by rw [hS]; simp)
        have a2 := eq (s := .no) (b := n) (by rw [hN]; simp)
        rw [e4, a2] at a1; cases a1
    constructor
    · rintro ⟨hf, hr⟩
      rcases fr_row.mp hf with hf | hf
      · obtain ⟨e1, M, rfl, hM⟩ := (k1 l).mp ⟨hf, hr⟩
        exact ⟨_, by rw [Option.bind_some]; unfold ledEnd; rw [if_neg (by decide), if_pos e1], hM⟩
      · obtain ⟨e2, M, rfl, hM⟩ := (k2 l).mp ⟨hf, hr⟩
        exact ⟨_, by rw [Option.bind_some]; unfold ledEnd; rw [if_neg (by decide), if_neg (fun e1 => nb e1 e2), if_pos e2], hM⟩
    · rintro ⟨L, e, hL⟩
      obtain ⟨M, rfl, e'⟩ := Option.bind_eq_some_iff.mp e
      unfold ledEnd at e'; rw [if_neg (by decide)] at e'
      by_cases e1 : part .no p bs ++ (part .so p bs ++ part .al p bs) = bs
      · rw [if_pos e1] at e'
        cases e'
        obtain ⟨hf, hr⟩ := (k1 l).mpr ⟨e1, M, rfl, hL⟩
        exact ⟨.row hf, hr⟩
      · rw [if_neg e1] at e'
        by_cases e2 : part .no p bs.reverse ++ (part .so p bs.reverse ++ part .al p bs.reverse) = bs.reverse
        · rw [if_pos e2] at e'
          cases e'
          obtain ⟨hf, hr⟩ := (k2 l).mpr ⟨e2, M, rfl, hL⟩
          exact ⟨.rev hf, hr⟩
        · rw [if_neg e2] at e'; cases e'
theorem spec_led (t : PT) (w : Wf t) : ∀ l, (Fr t l ∧ RA (In p) l) ↔ ∃ L, led p t = some L ∧ FrL L l := by
  induction t using PT.ind with
  | hl g =>
    intro l
    rw [led_other leaf_so]
    refine ⟨fun h => ⟨_, rfl, frl_one.mpr h.1⟩, fun ⟨L, e, h⟩ => ?_⟩
    cases e
    have h := frl_one.mp h
    refine ⟨h, ?_⟩
    rw [fr_leaf.mp h]
    by_cases k : g ∈ p
    · exact .os fun x hx => by simp at hx; subst hx; exact k
    · exact .zs fun x hx => by simp at hx; subst hx; exact k
  | hn r bs ih =>
    intro l
    by_cases hso : sh p (.node r bs) = .so
    · by_cases h1 : (part .so p bs).length ≤ 1
      · match hh : part .so p bs, h1 with
        | [], _ =>
          rw [led_nil hso hh]
          have q := led_end_spec (l := l) w.br w.two hso (some []) (fun s => ?_) (by rw [hh]; simp)
          · simpa using q
          · rw [hh]
            refine ⟨fun h => ⟨_, rfl, h.1⟩, fun ⟨L, e, h⟩ => ?_⟩
            cases e
            refine ⟨h, ?_⟩
            rw [frl_nil.mp h]
            exact .zs zs_nil
        | [s], _ =>
          rw [led_one hso hh]
          refine led_end_spec w.br w.two hso (led p s) (fun s' => ?_) (by rw [hh]; simp)
          rw [hh, frl_one]
          have hs : s ∈ bs := part_sub (s := .so) (p := p) (by rw [hh]; simp)
          exact ih s hs (w.br s hs) s'
      · rw [led_more hso (by omega)]
        refine ⟨fun ⟨hf, hr⟩ => ?_, fun ⟨L, e, _⟩ => nomatch e⟩
        exfalso
        have aux : ∀ cs : List PT, cs.Perm bs → FrL cs l → False := by
          intro cs q hf
          obtain ⟨_, _, _, _, _, _, _, _, _, z⟩ := ra_parts (fun b hb => w.br b (q.mem_iff.mp hb)) hf hr
          have := (part_perm (s := .so) (p := p) q).length_eq
          omega
        cases r with
        | false => obtain ⟨cs, q, hf⟩ := fr_any.mp hf; exact aux cs q hf
        | true => exact (fr_row.mp hf).elim (aux bs (.refl _)) (aux _ bs.reverse_perm)
    · rw [led_other hso]
      refine ⟨fun h => ⟨_, rfl, frl_one.mpr h.1⟩, fun ⟨L, e, h⟩ => ?_⟩
      cases e
      have h := frl_one.mp h
      refine ⟨h, ?_⟩
      cases e : sh p (.node r bs) with
      | no => exact .zs ((fr_no w h).mpr e)
      | so => exact absurd e hso
      | al => exact .os ((fr_al h).mpr e)
theorem short {α : Type} {l : List α} (h : l.length ≤ 1) : l = [] ∨ ∃ a, l = [a] := by
  match l, h with
  | [], _ => exact .inl rfl
  | [a], _ => exact .inr ⟨a, rfl⟩
theorem wf_ledEnd (w : ∀ b ∈ bs, Wf b) {m L : List PT} (wm : ∀ b ∈ m, Wf b) (e : ledEnd p r bs m = some L) : ∀ b ∈ L, Wf b := by
  have wp : ∀ s cs, (∀ b ∈ cs, b ∈ bs) → ∀ b ∈ part s p cs, Wf b := fun s cs hc b hb => w b (hc b (part_sub hb))
  have g : ∀ {A B C : List PT}, (∀ b ∈ A, Wf b) → (∀ b ∈ B, Wf b) → (∀ b ∈ C, Wf b) → ∀ b ∈ A ++ (B ++ C), Wf b := by
    intro A B C a b c x hx
    simp only [List.mem_append] at hx
    rcases hx with hx | hx | hx
    · exact a x hx
    · exact b x hx
    · exact c x hx
  unfold ledEnd at e
  split at e
  · cases e
    exact g (wf_grouped (wp _ _ fun _ h => h)) wm (wf_grouped (wp _ _ fun _ h => h))
  · split at e
    · cases e; exact g (wp _ _ fun _ h => h) wm (wp _ _ fun _ h => h)
    · split at e
      · cases e; exact g (wp _ _ fun _ h => by simpa using h) wm (wp _ _ fun _ h => by simpa using h)
      · cases e
theorem wf_led (t : PT) (w : Wf t) : ∀ L, led p t = some L → ∀ b ∈ L, Wf b := by
  induction t using PT.ind with
  | hl g =>
    intro L e
    rw [led_other leaf_so] at e
    cases e
    intro b hb; simp at hb; subst hb; exact w
  | hn r bs ih =>
    intro L e
    by_cases hso : sh p (.node r bs) = .so
    · by_cases h1 : (part .so p bs).length ≤ 1
      · rcases short h1 with hh | ⟨s, hh⟩
        · rw [led_nil hso hh] at e
          exact wf_ledEnd w.br (m := []) (fun _ h => absurd h (by simp)) e
        · rw [led_one hso hh] at e
          have hs : s ∈ bs := part_sub (s := .so) (p := p) (by rw [hh]; simp)
          obtain ⟨m, e1, e2⟩ := Option.bind_eq_some_iff.mp e
          exact wf_ledEnd w.br (ih s hs (w.br s hs) m e1) e2
      · rw [led_more hso (by omega)] at e; cases e
    · rw [led_other hso] at e
      cases e
      intro b hb; simp at hb; subst hb; exact w
/-- where a tree has some guests of the party, it is led to two branches or more -/
theorem led_two {t : PT} (w : Wf t) (h : sh p t = .so) {L : List PT} (e : led p t = some L) : 2 ≤ L.length := by
  have hs := spec_led (p := p) t w
  match L, e, hs with
  | [], e, hs =>
    have h1 := (hs []).mpr ⟨[], e, .nil⟩
    exact absurd rfl (fr_ne w h1.1)
  | [b], e, hs =>
    exfalso
    obtain ⟨l, hl⟩ := fr_some b
    have h1 := (hs l).mpr ⟨[b], e, frl_one.mpr hl⟩
    have h2 := (hs l.reverse).mpr ⟨[b], e, frl_one.mpr (fr_rev hl)⟩
    obtain ⟨z1, z2⟩ := (fr_so w h1.1).mp h
    exact z2 (not_both h1.2 (ra_rev.mp h2.2) z1)
  | _ :: _ :: _, _, _ => simp
end
end PT
end ST
namespace ST
namespace PT
open Classical
def wrapRow (no L : List PT) : PT := if no = [] then .node true L else .node false (no ++ [.node true L])
noncomputable def anyTog (p : List Int) (no so al : List PT) : Option PT :=
  match so with
  | [] => some (.node false (no ++ grouped al))
  | [s] => (led p s).map fun e => wrapRow no (e ++ grouped al)
  | [s, s'] => (led p s).bind fun e => (led p s').map fun e' => wrapRow no (e ++ grouped al ++ e'.reverse)
  | _ => none
/-- the places of the branches with guests of the party, the first branch's being k -/
def places (p : List Int) : Nat → List PT → List Nat
  | _, [] => []
  | k, b :: bs => if sh p b = .no then places p (k + 1) bs else k :: places p (k + 1) bs
def dft : PT := .leaf 0
noncomputable def rowTog (p : List Int) (bs : List PT) : Option PT :=
  let pl := places p 0 bs
  let f := pl.headD 0
  let e := pl.getLastD 0
  if e - f ≥ pl.length ∨ (pl.tail.dropLast.any fun i => decide (sh p (bs.getD i dft) = .so)) = true then none
  else (led p (bs.getD f dft)).bind fun L => (led p (bs.getD e dft)).map fun R => .node true (bs.take f ++ (L ++ (bs.drop (f + 1)).take (e - (f + 1)) ++ R.reverse) ++ bs.drop (e + 1))
noncomputable def tog (p : List Int) (t : PT) : Option PT :=
  if sh p t = .al then some t else
  match t with
  | .leaf g => some (.leaf g)
  | .node r bs =>
    if (part .so p bs).length + (part .al p bs).length = 1 then
      match h : part .so p bs with
      | [] => some (.node r bs)
      | s :: _ =>
        match tog p s with
        | none => none
        | some i => some (.node r (bs.map fun b => if b = s then i else b))
    else if r = false then anyTog p (part .no p bs) (part .so p bs) (part .al p bs) else rowTog p bs
termination_by sizeOf t
decreasing_by exact size_mem (part_sub (by rw [h]; simp))
theorem tog_al {p : List Int} {t : PT} (h : sh p t = .al) : tog p t = some t := by rw [tog.eq_def, if_pos h]
theorem tog_one_al {p : List Int} {r : Bool} {bs : List PT} (h : sh p (.node r bs) ≠ .al) (h1 : (part .so p bs).length + (part .al p bs).length = 1) (e : part .so p bs = []) : tog p (.node r bs) = some (.node r bs) := by
  rw [tog.eq_def, if_neg h]
  dsimp only
  rw [if_pos h1]
  split
  · rfl
  · rename_i s _ e'; rw [e] at e'; cases e'
theorem tog_one_so {p : List Int} {r : Bool} {bs : List PT} {s : PT} {q : List PT} (h : sh p (.node r bs) ≠ .al) (h1 : (part .so p bs).length + (part .al p bs).length = 1) (e : part .so p bs = s :: q) :
    tog p (.node r bs) = (tog p s).map fun i => .node r (bs.map fun b => if b = s then i else b) := by
  rw [tog.eq_def, if_neg h]
  dsimp only
  rw [if_pos h1]
  split
  · rename_i e'; rw [e] at e'; cases e'
  · rename_i s' _ e'; rw [e] at e'; cases e'
    cases tog p s <;> rfl
theorem tog_any {p : List Int} {bs : List PT} (h : sh p (.node false bs) ≠ .al) (h1 : (part .so p bs).length + (part .al p bs).length ≠ 1) : tog p (.node false bs) = anyTog p (part .no p bs) (part .so p bs) (part .al p bs) := by
  rw [tog.eq_def, if_neg h]
  dsimp only
  rw [if_neg h1, if_pos rfl]
theorem tog_row {p : List Int} {bs : List PT} (h : sh p (.node true bs) ≠ .al) (h1 : (part .so p bs).length + (part .al p bs).length ≠ 1) : tog p (.node true bs) = rowTog p bs := by
  rw [tog.eq_def, if_neg h]
  dsimp only
  rw [if_neg h1, if_neg (by decide)]

section
variable {p : List Int} {bs : List PT} {l : List Int}
/-! ### branches in any order -/
/-- those with guests of the party stand together, in the midst of the others -/
theorem any_cv (w : ∀ b ∈ bs, Wf b) : (Fr (.node false bs) l ∧ Cv (In p) l) ↔
    ∃ (N M K : List PT) (n m k : List Int), (N ++ K).Perm (part .no p bs) ∧ M.Perm (part .so p bs ++ part .al p bs) ∧ l = n ++ (m ++ k) ∧ FrL N n ∧ FrL K k ∧ Mid (In p) M m := by
  constructor
  · rintro ⟨hf, hc⟩
    obtain ⟨cs, q, hf⟩ := fr_any.mp hf
    have wc : ∀ b ∈ cs, Wf b := fun b hb => w b (q.mem_iff.mp hb)
    obtain ⟨N, M, K, n, m, k, rfl, rfl, k1, k2, k3, k4, k5⟩ := cv_split wc hf hc
    have wN : ∀ b ∈ N, Wf b := fun b hb => wc b (by simp [hb])
    have wM : ∀ b ∈ M, Wf b := fun b hb => wc b (by simp [hb])
    have wK : ∀ b ∈ K, Wf b := fun b hb => wc b (by simp [hb])
    have eN := (frl_no wN k1).mp k2
    have eK := (frl_no wK k4).mp k5
    have eM : ∀ b ∈ M, sh p b ≠ .no := by
      cases k3 with
      | none => intro b hb; cases hb
      | one h1 _ h2 =>
        intro b hb; simp at hb; subst hb
        exact fun e => h2 ((fr_no (wM b (by simp)) h1).mpr e)
      | more h1 _ h2 h3 h4 h5 _ h6 =>
        intro b hb
        simp only [List.mem_cons, List.mem_append, List.not_mem_nil, or_false] at hb
        rcases hb with rfl | hb | rfl
        · exact fun e => h2 ((fr_no (wM b (by simp)) h1).mpr e)
        · have := (frl_al (fun b hb => wM b (by simp [hb])) h3).mp h4 b hb
          rw [this]; decide
        · exact fun e => h6 ((fr_no (wM b (by simp)) h5).mpr e)
    have qn : (part .no p (N ++ (M ++ K))).Perm (part .no p bs) := part_perm q
    have qs : (part .so p (N ++ (M ++ K))).Perm (part .so p bs) := part_perm q
    have qa : (part .al p (N ++ (M ++ K))).Perm (part .al p bs) := part_perm q
    rw [part_append, part_append, part_all eN, part_all eK, part_none eM, List.nil_append] at qn
    rw [part_append, part_append, part_other eN (by decide), part_other eK (by decide), List.nil_append, List.append_nil] at qs
    rw [part_append, part_append, part_other eN (by decide), part_other eK (by decide), List.nil_append, List.append_nil] at qa
    refine ⟨N, M, K, n, m, k, qn, ?_, rfl, k1, k4, k3⟩
    have z := parts_perm (p := p) M
    rw [part_none eM, List.nil_append] at z
    exact z.symm.trans (qs.append qa)
  · rintro ⟨N, M, K, n, m, k, q1, q2, rfl, k1, k2, k3⟩
    have q : (N ++ (M ++ K)).Perm bs := by
      refine ((List.perm_append_comm_assoc N M K).trans ((q2.append q1).trans ?_)).trans (parts_perm (p := p) bs)
      exact List.perm_append_comm
    have wc : ∀ b ∈ N ++ (M ++ K), Wf b := fun b hb => w b (q.mem_iff.mp hb)
    refine ⟨.any q (frl_append.mpr ⟨n, m ++ k, rfl, k1, frl_append.mpr ⟨m, k, rfl, k3.frl, k2⟩⟩), ?_⟩
    refine (cv_mid ?_ ?_).mpr k3.cv
    · exact (frl_no (fun b hb => wc b (by simp [hb])) k1).mpr fun b hb => (mem_part.mp (q1.mem_iff.mp (by simp [hb]))).2
    · exact (frl_no (fun b hb => wc b (by simp [hb])) k2).mpr fun b hb => (mem_part.mp (q1.mem_iff.mp (by simp [hb]))).2
theorem fr_among {no : List PT} {T : PT} : Fr (.node false (no ++ [T])) l ↔ ∃ (N K : List PT) (n m k : List Int), (N ++ K).Perm no ∧ l = n ++ (m ++ k) ∧ FrL N n ∧ Fr T m ∧ FrL K k := by
  rw [fr_any]
  constructor
  · rintro ⟨cs, q, hf⟩
    have hT : T ∈ cs := q.mem_iff.mpr (by simp)
    obtain ⟨N, K, rfl⟩ := List.append_of_mem hT
    have q2 : (N ++ K).Perm no := by
      have a1 : (T :: (N ++ K)).Perm (T :: no) := (List.perm_middle.symm.trans q).trans (List.perm_append_comm (l₁ := no) (l₂ := [T]))
      exact a1.cons_inv
    obtain ⟨n, y, rfl, k1, k2⟩ := frl_append.mp hf
    obtain ⟨m, k, rfl, k2, k3⟩ := frl_cons.mp k2
    exact ⟨N, K, n, m, k, q2, rfl, k1, k2, k3⟩
  · rintro ⟨N, K, n, m, k, q, rfl, k1, k2, k3⟩
    refine ⟨N ++ T :: K, ?_, frl_append.mpr ⟨_, _, rfl, k1, .cons k2 k3⟩⟩
    exact (List.perm_middle.trans (q.cons T)).trans (List.perm_append_comm (l₁ := [T]) (l₂ := no))
theorem fr_wrap {no L : List PT} : Fr (wrapRow no L) l ↔ ∃ (N K : List PT) (n m k : List Int), (N ++ K).Perm no ∧ l = n ++ (m ++ k) ∧ FrL N n ∧ Fr (.node true L) m ∧ FrL K k := by
  unfold wrapRow
  by_cases h : no = []
  · rw [if_pos h, h]
    constructor
    · intro k; exact ⟨[], [], [], l, [], .refl _, by simp, .nil, k, .nil⟩
    · rintro ⟨N, K, n, m, k, q, rfl, k1, k2, k3⟩
      have e := List.perm_nil.mp q
      rw [List.append_eq_nil_iff] at e
      rw [e.1] at k1; rw [e.2] at k3
      rw [frl_nil.mp k1, frl_nil.mp k3]
      simpa using k2
  · rw [if_neg h]
    exact fr_among
theorem Mid.rev {X : Int → Prop} {M : List PT} {m : List Int} (h : Mid X M m) : Mid X M.reverse m.reverse := by
  cases h with
  | none => exact .none
  | one h1 h2 h3 => exact .one (fr_rev h1) h2.rev (fun z => h3 (zs_rev.mp z))
  | more k1 k2 k3 k4 k5 k6 k7 k8 =>
    have := Mid.more (fr_rev k6) k7.rev (fun z => k8 (zs_rev.mp z)) (frl_rev k4) (os_rev.mpr k5) (fr_rev k1) k2.rev (fun z => k3 (zs_rev.mp z))
    simpa using this
/-- the midst alone -/
theorem mid_al {al : List PT} {m : List Int} (w : ∀ b ∈ al, Wf b) (h : ∀ b ∈ al, sh p b = .al) (h2 : 2 ≤ al.length) : (∃ M : List PT, M.Perm al ∧ Mid (In p) M m) ↔ Fr (.node false al) m := by
  rw [fr_any]
  constructor
  · rintro ⟨M, q, k⟩; exact ⟨M, q, k.frl⟩
  · rintro ⟨M, q, k⟩
    refine ⟨M, q, ?_⟩
    have wM : ∀ b ∈ M, Wf b := fun b hb => w b (q.mem_iff.mp hb)
    have hM : ∀ b ∈ M, sh p b = .al := fun b hb => h b (q.mem_iff.mp hb)
    have hl := q.length_eq
    match M, hl with
    | [], hl => simp at hl; omega
    | [_], hl => simp at hl; omega
    | t :: y :: z, _ =>
      have hne : y :: z ≠ [] := by simp
      obtain ⟨a, b, rfl, k1, k2⟩ := frl_cons.mp k
      rw [← List.dropLast_concat_getLast hne] at k2 wM hM ⊢
      obtain ⟨f, c, rfl, k2, k3⟩ := frl_append.mp k2
      have k3 := frl_one.mp k3
      have o1 := (fr_al k1).mpr (hM t (by simp))
      have o2 := (frl_al (fun b hb => wM b (by simp [hb])) k2).mpr fun b hb => hM b (by simp [hb])
      have o3 := (fr_al k3).mpr (hM _ (by simp))
      exact .more k1 (.os o1) (fun z => fr_ne (wM t (by simp)) k1 (zs_os z o1)) k2 o2 k3 (.os o3) (fun z => fr_ne (wM _ (by simp)) k3 (zs_os z o3))
theorem mid_so1 {s : PT} {al : List PT} {m : List Int} (ws : Wf s) (w : ∀ b ∈ al, Wf b) (hs : sh p s = .so) (h : ∀ b ∈ al, sh p b = .al) (h2 : 1 ≤ al.length) :
    (∃ M : List PT, M.Perm ([s] ++ al) ∧ Mid (In p) M m) ↔ ∃ e, led p s = some e ∧ Fr (.node true (e ++ grouped al)) m := by
  have sp := spec_led (p := p) s ws
  -- one direction of the row
  have half : ∀ m : List Int, (∃ a g, m = a ++ g ∧ Fr s a ∧ RA (In p) a ∧ ∃ A : List PT, A.Perm al ∧ FrL A g) ↔ ∃ e, led p s = some e ∧ FrL (e ++ grouped al) m := by
    intro m
    constructor
    · rintro ⟨a, g, rfl, k1, k2, A, q, k3⟩
      obtain ⟨e, he, k4⟩ := (sp a).mp ⟨k1, k2⟩
      exact ⟨e, he, frl_append.mpr ⟨a, g, rfl, k4, frl_grouped.mpr ⟨A, q, k3⟩⟩⟩
    · rintro ⟨e, he, k⟩
      obtain ⟨a, g, rfl, k1, k2⟩ := frl_append.mp k
      obtain ⟨k3, k4⟩ := (sp a).mpr ⟨e, he, k1⟩
      obtain ⟨A, q, k5⟩ := frl_grouped.mp k2
      exact ⟨a, g, rfl, k3, k4, A, q, k5⟩
  have none_al : ∀ {c : PT} {a : List Int}, Wf c → sh p c = .so ∨ sh p c = .al → Fr c a → ¬ Zs (In p) a := by
    intro c a wc hc k z
    have := (fr_no wc k).mp z
    rcases hc with e | e <;> rw [e] at this <;> cases this
  constructor
  · rintro ⟨M, q, k⟩
    have hl := q.length_eq
    cases k with
    | none => simp only [List.length_append, List.length_cons, List.length_nil] at hl; omega
    | one => simp only [List.length_append, List.length_cons, List.length_nil] at hl; omega
    | @more t t' F a f b k1 k2 k3 k4 k5 k6 k7 k8 =>
      have hsm : s ∈ t :: (F ++ [t']) := q.mem_iff.mpr (by simp)
      have hF : ∀ c ∈ F, sh p c = .al := by
        refine (frl_al (fun c hc => ?_) k4).mp k5
        have : c ∈ [s] ++ al := q.mem_iff.mp (by simp [hc])
        rcases List.mem_append.mp this with h1 | h1
        · simp at h1; subst h1; exact ws
        · exact w c h1
      simp only [List.mem_cons, List.mem_append, List.not_mem_nil, or_false] at hsm
      rcases hsm with rfl | hsm | rfl
      · have q2 : (F ++ [t']).Perm al := by simpa using q.cons_inv
        obtain ⟨e, he, k⟩ := (half (a ++ (f ++ b))).mp ⟨a, f ++ b, rfl, k1, k2, _, q2, frl_append.mpr ⟨f, b, rfl, k4, frl_one.mpr k6⟩⟩
        exact ⟨e, he, .row k⟩
      · have := hF s hsm; rw [hs] at this; cases this
      · have q2 : (t :: F).Perm al := by
          have q' : (s :: (t :: F)).Perm (s :: al) := by
            have z : (t :: (F ++ [s])) = (t :: F) ++ [s] := rfl
            rw [z] at q
            exact (List.perm_append_comm (l₁ := [s]) (l₂ := t :: F)).trans q
          exact q'.cons_inv
        obtain ⟨e, he, k⟩ := (half (a ++ (f ++ b)).reverse).mp ⟨b.reverse, (a ++ f).reverse, by simp, fr_rev k6, k7.rev, _, (List.reverse_perm _).trans q2, frl_rev (.cons k1 k4)⟩
        exact ⟨e, he, .rev (frl_rev_iff.mpr k)⟩
  · rintro ⟨e, he, k⟩
    -- from a row with the branch at the left
    have back : ∀ m, FrL (e ++ grouped al) m → ∃ M : List PT, M.Perm ([s] ++ al) ∧ Mid (In p) M m := by
      intro m k
      obtain ⟨a, g, rfl, k1, k2, A, q, k3⟩ := (half m).mpr ⟨e, he, k⟩
      have hl := q.length_eq
      have hne : A ≠ [] := by intro z; rw [z] at hl; simp at hl; omega
      rw [← List.dropLast_concat_getLast hne] at k3 q
      obtain ⟨f, c, rfl, k4, k5⟩ := frl_append.mp k3
      have k5 := frl_one.mp k5
      have mem : ∀ c ∈ A.dropLast ++ [A.getLast hne], c ∈ al := fun c hc => q.mem_iff.mp hc
      have o2 := (frl_al (p := p) (fun b hb => w b (mem b (by simp [hb]))) k4).mpr fun b hb => h b (mem b (by simp [hb]))
      have o3 := (fr_al (p := p) k5).mpr (h _ (mem _ (by simp)))
      refine ⟨s :: (A.dropLast ++ [A.getLast hne]), q.cons s, ?_⟩
      exact .more k1 k2 (none_al ws (.inl hs) k1) k4 o2 k5 (.os o3) (none_al (w _ (mem _ (by simp))) (.inr (h _ (mem _ (by simp)))) k5)
    rcases fr_row.mp k with k | k
    · exact back m k
    · obtain ⟨M, q, hM⟩ := back m.reverse (frl_rev_iff.mp k)
      exact ⟨M.reverse, M.reverse_perm.trans q, by simpa using hM.rev⟩
theorem mid_so2 {s s' : PT} {al : List PT} {m : List Int} (ws : Wf s) (ws' : Wf s') (w : ∀ b ∈ al, Wf b) (hs : sh p s = .so) (hs' : sh p s' = .so) (h : ∀ b ∈ al, sh p b = .al) :
    (∃ M : List PT, M.Perm ([s, s'] ++ al) ∧ Mid (In p) M m) ↔ ∃ e, led p s = some e ∧ ∃ e', led p s' = some e' ∧ Fr (.node true (e ++ grouped al ++ e'.reverse)) m := by
  have sp := spec_led (p := p) s ws
  have sp' := spec_led (p := p) s' ws'
  have nz : ∀ {c : PT} {a : List Int}, Wf c → sh p c = .so → Fr c a → ¬ Zs (In p) a := by
    intro c a wc hc k z
    have := (fr_no wc k).mp z
    rw [hc] at this; cases this
  have half : ∀ m : List Int, (∃ a f b, m = a ++ (f ++ b) ∧ Fr s a ∧ RA (In p) a ∧ (∃ A : List PT, A.Perm al ∧ FrL A f) ∧ Fr s' b ∧ LA (In p) b) ↔ ∃ e, led p s = some e ∧ ∃ e', led p s' = some e' ∧ FrL (e ++ grouped al ++ e'.reverse) m := by
    intro m
    constructor
    · rintro ⟨a, f, b, rfl, k1, k2, ⟨A, q, k3⟩, k4, k5⟩
      obtain ⟨e, he, k6⟩ := (sp a).mp ⟨k1, k2⟩
      obtain ⟨e', he', k7⟩ := (sp' b.reverse).mp ⟨fr_rev k4, k5.rev⟩
      refine ⟨e, he, e', he', ?_⟩
      rw [List.append_assoc]
      exact frl_append.mpr ⟨_, _, rfl, k6, frl_append.mpr ⟨_, _, rfl, frl_grouped.mpr ⟨A, q, k3⟩, frl_rev_iff.mpr k7⟩⟩
    · rintro ⟨e, he, e', he', k⟩
      rw [List.append_assoc] at k
      obtain ⟨a, g, rfl, k1, k2⟩ := frl_append.mp k
      obtain ⟨f, b, rfl, k2, k3⟩ := frl_append.mp k2
      obtain ⟨A, q, k4⟩ := frl_grouped.mp k2
      obtain ⟨k5, k6⟩ := (sp a).mpr ⟨e, he, k1⟩
      obtain ⟨k7, k8⟩ := (sp' b.reverse).mpr ⟨e', he', frl_rev_iff.mp k3⟩
      exact ⟨a, f, b, rfl, k5, k6, ⟨A, q, k4⟩, by simpa using fr_rev k7, ra_rev.mp k8⟩
  constructor
  · rintro ⟨M, q, k⟩
    have hl := q.length_eq
    cases k with
    | none => simp only [List.length_append, List.length_cons, List.length_nil] at hl; omega
    | one => simp only [List.length_append, List.length_cons, List.length_nil] at hl; omega
    | @more t t' F a f b k1 k2 k3 k4 k5 k6 k7 k8 =>
      have wM : ∀ c ∈ t :: (F ++ [t']), Wf c := by
        intro c hc
        have : c ∈ [s, s'] ++ al := q.mem_iff.mp hc
        simp only [List.mem_append, List.mem_cons, List.not_mem_nil, or_false] at this
        rcases this with (rfl | rfl) | h1
        · exact ws
        · exact ws'
        · exact w c h1
      have hF : ∀ c ∈ F, sh p c = .al := (frl_al (fun c hc => wM c (by simp [hc])) k4).mp k5
      -- t and t' are s and s', in some order
      have qs := part_perm (s := .so) (p := p) q
      have qa := part_perm (s := .al) (p := p) q
      rw [part_append, part_all (s := .so) (bs := [s, s']) (by intro b hb; simp at hb; rcases hb with rfl | rfl <;> assumption), part_other h (by decide), List.append_nil] at qs
      have e1 : part .so p (t :: (F ++ [t'])) = part .so p [t] ++ part .so p [t'] := by
        have : t :: (F ++ [t']) = [t] ++ (F ++ [t']) := rfl
        rw [this, part_append, part_append, part_other hF (by decide), List.nil_append]
      rw [e1] at qs
      have ls := qs.length_eq
      have l1 : ∀ c : PT, sh p c ≠ .so → part .so p [c] = [] := fun c hc => part_none (by intro b hb; simp at hb; subst hb; exact hc)
      have l2 : ∀ c : PT, sh p c = .so → part .so p [c] = [c] := fun c hc => part_all (by intro b hb; simp at hb; subst hb; exact hc)
      have ht : sh p t = .so := by
        by_cases z : sh p t = .so
        · exact z
        · rw [l1 t z] at ls
          by_cases z' : sh p t' = .so
          · rw [l2 t' z'] at ls; simp at ls
          · rw [l1 t' z'] at ls; simp at ls
      have ht' : sh p t' = .so := by
        by_cases z' : sh p t' = .so
        · exact z'
        · rw [l1 t' z', l2 t ht] at ls; simp at ls
      rw [l2 t ht, l2 t' ht'] at qs
      have qF : F.Perm al := by
        rw [part_append, part_all h, part_other (s := .so) (bs := [s, s']) (by intro b hb; simp at hb; rcases hb with rfl | rfl <;> assumption) (by decide), List.nil_append] at qa
        have : t :: (F ++ [t']) = [t] ++ (F ++ [t']) := rfl
        rw [this, part_append, part_append, part_all hF, part_other (s := .so) (bs := [t]) (by intro b hb; simp at hb; subst hb; exact ht) (by decide), part_other (s := .so) (bs := [t']) (by intro b hb; simp at hb; subst hb; exact ht') (by decide)] at qa
        simpa using qa
      have two : (t = s ∧ t' = s') ∨ (t = s' ∧ t' = s) := by
        have m1 : t ∈ [s, s'] := qs.mem_iff.mp (by simp)
        simp only [List.mem_cons, List.not_mem_nil, or_false] at m1
        rcases m1 with rfl | rfl
        · refine .inl ⟨rfl, ?_⟩
          have q' : ([t] ++ [t']).Perm ([t] ++ [s']) := qs
          have q2 := (List.perm_append_left_iff [t]).mp q'
          have := q2.mem_iff (a := t')
          simpa using this
        · refine .inr ⟨rfl, ?_⟩
          have q' : ([t] ++ [t']).Perm ([t] ++ [s]) := (show ([t] ++ [t']).Perm [s, t] from qs).trans (List.Perm.swap _ _ _)
          have q2 := (List.perm_append_left_iff [t]).mp q'
          have := q2.mem_iff (a := t')
          simpa using this
      rcases two with ⟨rfl, rfl⟩ | ⟨rfl, rfl⟩
      · obtain ⟨e, he, e', he', k⟩ := (half (a ++ (f ++ b))).mp ⟨a, f, b, rfl, k1, k2, ⟨F, qF, k4⟩, k6, k7⟩
        exact ⟨e, he, e', he', .row k⟩
      · obtain ⟨e, he, e', he', k⟩ := (half (a ++ (f ++ b)).reverse).mp ⟨b.reverse, f.reverse, a.reverse, by simp, fr_rev k6, k7.rev, ⟨F.reverse, (List.reverse_perm _).trans qF, frl_rev k4⟩, fr_rev k1, k2.rev⟩
        exact ⟨e, he, e', he', .rev (frl_rev_iff.mpr k)⟩
  · rintro ⟨e, he, e', he', k⟩
    have back : ∀ m, FrL (e ++ grouped al ++ e'.reverse) m → ∃ M : List PT, M.Perm ([s, s'] ++ al) ∧ Mid (In p) M m := by
      intro m k
      obtain ⟨a, f, b, rfl, k1, k2, ⟨A, q, k3⟩, k4, k5⟩ := (half m).mpr ⟨e, he, e', he', k⟩
      have o2 := (frl_al (p := p) (fun b hb => w b (q.mem_iff.mp hb)) k3).mpr fun b hb => h b (q.mem_iff.mp hb)
      refine ⟨s :: (A ++ [s']), ?_, .more k1 k2 (nz ws hs k1) k3 o2 k4 k5 (nz ws' hs' k4)⟩
      refine List.Perm.cons s ?_
      exact (List.perm_append_comm (l₁ := A) (l₂ := [s'])).trans ((List.Perm.refl [s']).append q)
    rcases fr_row.mp k with k | k
    · exact back m k
    · obtain ⟨M, q, hM⟩ := back m.reverse (frl_rev_iff.mp k)
      exact ⟨M.reverse, M.reverse_perm.trans q, by simpa using hM.rev⟩
end
end PT
end ST
namespace ST
namespace PT
open Classical
section
variable {p : List Int} {bs : List PT} {l : List Int}
theorem mid_so3 {so al : List PT} {m : List Int} (w : ∀ b ∈ so ++ al, Wf b) (hs : ∀ b ∈ so, sh p b = .so) (h : ∀ b ∈ al, sh p b = .al) (h3 : 3 ≤ so.length) : ¬ ∃ M : List PT, M.Perm (so ++ al) ∧ Mid (In p) M m := by
  rintro ⟨M, q, k⟩
  have qs := (part_perm (s := .so) (p := p) q).length_eq
  rw [part_append, part_all hs, part_other h (by decide), List.append_nil] at qs
  cases k with
  | none => have := q.length_eq; simp only [List.length_append, List.length_nil] at this; omega
  | one => have := q.length_eq; simp only [List.length_append, List.length_cons, List.length_nil] at this; omega
  | @more t t' F a f b k1 k2 k3 k4 k5 k6 k7 k8 =>
    have hF : ∀ c ∈ F, sh p c = .al := (frl_al (fun c hc => w c (q.mem_iff.mp (by simp [hc]))) k4).mp k5
    have e1 : part .so p (t :: (F ++ [t'])) = part .so p [t] ++ part .so p [t'] := by
      have : t :: (F ++ [t']) = [t] ++ (F ++ [t']) := rfl
      rw [this, part_append, part_append, part_other hF (by decide), List.nil_append]
    rw [e1, List.length_append] at qs
    have a1 : (part .so p [t]).length ≤ 1 := List.length_filter_le ..
    have a2 : (part .so p [t']).length ≤ 1 := List.length_filter_le ..
    omega
theorem spec_any (w : ∀ b ∈ bs, Wf b) (h2 : 2 ≤ (part .so p bs).length + (part .al p bs).length) (hna : sh p (.node false bs) ≠ .al) :
    (Fr (.node false bs) l ∧ Cv (In p) l) ↔ ∃ T, anyTog p (part .no p bs) (part .so p bs) (part .al p bs) = some T ∧ Fr T l := by
  rw [any_cv w]
  have wa : ∀ b ∈ part .al p bs, Wf b := fun b hb => w b (part_sub hb)
  have ws : ∀ b ∈ part .so p bs, Wf b := fun b hb => w b (part_sub hb)
  have ea : ∀ b ∈ part .al p bs, sh p b = .al := fun b hb => (mem_part.mp hb).2
  have es : ∀ b ∈ part .so p bs, sh p b = .so := fun b hb => (mem_part.mp hb).2
  -- the outer branches and the midst
  have fold : ∀ (Y : List Int → Prop), (∀ m, (∃ M : List PT, M.Perm (part .so p bs ++ part .al p bs) ∧ Mid (In p) M m) ↔ Y m) →
      ((∃ (N M K : List PT) (n m k : List Int), (N ++ K).Perm (part .no p bs) ∧ M.Perm (part .so p bs ++ part .al p bs) ∧ l = n ++ (m ++ k) ∧ FrL N n ∧ FrL K k ∧ Mid (In p) M m) ↔
        ∃ (N K : List PT) (n m k : List Int), (N ++ K).Perm (part .no p bs) ∧ l = n ++ (m ++ k) ∧ FrL N n ∧ Y m ∧ FrL K k) := by
    intro Y hY
    constructor
    · rintro ⟨N, M, K, n, m, k, q1, q2, e, k1, k2, k3⟩
      exact ⟨N, K, n, m, k, q1, e, k1, (hY m).mp ⟨M, q2, k3⟩, k2⟩
    · rintro ⟨N, K, n, m, k, q1, e, k1, k2, k3⟩
      obtain ⟨M, q2, k4⟩ := (hY m).mpr k2
      exact ⟨N, M, K, n, m, k, q1, q2, e, k1, k3, k4⟩
  match hso : part .so p bs with
  | [] =>
    rw [hso] at fold h2
    simp only [List.length_nil, Nat.zero_add] at h2
    rw [fold _ fun m => mid_al wa ea h2]
    have hl : grouped (part .al p bs) = [.node false (part .al p bs)] := if_neg (by omega)
    show _ ↔ ∃ T, some (PT.node false (part .no p bs ++ grouped (part .al p bs))) = some T ∧ Fr T l
    rw [hl, ← fr_among]
    exact ⟨fun k => ⟨_, rfl, k⟩, fun ⟨T, e, k⟩ => by cases e; exact k⟩
  | [s] =>
    rw [hso] at fold h2 ws es
    simp only [List.length_cons, List.length_nil] at h2
    rw [fold _ fun m => mid_so1 (ws s (by simp)) wa (es s (by simp)) ea (by omega)]
    show _ ↔ ∃ T, ((led p s).map fun e => wrapRow (part .no p bs) (e ++ grouped (part .al p bs))) = some T ∧ Fr T l
    constructor
    · rintro ⟨N, K, n, m, k, q, e, k1, ⟨L, hL, k2⟩, k3⟩
      exact ⟨_, by rw [hL]; rfl, fr_wrap.mpr ⟨N, K, n, m, k, q, e, k1, k2, k3⟩⟩
    · rintro ⟨T, e, k⟩
      obtain ⟨L, hL, rfl⟩ := Option.map_eq_some_iff.mp e
      obtain ⟨N, K, n, m, k, q, e, k1, k2, k3⟩ := fr_wrap.mp k
      exact ⟨N, K, n, m, k, q, e, k1, ⟨L, hL, k2⟩, k3⟩
  | [s, s'] =>
    rw [hso] at fold ws es
    rw [fold _ fun m => mid_so2 (ws s (by simp)) (ws s' (by simp)) wa (es s (by simp)) (es s' (by simp)) ea]
    show _ ↔ ∃ T, ((led p s).bind fun e => (led p s').map fun e' => wrapRow (part .no p bs) (e ++ grouped (part .al p bs) ++ e'.reverse)) = some T ∧ Fr T l
    constructor
    · rintro ⟨N, K, n, m, k, q, e, k1, ⟨L, hL, L', hL', k2⟩, k3⟩
      exact ⟨_, by rw [hL, Option.bind_some, hL']; rfl, fr_wrap.mpr ⟨N, K, n, m, k, q, e, k1, k2, k3⟩⟩
    · rintro ⟨T, e, k⟩
      obtain ⟨L, hL, e⟩ := Option.bind_eq_some_iff.mp e
      obtain ⟨L', hL', rfl⟩ := Option.map_eq_some_iff.mp e
      obtain ⟨N, K, n, m, k, q, e, k1, k2, k3⟩ := fr_wrap.mp k
      exact ⟨N, K, n, m, k, q, e, k1, ⟨L, hL, L', hL', k2⟩, k3⟩
  | s :: s' :: s'' :: r =>
    constructor
    · rintro ⟨N, M, K, n, m, k, q1, q2, e, k1, k2, k3⟩
      rw [hso] at ws es
      refine absurd ⟨M, q2, k3⟩ (mid_so3 (fun b hb => ?_) es ea (by simp))
      rcases List.mem_append.mp hb with hb | hb
      · exact ws b hb
      · exact wa b hb
    · rintro ⟨T, e, _⟩; cases e

/-! ### branches as they stand -/
theorem places_cons (p : List Int) (k : Nat) (b : PT) (bs : List PT) : places p k (b :: bs) = if sh p b = .no then places p (k + 1) bs else k :: places p (k + 1) bs := rfl
theorem places_append (p : List Int) : ∀ (k : Nat) (as bs : List PT), places p k (as ++ bs) = places p k as ++ places p (k + as.length) bs
  | k, [], bs => by simp [places]
  | k, a :: as, bs => by
    have ih := places_append p (k + 1) as bs
    have e : k + 1 + as.length = k + (as.length + 1) := by omega
    rw [List.cons_append, List.length_cons, places_cons, places_cons, ih, e]
    split <;> rfl
theorem places_no {k : Nat} {as : List PT} (h : ∀ b ∈ as, sh p b = .no) : places p k as = [] := by
  induction as generalizing k with
  | nil => rfl
  | cons a as ih =>
    rw [places_cons, if_pos (h a (by simp)), ih fun b hb => h b (by simp [hb])]
theorem places_le {k : Nat} {as : List PT} : (places p k as).length ≤ as.length := by
  induction as generalizing k with
  | nil => simp [places]
  | cons a as ih =>
    rw [places_cons]
    have := ih (k := k + 1)
    split <;> simp <;> omega
theorem places_mem {k i : Nat} {as : List PT} : i ∈ places p k as ↔ ∃ j b, as[j]? = some b ∧ i = k + j ∧ sh p b ≠ .no := by
  induction as generalizing k with
  | nil => simp [places]
  | cons a as ih =>
    have e : i ∈ places p (k + 1) as ↔ ∃ j b, (a :: as)[j + 1]? = some b ∧ i = k + (j + 1) ∧ sh p b ≠ .no := by
      rw [ih]
      constructor
      · rintro ⟨j, b, h1, h2, h3⟩; exact ⟨j, b, by simpa using h1, by omega, h3⟩
      · rintro ⟨j, b, h1, h2, h3⟩; exact ⟨j, b, by simpa using h1, by omega, h3⟩
    have rhs : (∃ j b, (a :: as)[j]? = some b ∧ i = k + j ∧ sh p b ≠ .no) ↔ (i = k ∧ sh p a ≠ .no) ∨ ∃ j b, (a :: as)[j + 1]? = some b ∧ i = k + (j + 1) ∧ sh p b ≠ .no := by
      constructor
      · rintro ⟨j, b, h1, h2, h3⟩
        cases j with
        | zero => simp at h1; subst h1; exact .inl ⟨by omega, h3⟩
        | succ j => exact .inr ⟨j, b, h1, h2, h3⟩
      · rintro (⟨h1, h2⟩ | ⟨j, b, h⟩)
        · exact ⟨0, a, by simp, by omega, h2⟩
        · exact ⟨j + 1, b, h⟩
    rw [rhs, ← e, places_cons]
    by_cases h : sh p a = .no
    · rw [if_pos h]; simp [h]
    · rw [if_neg h]; simp [h]
theorem places_full {k : Nat} {as : List PT} : (places p k as).length = as.length ↔ ∀ b ∈ as, sh p b ≠ .no := by
  induction as generalizing k with
  | nil => simp [places]
  | cons a as ih =>
    rw [places_cons]
    by_cases h : sh p a = .no
    · rw [if_pos h]
      have := places_le (p := p) (k := k + 1) (as := as)
      constructor
      · intro e; simp at e; omega
      · intro q; exact absurd h (q a (by simp))
    · rw [if_neg h, List.length_cons, List.length_cons, Nat.succ_inj, ih]
      simp [h]
/-- the first and the last branch with guests of the party -/
theorem ends_of : ∀ (bs : List PT), 2 ≤ (part .so p bs).length + (part .al p bs).length → ∃ (N : List PT) (t : PT) (F : List PT) (t' : PT) (K : List PT), bs = N ++ (t :: (F ++ (t' :: K))) ∧ (∀ b ∈ N, sh p b = .no) ∧ (∀ b ∈ K, sh p b = .no) ∧ sh p t ≠ .no ∧ sh p t' ≠ .no := by
  -- the first one
  have first : ∀ (bs : List PT), 1 ≤ (part .so p bs).length + (part .al p bs).length → ∃ (N : List PT) (t : PT) (K : List PT), bs = N ++ (t :: K) ∧ (∀ b ∈ N, sh p b = .no) ∧ sh p t ≠ .no := by
    intro bs
    induction bs with
    | nil => intro h; simp [part] at h
    | cons b bs ih =>
      intro h
      by_cases e : sh p b = .no
      · have h' : 1 ≤ (part .so p bs).length + (part .al p bs).length := by
          simpa [part, List.filter_cons, e] using h
        obtain ⟨N, t, K, rfl, q1, q2⟩ := ih h'
        exact ⟨b :: N, t, K, rfl, fun c hc => by
          rcases List.mem_cons.mp hc with rfl | hc
          · exact e
          · exact q1 c hc, q2⟩
      · exact ⟨[], b, bs, rfl, fun _ h => absurd h (by simp), e⟩
  intro bs h
  obtain ⟨N, t, R, rfl, q1, q2⟩ := first bs (by omega)
  have hR : 1 ≤ (part .so p R.reverse).length + (part .al p R.reverse).length := by
    rw [part_rev, part_rev, List.length_reverse, List.length_reverse]
    have e : ∀ s : Sh, s ≠ .no → (part s p (N ++ t :: R)).length = (part s p [t]).length + (part s p R).length := by
      intro s hs
      have : N ++ t :: R = N ++ ([t] ++ R) := rfl
      rw [this, part_append, part_append, part_other q1 (Ne.symm hs), List.nil_append, List.length_append]
    rw [e .so (by decide), e .al (by decide)] at h
    have a : (part .so p [t]).length + (part .al p [t]).length ≤ 1 := by
      cases z : sh p t <;> simp [part, List.filter_cons, z]
    omega
  obtain ⟨K, t', F, e, q3, q4⟩ := first R.reverse hR
  have eR : R = F.reverse ++ (t' :: K.reverse) := by
    have := congrArg List.reverse e
    simpa using this
  exact ⟨N, t, F.reverse, t', K.reverse, by rw [eR], q1, fun b hb => q3 b (by simpa using hb), q2, q4⟩
theorem rowTog_eq {N F K : List PT} {t t' : PT} (hN : ∀ b ∈ N, sh p b = .no) (hK : ∀ b ∈ K, sh p b = .no) (ht : sh p t ≠ .no) (ht' : sh p t' ≠ .no) :
    rowTog p (N ++ (t :: (F ++ (t' :: K)))) = if ∀ b ∈ F, sh p b = .al then (led p t).bind fun L => (led p t').map fun R => .node true (N ++ (L ++ F ++ R.reverse) ++ K) else none := by
  have pl : places p 0 (N ++ (t :: (F ++ (t' :: K)))) = N.length :: (places p (N.length + 1) F ++ [N.length + 1 + F.length]) := by
    rw [places_append, places_no hN, List.nil_append, Nat.zero_add]
    rw [places_cons, if_neg ht, places_append, places_cons, if_neg ht', places_no hK]
  have g1 : (N ++ (t :: (F ++ (t' :: K)))).getD N.length dft = t := by simp
  have g2 : (N ++ (t :: (F ++ (t' :: K)))).getD (N.length + 1 + F.length) dft = t' := by
    have : N ++ (t :: (F ++ (t' :: K))) = (N ++ (t :: F)) ++ (t' :: K) := by simp
    rw [this, List.getD_eq_getElem?_getD, List.getElem?_append_right (by simp; omega)]
    have : N.length + 1 + F.length - (N ++ t :: F).length = 0 := by simp only [List.length_append, List.length_cons]; omega
    rw [this]; simp
  have k1 : (N ++ (t :: (F ++ (t' :: K)))).take N.length = N := by simp
  have k2 : ((N ++ (t :: (F ++ (t' :: K)))).drop (N.length + 1)).take (N.length + 1 + F.length - (N.length + 1)) = F := by
    have : N ++ (t :: (F ++ (t' :: K))) = (N ++ [t]) ++ (F ++ (t' :: K)) := by simp
    have e : N.length + 1 = (N ++ [t]).length := by simp
    rw [this, e, List.drop_left]
    have e2 : (N ++ [t]).length + F.length - (N ++ [t]).length = F.length := by omega
    rw [e2, List.take_left]
  have k3 : (N ++ (t :: (F ++ (t' :: K)))).drop (N.length + 1 + F.length + 1) = K := by
    have : N ++ (t :: (F ++ (t' :: K))) = (N ++ (t :: (F ++ [t']))) ++ K := by simp
    have e : N.length + 1 + F.length + 1 = (N ++ (t :: (F ++ [t']))).length := by simp; omega
    rw [this, e, List.drop_left]
  have hd : (N.length :: (places p (N.length + 1) F ++ [N.length + 1 + F.length])).headD 0 = N.length := rfl
  have hl : (N.length :: (places p (N.length + 1) F ++ [N.length + 1 + F.length])).getLastD 0 = N.length + 1 + F.length := by
    rw [← List.cons_append, List.getLastD_concat]
  have hi : (N.length :: (places p (N.length + 1) F ++ [N.length + 1 + F.length])).tail.dropLast = places p (N.length + 1) F := by
    rw [List.tail_cons, List.dropLast_concat]
  have cond : (N.length + 1 + F.length - N.length ≥ (N.length :: (places p (N.length + 1) F ++ [N.length + 1 + F.length])).length ∨
      ((places p (N.length + 1) F).any fun i => decide (sh p ((N ++ (t :: (F ++ (t' :: K)))).getD i dft) = .so)) = true) ↔ ¬ ∀ b ∈ F, sh p b = .al := by
    have at' : ∀ j b, F[j]? = some b → (N ++ (t :: (F ++ (t' :: K)))).getD (N.length + 1 + j) dft = b := by
      intro j b hj
      have hlt : j < F.length := (List.getElem?_eq_some_iff.mp hj).1
      have : N ++ (t :: (F ++ (t' :: K))) = (N ++ [t]) ++ (F ++ (t' :: K)) := by simp
      rw [this, List.getD_eq_getElem?_getD, List.getElem?_append_right (by simp)]
      have : N.length + 1 + j - (N ++ [t]).length = j := by simp
      rw [this, List.getElem?_append_left hlt, hj]; rfl
    have hle := places_le (p := p) (k := N.length + 1) (as := F)
    have hfull := places_full (p := p) (k := N.length + 1) (as := F)
    constructor
    · rintro (h | h) hall
      · have := hfull.mpr fun b hb => by rw [hall b hb]; decide
        simp only [List.length_cons, List.length_append, List.length_nil] at h
        omega
      · obtain ⟨i, hi, e⟩ := List.any_eq_true.mp h
        obtain ⟨j, b, h1, rfl, h3⟩ := places_mem.mp hi
        have e := of_decide_eq_true e
        rw [at' j b h1, hall b (List.mem_of_getElem? h1)] at e
        cases e
    · intro h
      by_cases hno : ∀ b ∈ F, sh p b ≠ .no
      · refine .inr (List.any_eq_true.mpr ?_)
        obtain ⟨b, hb⟩ := Classical.not_forall.mp h
        obtain ⟨hb, hne⟩ := Classical.not_imp.mp hb
        obtain ⟨j, hj⟩ := List.getElem?_of_mem hb
        refine ⟨N.length + 1 + j, places_mem.mpr ⟨j, b, hj, rfl, hno b hb⟩, ?_⟩
        rw [at' j b hj]
        have h1 := hno b hb
        cases z : sh p b with
        | no => exact absurd z h1
        | so => rfl
        | al => exact absurd z hne
      · refine .inl ?_
        have : (places p (N.length + 1) F).length ≠ F.length := fun e => hno (hfull.mp e)
        simp only [List.length_cons, List.length_append, List.length_nil]
        omega
  show (if ((places p 0 (N ++ (t :: (F ++ (t' :: K))))).getLastD 0 - (places p 0 (N ++ (t :: (F ++ (t' :: K))))).headD 0 ≥ (places p 0 (N ++ (t :: (F ++ (t' :: K))))).length ∨ _) then none else _) = _
  rw [pl, hd, hl, hi, g1, g2, k1, k2, k3]
  by_cases h : ∀ b ∈ F, sh p b = .al
  · rw [if_pos h, if_neg (fun z => (cond.mp z) h)]
  · rw [if_neg h, if_pos (cond.mpr h)]
theorem spec_row (w : ∀ b ∈ bs, Wf b) (h2 : 2 ≤ (part .so p bs).length + (part .al p bs).length) :
    (Fr (.node true bs) l ∧ Cv (In p) l) ↔ ∃ T, rowTog p bs = some T ∧ Fr T l := by
  obtain ⟨N, t, F, t', K, rfl, hN, hK, ht, ht'⟩ := ends_of bs h2
  rw [rowTog_eq hN hK ht ht']
  have wN : ∀ b ∈ N, Wf b := fun b hb => w b (by simp [hb])
  have wF : ∀ b ∈ F, Wf b := fun b hb => w b (by simp [hb])
  have wK : ∀ b ∈ K, Wf b := fun b hb => w b (by simp [hb])
  have wt : Wf t := w t (by simp)
  have wt' : Wf t' := w t' (by simp)
  have sp := spec_led (p := p) t wt
  have sp' := spec_led (p := p) t' wt'
  have half : ∀ l, (FrL (N ++ (t :: (F ++ (t' :: K)))) l ∧ Cv (In p) l) ↔ ((∀ b ∈ F, sh p b = .al) ∧ ∃ L, led p t = some L ∧ ∃ R, led p t' = some R ∧ FrL (N ++ (L ++ F ++ R.reverse) ++ K) l) := by
    intro l
    constructor
    · rintro ⟨hf, hc⟩
      obtain ⟨n, y, rfl, k1, j1⟩ := frl_append.mp hf
      obtain ⟨a, y, rfl, k2, j2⟩ := frl_cons.mp j1
      obtain ⟨f, y, rfl, k3, j3⟩ := frl_append.mp j2
      obtain ⟨b, k, rfl, k4, k5⟩ := frl_cons.mp j3
      have zn := (frl_no wN k1).mpr hN
      have zk := (frl_no wK k5).mpr hK
      have e : n ++ (a ++ (f ++ (b ++ k))) = n ++ ((a ++ (f ++ b)) ++ k) := by simp
      rw [e] at hc ⊢
      have hc := (cv_mid zn zk).mp hc
      have za : ¬ Zs (In p) a := fun z => ht ((fr_no wt k2).mp z)
      have zb : ¬ Zs (In p) b := fun z => ht' ((fr_no wt' k4).mp z)
      have three : RA (In p) a ∧ Os (In p) f ∧ LA (In p) b := by
        rcases cv_append.mp hc with ⟨z, _⟩ | ⟨_, z⟩ | ⟨z1, z2⟩
        · exact absurd z za
        · exact absurd (zs_append.mp z).2 zb
        · rcases la_append.mp z2 with ⟨z3, z4⟩ | ⟨_, z⟩
          · exact ⟨z1, z3, z4⟩
          · exact absurd z zb
      obtain ⟨L, hL, k6⟩ := (sp a).mp ⟨k2, three.1⟩
      obtain ⟨R, hR, k7⟩ := (sp' b.reverse).mp ⟨fr_rev k4, three.2.2.rev⟩
      refine ⟨(frl_al wF k3).mp three.2.1, L, hL, R, hR, ?_⟩
      have e2 : n ++ ((a ++ (f ++ b)) ++ k) = (n ++ ((a ++ f) ++ b)) ++ k := by simp
      rw [e2]
      exact frl_append.mpr ⟨_, _, rfl, frl_append.mpr ⟨_, _, rfl, k1, frl_append.mpr ⟨_, _, rfl, frl_append.mpr ⟨_, _, rfl, k6, k3⟩, frl_rev_iff.mpr k7⟩⟩, k5⟩
    · rintro ⟨hF, L, hL, R, hR, k⟩
      obtain ⟨y, k', rfl, j1, k5⟩ := frl_append.mp k
      obtain ⟨n, y, rfl, k1, j2⟩ := frl_append.mp j1
      obtain ⟨y, b, rfl, j3, k4⟩ := frl_append.mp j2
      obtain ⟨a, f, rfl, k2, k3⟩ := frl_append.mp j3
      obtain ⟨k6, k7⟩ := (sp a).mpr ⟨L, hL, k2⟩
      obtain ⟨k8, k9⟩ := (sp' b.reverse).mpr ⟨R, hR, frl_rev_iff.mp k4⟩
      have k8 : Fr t' b := by simpa using fr_rev k8
      have e : n ++ (a ++ f ++ b) ++ k' = n ++ (a ++ (f ++ (b ++ k'))) := by simp
      rw [e]
      refine ⟨frl_append.mpr ⟨_, _, rfl, k1, .cons k6 (frl_append.mpr ⟨_, _, rfl, k3, .cons k8 k5⟩)⟩, ?_⟩
      have e2 : n ++ (a ++ (f ++ (b ++ k'))) = n ++ ((a ++ (f ++ b)) ++ k') := by simp
      rw [e2, cv_mid ((frl_no wN k1).mpr hN) ((frl_no wK k5).mpr hK)]
      exact cv_append.mpr (.inr (.inr ⟨k7, la_append.mpr (.inl ⟨(frl_al wF k3).mpr hF, ra_rev.mp k9⟩)⟩))
  constructor
  · rintro ⟨hf, hc⟩
    rcases fr_row.mp hf with hf | hf
    · obtain ⟨hF, L, hL, R, hR, k⟩ := (half l).mp ⟨hf, hc⟩
      exact ⟨_, by rw [if_pos hF, hL, Option.bind_some, hR]; rfl, .row k⟩
    · obtain ⟨hF, L, hL, R, hR, k⟩ := (half l.reverse).mp ⟨frl_rev_iff.mp hf, hc.rev⟩
      exact ⟨_, by rw [if_pos hF, hL, Option.bind_some, hR]; rfl, .rev (frl_rev_iff.mpr k)⟩
  · rintro ⟨T, e, k⟩
    by_cases hF : ∀ b ∈ F, sh p b = .al
    · rw [if_pos hF] at e
      obtain ⟨L, hL, e⟩ := Option.bind_eq_some_iff.mp e
      obtain ⟨R, hR, rfl⟩ := Option.map_eq_some_iff.mp e
      rcases fr_row.mp k with k | k
      · obtain ⟨k1, k2⟩ := (half l).mpr ⟨hF, L, hL, R, hR, k⟩
        exact ⟨.row k1, k2⟩
      · obtain ⟨k1, k2⟩ := (half l.reverse).mpr ⟨hF, L, hL, R, hR, frl_rev_iff.mp k⟩
        exact ⟨.rev (frl_rev_iff.mpr k1), cv_rev.mp k2⟩
    · rw [if_neg hF] at e; cases e
end
end PT
end ST
namespace ST
namespace PT
open Classical
section
variable {p : List Int} {bs : List PT} {l : List Int}
theorem no_of_zero {as : List PT} (h : (part .so p as).length + (part .al p as).length = 0) : ∀ b ∈ as, sh p b = .no := by
  intro b hb
  have e1 : part .so p as = [] := List.eq_nil_of_length_eq_zero (by omega)
  have e2 : part .al p as = [] := List.eq_nil_of_length_eq_zero (by omega)
  cases z : sh p b with
  | no => rfl
  | so => have : b ∈ part .so p as := mem_part.mpr ⟨hb, z⟩; rw [e1] at this; cases this
  | al => have : b ∈ part .al p as := mem_part.mpr ⟨hb, z⟩; rw [e2] at this; cases this
theorem one_split (h : (part .so p bs).length + (part .al p bs).length = 1) : ∃ (A : List PT) (x : PT) (B : List PT), bs = A ++ (x :: B) ∧ (∀ b ∈ A, sh p b = .no) ∧ (∀ b ∈ B, sh p b = .no) ∧ sh p x ≠ .no := by
  have hx : ∃ x ∈ bs, sh p x ≠ .no := by
    apply Classical.byContradiction
    intro hn
    have : ∀ b ∈ bs, sh p b = .no := fun b hb => Classical.byContradiction fun z => hn ⟨b, hb, z⟩
    rw [part_other this (by decide), part_other this (by decide)] at h
    simp at h
  obtain ⟨x, hx, hs⟩ := hx
  obtain ⟨A, B, rfl⟩ := List.append_of_mem hx
  have e : A ++ x :: B = A ++ ([x] ++ B) := rfl
  have c : 1 ≤ (part .so p [x]).length + (part .al p [x]).length := by
    cases z : sh p x with
    | no => exact absurd z hs
    | so => simp [part, z]
    | al => simp [part, z]
  rw [e, part_append, part_append, part_append, part_append] at h
  simp only [List.length_append] at h
  exact ⟨A, x, B, rfl, no_of_zero (by omega), no_of_zero (by omega), hs⟩
theorem repl_list {A B : List PT} {x : PT} {o : Option PT} (wA : ∀ b ∈ A, Wf b) (wB : ∀ b ∈ B, Wf b) (hA : ∀ b ∈ A, sh p b = .no) (hB : ∀ b ∈ B, sh p b = .no)
    (ho : ∀ l, (Fr x l ∧ Cv (In p) l) ↔ ∃ y, o = some y ∧ Fr y l) : (FrL (A ++ (x :: B)) l ∧ Cv (In p) l) ↔ ∃ y, o = some y ∧ FrL (A ++ (y :: B)) l := by
  constructor
  · rintro ⟨hf, hc⟩
    obtain ⟨n, y, rfl, k1, j1⟩ := frl_append.mp hf
    obtain ⟨m, k, rfl, k2, k3⟩ := frl_cons.mp j1
    have hc := (cv_mid ((frl_no wA k1).mpr hA) ((frl_no wB k3).mpr hB)).mp hc
    obtain ⟨y, e, k4⟩ := (ho m).mp ⟨k2, hc⟩
    exact ⟨y, e, frl_append.mpr ⟨_, _, rfl, k1, .cons k4 k3⟩⟩
  · rintro ⟨y, e, hf⟩
    obtain ⟨n, z, rfl, k1, j1⟩ := frl_append.mp hf
    obtain ⟨m, k, rfl, k2, k3⟩ := frl_cons.mp j1
    obtain ⟨k4, hc⟩ := (ho m).mpr ⟨y, e, k2⟩
    exact ⟨frl_append.mpr ⟨_, _, rfl, k1, .cons k4 k3⟩, (cv_mid ((frl_no wA k1).mpr hA) ((frl_no wB k3).mpr hB)).mpr hc⟩
theorem repl {r : Bool} {A B : List PT} {x : PT} {o : Option PT} (wA : ∀ b ∈ A, Wf b) (wB : ∀ b ∈ B, Wf b) (hA : ∀ b ∈ A, sh p b = .no) (hB : ∀ b ∈ B, sh p b = .no)
    (ho : ∀ l, (Fr x l ∧ Cv (In p) l) ↔ ∃ y, o = some y ∧ Fr y l) : (Fr (.node r (A ++ (x :: B))) l ∧ Cv (In p) l) ↔ ∃ y, o = some y ∧ Fr (.node r (A ++ (y :: B))) l := by
  cases r with
  | false =>
    constructor
    · rintro ⟨hf, hc⟩
      obtain ⟨cs, q, hf⟩ := fr_any.mp hf
      have hx : x ∈ cs := q.mem_iff.mpr (by simp)
      obtain ⟨C, D, rfl⟩ := List.append_of_mem hx
      have q2 : (C ++ D).Perm (A ++ B) := ((List.perm_middle.symm.trans q).trans List.perm_middle).cons_inv
      have wv : ∀ b ∈ C ++ D, Wf b ∧ sh p b = .no := fun b hb => (List.mem_append.mp (q2.mem_iff.mp hb)).elim (fun h => ⟨wA b h, hA b h⟩) fun h => ⟨wB b h, hB b h⟩
      obtain ⟨y, e, k⟩ := (repl_list (fun b hb => (wv b (by simp [hb])).1) (fun b hb => (wv b (by simp [hb])).1) (fun b hb => (wv b (by simp [hb])).2) (fun b hb => (wv b (by simp [hb])).2) ho).mp ⟨hf, hc⟩
      exact ⟨y, e, .any ((List.perm_middle.trans (q2.cons y)).trans List.perm_middle.symm) k⟩
    · rintro ⟨y, e, hf⟩
      obtain ⟨cs, q, hf⟩ := fr_any.mp hf
      have hx : y ∈ cs := q.mem_iff.mpr (by simp)
      obtain ⟨C, D, rfl⟩ := List.append_of_mem hx
      have q2 : (C ++ D).Perm (A ++ B) := ((List.perm_middle.symm.trans q).trans List.perm_middle).cons_inv
      have wv : ∀ b ∈ C ++ D, Wf b ∧ sh p b = .no := fun b hb => (List.mem_append.mp (q2.mem_iff.mp hb)).elim (fun h => ⟨wA b h, hA b h⟩) fun h => ⟨wB b h, hB b h⟩
      obtain ⟨k, hc⟩ := (repl_list (fun b hb => (wv b (by simp [hb])).1) (fun b hb => (wv b (by simp [hb])).1) (fun b hb => (wv b (by simp [hb])).2) (fun b hb => (wv b (by simp [hb])).2) ho).mpr ⟨y, e, hf⟩
      exact ⟨.any ((List.perm_middle.trans (q2.cons x)).trans List.perm_middle.symm) k, hc⟩
  | true =>
    have rv : ∀ z : PT, (A ++ (z :: B)).reverse = B.reverse ++ (z :: A.reverse) := fun z => by simp
    have k1 := repl_list (l := l) wA wB hA hB ho
    have k2 := repl_list (l := l) (A := B.reverse) (B := A.reverse) (fun b hb => wB b (by simpa using hb)) (fun b hb => wA b (by simpa using hb)) (fun b hb => hB b (by simpa using hb)) (fun b hb => hA b (by simpa using hb)) ho
    constructor
    · rintro ⟨hf, hc⟩
      rcases fr_row.mp hf with hf | hf
      · obtain ⟨y, e, k⟩ := k1.mp ⟨hf, hc⟩; exact ⟨y, e, .row k⟩
      · rw [rv] at hf
        obtain ⟨y, e, k⟩ := k2.mp ⟨hf, hc⟩; exact ⟨y, e, .rev (by rw [rv]; exact k)⟩
    · rintro ⟨y, e, hf⟩
      rcases fr_row.mp hf with hf | hf
      · obtain ⟨k, hc⟩ := k1.mpr ⟨y, e, hf⟩; exact ⟨.row k, hc⟩
      · rw [rv] at hf
        obtain ⟨k, hc⟩ := k2.mpr ⟨y, e, hf⟩; exact ⟨.rev (by rw [rv]; exact k), hc⟩
theorem tog_one {r : Bool} (h : sh p (.node r bs) ≠ .al) (h1 : (part .so p bs).length + (part .al p bs).length = 1) {A B : List PT} {x : PT} (e : bs = A ++ (x :: B)) (hA : ∀ b ∈ A, sh p b = .no) (hB : ∀ b ∈ B, sh p b = .no) (hx : sh p x ≠ .no) :
    tog p (.node r bs) = (tog p x).map fun y => .node r (A ++ (y :: B)) := by
  subst e
  have e : ∀ s : Sh, s ≠ .no → part s p (A ++ (x :: B)) = part s p [x] := by
    intro s hs
    have : A ++ x :: B = A ++ ([x] ++ B) := rfl
    rw [this, part_append, part_append, part_other hA (Ne.symm hs), part_other hB (Ne.symm hs), List.nil_append, List.append_nil]
  cases z : sh p x with
  | no => exact absurd z hx
  | al =>
    rw [tog_one_al h h1 (by rw [e .so (by decide)]; simp [part, z]), tog_al z]
    rfl
  | so =>
    rw [tog_one_so (s := x) (q := []) h h1 (by rw [e .so (by decide)]; simp [part, z])]
    have m : ∀ y : PT, (A ++ (x :: B)).map (fun b => if b = x then y else b) = A ++ (y :: B) := by
      intro y
      have a : ∀ L : List PT, (∀ b ∈ L, sh p b = .no) → L.map (fun b => if b = x then y else b) = L := by
        intro L hL
        have : L.map (fun b => if b = x then y else b) = L.map id := List.map_congr_left fun b hb => by
          rw [if_neg]; rfl
          intro ee; subst ee
          exact hx (hL b hb)
        rw [this, List.map_id]
      rw [List.map_append, List.map_cons, a A hA, a B hB, if_pos rfl]
    simp only [m]
theorem spec_tog (t : PT) (w : Wf t) (hp : sh p t ≠ .no) : ∀ l, (Fr t l ∧ Cv (In p) l) ↔ ∃ T, tog p t = some T ∧ Fr T l := by
  induction t using PT.ind with
  | hl g =>
    intro l
    cases z : sh p (.leaf g) with
    | no => exact absurd z hp
    | so => exact absurd z leaf_so
    | al =>
      rw [tog_al z]
      exact ⟨fun h => ⟨_, rfl, h.1⟩, fun ⟨T, e, h⟩ => by cases e; exact ⟨h, (RA.os ((fr_al h).mpr z)).cv⟩⟩
  | hn r bs ih =>
    intro l
    by_cases z : sh p (.node r bs) = .al
    · rw [tog_al z]
      exact ⟨fun h => ⟨_, rfl, h.1⟩, fun ⟨T, e, h⟩ => by cases e; exact ⟨h, (RA.os ((fr_al h).mpr z)).cv⟩⟩
    · by_cases h1 : (part .so p bs).length + (part .al p bs).length = 1
      · obtain ⟨A, x, B, e, hA, hB, hx⟩ := one_split h1
        rw [tog_one z h1 e hA hB hx]
        subst e
        have wb := w.br
        rw [repl (fun b hb => wb b (by simp [hb])) (fun b hb => wb b (by simp [hb])) hA hB (ih x (by simp) (wb x (by simp)) hx)]
        constructor
        · rintro ⟨y, e, k⟩; exact ⟨_, by rw [e]; rfl, k⟩
        · rintro ⟨T, e, k⟩
          obtain ⟨y, e', rfl⟩ := Option.map_eq_some_iff.mp e
          exact ⟨y, e', k⟩
      · have h2 : 2 ≤ (part .so p bs).length + (part .al p bs).length := by
          have h0 : (part .so p bs).length + (part .al p bs).length ≠ 0 := by
            intro e0
            refine hp (sh_all_no w.br ?_ (no_of_zero e0))
            intro eb; have := w.two; rw [eb] at this; simp at this
          omega
        cases r with
        | false => rw [tog_any z h1]; exact spec_any w.br h2 z
        | true => rw [tog_row z h1]; exact spec_row w.br h2
theorem led_ne {t : PT} (w : Wf t) {L : List PT} (e : led p t = some L) : L ≠ [] := by
  intro z
  subst z
  have h1 := (spec_led (p := p) t w []).mpr ⟨[], e, .nil⟩
  exact fr_ne w h1.1 rfl
theorem grouped_len {bs : List PT} (h : 1 ≤ bs.length) : 1 ≤ (grouped bs).length := by
  unfold grouped; split
  · exact h
  · simp
theorem wf_app {A B : List PT} (a : ∀ x ∈ A, Wf x) (b : ∀ x ∈ B, Wf x) : ∀ x ∈ A ++ B, Wf x := fun x hx => (List.mem_append.mp hx).elim (a x) (b x)
theorem wf_wrap {no L : List PT} (a : ∀ x ∈ no, Wf x) (b : ∀ x ∈ L, Wf x) (h : 3 ≤ L.length) : Wf (wrapRow no L) := by
  have wr : Wf (.node true L) := .node b (by simpa using h)
  unfold wrapRow
  split
  · exact wr
  · rename_i hn
    refine .node (wf_app a fun x hx => by simp at hx; subst hx; exact wr) ?_
    have : 1 ≤ no.length := List.length_pos_iff.mpr hn
    simp; omega
theorem wf_tog (t : PT) (w : Wf t) (hp : sh p t ≠ .no) : ∀ T, tog p t = some T → Wf T := by
  induction t using PT.ind with
  | hl g =>
    intro T e
    cases z : sh p (.leaf g) with
    | no => exact absurd z hp
    | so => exact absurd z leaf_so
    | al => rw [tog_al z] at e; cases e; exact w
  | hn r bs ih =>
    intro T e
    by_cases z : sh p (.node r bs) = .al
    · rw [tog_al z] at e; cases e; exact w
    · have wb := w.br
      by_cases h1 : (part .so p bs).length + (part .al p bs).length = 1
      · obtain ⟨A, x, B, eb, hA, hB, hx⟩ := one_split h1
        rw [tog_one z h1 eb hA hB hx] at e
        subst eb
        obtain ⟨y, e', rfl⟩ := Option.map_eq_some_iff.mp e
        have wy := ih x (by simp) (wb x (by simp)) hx y e'
        cases w with
        | node _ hl =>
          refine .node (fun b hb => ?_) (by simpa using hl)
          simp only [List.mem_append, List.mem_cons] at hb
          rcases hb with hb | rfl | hb
          · exact wb b (by simp [hb])
          · exact wy
          · exact wb b (by simp [hb])
      · have h2 : 2 ≤ (part .so p bs).length + (part .al p bs).length := by
          have h0 : (part .so p bs).length + (part .al p bs).length ≠ 0 := by
            intro e0
            refine hp (sh_all_no w.br ?_ (no_of_zero e0))
            intro eb; have := w.two; rw [eb] at this; simp at this
          omega
        have wn : ∀ b ∈ part .no p bs, Wf b := fun b hb => wb b (part_sub hb)
        have ws : ∀ b ∈ part .so p bs, Wf b := fun b hb => wb b (part_sub hb)
        have wa : ∀ b ∈ part .al p bs, Wf b := fun b hb => wb b (part_sub hb)
        have es : ∀ b ∈ part .so p bs, sh p b = .so := fun b hb => (mem_part.mp hb).2
        cases r with
        | false =>
          rw [tog_any z h1] at e
          match hso : part .so p bs with
          | [] =>
            rw [hso] at e h2
            simp only [List.length_nil, Nat.zero_add] at h2
            have e : some (PT.node false (part .no p bs ++ grouped (part .al p bs))) = some T := e
            cases e
            refine .node (wf_app wn (wf_grouped wa)) ?_
            have a1 : 1 ≤ (part .no p bs).length := by
              refine List.length_pos_iff.mpr fun e0 => z (sh_all_al wb fun b hb => ?_)
              have := (parts_perm (p := p) bs).mem_iff.mpr hb
              rw [e0, hso] at this
              exact (mem_part.mp (by simpa using this)).2
            have a2 := grouped_len (bs := part .al p bs) (by omega)
            simp; omega
          | [s] =>
            rw [hso] at e h2 ws es
            simp only [List.length_cons, List.length_nil] at h2
            obtain ⟨L, hL, e⟩ := Option.map_eq_some_iff.mp (show ((led p s).map fun e => wrapRow (part .no p bs) (e ++ grouped (part .al p bs))) = some T from e)
            subst e
            have a1 := led_two (ws s (by simp)) (es s (by simp)) hL
            have a2 := grouped_len (bs := part .al p bs) (by omega)
            exact wf_wrap wn (wf_app (wf_led s (ws s (by simp)) L hL) (wf_grouped wa)) (by simp; omega)
          | [s, s'] =>
            rw [hso] at e ws es
            obtain ⟨L, hL, e⟩ := Option.bind_eq_some_iff.mp (show ((led p s).bind fun e => (led p s').map fun e' => wrapRow (part .no p bs) (e ++ grouped (part .al p bs) ++ e'.reverse)) = some T from e)
            obtain ⟨L', hL', e⟩ := Option.map_eq_some_iff.mp e
            subst e
            have a1 := led_two (ws s (by simp)) (es s (by simp)) hL
            have a2 := led_two (ws s' (by simp)) (es s' (by simp)) hL'
            refine wf_wrap wn (wf_app (wf_app (wf_led s (ws s (by simp)) L hL) (wf_grouped wa)) fun x hx => wf_led s' (ws s' (by simp)) L' hL' x (by simpa using hx)) (by simp; omega)
          | s :: s' :: s'' :: q => rw [hso] at e; cases e
        | true =>
          rw [tog_row z h1] at e
          obtain ⟨N, t, F, t', K, rfl, hN, hK, ht, ht'⟩ := ends_of bs h2
          rw [rowTog_eq hN hK ht ht'] at e
          by_cases hF : ∀ b ∈ F, sh p b = .al
          · rw [if_pos hF] at e
            obtain ⟨L, hL, e⟩ := Option.bind_eq_some_iff.mp e
            obtain ⟨R, hR, rfl⟩ := Option.map_eq_some_iff.mp e
            have a1 := List.length_pos_iff.mpr (led_ne (wb t (by simp)) hL)
            have a2 := List.length_pos_iff.mpr (led_ne (wb t' (by simp)) hR)
            have h3 := w.three
            refine .node (wf_app (wf_app (fun b hb => wb b (by simp [hb])) (wf_app (wf_app (wf_led t (wb t (by simp)) L hL) fun b hb => wb b (by simp [hb])) fun b hb => wf_led t' (wb t' (by simp)) R hR b (by simpa using hb))) fun b hb => wb b (by simp [hb])) ?_
            simp at h3 ⊢; omega
          · rw [if_neg hF] at e; cases e
end
end PT
end ST
namespace ST
theorem cv_between {X : Int → Prop} {l : List Int} {x g y : Int} (h : Cv X l) (s : [x, g, y].Sublist l) (hx : X x) (hy : X y) : X g := by
  obtain ⟨a, b, c, rfl, h1, h2, h3⟩ := h
  have s1 : [x, g, y].Sublist (b ++ c) := by
    obtain ⟨m, k, e, q1, q2⟩ := List.sublist_append_iff.mp s
    cases m with
    | nil => rw [List.nil_append] at e; rw [e]; exact q2
    | cons z m =>
      have : x = z := (List.cons.inj e).1
      subst this
      exact absurd hx (h1 x (q1.subset (by simp)))
  have s2 : [x, g, y].Sublist b := by
    obtain ⟨m, k, e, q1, q2⟩ := List.sublist_append_iff.mp s1
    rcases List.eq_nil_or_concat k with rfl | ⟨k', z, rfl⟩
    · rw [List.append_nil] at e; rw [e]; exact q1
    · have e2 : [x, g] ++ [y] = (m ++ k') ++ [z] := by simpa using e
      have : y = z := by
        have := congrArg List.getLast? e2
        simpa using this
      subst this
      exact absurd hy (h3 y (q2.subset (by simp)))
  exact h2 g (s2.subset (by simp))
theorem two_mem {l : List Int} {x g : Int} (hx : x ∈ l) (hg : g ∈ l) (h : x ≠ g) : [x, g].Sublist l ∨ [g, x].Sublist l := by
  obtain ⟨a, b, rfl⟩ := List.append_of_mem hx
  simp only [List.mem_append, List.mem_cons] at hg
  rcases hg with hg | rfl | hg
  · refine .inr ?_
    have : [g, x] = [g] ++ [x] := rfl
    rw [this]
    exact (List.singleton_sublist.mpr hg).append (List.singleton_sublist.mpr (by simp))
  · exact absurd rfl h
  · refine .inl ?_
    refine List.Sublist.trans ?_ (List.sublist_append_right a _)
    exact (List.singleton_sublist.mpr hg).cons_cons x
namespace PT
/-- a party that sits together in all rows -/
def Kp (t : PT) (X : Int → Prop) : Prop := ∀ l, Fr t l → Cv X l
section
variable {r : Bool} {bs : List PT} {X : Int → Prop} {l : List Int}
/-- a branch in a row -/
theorem blk {b : PT} (h : Fr (.node r bs) l) (hb : b ∈ bs) : ∃ (U V : List PT) (u c v : List Int), (U ++ b :: V).Perm bs ∧ l = u ++ (c ++ v) ∧ FrL U u ∧ Fr b c ∧ FrL V v := by
  have aux : ∀ cs : List PT, cs.Perm bs → FrL cs l → ∃ (U V : List PT) (u c v : List Int), (U ++ b :: V).Perm bs ∧ l = u ++ (c ++ v) ∧ FrL U u ∧ Fr b c ∧ FrL V v := by
    intro cs q h
    obtain ⟨U, V, rfl⟩ := List.append_of_mem (q.mem_iff.mpr hb)
    obtain ⟨u, y, rfl, k1, k2⟩ := frl_append.mp h
    obtain ⟨c, v, rfl, k3, k4⟩ := frl_cons.mp k2
    exact ⟨U, V, u, c, v, q, rfl, k1, k3, k4⟩
  cases r with
  | false => obtain ⟨cs, q, h⟩ := fr_any.mp h; exact aux cs q h
  | true => exact (fr_row.mp h).elim (aux bs (.refl _)) (aux _ bs.reverse_perm)
theorem blk_free {b : PT} {U V : List PT} {u v : List Int} (nd : (gsL bs).Nodup) (q : (U ++ b :: V).Perm bs) (hu : FrL U u) (hv : FrL V v) : (∀ g ∈ u, g ∉ gs b) ∧ ∀ g ∈ v, g ∉ gs b := by
  have nd := (gsL_perm q).nodup_iff.mpr nd
  rw [gsL_append, gsL_cons] at nd
  have a1 := List.nodup_append.mp nd
  have a2 := List.nodup_append.mp a1.2.1
  refine ⟨fun g hg hb => ?_, fun g hg hb => ?_⟩
  · exact a1.2.2 g ((frl_perm hu).mem_iff.mp hg) g (by simp [hb]) rfl
  · exact a2.2.2 g hb g ((frl_perm hv).mem_iff.mp hg) rfl
theorem kp_branch {b : PT} (nd : (gsL bs).Nodup) (hb : b ∈ bs) : Kp (.node r bs) (fun g => g ∈ gs b) := by
  intro l h
  obtain ⟨U, V, u, c, v, q, rfl, k1, k2, k3⟩ := blk h hb
  obtain ⟨z1, z2⟩ := blk_free nd q k1 k3
  exact (cv_mid z1 z2).mpr (RA.os fun g hg => (fr_perm k2).mem_iff.mp hg).cv
theorem restrict {b : PT} (nd : (gsL bs).Nodup) (hb : b ∈ bs) (h : Fr (.node r bs) l) : Fr b (l.filter fun g => decide (g ∈ gs b)) := by
  obtain ⟨U, V, u, c, v, q, rfl, k1, k2, k3⟩ := blk h hb
  obtain ⟨z1, z2⟩ := blk_free nd q k1 k3
  have e1 : u.filter (fun g => decide (g ∈ gs b)) = [] := List.filter_eq_nil_iff.mpr fun g hg => by simpa using z1 g hg
  have e2 : v.filter (fun g => decide (g ∈ gs b)) = [] := List.filter_eq_nil_iff.mpr fun g hg => by simpa using z2 g hg
  have e3 : c.filter (fun g => decide (g ∈ gs b)) = c := List.filter_eq_self.mpr fun g hg => by simpa using (fr_perm k2).mem_iff.mp hg
  rw [List.filter_append, List.filter_append, e1, e2, e3, List.nil_append, List.append_nil]
  exact k2
/-- a row of a branch in a row of the whole -/
theorem extend {b : PT} {c : List Int} (nd : (gsL bs).Nodup) (hb : b ∈ bs) (h : Fr b c) : ∃ l, Fr (.node r bs) l ∧ l.filter (fun g => decide (g ∈ gs b)) = c := by
  obtain ⟨U, V, rfl⟩ := List.append_of_mem hb
  obtain ⟨u, hu⟩ := frl_some U
  obtain ⟨v, hv⟩ := frl_some V
  obtain ⟨z1, z2⟩ := blk_free nd (.refl _) hu hv
  have e1 : u.filter (fun g => decide (g ∈ gs b)) = [] := List.filter_eq_nil_iff.mpr fun g hg => by simpa using z1 g hg
  have e2 : v.filter (fun g => decide (g ∈ gs b)) = [] := List.filter_eq_nil_iff.mpr fun g hg => by simpa using z2 g hg
  have e3 : c.filter (fun g => decide (g ∈ gs b)) = c := List.filter_eq_self.mpr fun g hg => by simpa using (fr_perm h).mem_iff.mp hg
  refine ⟨u ++ (c ++ v), ?_, by rw [List.filter_append, List.filter_append, e1, e2, e3, List.nil_append, List.append_nil]⟩
  have k : FrL (U ++ b :: V) (u ++ (c ++ v)) := frl_append.mpr ⟨_, _, rfl, hu, .cons h hv⟩
  cases r with
  | false => exact .any (.refl _) k
  | true => exact .row k
/-- one branch ahead of another -/
theorem ahead {b d : PT} {c : List Int} (hb : b ∈ bs) (hd : d ∈ bs) (hne : b ≠ d) (h : Fr b c) : ∃ l e, Fr (.node r bs) l ∧ Fr d e ∧ (c ++ e).Sublist l := by
  have aux : ∀ (cs A B C : List PT), cs = A ++ (b :: (B ++ (d :: C))) → ∃ l e, FrL cs l ∧ Fr d e ∧ (c ++ e).Sublist l := by
    rintro cs A B C rfl
    obtain ⟨x, hx⟩ := frl_some A
    obtain ⟨y, hy⟩ := frl_some B
    obtain ⟨e, he⟩ := fr_some d
    obtain ⟨z, hz⟩ := frl_some C
    refine ⟨x ++ (c ++ (y ++ (e ++ z))), e, frl_append.mpr ⟨_, _, rfl, hx, .cons h (frl_append.mpr ⟨_, _, rfl, hy, .cons he hz⟩)⟩, he, ?_⟩
    exact List.Sublist.trans ((List.Sublist.refl c).append ((List.sublist_append_left e z).trans (List.sublist_append_right y _))) (List.sublist_append_right x _)
  have order : (∃ A B C : List PT, bs = A ++ (b :: (B ++ (d :: C)))) ∨ ∃ A B C : List PT, bs.reverse = A ++ (b :: (B ++ (d :: C))) := by
    obtain ⟨A, B, rfl⟩ := List.append_of_mem hb
    simp only [List.mem_append, List.mem_cons] at hd
    rcases hd with hd | rfl | hd
    · obtain ⟨C, D, rfl⟩ := List.append_of_mem hd
      refine .inr ⟨B.reverse, D.reverse, C.reverse, by simp⟩
    · exact absurd rfl hne
    · obtain ⟨C, D, rfl⟩ := List.append_of_mem hd
      exact .inl ⟨A, C, D, rfl⟩
  rcases order with ⟨A, B, C, e⟩ | ⟨A, B, C, e⟩
  · obtain ⟨l, e, k1, k2, k3⟩ := aux bs A B C e
    refine ⟨l, e, ?_, k2, k3⟩
    cases r with
    | false => exact .any (.refl _) k1
    | true => exact .row k1
  · obtain ⟨l, e, k1, k2, k3⟩ := aux bs.reverse A B C e
    refine ⟨l, e, ?_, k2, k3⟩
    cases r with
    | false => exact .any bs.reverse_perm k1
    | true => exact .rev k1
/-- a kept party with guests of two branches has all guests of each -/
theorem kp_full {b d : PT} (hk : Kp (.node r bs) X) (hb : b ∈ bs) (hd : d ∈ bs) (hne : b ≠ d) {x y : Int} (hx : x ∈ gs b) (xx : X x) (hy : y ∈ gs d) (xy : X y) : ∀ g ∈ gs b, X g := by
  intro g hg
  by_cases e : x = g
  · exact e ▸ xx
  · obtain ⟨c, hc⟩ := fr_some b
    obtain ⟨c', hc', s⟩ : ∃ c', Fr b c' ∧ [x, g].Sublist c' := by
      rcases two_mem ((fr_perm hc).mem_iff.mpr hx) ((fr_perm hc).mem_iff.mpr hg) e with s | s
      · exact ⟨c, hc, s⟩
      · exact ⟨c.reverse, fr_rev hc, by simpa using s.reverse⟩
    obtain ⟨l, e, k1, k2, k3⟩ := ahead (r := r) hb hd hne hc'
    have s2 : [x, g, y].Sublist l := by
      have : [x, g, y] = [x, g] ++ [y] := rfl
      rw [this]
      exact (s.append (List.singleton_sublist.mpr ((fr_perm k2).mem_iff.mpr hy))).trans k3
    exact cv_between (hk l k1) s2 xx xy
/-- of branches in any order: all guests -/
theorem kp_any {b d : PT} (hk : Kp (.node false bs) X) (hb : b ∈ bs) (hd : d ∈ bs) (hne : b ≠ d) {x y : Int} (hx : x ∈ gs b) (xx : X x) (hy : y ∈ gs d) (xy : X y) : ∀ g ∈ gsL bs, X g := by
  intro g hg
  obtain ⟨f, hf, hgf⟩ := mem_gsL.mp hg
  by_cases e1 : f = b
  · exact kp_full hk hb hd hne hx xx hy xy g (e1 ▸ hgf)
  · by_cases e2 : f = d
    · exact kp_full hk hd hb (Ne.symm hne) hy xy hx xx g (e2 ▸ hgf)
    · obtain ⟨A, B, rfl⟩ := List.append_of_mem hb
      have hd' : d ∈ A ++ B := by
        simp only [List.mem_append, List.mem_cons] at hd ⊢
        rcases hd with h | h | h
        · exact .inl h
        · exact absurd h.symm hne
        · exact .inr h
      obtain ⟨C, D, e⟩ := List.append_of_mem hd'
      have hf' : f ∈ C ++ D := by
        have h1 : f ∈ A ++ B := by
          simp only [List.mem_append, List.mem_cons] at hf ⊢
          rcases hf with h | h | h
          · exact .inl h
          · exact absurd h e1
          · exact .inr h
        rw [e] at h1
        simp only [List.mem_append, List.mem_cons] at h1 ⊢
        rcases h1 with h | h | h
        · exact .inl h
        · exact absurd h e2
        · exact .inr h
      obtain ⟨C', D', e'⟩ := List.append_of_mem hf'
      have q : (b :: f :: d :: (C' ++ D')).Perm (A ++ b :: B) := by
        refine List.Perm.trans ?_ List.perm_middle.symm
        refine List.Perm.cons b ?_
        rw [e]
        refine List.Perm.trans ?_ List.perm_middle.symm
        refine (List.Perm.swap d f _).trans (List.Perm.cons d ?_)
        rw [e']
        exact List.perm_middle.symm
      obtain ⟨lb, hlb⟩ := fr_some b
      obtain ⟨lf, hlf⟩ := fr_some f
      obtain ⟨ld, hld⟩ := fr_some d
      obtain ⟨lr, hlr⟩ := frl_some (C' ++ D')
      have k : Fr (.node false (A ++ b :: B)) (lb ++ (lf ++ (ld ++ lr))) := .any q (.cons hlb (.cons hlf (.cons hld hlr)))
      refine cv_between (hk _ k) (x := x) (y := y) ?_ xx xy
      have : [x, g, y] = [x] ++ ([g] ++ ([y] ++ [])) := rfl
      rw [this]
      exact (List.singleton_sublist.mpr ((fr_perm hlb).mem_iff.mpr hx)).append ((List.singleton_sublist.mpr ((fr_perm hlf).mem_iff.mpr hgf)).append ((List.singleton_sublist.mpr ((fr_perm hld).mem_iff.mpr hy)).append (List.nil_sublist _)))
/-- neighbours in a row sit together -/
theorem kp_pair {u v : PT} {A B : List PT} (nd : (gsL (A ++ (u :: v :: B))).Nodup) : Kp (.node true (A ++ (u :: v :: B))) (fun g => g ∈ gs u ∨ g ∈ gs v) := by
  rw [gsL_append, gsL_cons, gsL_cons] at nd
  have a1 := List.nodup_append.mp nd
  have a2 := List.nodup_append.mp a1.2.1
  have a3 := List.nodup_append.mp a2.2.1
  have key : ∀ l, FrL (A ++ (u :: v :: B)) l → Cv (fun g => g ∈ gs u ∨ g ∈ gs v) l := by
    intro l h
    obtain ⟨x, j, rfl, k1, j1⟩ := frl_append.mp h
    obtain ⟨c, j, rfl, k2, j2⟩ := frl_cons.mp j1
    obtain ⟨d, y, rfl, k3, k4⟩ := frl_cons.mp j2
    have e : x ++ (c ++ (d ++ y)) = x ++ ((c ++ d) ++ y) := by simp
    rw [e]
    refine (cv_mid (fun g hg => ?_) (fun g hg => ?_)).mpr (RA.os fun g hg => ?_).cv
    · have hg := (frl_perm k1).mem_iff.mp hg
      rintro (h | h)
      · exact a1.2.2 g hg g (by simp [h]) rfl
      · exact a1.2.2 g hg g (by simp [h]) rfl
    · have hg := (frl_perm k4).mem_iff.mp hg
      rintro (h | h)
      · exact a2.2.2 g h g (by simp [hg]) rfl
      · exact a3.2.2 g h g hg rfl
    · rcases List.mem_append.mp hg with hg | hg
      · exact .inl ((fr_perm k2).mem_iff.mp hg)
      · exact .inr ((fr_perm k3).mem_iff.mp hg)
  intro l h
  rcases fr_row.mp h with h | h
  · exact key l h
  · exact cv_rev.mp (key _ (frl_rev_iff.mp h))
theorem other_br (w : Wf (.node r bs)) (nd : (gsL bs).Nodup) {b : PT} (hb : b ∈ bs) : ∃ d ∈ bs, d ≠ b := by
  obtain ⟨A, B, rfl⟩ := List.append_of_mem hb
  have h2 := w.two
  have hne : A ++ B ≠ [] := by
    intro e
    rw [List.append_eq_nil_iff] at e
    rw [e.1, e.2] at h2; simp at h2
  obtain ⟨d, hd⟩ := List.exists_mem_of_ne_nil _ hne
  refine ⟨d, by simp only [List.mem_append, List.mem_cons] at hd ⊢; rcases hd with h | h <;> simp [h], fun e => ?_⟩
  subst e
  have n1 := w.br d (by simp)
  obtain ⟨g, hg⟩ := List.exists_mem_of_ne_nil _ n1.ne
  rw [gsL_append, gsL_cons] at nd
  have a1 := List.nodup_append.mp nd
  have a2 := List.nodup_append.mp a1.2.1
  rcases List.mem_append.mp hd with h | h
  · exact a1.2.2 g (mem_gsL.mpr ⟨d, h, hg⟩) g (by simp [hg]) rfl
  · exact a2.2.2 g hg g (mem_gsL.mpr ⟨d, h, hg⟩) rfl
/-- unlike branches have no guest in common -/
theorem apart {b d : PT} (nd : (gsL bs).Nodup) (hb : b ∈ bs) (hd : d ∈ bs) {g : Int} (h1 : g ∈ gs b) (h2 : g ∈ gs d) : b = d := by
  obtain ⟨A, B, rfl⟩ := List.append_of_mem hb
  rw [gsL_append, gsL_cons] at nd
  have a1 := List.nodup_append.mp nd
  have a2 := List.nodup_append.mp a1.2.1
  simp only [List.mem_append, List.mem_cons] at hd
  rcases hd with h | h | h
  · exact absurd rfl (a1.2.2 g (mem_gsL.mpr ⟨d, h, h2⟩) g (by simp [h1]))
  · exact h.symm
  · exact absurd rfl (a2.2.2 g h1 g (mem_gsL.mpr ⟨d, h, h2⟩))
theorem nd_of {b : PT} (nd : (gsL bs).Nodup) (hb : b ∈ bs) : (gs b).Nodup := by
  obtain ⟨A, B, rfl⟩ := List.append_of_mem hb
  rw [gsL_append, gsL_cons] at nd
  exact (List.nodup_append.mp (List.nodup_append.mp nd).2.1).1
/-- strong: overlaps no kept party -/
def Strong (t : PT) (X : Int → Prop) : Prop := ∀ Y : Int → Prop, Kp t Y → (∀ g, Y g → g ∈ gs t) → (∀ g, X g → Y g) ∨ (∀ g, Y g → X g) ∨ ∀ g, X g → ¬ Y g
theorem strong_branch {b : PT} (hb : b ∈ bs) : Strong (.node r bs) (fun g => g ∈ gs b) := by
  intro Y hk hY
  by_cases h1 : ∃ g, g ∈ gs b ∧ Y g
  · obtain ⟨x, hx, yx⟩ := h1
    by_cases h2 : ∃ g, Y g ∧ g ∉ gs b
    · obtain ⟨y, yy, hy⟩ := h2
      have := hY y yy
      rw [gs_node] at this
      obtain ⟨d, hd, hyd⟩ := mem_gsL.mp this
      refine .inl (kp_full hk hb hd (fun e => ?_) hx yx hyd yy)
      subst e; exact hy hyd
    · refine .inr (.inl fun g hg => Classical.byContradiction fun z => h2 ⟨g, hg, z⟩)
  · exact .inr (.inr fun g hg hy => h1 ⟨g, hg, hy⟩)
theorem neighbours {q : PT → Prop} : ∀ {bs : List PT}, (∃ b ∈ bs, q b) → (∃ b ∈ bs, ¬ q b) → ∃ (A : List PT) (u v : PT) (B : List PT), bs = A ++ (u :: v :: B) ∧ ((q u ∧ ¬ q v) ∨ (¬ q u ∧ q v))
  | [], h, _ => by obtain ⟨b, hb, _⟩ := h; cases hb
  | [a], h1, h2 => by
    obtain ⟨b, hb, h1⟩ := h1
    obtain ⟨c, hc, h2⟩ := h2
    simp at hb hc
    subst hb; subst hc
    exact absurd h1 h2
  | a :: c :: r, h1, h2 => by
    by_cases ha : q a
    · by_cases hc : q c
      · have k2 : ∃ b ∈ c :: r, ¬ q b := by
          obtain ⟨b, hb, h2⟩ := h2
          rcases List.mem_cons.mp hb with rfl | hb
          · exact absurd ha h2
          · exact ⟨b, hb, h2⟩
        obtain ⟨A, u, v, B, e, h⟩ := neighbours (bs := c :: r) ⟨c, by simp, hc⟩ k2
        exact ⟨a :: A, u, v, B, by rw [e]; rfl, h⟩
      · exact ⟨[], a, c, r, rfl, .inl ⟨ha, hc⟩⟩
    · by_cases hc : q c
      · exact ⟨[], a, c, r, rfl, .inr ⟨ha, hc⟩⟩
      · have k1 : ∃ b ∈ c :: r, q b := by
          obtain ⟨b, hb, h1⟩ := h1
          rcases List.mem_cons.mp hb with rfl | hb
          · exact absurd h1 ha
          · exact ⟨b, hb, h1⟩
        obtain ⟨A, u, v, B, e, h⟩ := neighbours (bs := c :: r) k1 ⟨c, by simp, hc⟩
        exact ⟨a :: A, u, v, B, by rw [e]; rfl, h⟩
/-- a strong kept party, not all guests, lies in a branch -/
theorem strong_in (w : Wf (.node r bs)) (nd : (gsL bs).Nodup) (hk : Kp (.node r bs) X) (hs : Strong (.node r bs) X) (hX : ∀ g, X g → g ∈ gsL bs) (h0 : ∃ g, X g) (hall : ∃ g ∈ gsL bs, ¬ X g) : ∃ b ∈ bs, ∀ g, X g → g ∈ gs b := by
  obtain ⟨x, xx⟩ := h0
  obtain ⟨b, hb, hx⟩ := mem_gsL.mp (hX x xx)
  apply Classical.byContradiction
  intro hno
  have : ∃ y, X y ∧ y ∉ gs b := Classical.byContradiction fun z => hno ⟨b, hb, fun g hg => Classical.byContradiction fun z' => z ⟨g, hg, z'⟩⟩
  obtain ⟨y, yy, hy⟩ := this
  obtain ⟨d, hd, hyd⟩ := mem_gsL.mp (hX y yy)
  have hne : b ≠ d := fun e => by subst e; exact hy hyd
  obtain ⟨z, hz, zz⟩ := hall
  cases r with
  | false => exact zz (kp_any hk hb hd hne hx xx hyd yy z hz)
  | true =>
    obtain ⟨f, hf, hzf⟩ := mem_gsL.mp hz
    -- a branch is touched where it has a guest of the party; then all its guests are
    have full : ∀ c ∈ bs, (∃ g ∈ gs c, X g) → ∀ g ∈ gs c, X g := by
      rintro c hc ⟨g, hg, hxg⟩
      by_cases e : c = b
      · exact kp_full hk hc hd (e ▸ hne) hg hxg hyd yy
      · exact kp_full hk hc hb e hg hxg hx xx
    obtain ⟨A, u, v, B, e, h⟩ := neighbours (q := fun c => ∃ g ∈ gs c, X g) ⟨b, hb, x, hx, xx⟩ ⟨f, hf, fun hh => zz (full f hf hh z hzf)⟩
    have hu : u ∈ bs := by rw [e]; simp
    have hv : v ∈ bs := by rw [e]; simp
    have kY : Kp (.node true bs) (fun g => g ∈ gs u ∨ g ∈ gs v) := by
      rw [e] at nd ⊢
      exact kp_pair nd
    have subY : ∀ g, (g ∈ gs u ∨ g ∈ gs v) → g ∈ gs (.node true bs) := by
      intro g hg
      rw [gs_node]
      exact hg.elim (fun h => mem_gsL.mpr ⟨u, hu, h⟩) fun h => mem_gsL.mpr ⟨v, hv, h⟩
    -- s is touched, o is not
    have main : ∀ s o : PT, s ∈ bs → o ∈ bs → (∃ g ∈ gs s, X g) → (¬ ∃ g ∈ gs o, X g) → (∀ g, (g ∈ gs u ∨ g ∈ gs v) ↔ (g ∈ gs s ∨ g ∈ gs o)) → False := by
      intro s o hsb hob ht hn heq
      obtain ⟨c, hc⟩ := List.exists_mem_of_ne_nil _ (w.br o hob).ne
      obtain ⟨g, hg, hxg⟩ := ht
      rcases hs _ kY subY with h1 | h1 | h1
      · -- the party lies in s and o, so in s
        have inS : ∀ g, X g → g ∈ gs s := by
          intro g hg
          rcases (heq g).mp (h1 g hg) with h | h
          · exact h
          · exact absurd ⟨g, h, hg⟩ hn
        exact hno ⟨s, hsb, inS⟩
      · exact hn ⟨c, hc, h1 c ((heq c).mpr (.inr hc))⟩
      · exact h1 g hxg ((heq g).mpr (.inl hg))
    rcases h with ⟨h1, h2⟩ | ⟨h1, h2⟩
    · exact main u v hu hv h1 h2 fun g => Iff.rfl
    · exact main v u hv hu h2 h1 fun g => Or.comm

/-! ### the least guest, the least form -/
def mn (t : PT) : Int := ((gs t).min?).getD 0
theorem mn_spec {t : PT} (h : gs t ≠ []) : mn t ∈ gs t ∧ ∀ g ∈ gs t, mn t ≤ g := by
  unfold mn
  cases e : (gs t).min? with
  | none => exact absurd (List.min?_eq_none_iff.mp e) h
  | some m =>
    have := List.min?_eq_some_iff.mp e
    exact this
theorem mn_uniq {t : PT} {m : Int} (h1 : m ∈ gs t) (h2 : ∀ g ∈ gs t, m ≤ g) : mn t = m := by
  have hne : gs t ≠ [] := by intro e; rw [e] at h1; cases h1
  obtain ⟨a, b⟩ := mn_spec hne
  exact Int.le_antisymm (b m h1) (h2 _ a)
inductive LF : PT → Prop
  | leaf (g : Int) : LF (.leaf g)
  | any {bs : List PT} : (∀ b ∈ bs, LF b) → bs.Pairwise (fun a b => mn a < mn b) → LF (.node false bs)
  | row {bs : List PT} : (∀ b ∈ bs, LF b) → (∀ a c, bs.head? = some a → bs.getLast? = some c → mn a < mn c) → LF (.node true bs)
theorem LF.br (h : LF (.node r bs)) : ∀ b ∈ bs, LF b := by cases h <;> assumption
theorem sorted_eq {α : Type} {f : α → Int} : ∀ {as bs : List α}, as.Pairwise (fun a b => f a < f b) → bs.Pairwise (fun a b => f a < f b) → (∀ a, a ∈ as ↔ a ∈ bs) → as = bs
  | [], [], _, _, _ => rfl
  | [], b :: bs, _, _, h => absurd ((h b).mpr (by simp)) (by simp)
  | a :: as, [], _, _, h => absurd ((h a).mp (by simp)) (by simp)
  | a :: as, b :: bs, ha, hb, h => by
    obtain ⟨ha1, ha2⟩ := List.pairwise_cons.mp ha
    obtain ⟨hb1, hb2⟩ := List.pairwise_cons.mp hb
    have e : a = b := by
      rcases List.mem_cons.mp ((h a).mp (by simp)) with e | m1
      · exact e
      · rcases List.mem_cons.mp ((h b).mpr (by simp)) with e | m2
        · exact e.symm
        · have := ha1 b m2
          have := hb1 a m1
          omega
    subst e
    have : as = bs := sorted_eq ha2 hb2 fun c => by
      constructor
      · intro m
        rcases List.mem_cons.mp ((h c).mp (by simp [m])) with e | m'
        · subst e; have := ha1 c m; omega
        · exact m'
      · intro m
        rcases List.mem_cons.mp ((h c).mpr (by simp [m])) with e | m'
        · subst e; have := hb1 c m; omega
        · exact m'
    rw [this]
theorem frl_same : ∀ {as bs : List PT} {l : List Int}, (∀ b ∈ as, Wf b) → (∀ b ∈ bs, Wf b) → (gsL as).Nodup → (gsL bs).Nodup → (∀ a ∈ as, a ∈ bs) → FrL as l → FrL bs l → as = bs
  | [], [], _, _, _, _, _, _, _, _ => rfl
  | [], b :: bs, l, _, wb, _, _, _, h1, h2 => by
    rw [frl_nil.mp h1] at h2
    obtain ⟨x, y, e, k1, _⟩ := frl_cons.mp h2
    exact absurd (List.append_eq_nil_iff.mp e.symm).1 (fr_ne (wb b (by simp)) k1)
  | a :: as, bs, l, wa, wb, na, nb, hs, h1, h2 => by
    obtain ⟨x, y, rfl, k1, k2⟩ := frl_cons.mp h1
    cases x with
    | nil => exact absurd rfl (fr_ne (wa a (by simp)) k1)
    | cons g x =>
      cases bs with
      | nil => exact absurd (hs a (by simp)) (by simp)
      | cons b bs =>
        obtain ⟨x', y', e, k3, k4⟩ := frl_cons.mp h2
        cases x' with
        | nil => exact absurd rfl (fr_ne (wb b (by simp)) k3)
        | cons g' x' =>
          have eg : g = g' := by
            rw [List.cons_append, List.cons_append] at e
            exact (List.cons.inj e).1
          subst eg
          have m1 : g ∈ gs a := (fr_perm k1).mem_iff.mp (by simp)
          have m2 : g ∈ gs b := (fr_perm k3).mem_iff.mp (by simp)
          have eab : a = b := apart nb (hs a (by simp)) (by simp) m1 m2
          subst eab
          have ll : (g :: x).length = (g :: x').length := (fr_perm k1).length_eq.trans (fr_perm k3).length_eq.symm
          obtain ⟨_, e2⟩ := List.append_inj e ll
          subst e2
          rw [gsL_cons] at na nb
          have na' := List.nodup_append.mp na
          have hs' : ∀ c ∈ as, c ∈ bs := by
            intro c hc
            rcases List.mem_cons.mp (hs c (by simp [hc])) with e | h
            · subst e
              obtain ⟨z, hz⟩ := List.exists_mem_of_ne_nil _ (wa c (by simp)).ne
              exact absurd rfl (na'.2.2 z hz z (mem_gsL.mpr ⟨c, hc, hz⟩))
            · exact h
          rw [frl_same (fun c hc => wa c (by simp [hc])) (fun c hc => wb c (by simp [hc])) na'.2.1 (List.nodup_append.mp nb).2.1 hs' k2 k4]
theorem gs_perm_of {t u : PT} (h : ∀ l, Fr t l ↔ Fr u l) : (gs t).Perm (gs u) := by
  obtain ⟨l, hl⟩ := fr_some t
  exact (fr_perm hl).symm.trans (fr_perm ((h l).mp hl))
theorem big {r : Bool} {bs : List PT} (w : Wf (.node r bs)) : 2 ≤ (gs (.node r bs)).length := by
  have h2 := w.two
  rw [gs_node]
  match bs, h2, w.br with
  | a :: b :: c, _, wb =>
    have := List.length_pos_iff.mpr (wb a (by simp)).ne
    have := List.length_pos_iff.mpr (wb b (by simp)).ne
    simp; omega
/-- each branch of the one tree is a branch of the other -/
theorem branch_sub {r r' : Bool} {as bs : List PT} (wt : Wf (.node r as)) (wu : Wf (.node r' bs)) (nt : (gsL as).Nodup) (nu : (gsL bs).Nodup) (h : ∀ l, Fr (.node r as) l ↔ Fr (.node r' bs) l) {a : PT} (ha : a ∈ as) :
    ∃ b ∈ bs, ∀ g ∈ gs a, g ∈ gs b := by
  have q := gs_perm_of h
  rw [gs_node, gs_node] at q
  have kp : ∀ X : Int → Prop, Kp (.node r as) X ↔ Kp (.node r' bs) X := fun X => ⟨fun k l hl => k l ((h l).mpr hl), fun k l hl => k l ((h l).mp hl)⟩
  obtain ⟨d, hd, hne⟩ := other_br wt nt ha
  obtain ⟨z, hz⟩ := List.exists_mem_of_ne_nil _ (wt.br d hd).ne
  obtain ⟨x, hx⟩ := List.exists_mem_of_ne_nil _ (wt.br a ha).ne
  refine strong_in (X := fun g => g ∈ gs a) wu nu ((kp _).mp (kp_branch nt ha)) (fun Y kY sY => ?_) (fun g hg => q.mem_iff.mp (mem_gsL.mpr ⟨a, ha, hg⟩)) ⟨x, hx⟩ ⟨z, q.mem_iff.mp (mem_gsL.mpr ⟨d, hd, hz⟩), fun hza => hne (apart nt hd ha hz hza)⟩
  refine strong_branch (r := r) ha Y ((kp Y).mpr kY) fun g hg => ?_
  have := sY g hg
  rw [gs_node] at this ⊢
  exact q.mem_iff.mpr this
theorem uniq (t : PT) : ∀ u, Wf t → Wf u → (gs t).Nodup → (gs u).Nodup → LF t → LF u → (∀ l, Fr t l ↔ Fr u l) → t = u := by
  induction t using PT.ind with
  | hl g =>
    intro u _ wu _ _ _ _ h
    cases u with
    | leaf g' =>
      have := (h [g]).mp (.leaf g)
      rw [fr_leaf] at this
      rw [(List.cons.inj this).1]
    | node r bs =>
      have q := (gs_perm_of h).length_eq
      have := big wu
      simp only [gs_leaf, List.length_cons, List.length_nil] at q
      omega
  | hn r as ih =>
    intro u wt wu nt nu lt lu h
    cases u with
    | leaf g' =>
      have q := (gs_perm_of h).length_eq
      have := big wt
      simp only [gs_leaf, List.length_cons, List.length_nil] at q
      omega
    | node r' bs =>
      rw [gs_node] at nt nu
      have q := gs_perm_of h
      rw [gs_node, gs_node] at q
      -- the branches are the same ones
      have match1 : ∀ a ∈ as, ∃ b ∈ bs, ∀ g, g ∈ gs a ↔ g ∈ gs b := by
        intro a ha
        obtain ⟨b, hb, s1⟩ := branch_sub wt wu nt nu h ha
        obtain ⟨a', ha', s2⟩ := branch_sub wu wt nu nt (fun l => (h l).symm) hb
        obtain ⟨x, hx⟩ := List.exists_mem_of_ne_nil _ (wt.br a ha).ne
        have e : a = a' := apart nt ha ha' hx (s2 x (s1 x hx))
        subst e
        exact ⟨b, hb, fun g => ⟨s1 g, s2 g⟩⟩
      have same : ∀ a ∈ as, ∀ b ∈ bs, (∀ g, g ∈ gs a ↔ g ∈ gs b) → a = b := by
        intro a ha b hb e
        refine ih a ha b (wt.br a ha) (wu.br b hb) (nd_of nt ha) (nd_of nu hb) (lt.br a ha) (lu.br b hb) fun l => ?_
        have ef : (fun g : Int => decide (g ∈ gs a)) = fun g => decide (g ∈ gs b) := funext fun g => by simp only [e g]
        constructor
        · intro hl
          obtain ⟨L, k1, k2⟩ := extend (r := r) nt ha hl
          rw [← k2, ef]
          exact restrict nu hb ((h L).mp k1)
        · intro hl
          obtain ⟨L, k1, k2⟩ := extend (r := r') nu hb hl
          rw [← k2, ← ef]
          exact restrict nt ha ((h L).mpr k1)
      have sub1 : ∀ a ∈ as, a ∈ bs := by
        intro a ha
        obtain ⟨b, hb, e⟩ := match1 a ha
        rw [same a ha b hb e]; exact hb
      have sub2 : ∀ b ∈ bs, b ∈ as := by
        intro b hb
        obtain ⟨x, hx⟩ := List.exists_mem_of_ne_nil _ (wu.br b hb).ne
        obtain ⟨a, ha, hxa⟩ := mem_gsL.mp (q.mem_iff.mpr (mem_gsL.mpr ⟨b, hb, hx⟩))
        have := sub1 a ha
        rw [← apart nu this hb hxa hx]; exact ha
      -- of one kind
      have no_mix : ∀ {cs ds : List PT}, Wf (.node true cs) → (gsL cs).Nodup → (∀ c ∈ cs, c ∈ ds) → (∀ l, Fr (.node true cs) l ↔ Fr (.node false ds) l) → False := by
        intro cs ds wc nc sub hh
        have h3 := wc.three
        match cs, h3 with
        | u :: v :: z :: r, _ =>
          have k := kp_pair (A := []) (u := u) (v := v) (B := z :: r) nc
          have k' : Kp (.node false ds) (fun g => g ∈ gs u ∨ g ∈ gs v) := fun l hl => k l ((hh l).mpr hl)
          obtain ⟨x, hx⟩ := List.exists_mem_of_ne_nil _ (wc.br u (by simp)).ne
          obtain ⟨y, hy⟩ := List.exists_mem_of_ne_nil _ (wc.br v (by simp)).ne
          obtain ⟨g, hg⟩ := List.exists_mem_of_ne_nil _ (wc.br z (by simp)).ne
          simp only [gsL_cons] at nc
          have a1 := List.nodup_append.mp nc
          have a2 := List.nodup_append.mp a1.2.1
          have ne : u ≠ v := by
            intro e
            subst e
            exact a1.2.2 x hx x (by simp [hx]) rfl
          have := kp_any k' (sub u (by simp)) (sub v (by simp)) ne hx (.inl hx) hy (.inr hy) g (mem_gsL.mpr ⟨z, sub z (by simp), hg⟩)
          rcases this with h | h
          · exact a1.2.2 g h g (by simp [hg]) rfl
          · exact a2.2.2 g h g (by simp [hg]) rfl
      cases r with
      | false =>
        cases r' with
        | true => exact (no_mix wu nu sub2 fun l => (h l).symm).elim
        | false =>
          cases lt with
          | any _ p1 =>
            cases lu with
            | any _ p2 => rw [sorted_eq p1 p2 fun a => ⟨sub1 a, sub2 a⟩]
      | true =>
        cases r' with
        | false => exact (no_mix wt nt sub1 h).elim
        | true =>
          obtain ⟨l, hl⟩ := frl_some as
          rcases fr_row.mp ((h l).mp (.row hl)) with k | k
          · rw [frl_same wt.br wu.br nt nu sub1 hl k]
          · have nr : (gsL bs.reverse).Nodup := (gsL_perm bs.reverse_perm).nodup_iff.mpr nu
            have e := frl_same wt.br (fun b hb => wu.br b (by simpa using hb)) nt nr (fun a ha => by simpa using sub1 a ha) hl k
            exfalso
            cases lt with
            | row _ p1 =>
              cases lu with
              | row _ p2 =>
                have h2 := wu.two
                match bs, h2 with
                | x :: y :: z, _ =>
                  have a1 := p2 x ((x :: y :: z).getLast (by simp)) rfl (List.getLast?_eq_some_getLast (by simp))
                  have a2 := p1 ((x :: y :: z).getLast (by simp)) x (by rw [e, List.head?_reverse]; exact List.getLast?_eq_some_getLast (by simp)) (by rw [e, List.getLast?_reverse]; rfl)
                  omega
end
end PT
end ST
namespace ST
/-- ints in order -/
def srt (l : List Int) : List Int := l.mergeSort fun a b => decide (a ≤ b)
theorem srt_perm (l : List Int) : (srt l).Perm l := List.mergeSort_perm ..
theorem srt_le (l : List Int) : (srt l).Pairwise (· ≤ ·) := by
  have := List.pairwise_mergeSort (le := fun a b : Int => decide (a ≤ b)) (fun a b c h1 h2 => by simp at *; omega) (fun a b => by simp; omega) l
  exact this.imp fun h => by simpa using h
theorem srt_uniq {l m : List Int} (q : m.Perm l) (h : m.Pairwise (· ≤ ·)) : m = srt l :=
  List.Perm.eq_of_pairwise (fun a b _ _ h1 h2 => Int.le_antisymm h1 h2) h (srt_le l) (q.trans (srt_perm l).symm)
theorem mem_srt {l : List Int} {g : Int} : g ∈ srt l ↔ g ∈ l := (srt_perm l).mem_iff
theorem cv_congr {X Y : Int → Prop} {l : List Int} (h : ∀ g ∈ l, X g ↔ Y g) : Cv X l ↔ Cv Y l := by
  constructor
  · rintro ⟨x, y, z, rfl, h1, h2, h3⟩
    exact ⟨x, y, z, rfl, fun g hg hy => h1 g hg ((h g (by simp [hg])).mpr hy), fun g hg => (h g (by simp [hg])).mp (h2 g hg), fun g hg hy => h3 g hg ((h g (by simp [hg])).mpr hy)⟩
  · rintro ⟨x, y, z, rfl, h1, h2, h3⟩
    exact ⟨x, y, z, rfl, fun g hg hy => h1 g hg ((h g (by simp [hg])).mp hy), fun g hg => (h g (by simp [hg])).mpr (h2 g hg), fun g hg hy => h3 g hg ((h g (by simp [hg])).mp hy)⟩
theorem Cv.filter {X : Int → Prop} {l : List Int} (h : Cv X l) (q : Int → Bool) : Cv X (l.filter q) := by
  obtain ⟨x, y, z, rfl, h1, h2, h3⟩ := h
  refine ⟨x.filter q, y.filter q, z.filter q, by rw [List.filter_append, List.filter_append], fun g hg => h1 g (List.mem_filter.mp hg).1, fun g hg => h2 g (List.mem_filter.mp hg).1, fun g hg => h3 g (List.mem_filter.mp hg).1⟩
namespace PT
/-! ### the least form -/
mutual
def least : PT → Int × PT
  | .leaf g => (g, .leaf g)
  | .node r bs => (((leastL bs).map (·.1)).min?.getD 0, .node r ((if r then (if (((leastL bs).getLast?).map (·.1)).getD 0 < (((leastL bs).head?).map (·.1)).getD 0 then (leastL bs).reverse else leastL bs) else (leastL bs).mergeSort fun a b => decide (a.1 ≤ b.1)).map (·.2)))
def leastL : List PT → List (Int × PT)
  | [] => []
  | b :: bs => least b :: leastL bs
end
theorem leastL_map (bs : List PT) : leastL bs = bs.map least := by
  induction bs with
  | nil => simp [leastL]
  | cons b bs ih => simp [leastL, ih]
/-- the branches of the least form -/
def leastB (r : Bool) (bs : List PT) : List (Int × PT) := if r then (if (((bs.map least).getLast?).map (·.1)).getD 0 < (((bs.map least).head?).map (·.1)).getD 0 then (bs.map least).reverse else bs.map least) else (bs.map least).mergeSort fun a b => decide (a.1 ≤ b.1)
theorem least_leaf (g : Int) : least (.leaf g) = (g, .leaf g) := by simp [least]
theorem least_node (r : Bool) (bs : List PT) : least (.node r bs) = (((bs.map least).map (·.1)).min?.getD 0, .node r ((leastB r bs).map (·.2))) := by
  rw [least, leastL_map]; rfl
theorem leastB_perm (r : Bool) (bs : List PT) : (leastB r bs).Perm (bs.map least) := by
  unfold leastB
  cases r with
  | true => rw [if_pos rfl]; split; exact List.reverse_perm _; exact .refl _
  | false => rw [if_neg (by decide)]; exact List.mergeSort_perm ..
theorem least_fr (t : PT) : ∀ l, Fr (least t).2 l ↔ Fr t l := by
  induction t using PT.ind with
  | hl g => intro l; rw [least_leaf]
  | hn r bs ih =>
    intro l
    rw [least_node]
    have m : (bs.map least).map (·.2) = bs.map fun b => (least b).2 := by rw [List.map_map]; rfl
    cases r with
    | false =>
      have q := (leastB_perm false bs).map (·.2)
      rw [m] at q
      show Fr (.node false _) l ↔ _
      rw [fr_any_perm q, fr_any, fr_any]
      constructor
      · rintro ⟨cs, q, h⟩
        have q' := q.symm
        -- an order of the images is the image of an order
        obtain ⟨ds, qd, e⟩ : ∃ ds : List PT, ds.Perm bs ∧ cs = ds.map fun b => (least b).2 := by
          clear h ih m q'
          have : ∀ {as : List PT} {f : PT → PT} {cs : List PT}, cs.Perm (as.map f) → ∃ ds : List PT, ds.Perm as ∧ cs = ds.map f := by
            intro as f cs q
            generalize hx : as.map f = X at q
            induction q generalizing as with
            | nil => exact ⟨[], by rw [List.map_eq_nil_iff.mp hx], rfl⟩
            | cons x _ ih =>
              match as, hx with
              | a :: as, hx =>
                rw [List.map_cons] at hx
                injection hx with h1 h2
                obtain ⟨ds, qd, e⟩ := ih h2
                exact ⟨a :: ds, qd.cons a, by rw [List.map_cons, h1, e]⟩
            | swap x y l =>
              match as, hx with
              | a :: b :: as, hx =>
                rw [List.map_cons, List.map_cons] at hx
                injection hx with h1 h2
                injection h2 with h2 h3
                exact ⟨b :: a :: as, List.Perm.swap _ _ _, by rw [List.map_cons, List.map_cons, h1, h2, h3]⟩
            | trans q1 q2 ih1 ih2 =>
              obtain ⟨ds, qd, e⟩ := ih2 hx
              obtain ⟨ds', qd', e'⟩ := ih1 (as := ds) e.symm
              exact ⟨ds', qd'.trans qd, e'⟩
          exact this q
        subst e
        exact ⟨ds, qd, (frl_map fun b hb => ih b (qd.mem_iff.mp hb)).mp h⟩
      · rintro ⟨cs, q, h⟩
        exact ⟨cs.map fun b => (least b).2, q.map _, (frl_map fun b hb => ih b (q.mem_iff.mp hb)).mpr h⟩
    | true =>
      have k : ∀ l, Fr (.node true (bs.map fun b => (least b).2)) l ↔ Fr (.node true bs) l := by
        intro l
        rw [fr_row, fr_row, frl_map ih, ← List.map_reverse, frl_map fun b hb => ih b (by simpa using hb)]
      show Fr (.node true ((leastB true bs).map (·.2))) l ↔ _
      unfold leastB
      rw [if_pos rfl]
      split
      · rw [List.map_reverse, m, fr_row_rev, k]
      · rw [m, k]
theorem least_gs (t : PT) : (gs (least t).2).Perm (gs t) := gs_perm_of (least_fr t)
theorem mn_perm {t u : PT} (q : (gs t).Perm (gs u)) (h : gs t ≠ []) : mn t = mn u := by
  obtain ⟨h1, h2⟩ := mn_spec h
  exact (mn_uniq (q.mem_iff.mp h1) fun g hg => h2 g (q.mem_iff.mpr hg)).symm
theorem least_mn {t : PT} (w : Wf t) : (least t).1 = mn t := by
  induction t using PT.ind with
  | hl g => rw [least_leaf]; exact (mn_uniq (by simp) (by simp)).symm
  | hn r bs ih =>
    rw [least_node]
    have hne : (bs.map least).map (·.1) ≠ [] := by
      intro e
      have h2 := w.two
      simp at e
      rw [e] at h2; simp at h2
    obtain ⟨m, hm⟩ : ∃ m, ((bs.map least).map (·.1)).min? = some m := by
      cases e : ((bs.map least).map (·.1)).min? with
      | none => exact absurd (List.min?_eq_none_iff.mp e) hne
      | some m => exact ⟨m, rfl⟩
    rw [hm]
    obtain ⟨h1, h2⟩ := List.min?_eq_some_iff.mp hm
    refine (mn_uniq ?_ fun g hg => ?_).symm
    · simp only [List.mem_map] at h1
      obtain ⟨x, ⟨b, hb, rfl⟩, rfl⟩ := h1
      rw [gs_node]
      show (least b).1 ∈ _
      rw [ih b hb (w.br b hb)]
      exact mem_gsL.mpr ⟨b, hb, (mn_spec (w.br b hb).ne).1⟩
    · rw [gs_node] at hg
      obtain ⟨b, hb, hg⟩ := mem_gsL.mp hg
      have := h2 (least b).1 (by simp only [List.mem_map]; exact ⟨least b, ⟨b, hb, rfl⟩, rfl⟩)
      rw [ih b hb (w.br b hb)] at this
      exact Int.le_trans this ((mn_spec (w.br b hb).ne).2 g hg)
theorem least_wf {t : PT} (w : Wf t) : Wf (least t).2 := by
  induction t using PT.ind with
  | hl g => rw [least_leaf]; exact w
  | hn r bs ih =>
    rw [least_node]
    cases w with
    | node wb hl =>
      refine .node (fun b hb => ?_) ?_
      · obtain ⟨x, hx, rfl⟩ := List.mem_map.mp hb
        have := (leastB_perm r bs).mem_iff.mp hx
        obtain ⟨c, hc, rfl⟩ := List.mem_map.mp this
        exact ih c hc (wb c hc)
      · rw [List.length_map, (leastB_perm r bs).length_eq, List.length_map]; exact hl
theorem least_lf {t : PT} (w : Wf t) (nd : (gs t).Nodup) : LF (least t).2 := by
  induction t using PT.ind with
  | hl g => rw [least_leaf]; exact .leaf g
  | hn r bs ih =>
    have wb := w.br
    rw [gs_node] at nd
    have ih' : ∀ b ∈ bs, LF (least b).2 := fun b hb => ih b hb (wb b hb) (nd_of nd hb)
    have mem : ∀ x ∈ leastB r bs, ∃ b ∈ bs, least b = x := fun x hx => by simpa using List.mem_map.mp ((leastB_perm r bs).mem_iff.mp hx)
    have sub : ∀ b ∈ (leastB r bs).map (·.2), LF b := by
      intro b hb
      obtain ⟨x, hx, rfl⟩ := List.mem_map.mp hb
      obtain ⟨c, hc, rfl⟩ := mem x hx
      exact ih' c hc
    have mnl : ∀ b ∈ bs, mn (least b).2 = (least b).1 := fun b hb => by
      rw [least_mn (wb b hb)]
      exact mn_perm (least_gs b) (least_wf (wb b hb)).ne
    rw [least_node]
    cases r with
    | false =>
      refine .any sub ?_
      rw [List.pairwise_map]
      have srtd : (leastB false bs).Pairwise fun a b => a.1 ≤ b.1 := by
        unfold leastB
        rw [if_neg (by decide)]
        have := List.pairwise_mergeSort (le := fun a b : Int × PT => decide (a.1 ≤ b.1)) (fun a b c h1 h2 => by simp at *; omega) (fun a b => by simp; omega) (bs.map least)
        exact this.imp fun h => by simpa using h
      have dist : (leastB false bs).Pairwise fun a b => a.1 ≠ b.1 := by
        refine (leastB_perm false bs).pairwise_iff (fun h => Ne.symm h) |>.mpr ?_
        rw [List.pairwise_map]
        have : bs.Pairwise fun a b => ∀ g ∈ gs a, g ∉ gs b := by
          clear ih ih' mem sub mnl srtd
          induction bs with
          | nil => exact .nil
          | cons b bs ihb =>
            rw [gsL_cons] at nd
            have a1 := List.nodup_append.mp nd
            refine List.pairwise_cons.mpr ⟨fun c hc g hg hg' => a1.2.2 g hg g (mem_gsL.mpr ⟨c, hc, hg'⟩) rfl, ?_⟩
            have ihb' : ∀ bs : List PT, (gsL bs).Nodup → bs.Pairwise fun a b => ∀ g ∈ gs a, g ∉ gs b := by
              intro bs
              induction bs with
              | nil => intro _; exact .nil
              | cons b bs ihb =>
                intro nd
                rw [gsL_cons] at nd
                have a1 := List.nodup_append.mp nd
                exact List.pairwise_cons.mpr ⟨fun c hc g hg hg' => a1.2.2 g hg g (mem_gsL.mpr ⟨c, hc, hg'⟩) rfl, ihb a1.2.1⟩
            exact ihb' bs a1.2.1
        refine List.Pairwise.imp_of_mem (fun {a b} ha hb h e => ?_) this
        rw [least_mn (wb a ha), least_mn (wb b hb)] at e
        exact h _ (mn_spec (wb a ha).ne).1 (e ▸ (mn_spec (wb b hb).ne).1)
      refine List.Pairwise.imp_of_mem (fun {a b} ha hb h => ?_) (srtd.and dist)
      obtain ⟨c, hc, rfl⟩ := mem a ha
      obtain ⟨d, hd, rfl⟩ := mem b hb
      rw [mnl c hc, mnl d hd]
      have h1 := h.1
      have h2 := h.2
      omega
    | true =>
      refine .row sub ?_
      have h3 := w.three
      obtain ⟨x, y, z, q, rfl⟩ : ∃ x y z q, bs = x :: y :: z :: q := by
        match bs, h3 with
        | x :: y :: z :: q, _ => exact ⟨x, y, z, q, rfl⟩
      · have hx : least x ∈ (x :: y :: z :: q).map least := by simp
        generalize hl : (x :: y :: z :: q).getLast (by simp) = e
        have he : e ∈ y :: z :: q := by
          rw [← hl, List.getLast_cons (by simp)]
          exact List.getLast_mem _
        have hxe : (least x).1 ≠ (least e).1 := by
          rw [least_mn (wb x (by simp)), least_mn (wb e (List.mem_cons_of_mem _ he))]
          intro ee
          rw [gsL_cons] at nd
          have a1 := List.nodup_append.mp nd
          have m1 := (mn_spec (wb x (by simp)).ne).1
          have m2 := (mn_spec (wb e (List.mem_cons_of_mem _ he)).ne).1
          exact a1.2.2 _ m1 _ (mem_gsL.mpr ⟨e, he, ee ▸ m2⟩) rfl
        have g1 : ((x :: y :: z :: q).map least).head? = some (least x) := rfl
        have g2 : ((x :: y :: z :: q).map least).getLast? = some (least e) := by
          rw [List.getLast?_map, List.getLast?_eq_some_getLast (by simp), hl]; rfl
        have mx := mnl x (by simp)
        have me := mnl e (List.mem_cons_of_mem _ he)
        intro a c ha hc
        unfold leastB at ha hc
        rw [if_pos rfl, g1, g2] at ha hc
        simp only [Option.map_some, Option.getD_some] at ha hc
        by_cases hlt : (least e).1 < (least x).1
        · rw [if_pos hlt] at ha hc
          rw [List.head?_map, List.head?_reverse, g2] at ha
          rw [List.getLast?_map, List.getLast?_reverse, g1] at hc
          cases ha; cases hc
          rw [me, mx]; exact hlt
        · rw [if_neg hlt] at ha hc
          rw [List.head?_map, g1] at ha
          rw [List.getLast?_map, g2] at hc
          cases ha; cases hc
          rw [me, mx]; omega
/-- trees with the same rows have one least form -/
theorem least_eq {t u : PT} (wt : Wf t) (wu : Wf u) (nt : (gs t).Nodup) (h : ∀ l, Fr t l ↔ Fr u l) : (least t).2 = (least u).2 := by
  have nu : (gs u).Nodup := (gs_perm_of h).nodup_iff.mp nt
  refine uniq _ _ (least_wf wt) (least_wf wu) ((least_gs t).nodup_iff.mpr nt) ((least_gs u).nodup_iff.mpr nu) (least_lf wt nt) (least_lf wu nu) fun l => ?_
  rw [least_fr, least_fr, h]
theorem least_self {t : PT} (w : Wf t) (nd : (gs t).Nodup) (lf : LF t) : (least t).2 = t :=
  uniq _ _ (least_wf w) w ((least_gs t).nodup_iff.mpr nd) nd (least_lf w nd) lf (least_fr t)

/-! ### parties that make a tree -/
def pairs : List PT → List (List Int)
  | a :: b :: r => srt (gs a ++ gs b) :: pairs (b :: r)
  | _ => []
mutual
def made : PT → List (List Int)
  | .leaf _ => []
  | .node r bs => srt (gsL bs) :: ((if r then pairs bs else []) ++ madeL bs)
def madeL : List PT → List (List Int)
  | [] => []
  | b :: bs => made b ++ madeL bs
end
@[simp] theorem made_leaf (g : Int) : made (.leaf g) = [] := by simp [made]
@[simp] theorem made_node (r : Bool) (bs : List PT) : made (.node r bs) = srt (gsL bs) :: ((if r then pairs bs else []) ++ madeL bs) := by rw [made]
@[simp] theorem madeL_nil : madeL [] = [] := by simp [madeL]
@[simp] theorem madeL_cons (b : PT) (bs : List PT) : madeL (b :: bs) = made b ++ madeL bs := by rw [madeL]
theorem mem_madeL {p : List Int} {bs : List PT} : p ∈ madeL bs ↔ ∃ b ∈ bs, p ∈ made b := by
  induction bs with
  | nil => simp
  | cons a as ih => simp [ih]
theorem mem_pairs {p : List Int} : ∀ {bs : List PT}, p ∈ pairs bs ↔ ∃ (A : List PT) (u v : PT) (B : List PT), bs = A ++ (u :: v :: B) ∧ p = srt (gs u ++ gs v)
  | [] => by
    constructor
    · intro h; cases h
    · rintro ⟨A, u, v, B, e, _⟩; simp at e
  | [a] => by
    constructor
    · intro h; cases h
    · rintro ⟨A, u, v, B, e, _⟩
      have := congrArg List.length e
      simp at this
      omega
  | a :: b :: r => by
    show p ∈ srt (gs a ++ gs b) :: pairs (b :: r) ↔ _
    rw [List.mem_cons, mem_pairs (bs := b :: r)]
    constructor
    · rintro (rfl | ⟨A, u, v, B, e, h⟩)
      · exact ⟨[], a, b, r, rfl, rfl⟩
      · exact ⟨a :: A, u, v, B, by rw [e]; rfl, h⟩
    · rintro ⟨A, u, v, B, e, h⟩
      cases A with
      | nil =>
        rw [List.nil_append] at e
        injection e with e1 e2
        injection e2 with e2 e3
        exact .inl (by rw [h, e1, e2])
      | cons x A =>
        rw [List.cons_append] at e
        injection e with e1 e2
        exact .inr ⟨A, u, v, B, e2, h⟩
theorem made_sub {t : PT} : ∀ {p : List Int}, p ∈ made t → ∀ g ∈ p, g ∈ gs t := by
  induction t using PT.ind with
  | hl g => intro p h; simp at h
  | hn r bs ih =>
    intro p h g hg
    rw [made_node] at h
    rw [gs_node]
    rcases List.mem_cons.mp h with rfl | h
    · exact mem_srt.mp hg
    · rcases List.mem_append.mp h with h | h
      · cases r with
        | false => simp at h
        | true =>
          obtain ⟨A, u, v, B, rfl, rfl⟩ := mem_pairs.mp h
          rcases List.mem_append.mp (mem_srt.mp hg) with h | h
          · exact mem_gsL.mpr ⟨u, by simp, h⟩
          · exact mem_gsL.mpr ⟨v, by simp, h⟩
      · obtain ⟨b, hb, h⟩ := mem_madeL.mp h
        exact mem_gsL.mpr ⟨b, hb, ih b hb h g hg⟩
/-- each of these sits together in every row of the tree -/
theorem made_cv {t : PT} (nd : (gs t).Nodup) : ∀ {p l : List Int}, p ∈ made t → Fr t l → Cv (In p) l := by
  induction t using PT.ind with
  | hl g => intro p l h; simp at h
  | hn r bs ih =>
    intro p l h hl
    rw [gs_node] at nd
    rw [made_node] at h
    rcases List.mem_cons.mp h with rfl | h
    · refine (RA.os fun g hg => ?_).cv
      show g ∈ srt (gsL bs)
      rw [mem_srt]
      simpa using (fr_perm hl).mem_iff.mp hg
    · rcases List.mem_append.mp h with h | h
      · cases r with
        | false => simp at h
        | true =>
          obtain ⟨A, u, v, B, rfl, rfl⟩ := mem_pairs.mp h
          refine (cv_congr fun g _ => ?_).mp (kp_pair nd l hl)
          show _ ↔ g ∈ srt (gs u ++ gs v)
          rw [mem_srt, List.mem_append]
      · obtain ⟨b, hb, h⟩ := mem_madeL.mp h
        obtain ⟨U, V, u, c, v, q, rfl, k1, k2, k3⟩ := blk hl hb
        obtain ⟨z1, z2⟩ := blk_free nd q k1 k3
        exact (cv_mid (fun g hg hp => z1 g hg (made_sub h g hp)) fun g hg hp => z2 g hg (made_sub h g hp)).mpr (ih b hb (nd_of nd hb) h k2)
end PT
end ST
namespace ST
namespace PT
/-! ### from parties back to rows -/
theorem cv_single {g : Int} {l : List Int} (nd : l.Nodup) : Cv (fun x => x = g) l := by
  by_cases h : g ∈ l
  · obtain ⟨a, b, rfl⟩ := List.append_of_mem h
    have a1 := List.nodup_append.mp nd
    have a2 := List.nodup_cons.mp a1.2.1
    exact ⟨a, [g], b, rfl, fun x hx (e : x = g) => a1.2.2 x hx g (by simp) e, fun x hx => by simpa using hx, fun x hx (e : x = g) => a2.1 (e ▸ hx)⟩
  · exact (RA.zs fun x hx (e : x = g) => h (e ▸ hx)).cv
/-- where b's guests sit together: what stands ahead, they, what stands behind -/
theorem cut {b : List Int} {l : List Int} (h : Cv (fun g => g ∈ b) l) : ∃ x y z, l = x ++ (y ++ z) ∧ y = l.filter (fun g => decide (g ∈ b)) ∧ (∀ g ∈ x, g ∉ b) ∧ (∀ g ∈ y, g ∈ b) ∧ (∀ g ∈ z, g ∉ b) ∧ l.filter (fun g => !decide (g ∈ b)) = x ++ z := by
  obtain ⟨x, y, z, rfl, h1, h2, h3⟩ := h
  refine ⟨x, y, z, rfl, ?_, h1, h2, h3, ?_⟩
  · have e1 : x.filter (fun g => decide (g ∈ b)) = [] := List.filter_eq_nil_iff.mpr fun g hg => by simpa using h1 g hg
    have e2 : y.filter (fun g => decide (g ∈ b)) = y := List.filter_eq_self.mpr fun g hg => by simpa using h2 g hg
    have e3 : z.filter (fun g => decide (g ∈ b)) = [] := List.filter_eq_nil_iff.mpr fun g hg => by simpa using h3 g hg
    rw [List.filter_append, List.filter_append, e1, e2, e3, List.nil_append, List.append_nil]
  · have e2 : y.filter (fun g => !decide (g ∈ b)) = [] := List.filter_eq_nil_iff.mpr fun g hg => by simpa using h2 g hg
    have e1 : x.filter (fun g => !decide (g ∈ b)) = x := List.filter_eq_self.mpr fun g hg => by simpa using h1 g hg
    have e3 : z.filter (fun g => !decide (g ∈ b)) = z := List.filter_eq_self.mpr fun g hg => by simpa using h3 g hg
    rw [List.filter_append, List.filter_append, e1, e2, e3, List.nil_append]
theorem filter_split {b : List Int} (l : List Int) : (l.filter (fun g => decide (g ∈ b)) ++ l.filter (fun g => !decide (g ∈ b))).Perm l := List.filter_append_perm _ l
/-- taking out the guests of a branch -/
structure Prem (bs : List PT) (l : List Int) : Prop where
  q : l.Perm (gsL bs)
  nd : (gsL bs).Nodup
  ne : ∀ b ∈ bs, gs b ≠ []
  fr : ∀ b ∈ bs, Fr b (l.filter fun g => decide (g ∈ gs b))
  cv : ∀ b ∈ bs, Cv (fun g => g ∈ gs b) l
theorem Prem.perm {bs cs : List PT} {l : List Int} (h : Prem bs l) (q : cs.Perm bs) : Prem cs l :=
  ⟨h.q.trans (gsL_perm q).symm, (gsL_perm q).nodup_iff.mpr h.nd, fun b hb => h.ne b (q.mem_iff.mp hb), fun b hb => h.fr b (q.mem_iff.mp hb), fun b hb => h.cv b (q.mem_iff.mp hb)⟩
theorem Prem.off {b : PT} {bs : List PT} {l : List Int} (h : Prem (b :: bs) l) : Prem bs (l.filter fun g => !decide (g ∈ gs b)) := by
  have nd := h.nd
  rw [gsL_cons] at nd
  have a1 := List.nodup_append.mp nd
  have hb := fr_perm (h.fr b (by simp))
  refine ⟨?_, a1.2.1, fun c hc => h.ne c (by simp [hc]), fun c hc => ?_, fun c hc => (h.cv c (by simp [hc])).filter _⟩
  · have q := (filter_split (b := gs b) l).trans h.q
    rw [gsL_cons] at q
    have q2 : (gs b ++ l.filter (fun g => !decide (g ∈ gs b))).Perm (gs b ++ gsL bs) := (hb.symm.append_right _).trans q
    exact (List.perm_append_left_iff _).mp q2
  · have e : (l.filter fun g => !decide (g ∈ gs b)).filter (fun g => decide (g ∈ gs c)) = l.filter fun g => decide (g ∈ gs c) := by
      rw [List.filter_filter]
      refine List.filter_congr fun g _ => ?_
      by_cases hg : g ∈ gs c
      · have : g ∉ gs b := fun z => a1.2.2 g z g (mem_gsL.mpr ⟨c, hc, hg⟩) rfl
        simp [hg, this]
      · simp [hg]
    rw [e]
    exact h.fr c (by simp [hc])
theorem in_order : ∀ (n : Nat) (bs : List PT) (l : List Int), bs.length = n → Prem bs l → ∃ cs : List PT, cs.Perm bs ∧ FrL cs l
  | 0, bs, l, hn, h => by
    have e := List.eq_nil_of_length_eq_zero hn
    subst e
    have q := h.q
    rw [gsL_nil] at q
    exact ⟨[], .refl _, by rw [List.perm_nil.mp q]; exact .nil⟩
  | n + 1, bs, l, hn, h => by
    cases hl : l with
    | nil =>
      exfalso
      match bs, hn, h with
      | b :: bs, _, h =>
        have q := h.q
        rw [hl] at q
        have e := List.nil_perm.mp q
        rw [gsL_cons, List.append_eq_nil_iff] at e
        exact h.ne b (by simp) e.1
    | cons g l' =>
      rw [← hl]
      obtain ⟨b, hb, hg⟩ := mem_gsL.mp (h.q.mem_iff.mp (by rw [hl]; simp : g ∈ l))
      obtain ⟨A, B, rfl⟩ := List.append_of_mem hb
      have q : (b :: (A ++ B)).Perm (A ++ b :: B) := List.perm_middle.symm
      have h' := h.perm q
      have ho := h'.off
      obtain ⟨cs, qc, k⟩ := in_order n (A ++ B) _ (by simp at hn ⊢; omega) ho
      obtain ⟨x, y, z, e, ey, h1, h2, h3, e2⟩ := cut (h'.cv b (by simp))
      have ex : x = [] := by
        cases x with
        | nil => rfl
        | cons g' x =>
          rw [hl, List.cons_append] at e
          have : g = g' := (List.cons.inj e).1
          subst this
          exact absurd hg (h1 g (by simp))
      subst ex
      rw [e2, List.nil_append] at k
      refine ⟨b :: cs, (qc.cons b).trans q, ?_⟩
      rw [e, List.nil_append]
      have hy := h'.fr b (by simp)
      rw [← ey] at hy
      exact .cons hy k
/-- neighbours sit together, too -/
def Nb (bs : List PT) (l : List Int) : Prop := ∀ (A : List PT) (u v : PT) (B : List PT), bs = A ++ (u :: v :: B) → Cv (fun g => g ∈ gs u ∨ g ∈ gs v) l
theorem Prem.rev {bs : List PT} {l : List Int} (h : Prem bs l) : Prem bs l.reverse :=
  ⟨l.reverse_perm.trans h.q, h.nd, h.ne, fun b hb => by rw [List.filter_reverse]; exact fr_rev (h.fr b hb), fun b hb => (h.cv b hb).rev⟩
theorem row_step {b c : PT} {r : List PT} {l : List Int} (h : Prem (b :: c :: r) l) (nb : Nb (b :: c :: r) l) (k : FrL (c :: r) (l.filter fun g => !decide (g ∈ gs b))) : FrL (b :: c :: r) l ∨ FrL (b :: c :: r).reverse l := by
  have nd := h.nd
  rw [gsL_cons, gsL_cons] at nd
  have a1 := List.nodup_append.mp nd
  have a2 := List.nodup_append.mp a1.2.1
  obtain ⟨x, y, z, e, ey, h1, h2, h3, e2⟩ := cut (h.cv b (by simp))
  have hy := h.fr b (by simp)
  rw [← ey] at hy
  obtain ⟨k0, hk0⟩ : ∃ k0, k0 ∈ y := by
    refine List.exists_mem_of_ne_nil _ fun z => h.ne b (by simp) ?_
    have := fr_perm hy
    rw [z] at this
    exact List.nil_perm.mp this
  have kb : k0 ∈ gs b := h2 k0 hk0
  rw [e2] at k
  cases x with
  | nil =>
    rw [e, List.nil_append]
    exact .inl (.cons hy k)
  | cons g x =>
    obtain ⟨lc, lr, e3, k1, k2⟩ := frl_cons.mp k
    cases lc with
    | nil =>
      exfalso
      refine h.ne c (by simp) ?_
      exact List.nil_perm.mp (fr_perm k1)
    | cons g' lc =>
      have eg : g = g' := by
        rw [List.cons_append, List.cons_append] at e3
        exact (List.cons.inj e3).1
      subst eg
      have gc : g ∈ gs c := (fr_perm k1).mem_iff.mp (by simp)
      have kc : k0 ∉ gs c := fun hh => a1.2.2 k0 kb k0 (by simp [hh]) rfl
      have e4 : g :: x = g :: lc ∧ z = lr := by
        rcases List.append_eq_append_iff.mp e3 with ⟨w, w1, w2⟩ | ⟨w, w1, w2⟩
        · cases w with
          | nil => simp at w1 w2; exact ⟨by rw [w1], w2⟩
          | cons m w =>
            exfalso
            have mc : m ∈ gs c := (fr_perm k1).mem_iff.mp (by rw [w1]; simp)
            refine kc (cv_between (h.cv c (by simp)) (x := g) (y := m) ?_ gc mc)
            rw [e, w2]
            have : [g, k0, m] = [g] ++ ([k0] ++ [m]) := rfl
            rw [this]
            exact (List.singleton_sublist.mpr (by simp)).append ((List.singleton_sublist.mpr hk0).append (List.singleton_sublist.mpr (by simp)))
        · cases w with
          | nil => simp at w1 w2; exact ⟨by rw [w1], w2.symm⟩
          | cons m w =>
            exfalso
            have mr : m ∈ gsL r := (frl_perm k2).mem_iff.mp (by rw [w2]; simp)
            have nbc := nb [] b c r rfl
            have : m ∈ gs b ∨ m ∈ gs c := by
              refine cv_between nbc (x := g) (y := k0) ?_ (.inr gc) (.inl kb)
              rw [e, w1]
              have e5 : [g, m, k0] = ([g] ++ [m]) ++ [k0] := rfl
              rw [e5]
              refine List.Sublist.append ?_ ((List.singleton_sublist.mpr hk0).trans (List.sublist_append_left _ _))
              refine List.Sublist.append (List.singleton_sublist.mpr (by simp)) (List.singleton_sublist.mpr (by simp))
            rcases this with hm | hm
            · exact a1.2.2 m hm m (by simp [mr]) rfl
            · exact a2.2.2 m hm m mr rfl
      obtain ⟨e5, e6⟩ := e4
      cases r with
      | nil =>
        refine .inr ?_
        rw [frl_nil.mp k2] at e6
        rw [e, e5, e6, List.append_nil]
        exact .cons k1 (frl_one.mpr hy)
      | cons d r =>
        exfalso
        obtain ⟨ld, ls, e7, k3, k4⟩ := frl_cons.mp k2
        obtain ⟨m, hm⟩ : ∃ m, m ∈ ld := by
          refine List.exists_mem_of_ne_nil _ fun z => h.ne d (by simp) ?_
          have := fr_perm k3
          rw [z] at this
          exact List.nil_perm.mp this
        have md : m ∈ gs d := (fr_perm k3).mem_iff.mp hm
        have ncd := nb [b] c d r rfl
        have : k0 ∈ gs c ∨ k0 ∈ gs d := by
          refine cv_between ncd (x := g) (y := m) ?_ (.inl gc) (.inr md)
          rw [e, e6, e7]
          have e8 : [g, k0, m] = [g] ++ ([k0] ++ [m]) := rfl
          rw [e8]
          exact (List.singleton_sublist.mpr (by simp)).append ((List.singleton_sublist.mpr hk0).append (List.singleton_sublist.mpr (by simp [hm])))
        rcases this with hh | hh
        · exact kc hh
        · exact a1.2.2 k0 kb k0 (by simp [hh]) rfl
theorem in_row : ∀ (bs : List PT) (l : List Int), Prem bs l → Nb bs l → FrL bs l ∨ FrL bs.reverse l
  | [], l, h, _ => by
    have q := h.q
    rw [gsL_nil] at q
    rw [List.perm_nil.mp q]
    exact .inl .nil
  | [b], l, h, _ => by
    have k := h.fr b (by simp)
    have q := h.q
    simp only [gsL_cons, gsL_nil, List.append_nil] at q
    have e : l.filter (fun g => decide (g ∈ gs b)) = l := List.filter_eq_self.mpr fun g hg => by simpa using q.mem_iff.mp hg
    rw [e] at k
    exact .inl (frl_one.mpr k)
  | b :: c :: r, l, h, nb => by
    have ho := h.off
    have no : Nb (c :: r) (l.filter fun g => !decide (g ∈ gs b)) := fun A u v B e => (nb (b :: A) u v B (by rw [e]; rfl)).filter _
    rcases in_row (c :: r) _ ho no with k | k
    · exact row_step h nb k
    · have nr : Nb (b :: c :: r) l.reverse := fun A u v B e => (nb A u v B e).rev
      have k' : FrL (c :: r) (l.reverse.filter fun g => !decide (g ∈ gs b)) := by
        rw [List.filter_reverse]
        exact frl_rev_iff.mp k
      rcases row_step h.rev nr k' with k | k
      · exact .inr (frl_rev_iff.mpr k)
      · exact .inl (by simpa using frl_rev_iff.mp k)
theorem fr_made {t : PT} (w : Wf t) (nd : (gs t).Nodup) : ∀ {l : List Int}, l.Perm (gs t) → (∀ p ∈ made t, Cv (In p) l) → Fr t l := by
  induction t using PT.ind with
  | hl g =>
    intro l q _
    rw [gs_leaf] at q
    rw [List.perm_singleton.mp q]
    exact .leaf g
  | hn r bs ih =>
    intro l q h
    rw [gs_node] at nd q
    have ndl := q.nodup_iff.mpr nd
    have inb : ∀ b ∈ bs, ∀ p ∈ made b, p ∈ made (.node r bs) := by
      intro b hb p hp
      rw [made_node]
      exact List.mem_cons_of_mem _ (List.mem_append_right _ (mem_madeL.mpr ⟨b, hb, hp⟩))
    have pr : Prem bs l := by
      refine ⟨q, nd, fun b hb => (w.br b hb).ne, fun b hb => ?_, fun b hb => ?_⟩
      · refine ih b hb (w.br b hb) (nd_of nd hb) ?_ fun p hp => (h p (inb b hb p hp)).filter _
        obtain ⟨A, B, rfl⟩ := List.append_of_mem hb
        have q2 := q.filter fun g => decide (g ∈ gs b)
        obtain ⟨l0, hl0⟩ := frl_some (A ++ b :: B)
        have e := fr_perm (restrict (r := false) nd hb (.any (.refl _) hl0))
        refine q2.trans (List.Perm.trans ?_ e)
        exact ((frl_perm hl0).symm.filter _)
      · cases b with
        | leaf g => exact (cv_congr fun x _ => by simp).mp (cv_single (g := g) ndl)
        | node r' cs =>
          refine (cv_congr fun x _ => ?_).mp (h (srt (gsL cs)) (inb _ hb _ (by rw [made_node]; simp)))
          show x ∈ srt (gsL cs) ↔ _
          rw [mem_srt, gs_node]
    cases r with
    | false =>
      obtain ⟨cs, qc, k⟩ := in_order _ bs l rfl pr
      exact .any qc k
    | true =>
      refine fr_row.mpr (in_row bs l pr fun A u v B e => ?_)
      refine (cv_congr fun x _ => ?_).mp (h (srt (gs u ++ gs v)) ?_)
      · show x ∈ srt (gs u ++ gs v) ↔ _
        rw [mem_srt, List.mem_append]
      · rw [made_node, if_pos rfl]
        exact List.mem_cons_of_mem _ (List.mem_append_left _ (mem_pairs.mpr ⟨A, u, v, B, e, rfl⟩))
end PT
end ST
namespace ST
def Rg (n : Nat) : List Int := (List.range n).map fun (i : Nat) => (i : Int)
theorem rg_nd (n : Nat) : (Rg n).Nodup := by
  unfold Rg
  rw [List.nodup_iff_pairwise_ne, List.pairwise_map]
  exact (List.nodup_range (n := n)).imp fun h e => h (by omega)
theorem mem_rg {n : Nat} {g : Int} : g ∈ Rg n ↔ 0 ≤ g ∧ g < n := by
  unfold Rg
  simp only [List.mem_map, List.mem_range]
  constructor
  · rintro ⟨i, h, rfl⟩; omega
  · intro h; exact ⟨g.toNat, by omega, by omega⟩
theorem rg_len (n : Nat) : (Rg n).length = n := by simp [Rg]
theorem rg_succ (n : Nat) : Rg (n + 1) = Rg n ++ [(n : Int)] := by simp [Rg, List.range_succ]
namespace PT
open Classical
/-- a tree of just these guests -/
structure Good (U : List Int) (t : PT) : Prop where
  wf : Wf t
  q : (gs t).Perm U
/-- a party of these guests -/
def POk (U p : List Int) : Prop := p ≠ [] ∧ ∀ g ∈ p, g ∈ U
noncomputable def tight (p : List Int) (t : PT) : Option PT := (tog p t).map fun T => (least T).2
noncomputable def tightAll (t : PT) (ps : List (List Int)) : Option PT := ps.foldl (fun o p => o.bind (tight p)) (some t)
def free (n : Nat) : PT := if n = 1 then .leaf 0 else .node false ((List.range n).map fun (i : Nat) => .leaf (i : Int))
section
variable {U p l : List Int} {t u : PT} {ps : List (List Int)}
theorem Good.nd (h : Good U t) (nd : U.Nodup) : (gs t).Nodup := h.q.nodup_iff.mpr nd
theorem good_sh (h : Good U t) (hp : POk U p) : sh p t ≠ .no := by
  intro e
  have z := (sh_no h.wf.ne).mp e
  obtain ⟨g, hg⟩ := List.exists_mem_of_ne_nil _ hp.1
  exact z g (h.q.mem_iff.mpr (hp.2 g hg)) hg
theorem spec_tight (h : Good U t) (hp : POk U p) : (Fr t l ∧ Cv (In p) l) ↔ ∃ T, tight p t = some T ∧ Fr T l := by
  rw [spec_tog t h.wf (good_sh h hp)]
  unfold tight
  constructor
  · rintro ⟨T, e, k⟩; exact ⟨_, by rw [e]; rfl, (least_fr T l).mpr k⟩
  · rintro ⟨T, e, k⟩
    obtain ⟨S, e', rfl⟩ := Option.map_eq_some_iff.mp e
    exact ⟨S, e', (least_fr S l).mp k⟩
theorem tight_good (h : Good U t) (hp : POk U p) (nd : U.Nodup) {T : PT} (e : tight p t = some T) : Good U T ∧ LF T := by
  obtain ⟨l, hl⟩ := fr_some T
  have k := (spec_tight h hp).mpr ⟨T, e, hl⟩
  have q : (gs T).Perm U := (fr_perm hl).symm.trans ((fr_perm k.1).trans h.q)
  unfold tight at e
  obtain ⟨S, e', rfl⟩ := Option.map_eq_some_iff.mp e
  have ws := wf_tog t h.wf (good_sh h hp) S e'
  have qs : (gs S).Perm U := (least_gs S).symm.trans q
  exact ⟨⟨least_wf ws, q⟩, least_lf ws (qs.nodup_iff.mpr nd)⟩
/-- a party that sits together in all rows leaves the tree -/
theorem tight_held (h : Good U t) (hp : POk U p) (nd : U.Nodup) (k : ∀ l, Fr t l → Cv (In p) l) : tight p t = some (least t).2 := by
  obtain ⟨l, hl⟩ := fr_some t
  obtain ⟨T, e, _⟩ := (spec_tight h hp).mp ⟨hl, k l hl⟩
  obtain ⟨g, lf⟩ := tight_good h hp nd e
  rw [e]
  have e2 : ∀ l, Fr T l ↔ Fr t l := by
    intro l
    constructor
    · intro hl; exact ((spec_tight h hp).mpr ⟨T, e, hl⟩).1
    · intro hl
      obtain ⟨T', e', k'⟩ := (spec_tight h hp).mp ⟨hl, k l hl⟩
      rw [e] at e'; cases e'; exact k'
  rw [← least_eq g.wf h.wf (g.nd nd) e2, least_self g.wf (g.nd nd) lf]
theorem tightAll_nil : tightAll t [] = some t := rfl
theorem foldl_none : ∀ ps : List (List Int), ps.foldl (fun o p => Option.bind o (tight p)) none = none
  | [] => rfl
  | _ :: ps => foldl_none ps
theorem tightAll_cons : tightAll t (p :: ps) = (tight p t).bind fun T => tightAll T ps := by
  show ps.foldl (fun o p => o.bind (tight p)) ((some t).bind (tight p)) = _
  rw [Option.bind_some]
  cases tight p t with
  | none => exact foldl_none ps
  | some T => rfl
theorem tightAll_snoc : tightAll t (ps ++ [p]) = (tightAll t ps).bind (tight p) := by
  unfold tightAll
  rw [List.foldl_append]; rfl
theorem spec_all (nd : U.Nodup) : ∀ (ps : List (List Int)) (t : PT), Good U t → (∀ p ∈ ps, POk U p) → ∀ l, (Fr t l ∧ ∀ p ∈ ps, Cv (In p) l) ↔ ∃ T, tightAll t ps = some T ∧ Fr T l
  | [], t, _, _, l => by
    rw [tightAll_nil]
    exact ⟨fun h => ⟨t, rfl, h.1⟩, fun ⟨T, e, h⟩ => by cases e; exact ⟨h, fun _ h => absurd h (by simp)⟩⟩
  | p :: ps, t, h, hp, l => by
    rw [tightAll_cons]
    have hp1 := hp p (by simp)
    constructor
    · rintro ⟨hl, hc⟩
      obtain ⟨T, e, k⟩ := (spec_tight h hp1).mp ⟨hl, hc p (by simp)⟩
      rw [e, Option.bind_some]
      exact (spec_all nd ps T (tight_good h hp1 nd e).1 (fun q hq => hp q (by simp [hq])) l).mp ⟨k, fun q hq => hc q (by simp [hq])⟩
    · rintro ⟨T, e, k⟩
      obtain ⟨S, e1, e2⟩ := Option.bind_eq_some_iff.mp e
      obtain ⟨k1, k2⟩ := (spec_all nd ps S (tight_good h hp1 nd e1).1 (fun q hq => hp q (by simp [hq])) l).mpr ⟨T, e2, k⟩
      obtain ⟨k3, k4⟩ := (spec_tight h hp1).mpr ⟨S, e1, k1⟩
      refine ⟨k3, fun q hq => ?_⟩
      rcases List.mem_cons.mp hq with rfl | hq
      · exact k4
      · exact k2 q hq
theorem all_good (nd : U.Nodup) : ∀ (ps : List (List Int)) (t : PT), Good U t → (∀ p ∈ ps, POk U p) → ∀ T, tightAll t ps = some T → Good U T ∧ (LF t → LF T) ∧ (ps ≠ [] → LF T)
  | [], t, h, _, T, e => by
    rw [tightAll_nil] at e; cases e
    exact ⟨h, fun h => h, fun h => absurd rfl h⟩
  | p :: ps, t, h, hp, T, e => by
    rw [tightAll_cons] at e
    have hp1 := hp p (by simp)
    obtain ⟨S, e1, e2⟩ := Option.bind_eq_some_iff.mp e
    obtain ⟨g, lf⟩ := tight_good h hp1 nd e1
    obtain ⟨a, b, _⟩ := all_good nd ps S g (fun q hq => hp q (by simp [hq])) T e2
    exact ⟨a, fun _ => b lf, fun _ => b lf⟩
/-- parties that all sit together in all rows, one at least -/
theorem all_held (nd : U.Nodup) (h : Good U t) (hp : ∀ p ∈ ps, POk U p) (hne : ps ≠ []) (k : ∀ l, Fr t l → ∀ p ∈ ps, Cv (In p) l) : tightAll t ps = some (least t).2 := by
  obtain ⟨l, hl⟩ := fr_some t
  obtain ⟨T, e, _⟩ := (spec_all nd ps t h hp l).mp ⟨hl, k l hl⟩
  obtain ⟨g, _, lf⟩ := all_good nd ps t h hp T e
  rw [e]
  have e2 : ∀ l, Fr T l ↔ Fr t l := by
    intro l
    constructor
    · intro hl; exact ((spec_all nd ps t h hp l).mpr ⟨T, e, hl⟩).1
    · intro hl
      obtain ⟨T', e', k'⟩ := (spec_all nd ps t h hp l).mp ⟨hl, k l hl⟩
      rw [e] at e'; cases e'; exact k'
  rw [← least_eq g.wf h.wf (g.nd nd) e2, least_self g.wf (g.nd nd) (lf hne)]

/-! ### the tree of all rows -/
theorem frl_leaves {xs l : List Int} : FrL (xs.map .leaf) l ↔ l = xs := by
  induction xs generalizing l with
  | nil => simp
  | cons x xs ih =>
    rw [List.map_cons, frl_cons]
    constructor
    · rintro ⟨a, b, rfl, h1, h2⟩
      rw [fr_leaf.mp h1, ih.mp h2]; rfl
    · rintro rfl
      exact ⟨[x], xs, rfl, .leaf x, ih.mpr rfl⟩
theorem gsL_leaves (xs : List Int) : gsL (xs.map .leaf) = xs := by
  induction xs with
  | nil => simp
  | cons x xs ih => simp [ih]
theorem fr_leaves {xs l : List Int} : Fr (.node false (xs.map .leaf)) l ↔ l.Perm xs := by
  constructor
  · intro h
    have := fr_perm h
    rwa [gs_node, gsL_leaves] at this
  · intro q
    exact .any (q.map _) (frl_leaves.mpr rfl)
theorem free_leaves {n : Nat} (h : n ≠ 1) : free n = .node false ((Rg n).map .leaf) := by
  unfold free Rg
  rw [if_neg h, List.map_map]; rfl
theorem fr_free {n : Nat} {l : List Int} : Fr (free n) l ↔ l.Perm (Rg n) := by
  by_cases h : n = 1
  · subst h
    show Fr (.leaf 0) l ↔ l.Perm [0]
    rw [fr_leaf, List.perm_singleton]
  · rw [free_leaves h, fr_leaves]
theorem free_good {n : Nat} (h : 1 ≤ n) : Good (Rg n) (free n) := by
  refine ⟨?_, ?_⟩
  · by_cases e : n = 1
    · subst e; exact .leaf 0
    · rw [free_leaves e]
      refine .node (fun b hb => ?_) ?_
      · obtain ⟨x, _, rfl⟩ := List.mem_map.mp hb; exact .leaf x
      · simp [rg_len]; omega
  · obtain ⟨l, hl⟩ := fr_some (free n)
    exact (fr_perm hl).symm.trans (fr_free.mp hl)
theorem free_lf {n : Nat} : LF (free n) := by
  by_cases e : n = 1
  · subst e; exact .leaf 0
  · rw [free_leaves e]
    refine .any (fun b hb => ?_) ?_
    · obtain ⟨x, _, rfl⟩ := List.mem_map.mp hb; exact .leaf x
    · rw [List.pairwise_map]
      have m : ∀ x : Int, mn (.leaf x) = x := fun x => mn_uniq (by simp) (by simp)
      simp only [m]
      unfold Rg
      rw [List.pairwise_map]
      exact (List.pairwise_lt_range (n := n)).imp fun h => by omega
noncomputable def treeOf (n : Nat) (ps : List (List Int)) : Option PT := tightAll (free n) ps
theorem treeOf_row {n : Nat} (h : 1 ≤ n) (hp : ∀ p ∈ ps, POk (Rg n) p) (q : l.Perm (Rg n)) (k : ∀ p ∈ ps, Cv (In p) l) : ∃ T, treeOf n ps = some T ∧ Fr T l ∧ Good (Rg n) T ∧ LF T := by
  obtain ⟨T, e, f⟩ := (spec_all (rg_nd n) ps (free n) (free_good h) hp l).mp ⟨fr_free.mpr q, k⟩
  obtain ⟨g, lf, _⟩ := all_good (rg_nd n) ps (free n) (free_good h) hp T e
  exact ⟨T, e, f, g, lf free_lf⟩
theorem treeOf_rows {n : Nat} (h : 1 ≤ n) (hp : ∀ p ∈ ps, POk (Rg n) p) {T : PT} (e : treeOf n ps = some T) : Fr T l ↔ l.Perm (Rg n) ∧ ∀ p ∈ ps, Cv (In p) l := by
  rw [← fr_free]
  constructor
  · intro k; exact (spec_all (rg_nd n) ps (free n) (free_good h) hp l).mpr ⟨T, e, k⟩
  · intro k
    obtain ⟨T', e', k'⟩ := (spec_all (rg_nd n) ps (free n) (free_good h) hp l).mp k
    have : some T = some T' := e.symm.trans e'
    cases this; exact k'
/-- no order of the parties changes it -/
theorem treeOf_order {n : Nat} (h : 1 ≤ n) (hp : ∀ p ∈ ps, POk (Rg n) p) {qs : List (List Int)} (q : qs.Perm ps) (r : l.Perm (Rg n)) (k : ∀ p ∈ ps, Cv (In p) l) : treeOf n qs = treeOf n ps := by
  have hq : ∀ p ∈ qs, POk (Rg n) p := fun p m => hp p (q.mem_iff.mp m)
  obtain ⟨T, e, _, g, lf⟩ := treeOf_row h hp r k
  obtain ⟨S, e', _, g', lf'⟩ := treeOf_row h hq r fun p m => k p (q.mem_iff.mp m)
  rw [e, e']
  congr 1
  refine uniq _ _ g'.wf g.wf (g'.nd (rg_nd n)) (g.nd (rg_nd n)) lf' lf fun l => ?_
  rw [treeOf_rows h hq e', treeOf_rows h hp e]
  exact ⟨fun ⟨a, b⟩ => ⟨a, fun p m => b p (q.mem_iff.mpr m)⟩, fun ⟨a, b⟩ => ⟨a, fun p m => b p (q.mem_iff.mp m)⟩⟩
/-- each party of it is held -/
theorem treeOf_held {n : Nat} (h : 1 ≤ n) (hp : ∀ p ∈ ps, POk (Rg n) p) {T : PT} (e : treeOf n ps = some T) (g : Good (Rg n) T) (m : p ∈ ps) : tight p T = some (least T).2 :=
  tight_held g (hp p m) (rg_nd n) fun _ hl => ((treeOf_rows h hp e).mp hl).2 p m
theorem made_ok {t : PT} (w : Wf t) : ∀ p ∈ made t, POk (gs t) p := by
  intro p hp
  refine ⟨?_, made_sub hp⟩
  induction t using PT.ind with
  | hl g => simp at hp
  | hn r bs ih =>
    rw [made_node] at hp
    have ns : ∀ l : List Int, l ≠ [] → srt l ≠ [] := fun l h e => h (by have := srt_perm l; rw [e] at this; exact List.nil_perm.mp this)
    rcases List.mem_cons.mp hp with rfl | hp
    · exact ns _ (by have := w.ne; rwa [gs_node] at this)
    · rcases List.mem_append.mp hp with hp | hp
      · cases r with
        | false => simp at hp
        | true =>
          obtain ⟨A, a, v, B, rfl, rfl⟩ := mem_pairs.mp hp
          refine ns _ fun e => ?_
          exact (w.br a (by simp)).ne (List.append_eq_nil_iff.mp e).1
      · obtain ⟨b, hb, hp⟩ := mem_madeL.mp hp
        exact ih b hb (w.br b hb) hp
theorem POk.perm {U V p : List Int} (h : POk U p) (q : U.Perm V) : POk V p := ⟨h.1, fun g hg => q.mem_iff.mp (h.2 g hg)⟩
/-- the parties told of a tree make its least form -/
theorem treeOf_made {n : Nat} (h : 1 ≤ n) (g : Good (Rg n) t) : treeOf n (made t) = some (least t).2 := by
  have hp : ∀ p ∈ made t, POk (Rg n) p := fun p m => (made_ok g.wf p m).perm g.q
  have nd := g.nd (rg_nd n)
  obtain ⟨l, hl⟩ := fr_some t
  obtain ⟨T, e, _, gT, lf⟩ := treeOf_row h hp ((fr_perm hl).trans g.q) fun p m => made_cv nd m hl
  rw [e]
  have e2 : ∀ l, Fr T l ↔ Fr t l := by
    intro l
    rw [treeOf_rows h hp e]
    constructor
    · rintro ⟨q, k⟩; exact fr_made g.wf nd (q.trans g.q.symm) k
    · intro hl; exact ⟨(fr_perm hl).trans g.q, fun p m => made_cv nd m hl⟩
  rw [← least_eq gT.wf g.wf (gT.nd (rg_nd n)) e2, least_self gT.wf (gT.nd (rg_nd n)) lf]
/-- both of a tree and one that has its rows -/
theorem both_sub {n : Nat} (h : 1 ≤ n) (g : Good (Rg n) t) (gu : Good (Rg n) u) (s : ∀ l, Fr t l → Fr u l) : tightAll t (made u ++ [Rg n]) = some (least t).2 := by
  have hR : POk (Rg n) (Rg n) := ⟨fun e => by have := rg_len n; rw [e] at this; simp at this; omega, fun _ h => h⟩
  refine all_held (rg_nd n) g (fun p m => ?_) (by simp) fun l hl p m => ?_
  · rcases List.mem_append.mp m with m | m
    · exact (made_ok gu.wf p m).perm gu.q
    · simp at m; subst m; exact hR
  · rcases List.mem_append.mp m with m | m
    · exact made_cv (gu.nd (rg_nd n)) m (s l hl)
    · simp at m; subst m
      exact (RA.os fun x hx => ((fr_perm hl).trans g.q).mem_iff.mp hx).cv
theorem both_self {n : Nat} (h : 1 ≤ n) (g : Good (Rg n) t) : tightAll t (made t ++ [Rg n]) = some (least t).2 := both_sub h g g fun _ h => h
theorem both_free {n : Nat} (h : 1 ≤ n) (g : Good (Rg n) t) : tightAll t (made (free n) ++ [Rg n]) = some (least t).2 :=
  both_sub h g (free_good h) fun _ hl => fr_free.mpr ((fr_perm hl).trans g.q)

/-! ### how many rows -/
def fact : Nat → Nat
  | 0 => 1
  | n + 1 => (n + 1) * fact n
theorem fact_pos : ∀ n, 1 ≤ fact n
  | 0 => Nat.le_refl _
  | n + 1 => Nat.mul_pos (Nat.succ_pos n) (fact_pos n)
theorem fact_mono {m n : Nat} (h : m ≤ n) : fact m ≤ fact n := by
  induction h with
  | refl => exact Nat.le_refl _
  | step _ ih => exact Nat.le_trans ih (Nat.le_mul_of_pos_left _ (Nat.succ_pos _))
mutual
def many : PT → Nat
  | .leaf _ => 1
  | .node r bs => (if r then 2 else fact bs.length) * manyL bs
def manyL : List PT → Nat
  | [] => 1
  | b :: bs => many b * manyL bs
end
@[simp] theorem many_leaf (g : Int) : many (.leaf g) = 1 := by simp [many]
theorem many_node (r : Bool) (bs : List PT) : many (.node r bs) = (if r then 2 else fact bs.length) * manyL bs := by rw [many]
@[simp] theorem manyL_nil : manyL [] = 1 := by simp [manyL]
@[simp] theorem manyL_cons (b : PT) (bs : List PT) : manyL (b :: bs) = many b * manyL bs := by rw [manyL]
theorem manyL_append (as bs : List PT) : manyL (as ++ bs) = manyL as * manyL bs := by
  induction as with
  | nil => simp
  | cons a as ih => simp [ih, Nat.mul_assoc]
theorem manyL_perm {as bs : List PT} (q : as.Perm bs) : manyL as = manyL bs := by
  induction q with
  | nil => rfl
  | cons x _ ih => simp [ih]
  | swap x y l => simp [Nat.mul_left_comm]
  | trans _ _ h1 h2 => exact h1.trans h2
theorem many_pos (t : PT) : 1 ≤ many t := by
  induction t using PT.ind with
  | hl g => simp
  | hn r bs ih =>
    rw [many_node]
    have : 1 ≤ manyL bs := by
      clear r
      induction bs with
      | nil => simp
      | cons b bs ihb =>
        rw [manyL_cons]
        exact Nat.mul_pos (ih b (by simp)) (ihb fun c hc => ih c (by simp [hc]))
    refine Nat.mul_pos ?_ this
    split
    · decide
    · exact fact_pos _
theorem manyL_pos (bs : List PT) : 1 ≤ manyL bs := by
  induction bs with
  | nil => simp
  | cons b bs ih => rw [manyL_cons]; exact Nat.mul_pos (many_pos b) ih
theorem fact_add (s : Nat) : ∀ n, 1 ≤ n → fact s * ((s + 1) * fact n) ≤ fact (s + n)
  | 0, h => absurd h (by decide)
  | 1, _ => by
    show fact s * ((s + 1) * (1 * fact 0)) ≤ (s + 1) * fact s
    simp [fact, Nat.mul_comm]
  | n + 2, _ => by
    have ih := fact_add s (n + 1) (by omega)
    have e1 : fact (n + 2) = (n + 2) * fact (n + 1) := rfl
    have e2 : fact (s + (n + 2)) = (s + (n + 1) + 1) * fact (s + (n + 1)) := rfl
    rw [e1, e2]
    calc fact s * ((s + 1) * ((n + 2) * fact (n + 1))) = (n + 2) * (fact s * ((s + 1) * fact (n + 1))) := by
          simp only [Nat.mul_left_comm, Nat.mul_comm]
      _ ≤ (n + 2) * fact (s + (n + 1)) := Nat.mul_le_mul_left _ ih
      _ ≤ (s + (n + 1) + 1) * fact (s + (n + 1)) := Nat.mul_le_mul_right _ (by omega)
theorem many_bound {t : PT} (w : Wf t) : many t ≤ fact (gs t).length := by
  induction t using PT.ind with
  | hl g => simp [fact]
  | hn r bs ih =>
    have key : ∀ cs : List PT, (∀ b ∈ cs, Wf b) → (∀ b ∈ cs, many b ≤ fact (gs b).length) → fact cs.length * manyL cs ≤ fact (gsL cs).length ∧ cs.length ≤ (gsL cs).length := by
      intro cs
      induction cs with
      | nil => intro _ _; simp [fact]
      | cons b cs ihc =>
        intro wc h
        obtain ⟨k, k'⟩ := ihc (fun c hc => wc c (by simp [hc])) fun c hc => h c (by simp [hc])
        have h1 : 1 ≤ (gs b).length := List.length_pos_iff.mpr (wc b (by simp)).ne
        rw [gsL_cons, List.length_append, List.length_cons, manyL_cons]
        refine ⟨?_, by omega⟩
        have e : fact (cs.length + 1) = (cs.length + 1) * fact cs.length := rfl
        rw [e]
        calc (cs.length + 1) * fact cs.length * (many b * manyL cs) = (fact cs.length * manyL cs) * ((cs.length + 1) * many b) := by
              simp only [Nat.mul_assoc, Nat.mul_left_comm, Nat.mul_comm]
          _ ≤ fact (gsL cs).length * (((gsL cs).length + 1) * fact (gs b).length) := Nat.mul_le_mul k (Nat.mul_le_mul (by omega) (h b (by simp)))
          _ ≤ fact ((gsL cs).length + (gs b).length) := fact_add _ _ h1
          _ = fact ((gs b).length + (gsL cs).length) := by rw [Nat.add_comm]
    have k := (key bs w.br fun b hb => ih b hb (w.br b hb)).1
    rw [many_node, gs_node]
    refine Nat.le_trans (Nat.mul_le_mul_right _ ?_) k
    have h2 := w.two
    split
    · exact fact_mono (m := 2) h2
    · exact Nat.le_refl _
end
end PT
/-! ### places in a row -/
theorem idx_block {x c y : List Int} (nd : (x ++ (c ++ y)).Nodup) : c.map (fun g => ((x ++ (c ++ y)).idxOf g : Int)) = (List.range c.length).map fun i => ((x.length + i : Nat) : Int) := by
  refine List.ext_getElem? fun i => ?_
  rw [List.getElem?_map, List.getElem?_map]
  by_cases h : i < c.length
  · rw [List.getElem?_eq_getElem h, List.getElem?_eq_getElem (by simpa using h)]
    simp only [Option.map_some, List.getElem_range]
    have e : c[i] = (x ++ (c ++ y))[x.length + i]'(by simp; omega) := by
      rw [List.getElem_append_right (by omega)]
      rw [List.getElem_append_left (by omega)]
      simp
    rw [e, List.Nodup.idxOf_getElem nd]
  · rw [List.getElem?_eq_none (by omega), List.getElem?_eq_none (by simpa using h)]
    rfl
theorem places_block {x c y b places : List Int} (nd : (x ++ (c ++ y)).Nodup) (q : c.Perm b) (h : places.Perm (b.map fun g => ((x ++ (c ++ y)).idxOf g : Int))) (s : places.Pairwise (· ≤ ·)) : places = (List.range c.length).map fun i => ((x.length + i : Nat) : Int) := by
  have e := idx_block nd
  have q2 : places.Perm ((List.range c.length).map fun i => ((x.length + i : Nat) : Int)) := by
    rw [← e]
    exact h.trans (q.symm.map _)
  refine List.Perm.eq_of_pairwise (fun a b _ _ h1 h2 => Int.le_antisymm h1 h2) s ?_ q2
  rw [List.pairwise_map]
  exact (List.pairwise_lt_range (n := c.length)).imp fun h => by omega
/-- a party that sits together: its guests are one block -/
theorem cv_block {p l : List Int} (nd : l.Nodup) (np : p.Nodup) (hp : ∀ g ∈ p, g ∈ l) (h : Cv (fun g => g ∈ p) l) : ∃ x c y, l = x ++ (c ++ y) ∧ c.Perm p := by
  obtain ⟨x, c, y, rfl, h1, h2, h3⟩ := h
  refine ⟨x, c, y, rfl, ?_⟩
  have nc : c.Nodup := (List.nodup_append.mp (List.nodup_append.mp nd).2.1).1
  refine (List.perm_ext_iff_of_nodup nc np).mpr fun g => ⟨h2 g, fun hg => ?_⟩
  have := hp g hg
  simp only [List.mem_append] at this
  rcases this with h | h | h
  · exact absurd hg (h1 g h)
  · exact h
  · exact absurd hg (h3 g h)
end ST
namespace ST
open PySem PySem.Spec PyProof.Rows L2
def topS (i : Nat) : Stmt := PySem.Challenge.pw_standtogether_k14_whole_trees_and_partie.main.body.getD i (.Pass ⟨0, 0, 0, 0⟩)

/-! ### data that never change, in the abstract heap -/
mutual
inductive Fz (H : Hp) : V → PyData → Prop
  | non : Fz H .non .none
  | bl (b : Bool) : Fz H (.bl b) (.bool b)
  | int (i : Int) : Fz H (.int i) (.int i)
  | str (x : Str) : Fz H (.str x) (.str x)
  | tup {a : Addr} {xs : List V} {ds : List PyData} : Rd H a (.tup xs) → FzL H xs ds → Fz H (.ref a) (.tuple ds)
inductive FzL (H : Hp) : List V → List PyData → Prop
  | nil : FzL H [] []
  | cons {v : V} {vs : List V} {d : PyData} {ds : List PyData} : Fz H v d → FzL H vs ds → FzL H (v :: vs) (d :: ds)
end
/-- tuples stay -/
def Tu (H H' : Hp) : Prop := ∀ a xs, Rd H a (.tup xs) → Rd H' a (.tup xs)
section
variable {H H' : Hp} {v : V} {d : PyData} {xs ys : List V} {ds es : List PyData}
mutual
theorem Fz.mono (h : Tu H H') : ∀ (d : PyData) (v : V), Fz H v d → Fz H' v d
  | .none, _, k => by cases k; exact .non
  | .bool b, _, k => by cases k; exact .bl b
  | .int i, _, k => by cases k; exact .int i
  | .str x, _, k => by cases k; exact .str x
  | .list _, _, k => by cases k
  | .dict _, _, k => by cases k
  | .tuple ds, _, k => by
    cases k with
    | tup a b => exact .tup (h _ _ a) (FzL.mono h ds _ b)
theorem FzL.mono (h : Tu H H') : ∀ (ds : List PyData) (xs : List V), FzL H xs ds → FzL H' xs ds
  | [], _, k => by cases k; exact .nil
  | d :: ds, _, k => by
    cases k with
    | cons a b => exact .cons (Fz.mono h d _ a) (FzL.mono h ds _ b)
end
mutual
theorem Fz.dp (K : PySem.W.Frag) : ∀ (d : PyData) (v : V), Fz H v d → Dp K H v d
  | .none, _, k => by cases k; exact .non
  | .bool b, _, k => by cases k; exact .bl b
  | .int i, _, k => by cases k; exact .int i
  | .str x, _, k => by cases k; exact .str x
  | .list _, _, k => by cases k
  | .dict _, _, k => by cases k
  | .tuple ds, _, k => by
    cases k with
    | tup a b => exact .tup (.inl a) (FzL.dp K ds _ b)
theorem FzL.dp (K : PySem.W.Frag) : ∀ (ds : List PyData) (xs : List V), FzL H xs ds → DpAll K H xs ds
  | [], _, k => by cases k; exact .nil
  | d :: ds, _, k => by
    cases k with
    | cons a b => exact .cons (Fz.dp K d _ a) (FzL.dp K ds _ b)
end
theorem _root_.L2.Same.rd {a : Addr} {u : HO} (h : Same H H') (k : Rd H a u) : Rd H' a u := by
  rcases k with k | ⟨o, k⟩
  · exact .inl (h _ _ k)
  · exact .inr ⟨o, h _ _ k⟩
theorem _root_.L2.Same.tu (h : Same H H') : Tu H H' := fun a xs e => h.rd e
theorem _root_.L2.Same.sqT {K : PySem.W.Frag} {a : Addr} {xs : List V} (h : Same H H') (k : Rd H a (.tup xs)) : SqT K H' a xs := .inl (h.rd k)
theorem tyx_tup {K : PySem.W.Frag} {a : Addr} {xs : List V} (k : Rd H a (.tup xs)) : TyX K H (.ref a) (.type "tuple") := by
  rcases k with k | ⟨o, k⟩
  · exact .base (.tup k)
  · exact .fTuple k
theorem tu_upd {l : Addr} {zs : List V} {o : HO} (h : H l = some (.lst zs)) : Tu H (upd H l o) := fun a xs e => by
  rcases e with e | ⟨q, e⟩
  · exact .inl (by rw [upd_ne (ne_of e h (by intro z; cases z))]; exact e)
  · exact .inr ⟨q, by rw [upd_ne (ne_of e h (by intro z; cases z))]; exact e⟩
theorem Tu.trans {H1 : Hp} (a : Tu H H1) (b : Tu H1 H') : Tu H H' := fun x xs e => b x xs (a x xs e)
theorem Fz.same (h : Same H H') (k : Fz H v d) : Fz H' v d := Fz.mono h.tu d v k
theorem FzL.same (h : Same H H') (k : FzL H xs ds) : FzL H' xs ds := FzL.mono h.tu ds xs k
theorem Fz.tu (h : Tu H H') (k : Fz H v d) : Fz H' v d := Fz.mono h d v k
theorem FzL.tu (h : Tu H H') (k : FzL H xs ds) : FzL H' xs ds := FzL.mono h ds xs k
theorem FzL.len (k : FzL H xs ds) : xs.length = ds.length := by
  induction ds generalizing xs with
  | nil => cases k; rfl
  | cons d ds ih => cases k with | cons a b => rw [List.length_cons, List.length_cons, ih b]
theorem FzL.get {i : Nat} {x : V} (k : FzL H xs ds) (h : xs[i]? = some x) : ∃ d, ds[i]? = some d ∧ Fz H x d := by
  induction ds generalizing xs i with
  | nil => cases k; simp at h
  | cons d ds ih =>
    cases k with
    | cons a b =>
      cases i with
      | zero => simp at h; subst h; exact ⟨d, rfl, a⟩
      | succ i => exact ih (i := i) b (by simpa using h)
theorem FzL.at {i : Nat} {d : PyData} (k : FzL H xs ds) (h : ds[i]? = some d) : ∃ x, xs[i]? = some x ∧ Fz H x d := by
  have hl := k.len
  have hi : i < xs.length := by rw [hl]; exact (List.getElem?_eq_some_iff.mp h).1
  obtain ⟨d', e, f⟩ := k.get (List.getElem?_eq_getElem hi)
  rw [h] at e; cases e
  exact ⟨_, List.getElem?_eq_getElem hi, f⟩
theorem FzL.append (k : FzL H xs ds) (k' : FzL H ys es) : FzL H (xs ++ ys) (ds ++ es) := by
  induction ds generalizing xs with
  | nil => cases k; exact k'
  | cons d ds ih => cases k with | cons a b => exact .cons a (ih b)
theorem FzL.one (k : Fz H v d) : FzL H [v] [d] := .cons k .nil
theorem FzL.snoc (k : FzL H xs ds) (k' : Fz H v d) : FzL H (xs ++ [v]) (ds ++ [d]) := k.append (.one k')
theorem FzL.take (n : Nat) (k : FzL H xs ds) : FzL H (xs.take n) (ds.take n) := by
  induction ds generalizing xs n with
  | nil => cases k; simpa using FzL.nil
  | cons d ds ih =>
    cases k with
    | cons a b =>
      cases n with
      | zero => exact .nil
      | succ n => exact .cons a (ih n b)
theorem FzL.drop (n : Nat) (k : FzL H xs ds) : FzL H (xs.drop n) (ds.drop n) := by
  induction ds generalizing xs n with
  | nil => cases k; simpa using FzL.nil
  | cons d ds ih =>
    cases k with
    | cons a b =>
      cases n with
      | zero => exact .cons a b
      | succ n => exact ih n b
theorem FzL.rev (k : FzL H xs ds) : FzL H xs.reverse ds.reverse := by
  induction ds generalizing xs with
  | nil => cases k; exact .nil
  | cons d ds ih =>
    cases k with
    | cons a b => rw [List.reverse_cons, List.reverse_cons]; exact (ih b).snoc a
theorem fz_int {i : Int} : Fz H v (.int i) ↔ v = .int i := ⟨fun k => by cases k; rfl, fun e => e ▸ .int i⟩
theorem fz_str {x : Str} : Fz H v (.str x) ↔ v = .str x := ⟨fun k => by cases k; rfl, fun e => e ▸ .str x⟩
theorem fz_tup : Fz H v (.tuple ds) ↔ ∃ a xs, v = .ref a ∧ Rd H a (.tup xs) ∧ FzL H xs ds :=
  ⟨fun k => by cases k with | tup a b => exact ⟨_, _, rfl, a, b⟩, fun ⟨_, _, e, a, b⟩ => e ▸ .tup a b⟩
theorem fzl_ints {ns : List Int} : FzL H xs (ns.map .int) ↔ xs = ns.map .int := by
  induction ns generalizing xs with
  | nil => exact ⟨fun k => by cases k; rfl, fun e => by subst e; exact .nil⟩
  | cons n ns ih =>
    constructor
    · intro k
      cases k with
      | cons a b => rw [fz_int.mp a, ih.mp b]; rfl
    · intro e; subst e
      exact .cons (.int n) (ih.mpr rfl)
end
/-! ### the program's data -/
def eP (p : List Int) : PyData := .tuple (p.map .int)
def kS (r : Bool) : Str := if r then "row" else "any"
namespace PT
mutual
def enc : PT → PyData
  | .leaf g => .int g
  | .node r bs => .tuple [.str (kS r), .tuple (encL bs)]
def encL : List PT → List PyData
  | [] => []
  | b :: bs => enc b :: encL bs
end
theorem enc_leaf (g : Int) : enc (.leaf g) = .int g := by rw [enc]
theorem enc_node (r : Bool) (bs : List PT) : enc (.node r bs) = .tuple [.str (kS r), .tuple (encL bs)] := by rw [enc]
theorem encL_map (bs : List PT) : encL bs = bs.map enc := by
  induction bs with
  | nil => rw [encL]; rfl
  | cons b bs ih => rw [encL, ih]; rfl
mutual
def dp : PT → Nat
  | .leaf _ => 0
  | .node _ bs => dpL bs + 1
def dpL : List PT → Nat
  | [] => 0
  | b :: bs => max (dp b) (dpL bs)
end
@[simp] theorem dp_leaf (g : Int) : dp (.leaf g) = 0 := by rw [dp]
@[simp] theorem dp_node (r : Bool) (bs : List PT) : dp (.node r bs) = dpL bs + 1 := by rw [dp]
@[simp] theorem dpL_nil : dpL [] = 0 := by rw [dpL]
@[simp] theorem dpL_cons (b : PT) (bs : List PT) : dpL (b :: bs) = max (dp b) (dpL bs) := by rw [dpL]
theorem dpL_mem {b : PT} {bs : List PT} (h : b ∈ bs) : dp b ≤ dpL bs := by
  induction bs with
  | nil => cases h
  | cons c cs ih =>
    rw [dpL_cons]
    rcases List.mem_cons.mp h with rfl | h
    · exact Nat.le_max_left _ _
    · exact Nat.le_trans (ih h) (Nat.le_max_right _ _)
theorem dp_br {r : Bool} {b : PT} {bs : List PT} (h : b ∈ bs) : dp b < dp (.node r bs) := by
  rw [dp_node]; exact Nat.lt_succ_of_le (dpL_mem h)
theorem dp_gs {t : PT} (w : Wf t) : dp t < (gs t).length := by
  induction t using PT.ind with
  | hl g => simp
  | hn r bs ih =>
    rw [dp_node, gs_node]
    have h2 := w.two
    have wb := w.br
    have key : ∀ cs : List PT, (∀ b ∈ cs, dp b < (gs b).length) → dpL cs + cs.length ≤ (gsL cs).length := by
      intro cs
      induction cs with
      | nil => intro _; simp
      | cons c cs ihc =>
        intro h
        have h1 := h c (by simp)
        have h3 := ihc fun b hb => h b (by simp [hb])
        have h4 : cs.length ≤ (gsL cs).length := by
          clear ihc h1 h3 h2 ih
          induction cs with
          | nil => simp
          | cons d ds ihd =>
            have := h d (by simp)
            have := ihd fun b hb => h b (by
              rcases List.mem_cons.mp hb with rfl | hb
              · simp
              · simp [hb])
            rw [gsL_cons, List.length_append, List.length_cons]
            omega
        rw [dpL_cons, gsL_cons, List.length_append, List.length_cons]
        rcases Nat.le_total (dp c) (dpL cs) with e | e
        · rw [Nat.max_eq_right e]; omega
        · rw [Nat.max_eq_left e]; omega
    have := key bs fun b hb => ih b hb (wb b hb)
    omega
theorem kS_inj {a b : Bool} (h : kS a = kS b) : a = b := by
  revert h; cases a <;> cases b <;> simp [kS] <;> decide
theorem beq_kS (a b : Bool) : (kS a == kS b) = (a == b) := by
  by_cases h : a = b
  · subst h; simp
  · have : kS a ≠ kS b := fun e => h (kS_inj e)
    rw [beq_eq_false_iff_ne.mpr this, beq_eq_false_iff_ne.mpr h]
open Classical in
theorem eqv_enc (t : PT) : ∀ u : PT, PyData.eqv (enc t) (enc u) = decide (t = u) := by
  induction t using PT.ind with
  | hl g =>
    intro u
    cases u with
    | leaf g' =>
      rw [enc_leaf, enc_leaf]
      simp only [PyData.eqv]
      by_cases h : g = g'
      · subst h; simp
      · have : (PT.leaf g) ≠ .leaf g' := fun e => h (PT.leaf.inj e)
        rw [decide_eq_false this]
        exact beq_eq_false_iff_ne.mpr h
    | node r bs =>
      rw [enc_leaf, enc_node, decide_eq_false (by intro e; cases e)]
      simp only [PyData.eqv]
  | hn r bs ih =>
    intro u
    cases u with
    | leaf g' =>
      rw [enc_leaf, enc_node, decide_eq_false (by intro e; cases e)]
      simp only [PyData.eqv]
    | node r' cs =>
      rw [enc_node, enc_node]
      simp only [PyData.eqv, PyData.eqvAll, Bool.and_true]
      have all : ∀ (as : List PT), (∀ b ∈ as, b ∈ bs) → ∀ cs : List PT, PyData.eqvAll (encL as) (encL cs) = decide (as = cs) := by
        intro as
        induction as with
        | nil => intro _ cs; cases cs <;> simp [encL, PyData.eqvAll]
        | cons a as iha =>
          intro ha cs
          cases cs with
          | nil => simp [encL, PyData.eqvAll]
          | cons c cs =>
            rw [encL, encL, PyData.eqvAll, ih a (ha a (by simp)) c, iha (fun b hb => ha b (by simp [hb])) cs]
            by_cases h1 : a = c
            · by_cases h2 : as = cs
              · subst h1; subst h2; simp
              · simp [h2]
            · simp [h1]
      rw [all bs (fun _ h => h) cs, beq_kS]
      by_cases h1 : r = r'
      · by_cases h2 : bs = cs
        · subst h1; subst h2; simp
        · simp [h2]
      · simp [h1]
open Classical in
theorem eqvAll_enc : ∀ (as bs : List PT), PyData.eqvAll (as.map enc) (bs.map enc) = decide (as = bs)
  | [], [] => by simp [PyData.eqvAll]
  | [], _ :: _ => by simp [PyData.eqvAll]
  | _ :: _, [] => by simp [PyData.eqvAll]
  | a :: as, b :: bs => by
    rw [List.map_cons, List.map_cons, PyData.eqvAll, eqv_enc, eqvAll_enc as bs]
    by_cases h1 : a = b
    · by_cases h2 : as = bs
      · subst h1; subst h2; simp
      · simp [h2]
    · simp [h1]
theorem lay_enc (t : PT) : (enc t).canLay0 = true ∧ (enc t).depth ≤ 2 * dp t := by
  induction t using PT.ind with
  | hl g => rw [enc_leaf]; exact ⟨rfl, by simp [PyData.depth]⟩
  | hn r bs ih =>
    rw [enc_node]
    have all : PyData.canLayAll0 (encL bs) = true ∧ PyData.depthAll (encL bs) ≤ 2 * dpL bs := by
      clear r
      induction bs with
      | nil => rw [encL]; exact ⟨rfl, by simp [PyData.depthAll]⟩
      | cons b bs ihb =>
        have h1 := ih b (by simp)
        have h2 := ihb fun c hc => ih c (by simp [hc])
        rw [encL]
        simp only [PyData.canLayAll0, PyData.depthAll, dpL_cons]
        refine ⟨by rw [h1.1, h2.1]; rfl, ?_⟩
        omega
    have hk : PyData.canLay0 (.str (kS r)) = true := by cases r <;> decide +kernel
    simp only [PyData.canLay0, PyData.canLayAll0, PyData.depth, PyData.depthAll, dp_node] at hk ⊢
    refine ⟨by rw [hk, all.1]; rfl, ?_⟩
    omega
theorem shaped_enc {t : PT} (h : dp t ≤ 30) : SeqAt.shaped (enc t) = true := by
  have k := lay_enc t
  unfold SeqAt.shaped
  exact Bool.and_eq_true_iff.mpr ⟨k.1, decide_eq_true (by omega)⟩
theorem shaped_encs {c : List PyData → PyData} (hc : c = .list ∨ c = .tuple) {bs : List PT} (h : ∀ b ∈ bs, dp b ≤ 20) : SeqAt.shaped (c (bs.map enc)) = true := by
  have all : PyData.canLayAll0 (bs.map enc) = true ∧ PyData.depthAll (bs.map enc) ≤ 40 := by
    induction bs with
    | nil => exact ⟨rfl, by simp [PyData.depthAll]⟩
    | cons b bs ihb =>
      have h1 := lay_enc b
      have h2 := ihb fun c hc => h c (by simp [hc])
      have h3 := h b (by simp)
      simp only [List.map_cons, PyData.canLayAll0, PyData.depthAll]
      exact ⟨by rw [h1.1, h2.1]; rfl, by omega⟩
  unfold SeqAt.shaped
  rcases hc with rfl | rfl
  · refine Bool.and_eq_true_iff.mpr ⟨by simp only [PyData.canLay0]; exact all.1, decide_eq_true ?_⟩
    simp only [PyData.depth]
    have := all.2
    omega
  · refine Bool.and_eq_true_iff.mpr ⟨by simp only [PyData.canLay0]; exact all.1, decide_eq_true ?_⟩
    simp only [PyData.depth]
    have := all.2
    omega
end PT
/-! ### heaps -/
theorem same_new {H : Hp} {p : Addr} {o : HO} (h : H p = none) : Same H (upd H p o) := fun b u e => by rw [upd_ne (ne_of_none e h)]; exact e
theorem same_mut {H H' : Hp} {l : Addr} {o : HO} (g : Same H H') (h : H l = none) : Same H (upd H' l o) := fun b u e => by rw [upd_ne (ne_of_none e h)]; exact g b u e
theorem _root_.L2.Same.seqT {K : PySem.W.Frag} {H H' : Hp} {a : Addr} {xs : List V} (e : Same H H') (h : SqT K H a xs) : SqT K H' a xs := by
  rcases h with (h | ⟨o, h⟩) | h
  · exact .inl (.inl (e _ _ h))
  · exact .inl (.inr ⟨o, e _ _ h⟩)
  · exact .inr h
theorem big_ok {n : Nat} (h : n ≤ 100000) : n ≤ sizeLine := Nat.le_trans h (by decide)
theorem big_lt {n : Nat} (h : n < 100000) : n < sizeLine := Nat.lt_of_lt_of_le h (by decide)
/-- a tree at a value -/
def Tr (H : Hp) (v : V) (t : PT) : Prop := Fz H v t.enc
theorem Tr.same {H H' : Hp} {v : V} {t : PT} (g : Same H H') (h : Tr H v t) : Tr H' v t := Fz.same g h
theorem tr_leaf {H : Hp} {v : V} {g : Int} : Tr H v (.leaf g) ↔ v = .int g := by unfold Tr; rw [PT.enc_leaf, fz_int]
theorem tr_node {H : Hp} {v : V} {r : Bool} {bs : List PT} : Tr H v (.node r bs) ↔ ∃ a b xs, v = .ref a ∧ Rd H a (.tup [.str (kS r), .ref b]) ∧ Rd H b (.tup xs) ∧ FzL H xs (bs.map PT.enc) := by
  unfold Tr
  rw [PT.enc_node, PT.encL_map]
  constructor
  · intro k
    obtain ⟨a, xs, rfl, ha, hx⟩ := fz_tup.mp k
    cases hx with
    | cons h1 h2 =>
      cases h2 with
      | cons h2 h3 =>
        cases h3
        obtain ⟨b, ys, rfl, hb, hy⟩ := fz_tup.mp h2
        rw [fz_str.mp h1] at ha
        exact ⟨a, b, ys, rfl, ha, hb, hy⟩
  · rintro ⟨a, b, xs, rfl, ha, hb, hx⟩
    exact .tup ha (.cons (.str _) (.cons (.tup hb hx) .nil))
/-- a row, a party -/
def Ro (H : Hp) (v : V) (p : List Int) : Prop := ∃ a, v = .ref a ∧ Rd H a (.tup (p.map V.int))
theorem ro_fz {H : Hp} {v : V} {p : List Int} : Fz H v (eP p) ↔ Ro H v p := by
  unfold eP
  rw [fz_tup]
  constructor
  · rintro ⟨a, xs, rfl, ha, hx⟩
    rw [fzl_ints.mp hx] at ha
    exact ⟨a, rfl, ha⟩
  · rintro ⟨a, rfl, ha⟩
    exact ⟨a, _, rfl, ha, fzl_ints.mpr rfl⟩
theorem Ro.same {H H' : Hp} {v : V} {p : List Int} (g : Same H H') (h : Ro H v p) : Ro H' v p := by
  obtain ⟨a, e, k⟩ := h
  exact ⟨a, e, g.rd k⟩
/-- a row whose methods may be asked -/
def RoD (H : Hp) (v : V) (p : List Int) : Prop := ∃ (a : Addr) (o : Obj), v = .ref a ∧ o.dict = none ∧ H a = some (.frz o (.tup (p.map V.int)))
theorem RoD.ro {H : Hp} {v : V} {p : List Int} (h : RoD H v p) : Ro H v p := by
  obtain ⟨a, o, e, _, k⟩ := h
  exact ⟨a, e, .inr ⟨o, k⟩⟩
theorem RoD.same {H H' : Hp} {v : V} {p : List Int} (g : Same H H') (h : RoD H v p) : RoD H' v p := by
  obtain ⟨a, o, e, d, k⟩ := h
  exact ⟨a, o, e, d, g _ _ k⟩
/-- a list of data that never change -/
def Ls (H : Hp) (a : Addr) (ds : List PyData) : Prop := ∃ xs, H a = some (.lst xs) ∧ FzL H xs ds
theorem Ls.same {H H' : Hp} {a : Addr} {ds : List PyData} (g : Same H H') (h : Ls H a ds) : Ls H' a ds := by
  obtain ⟨xs, e, k⟩ := h
  exact ⟨xs, g _ _ e, k.same g⟩
theorem Ls.sq {K : PySem.W.Frag} {H : Hp} {a : Addr} {ds : List PyData} (h : Ls H a ds) : ∃ xs, SqL K H a xs ∧ FzL H xs ds ∧ xs.length = ds.length := by
  obtain ⟨xs, e, k⟩ := h
  exact ⟨xs, SqL.of e, k, k.len⟩
theorem Ls.ints {H : Hp} {a : Addr} {ns : List Int} : Ls H a (ns.map .int) ↔ H a = some (.lst (ns.map V.int)) := by
  constructor
  · rintro ⟨xs, e, k⟩; rw [fzl_ints.mp k] at e; exact e
  · intro h; exact ⟨_, h, fzl_ints.mpr rfl⟩
theorem Ls.off {H H' : Hp} {a : Addr} {ds : List PyData} (h : Ls H a ds) (t : Tu H H') (e : H' a = H a) : Ls H' a ds := by
  obtain ⟨xs, e1, k⟩ := h
  exact ⟨xs, by rw [e]; exact e1, k.tu t⟩
end ST
namespace ST
open PySem PySem.Spec PyProof.Rows L2
/-! ### what stands behind the top -/
structure Bt (mg : Str → Option Value) : Prop where
  len : mg "len" = none
  isi : mg "isinstance" = none
  int : mg "int" = none
  bool : mg "bool" = none
  tuple : mg "tuple" = none
  list : mg "list" = none
  range : mg "range" = none
  sorted : mg "sorted" = none
  all : mg "all" = none
  any : mg "any" = none
  min : mg "min" = none
  max : mg "max" = none
  zip : mg "zip" = none
  enum : mg "enumerate" = none
  ANY : ∃ t, mg "ANY" = some (.str "any" t)
  ROW : ∃ t, mg "ROW" = some (.str "row" t)
  NONE : ∃ t, mg "NONE" = some (.str "none" t)
  ALL : ∃ t, mg "ALL" = some (.str "all" t)
  SOME : ∃ t, mg "SOME" = some (.str "some" t)
  MG : ∃ t, mg "MOST_GUESTS" = some (.int 7 t)
  MP : ∃ t, mg "MOST_PARTIES" = some (.int 8 t)
/-- the i-th statement of the top, a def of this name -/
structure Dfn (K : PySem.W.Frag) (mg : Str → Option Value) (i : Nat) (x : Str) : Prop where
  ex : ∃ (f : Addr) (fd : FuncData), Fun K x x (topS i) f fd ∧ mg x = some (.ref f)
/-- a def that may be called -/
structure Cl (P : Program) (w : World) (K : PySem.W.Frag) (mg : Str → Option Value) (base : Heap) (k : Nat) (x : Str) (ps : List Str) (sp : Sp) : Prop where
  ex : ∃ (f : Addr) (fd : FuncData), FnOk P w K mg base CX0 k f fd ps sp ∧ mg x = some (.ref f) ∧ PySem.W.keepIn K (.ref f) = true ∧ Binds K fd ps []
section
variable {P : Program} {w : World} {K : PySem.W.Frag} {mg : Str → Option Value} {base : Heap}
theorem Dfn.cl {i : Nat} {x : Str} {N ps : List Str} {k : Nat} {sp : Sp} (D : Dfn K mg i x) (S : FnScope N ps (defScope (topS i)))
    (hb : ∀ (kV doc pm : Value) (an : Option Addr) (cdv ct : Value) (us : List Value), us.length = ps.length → bindArgs (PySem.W.fnOf x x (defArgs (topS i)) (defBody (topS i)) (defScope (topS i)) .none kV doc pm an cdv ct) ⟨us, []⟩ = pure (ps.zip us))
    (len : ∀ vs H Q E, sp vs H Q E → vs.length = ps.length)
    (hbody : ∀ (f : Addr) (cdv : Value) (A : Around) (outer : List PySem.Env) (s : Shared) (H : Hp) (vs : List V) (Q : VK) (E : XK), Room k (A.deeper (envOfC x (defScope (topS i)) s.heap.objs.size f cdv)) → sp vs H Q E →
      ∃ t, PSs (cxOf CX0 P w K mg base N x (defScope (topS i)) f cdv A outer s H E).nox (defBody (topS i)) t ∧ t { nx := fun _ H' => Q .non H', rt := Q } (start N vs) H) : Cl P w K mg base (k + 1) x ps sp := by
  obtain ⟨f, fd, F, m⟩ := D.ex
  exact ⟨f, fd, F.ok S len (hbody f), m, F.kp, F.binds hb⟩
theorem Cl.mono {j k : Nat} {x : Str} {ps : List Str} {sp : Sp} (c : Cl P w K mg base j x ps sp) (h : j ≤ k) : Cl P w K mg base k x ps sp := by
  obtain ⟨f, fd, F, m, kp, b⟩ := c.ex
  exact ⟨f, fd, F.mono h, m, kp, b⟩
end
/-- a call of such a def -/
theorem pe_cl {X : Cx} {j k : Nat} {x : Str} {ps : List Str} {sp : Sp} {p pos : Pos} {e : Expr} {es : List Expr} {t : TA} (c : Cl X.prog X.w X.K X.mg X.base k x ps sp) (hr : Room j X.A) (hk : k ≤ j) (hg : Gl X x) (ha : PA X (e :: es) t)
    (hdb : (x == ("__debug__" : Str)) = false := by decide) (he : starEach (e :: es) X.env = (false, eval e X.env) :: starEach es X.env := by rfl) (hpl : (backTo pos (starEach es X.env)).any (·.1) = false := by rfl) :
    PE X (.Call (.Name x p) (e :: es) [] pos) (tCall sp [] E0 t) := by
  obtain ⟨f, fd, F, m, kp, b⟩ := c.ex
  exact pe_call F (hr.mono hk) hg m kp b .nil pass0 ha hdb he hpl
/-- a text of the module's -/
theorem pe_gs {X : Cx} {x z : Str} {pos : Pos} (hg : Gl X x) (h : ∃ t, X.mg x = some (.str z t)) (hd : (x == ("__debug__" : Str)) = false := by decide) : PE X (.Name x pos) (tC (.str z)) := by
  obtain ⟨t, e⟩ := h
  exact pe_glob hg e ⟨t, rfl⟩ hd
theorem pe_gi {X : Cx} {x : Str} {z : Int} {pos : Pos} (hg : Gl X x) (h : ∃ t, X.mg x = some (.int z t)) (hd : (x == ("__debug__" : Str)) = false := by decide) : PE X (.Name x pos) (tC (.int z)) := by
  obtain ⟨t, e⟩ := h
  exact pe_glob hg e ⟨t, rfl⟩ hd
/-! ### either of two walks -/
theorem pi_or {X : Cx} {tg iter : Expr} {t t' : TI} (h : PI X tg iter t) (h' : PI X tg iter t') : PI X tg iter (fun σ H R => t σ H R ∨ t' σ H R) :=
  ⟨fun pins s σ H R I w => w.elim (h.run pins s σ H R I) (h'.run pins s σ H R I)⟩
section
variable {P : Program} {w : World} {K : PySem.W.Frag} {mg : Str → Option Value} {base : Heap}
/-- nothing can be asked of it yet -/
theorem Dfn.void {i : Nat} {x : Str} {ps : List Str} {k : Nat} {sp : Sp} (D : Dfn K mg i x)
    (hb : ∀ (kV doc pm : Value) (an : Option Addr) (cdv ct : Value) (us : List Value), us.length = ps.length → bindArgs (PySem.W.fnOf x x (defArgs (topS i)) (defBody (topS i)) (defScope (topS i)) .none kV doc pm an cdv ct) ⟨us, []⟩ = pure (ps.zip us))
    (no : ∀ vs H Q E, ¬ sp vs H Q E) : Cl P w K mg base k x ps sp := by
  obtain ⟨f, fd, F, m⟩ := D.ex
  exact ⟨f, fd, ⟨fun vs H Q E h => absurd h (no vs H Q E), fun A outer s H args us vs Q E _ _ _ _ h => absurd h (no vs H Q E)⟩, m, F.kp, F.binds hb⟩
end
end ST
namespace ST
open PySem PySem.Spec PyProof.Rows L2
theorem bl_t {p : Prop} [Decidable p] (h : p) : V.bl (decide p) = V.bl true := congrArg V.bl (decide_eq_true h)
theorem bl_f {p : Prop} [Decidable p] (h : ¬ p) : V.bl (decide p) = V.bl false := congrArg V.bl (decide_eq_false h)
theorem q_t {p : Prop} [Decidable p] {Q : V → Hp → Prop} {H : Hp} (h : p) (q : Q (.bl true) H) : Q (.bl (decide p)) H := by rw [decide_eq_true h]; exact q
theorem q_f {p : Prop} [Decidable p] {Q : V → Hp → Prop} {H : Hp} (h : ¬ p) (q : Q (.bl false) H) : Q (.bl (decide p)) H := by rw [decide_eq_false h]; exact q
theorem fzl_bools {H : Hp} {xs : List V} {bs : List Bool} : FzL H xs (bs.map .bool) ↔ xs = bs.map V.bl := by
  induction bs generalizing xs with
  | nil => exact ⟨fun k => by cases k; rfl, fun e => by subst e; exact .nil⟩
  | cons n ns ih =>
    constructor
    · intro k
      cases k with
      | cons a b => cases a; rw [ih.mp b]; rfl
    · intro e; subst e
      exact .cons (.bl n) (ih.mpr rfl)
theorem Ls.bools {H : Hp} {a : Addr} {bs : List Bool} (h : Ls H a (bs.map .bool)) : H a = some (.lst (bs.map V.bl)) := by
  obtain ⟨xs, e, k⟩ := h; rw [fzl_bools.mp k] at e; exact e
theorem fzl_of {H : Hp} {ds : List PyData} : ∀ {xs : List V}, xs.length = ds.length → (∀ (i : Nat) (x : V) (d : PyData), xs[i]? = some x → ds[i]? = some d → Fz H x d) → FzL H xs ds := by
  induction ds with
  | nil => intro xs hl _; rw [List.length_nil] at hl; rw [List.eq_nil_of_length_eq_zero hl]; exact .nil
  | cons d ds ih =>
    intro xs hl h
    match xs, hl with
    | x :: xs, hl => exact .cons (h 0 x d rfl rfl) (ih (by simpa using hl) fun i x d h1 h2 => h (i + 1) x d h1 h2)
/-- what the turns of a comprehension give -/
def gvn (n : Nat) (f : Nat → Bool) (ds : Nat → PyData) : List PyData := ((List.range n).filter f).map ds
theorem gvn_yes {n : Nat} {f : Nat → Bool} {ds : Nat → PyData} (h : f n = true) : gvn (n + 1) f ds = gvn n f ds ++ [ds n] := by
  unfold gvn
  rw [List.range_succ, List.filter_append, List.map_append, List.filter_cons, if_pos h]; rfl
theorem gvn_no {n : Nat} {f : Nat → Bool} {ds : Nat → PyData} (h : f n = false) : gvn (n + 1) f ds = gvn n f ds := by
  unfold gvn
  rw [List.range_succ, List.filter_append, List.map_append, List.filter_cons, if_neg (by rw [h]; decide)]
  simp
theorem gvn_len (n : Nat) (f : Nat → Bool) (ds : Nat → PyData) : (gvn n f ds).length ≤ n := by
  unfold gvn
  rw [List.length_map]
  have h := List.length_filter_le f (List.range n)
  rw [List.length_range] at h
  exact h
theorem gvn_all (n : Nat) (ds : Nat → PyData) : gvn n (fun _ => true) ds = (List.range n).map ds := by
  unfold gvn
  rw [List.filter_eq_self.mpr (fun _ _ => rfl)]
theorem gvn_list {α : Type} (l : List α) (e : α → PyData) (d : PyData) : gvn l.length (fun _ => true) (fun i => (l[i]?.map e).getD d) = l.map e := by
  rw [gvn_all]
  refine List.ext_getElem? fun i => ?_
  rw [List.getElem?_map, List.getElem?_map]
  by_cases h : i < l.length
  · rw [List.getElem?_eq_getElem h, List.getElem?_eq_getElem (by simpa using h)]
    simp [h]
  · rw [List.getElem?_eq_none (by simpa using h), List.getElem?_eq_none (by omega)]; rfl
theorem gvn_filter {α : Type} (l : List α) (q : α → Bool) (e : α → PyData) (d : PyData) : gvn l.length (fun i => (l[i]?.map q).getD false) (fun i => (l[i]?.map e).getD d) = (l.filter q).map e := by
  have key : ∀ n, n ≤ l.length → gvn n (fun i => (l[i]?.map q).getD false) (fun i => (l[i]?.map e).getD d) = ((l.take n).filter q).map e := by
    intro n
    induction n with
    | zero => intro _; simp [gvn]
    | succ n ih =>
      intro hn
      have h : n < l.length := by omega
      have e1 : l[n]? = some l[n] := List.getElem?_eq_getElem h
      rw [List.take_add_one, e1, List.filter_append, List.map_append, ← ih (by omega)]
      by_cases hq : q l[n] = true
      · rw [gvn_yes (by rw [e1]; exact hq), e1]
        simp [hq]
      · have hq : q l[n] = false := by simpa using hq
        rw [gvn_no (by rw [e1]; exact hq)]
        simp [hq]
  rw [key l.length (Nat.le_refl _), List.take_length]
/-- a comprehension that makes data that never change -/
theorem lc_fz {J : It} {n : Nat} {G : Hp → Prop} {Y : Nat → Hp → V → Hp → Prop} (w : Walk J n G Y) {j : Nat} {tt : TT} {te : TE} {vs : List Nat} {σ : L2.St} {H1 : Hp} {D : Addr} {Qd : Hp → Prop} (nD : H1 D = none)
    (hG : ∀ H, Same H1 H → G H) (hY : ∀ i H x H', i < n → Same H1 H → Y i H x H' → Same H H') (hw : ∀ x, wipe ((wipe σ vs).set j (some x)) vs = wipe σ vs) (f : Nat → Bool) (ds : Nat → PyData) (hn : n ≤ 100000)
    (ht : ∀ i x H H', i < n → Same H1 H → Y i H x H' → ∀ Kb : Bool → Hp → Prop, (∀ H3, Same H' H3 → Kb (f i) H3) → tt ((wipe σ vs).set j (some x)) H' Kb)
    (he : ∀ i x H H' H3, i < n → f i = true → Same H1 H → Y i H x H' → Same H' H3 → ∀ Ky : VK, (∀ y H4, Same H3 H4 → Fz H4 y (ds i) → Ky y H4) → te ((wipe σ vs).set j (some x)) H3 Ky)
    (hd : ∀ H, Same H1 H → Ls H D (gvn n f ds) → Qd H) :
    ∃ W : Nat → Nat → Hp → Prop, (∃ m, W 0 m (upd H1 D (.lst []))) ∧ ∀ i m H, W i m H →
      (J.stop i H ∧ Qd H) ∨ (J.go i H ∧ ∃ Nx : Hp → Prop, (∀ H', Nx H' → ∃ m', m' < m ∧ W (i + 1) m' H') ∧ ∀ x H', J.yld i H x H' → (gName j) x (wipe σ vs) H' fun σ2 H2 => wipe σ2 vs = wipe σ vs ∧ tt σ2 H2 fun b H3 =>
        if b = true then te σ2 H3 fun y H4 => ∃ acc, H4 D = some (.lst acc) ∧ acc.length < sizeLine ∧ Nx (upd H4 D (.lst (acc ++ [y]))) else Nx H3) := by
  refine lc_it w (g := gName j) (fun i H => Same H1 H ∧ Ls H D (gvn i f ds)) ⟨same_new nD, [], upd_same, .nil⟩ (fun i H _ p => hG H p.1) (fun i x H H' hi p y => ?_) fun H p => hd H p.1 p.2
  obtain ⟨g1, zs, e1, k1⟩ := p
  have gy := hY i H x H' hi g1 y
  refine ⟨hw x, ht i x H H' hi g1 y _ fun H3 g3 => ?_⟩
  cases hf : f i with
  | false => exact iteF ⟨(g1.trans gy).trans g3, zs, g3 _ _ (gy _ _ e1), by rw [gvn_no hf]; exact k1.same (gy.trans g3)⟩
  | true =>
    refine iteT (he i x H H' H3 hi hf g1 y g3 _ fun v H4 g4 fz => ?_)
    have e4 : H4 D = some (.lst zs) := g4 _ _ (g3 _ _ (gy _ _ e1))
    refine ⟨zs, e4, big_lt ?_, same_mut (((g1.trans gy).trans g3).trans g4) nD, zs ++ [v], upd_same, ?_⟩
    · have := k1.len
      have := gvn_len i f ds
      omega
    · rw [gvn_yes hf]
      exact (((k1.same gy).same g3).same g4).tu (tu_upd e4) |>.snoc (fz.tu (tu_upd e4))
/-- .. without a test -/
theorem lc_fz1 {J : It} {n : Nat} {G : Hp → Prop} {Y : Nat → Hp → V → Hp → Prop} (w : Walk J n G Y) {j : Nat} {te : TE} {vs : List Nat} {σ : L2.St} {H1 : Hp} {D : Addr} {Qd : Hp → Prop} (nD : H1 D = none)
    (hG : ∀ H, Same H1 H → G H) (hY : ∀ i H x H', i < n → Same H1 H → Y i H x H' → Same H H') (hw : ∀ x, wipe ((wipe σ vs).set j (some x)) vs = wipe σ vs) (ds : Nat → PyData) (hn : n ≤ 100000)
    (he : ∀ i x H H' H3, i < n → Same H1 H → Y i H x H' → Same H' H3 → ∀ Ky : VK, (∀ y H4, Same H3 H4 → Fz H4 y (ds i) → Ky y H4) → te ((wipe σ vs).set j (some x)) H3 Ky)
    (hd : ∀ H, Same H1 H → Ls H D (gvn n (fun _ => true) ds) → Qd H) :
    ∃ W : Nat → Nat → Hp → Prop, (∃ m, W 0 m (upd H1 D (.lst []))) ∧ ∀ i m H, W i m H →
      (J.stop i H ∧ Qd H) ∨ (J.go i H ∧ ∃ Nx : Hp → Prop, (∀ H', Nx H' → ∃ m', m' < m ∧ W (i + 1) m' H') ∧ ∀ x H', J.yld i H x H' → (gName j) x (wipe σ vs) H' fun σ2 H2 => wipe σ2 vs = wipe σ vs ∧ tYes σ2 H2 fun b H3 =>
        if b = true then te σ2 H3 fun y H4 => ∃ acc, H4 D = some (.lst acc) ∧ acc.length < sizeLine ∧ Nx (upd H4 D (.lst (acc ++ [y]))) else Nx H3) :=
  lc_fz w nD hG hY hw (fun _ => true) ds hn (fun i x H H' _ _ _ Kb hk => hk H' (Same.refl _)) (fun i x H H' H3 hi _ g y g3 => he i x H H' H3 hi g y g3) hd
theorem yat_same {xs : List V} {H1 : Hp} {n : Nat} : ∀ i H x H', i < n → Same H1 H → YAt xs i H x H' → Same H H' := fun i H x H' _ _ y => by rw [y.1]; exact Same.refl _
theorem yfn_same {f : Nat → V} {H1 : Hp} {n : Nat} : ∀ i H x H', i < n → Same H1 H → YFn f i H x H' → Same H H' := fun i H x H' _ _ y => by rw [y.1]; exact Same.refl _
theorem ypair_same {f g : Nat → Option V} {H1 : Hp} {n : Nat} : ∀ i H x H', i < n → Same H1 H → YPair f g i H x H' → Same H H' := fun i H x H' _ _ y => by
  obtain ⟨T, a, b, _, nT, rfl, _⟩ := y
  exact same_new nT
end ST
namespace ST
open PySem PySem.Spec PyProof.Rows L2
theorem flat_ints (ns : List Int) : (ns.map V.int).all flatV = true := List.all_eq_true.mpr fun v hv => by
  obtain ⟨n, _, rfl⟩ := List.mem_map.mp hv; rfl
/-- a row's place of a guest -/
def rTix (K : PySem.W.Frag) : V → List V → Hp → VK → Prop := fun x xs H Q => ∃ (a : Addr) (ns : List Int) (g : Int), x = .ref a ∧ xs = [.int g] ∧ SqT K H a (ns.map V.int) ∧ g ∈ ns ∧ Q (.int (ns.idxOf g : Nat)) H
theorem mt_tix {X : Cx} : MtR X "tuple.index" (rTix X.K) := by
  intro pins s σ H x xs v us Q I rx rs h
  obtain ⟨a, ns, g, rfl, rfl, hq, hm, q⟩ := h
  cases rx
  obtain ⟨u, rfl, tk, rfl⟩ := vals1 rs
  obtain ⟨its, rv, pl, hz⟩ := I.tuple hq
  obtain ⟨⟨c0, dd, dt, sl⟩, ho, hcl, n, hdt⟩ := pl
  dsimp only at hcl hdt
  subst hcl hdt
  have hsz : its.toArray.size = ns.length := by
    rw [List.size_toArray, ← rv.length, List.length_map]
  have here : ∀ (m : Nat) (hm : m < its.toArray.size), ∃ t', its.toArray[m] = Value.int (ns[m]'(by rw [← hsz]; exact hm)) t' := by
    intro m hmm
    have hml : m < ns.length := by rw [← hsz]; exact hmm
    obtain ⟨w0, hw, t', hw'⟩ := rv.get (i := m) (x := .int ns[m]) (by simp [hml])
    refine ⟨t', ?_⟩
    rw [← hw', ← (List.getElem?_eq_some_iff.mp hw).2]
    simp
  have hj : ns.idxOf g < its.toArray.size := by rw [hsz]; exact List.idxOf_lt_length_of_mem hm
  have e0 : ∀ (y : Int) (t' : Tok), eqU (.int g) (Value.int y t') = (y == g) := fun y t' => rfl
  refine call_meets PySem.F.slot_tuple_index ⟨_, ho, rfl⟩ PySem.F.entry_tuple_index (PySem.F.args_tuple_index_2 _ _)
    (TI.tuple_indexAt a its.toArray n dd sl (.int g tk) (eqU (.int g)) (ns.idxOf g) hj ?h1 ?h2)
    ⟨ho, fun w0 hw => mem_eqAt (x := .int g) ⟨tk, rfl⟩ rfl rv (flat_ints ns) w0 (by simpa using hw), ⟨.int (ns.idxOf g : Nat), H, I.tok _, ⟨_, rfl⟩, q⟩⟩
  case h1 =>
    obtain ⟨t', e⟩ := here _ hj
    rw [e, e0]
    exact beq_iff_eq.mpr (List.getElem_idxOf _)
  case h2 =>
    intro m hmm hlt
    obtain ⟨t', e⟩ := here m hmm
    rw [e, e0]
    exact List.not_of_lt_findIdx hlt
end ST
namespace ST
open PySem PySem.Spec PyProof.Rows L2
section
variable {prog : Program} {w : World} {A : Around} {E : Value → Shared → Prop} {s : Shared}
theorem rev_bounds (n : Nat) : Builtin.Slice.sliceAdjust none none (-1) (n : Int) = ((n : Int) - 1, -1) := by
  unfold Builtin.Slice.sliceAdjust
  have h : ((-1 : Int) < 0) := by omega
  simp only [h, if_true]
theorem rev_places (n : Nat) : Builtin.Slice.slicePlaces ((n : Int) - 1) (-1) (-1) = n := by
  unfold Builtin.Slice.slicePlaces
  have h : ¬ ((-1 : Int) > 0) := by omega
  have e : -(-1 : Int) = 1 := rfl
  simp only [h, if_false, e, Int.ediv_one]
  split <;> omega
theorem rev_picks (xs : List Value) : ((List.range xs.length).filterMap fun (m : Nat) => xs.toArray[((xs.length : Int) - 1 + (m : Int) * (-1)).toNat]?).toArray = xs.reverse.toArray := by
  congr 1
  refine List.ext_getElem? fun i => ?_
  have e : (List.range xs.length).filterMap (fun (m : Nat) => xs.toArray[((xs.length : Int) - 1 + (m : Int) * (-1)).toNat]?) = (List.range xs.length).map fun m => (xs.reverse[m]?).getD .none := by
    have key : ∀ l : List Nat, (∀ m ∈ l, m < xs.length) → l.filterMap (fun (m : Nat) => xs.toArray[((xs.length : Int) - 1 + (m : Int) * (-1)).toNat]?) = l.map fun m => (xs.reverse[m]?).getD .none := by
      intro l
      induction l with
      | nil => intro _; rfl
      | cons m l ih =>
        intro hl
        rw [List.filterMap_cons, List.map_cons, ih fun k hk => hl k (by simp [hk])]
        have hm := hl m (by simp)
        have e1 : ((xs.length : Int) - 1 + (m : Int) * (-1)).toNat = xs.length - 1 - m := by omega
        rw [e1, List.getElem?_reverse hm]
        have h2 : xs.length - 1 - m < xs.length := by omega
        simp [h2]
    exact key _ fun m hm => List.mem_range.mp hm
  rw [e, List.getElem?_map]
  by_cases h : i < xs.length
  · rw [List.getElem?_range h]
    simp [h]
  · rw [List.getElem?_eq_none (by simpa using h), List.getElem?_eq_none (by simpa using h)]; rfl
theorem slice_rev {sl : Addr} {vs : Value} {n : Nat} {Q : Int × Int × Nat → Shared → Prop} (hs : s.heap.IsSliceOf sl .none .none vs) (ps : IsPart vs (some (-1))) (h : Q ((n : Int) - 1, -1, n) s) :
    wpAny (model prog w) A (Builtin.Slice.sliceApplied (.ref sl) (pure (n : Int))) Q E s := by
  obtain ⟨os, hos, _, hds⟩ := hs
  unfold Builtin.Slice.sliceApplied Builtin.Slice.sliceFields
  refine wpAny_bind (wpAny_bind (wpAny_field hos hds (x := .none) rfl (wpAny_bind (wpAny_field hos hds (x := .none) rfl (wpAny_bind (wpAny_field hos hds (x := vs) rfl (wpAny_pure ?k1)))))))
  case k1 =>
    refine wpAny_bind (HT.slicePart_ ps ?k2)
    case k2 =>
      show wpAny _ _ (if ((-1 : Int) == 0) = true then _ else _) _ _ s
      rw [if_neg (show ¬ ((-1 : Int) == 0) = true by decide)]
      refine wpAny_bind (HT.slicePart_ IsPart.none (wpAny_bind (HT.slicePart_ IsPart.none (wpAny_bind (wpAny_pure ?k3)))))
      case k3 =>
        show wpAny _ _ (match Builtin.Slice.sliceAdjust none none (-1) (n : Int) with | (lo, hi) => pure (lo, (-1 : Int), Builtin.Slice.slicePlaces lo hi (-1))) _ _ s
        rw [rev_bounds n]
        show wpAny _ _ (pure ((n : Int) - 1, (-1 : Int), Builtin.Slice.slicePlaces ((n : Int) - 1) (-1) (-1))) _ _ s
        rw [rev_places]
        exact wpAny_pure h
theorem getItem_tuple_rev {t sl : Addr} {its : List Value} {vs : Value} {Q : Value → Shared → Prop} (ht : IsTup s.heap t its.toArray) (hs : s.heap.IsSliceOf sl .none .none vs) (ps : IsPart vs (some (-1)))
    (h : Q (.ref s.heap.objs.size) { s with heap := s.heap.push { cls := .type "tuple", data := .seq its.reverse.toArray } }) (hsz : its.length ≤ sizeLine) : wpAny (model prog w) A (getItem (.ref t) (.ref sl)) Q E s := by
  have hfit : sizeOk (.seq its.reverse.toArray) := by
    show its.reverse.toArray.size ≤ sizeLine
    rw [List.size_toArray, List.length_reverse]; exact hsz
  have hTs : s.TypeIs (.ref sl) "slice" := by
    obtain ⟨os, hos, hcs, _⟩ := id hs
    exact ⟨os, hos, hcs⟩
  unfold getItem
  try with_reducible refine wpAny_holding ?_
  first | refine wpAny_bind (wpAny_pure ?_) | skip
  refine wpAny_bind (wpAny_sequenceKey ht.typeIs (by decide) ?k1)
  case k1 =>
    refine wpAny_bind (wpAny_callSpecial?_slot (name := Str.ofString "__getitem__") ht.typeIs PyProof.Rows.slot_tuple_getitem (wpAny_call_entry PyProof.Rows.slot_tuple_getitem ht.typeIs entry_tuple_getitem ?k2 (args_tuple_getitem _ _)))
    case k2 =>
      show wpAny _ _ (Builtin.Tuple.tupleItemsOf (.ref t) >>= _) _ _ s
      refine wpAny_bind (tupleItemsOf_ ht (wpAny_bind (wpAny_typeOf hTs ?k3)))
      case k3 =>
        rw [if_pos (by decide)]
        have e0 : its.toArray.size = its.length := by simp
        rw [e0]
        refine wpAny_bind (slice_rev hs ps ?k4)
        case k4 =>
          show wpAny _ _ (if (((its.length : Int) - 1) == 0 && (-1 : Int) == 1 && its.length == its.toArray.size) = true then _ else _) _ _ s
          rw [if_neg (by rw [show ((-1 : Int) == 1) = false from rfl]; simp), rev_picks]
          first
            | exact wpAny_bind (m := Builtin.Tuple.tupleExact _) (wpAny_newObj_type (wpAny_pure ⟨_, rfl, wpAny_pure h⟩) hfit)
            | exact wpAny_bind (m := Builtin.Tuple.tupleExact _) (wpAny_newObj_type (wpAny_bind (wpAny_pure (wpAny_pure ⟨_, rfl, wpAny_pure h⟩))) hfit)
            | exact wpAny_bind (wpAny_bind (m := Builtin.Tuple.tupleExact _) (wpAny_newObj_type (wpAny_pure (wpAny_pure ⟨_, rfl, wpAny_pure h⟩)) hfit))
            | exact wpAny_bind (wpAny_bind (m := Builtin.Tuple.tupleExact _) (wpAny_newObj_type (wpAny_pure ⟨_, rfl, wpAny_pure h⟩) hfit))
end
/-- t[::-1] of a tuple -/
def tRevT (K : PySem.W.Frag) (te : TE) : TE := fun σ H Q => te σ H fun x H1 => ∃ a xs, x = .ref a ∧ SqT K H1 a xs ∧ ∀ p, H1 p = none → Q (.ref p) (upd H1 p (.tup xs.reverse))
theorem pe_revT {X : Cx} {e : Expr} {te : TE} {k : Nat} {p1 p2 p3 pos : Pos} (he : PE X e te) : PE X (.Subscript e (.Slice none none (some (.UnaryOp .USub (.Constant (.int 1) k p1) p2)) p3) pos) (tRevT X.K te) := by
  refine ⟨fun pins s σ H Q I h => ?_⟩
  refine Subscript_ (thn (he.run pins s σ H _ I h) fun v s1 ⟨x, H1, I1, r1, q1⟩ => ?_)
  obtain ⟨a, xs, rfl, hx, q⟩ := q1
  cases r1
  have hst : PO X (some (.UnaryOp .USub (.Constant (.int 1) k p1) p2)) (tPart (tUn (rU fun i => .int (-i)) (tC (.int 1)))) := po_some (pe_un un_neg pe_int)
  refine wpAny_Slice (thn (po_none.run pins s1 σ H1 (fun o H2 => o = none ∧ H2 = H1) I1 ⟨rfl, rfl⟩) fun vl s2 ⟨l, H2, I2, pl, h2⟩ => ?_)
  obtain ⟨rfl, rfl⟩ := h2
  refine thn (po_none.run pins s2 σ H2 (fun o H3 => o = none ∧ H3 = H2) I2 ⟨rfl, rfl⟩) fun vu s3 ⟨u, H3, I3, pu, h3⟩ => ?_
  obtain ⟨rfl, rfl⟩ := h3
  refine thn (hst.run pins s3 σ H3 (fun o H4 => o = some (-1) ∧ H4 = H3) I3 ⟨1, rfl, -1, rfl, rfl, rfl⟩) fun vs s4 ⟨o, H4, I4, ps, h4⟩ => ?_
  obtain ⟨rfl, rfl⟩ := h4
  cases pl
  cases pu
  have I5 : Inv X pins σ H4 { s4 with heap := s4.heap.push { cls := .type "slice", data := .fields #[.none, .none, vs] } } := I4.kept (t' := s4.toks) fun b ob q => Heap.get?_push_of_some _ q
  obtain ⟨its, rv, ht, hz⟩ := I5.tuple hx
  have hl := rv.length
  show wpAny (model X.prog X.w) X.A (subscriptTail e (.Slice none none (some (.UnaryOp .USub (.Constant (.int 1) k p1) p2)) p3) (.ref a) (.ref s4.heap.objs.size)) (EP X pins σ Q) X.xe _
  refine tail_any (ops := [.ref a, .ref s4.heap.objs.size]) ht.typeIs (PyProof.Rows.slot_tuple_getitem.lookup) ?k (by with_unfolding_all rfl)
  case k =>
    refine getItem_tuple_rev ht (Heap.IsSliceOf.new _ .none .none vs) ps ?_ (by omega)
    refine ⟨.ref _, _, I5.laid (t' := s4.toks) (o := .tup xs.reverse) (fun b ob q => Heap.get?_push_of_some _ q) (Nat.le_refl _) ?_, rfl, q _ (I5.hok.fresh (Nat.le_refl _))⟩
    exact ⟨by rw [List.length_reverse]; exact hz, _, rv.reverse, ⟨_, Heap.get?_push_size _ rfl, rfl, _, rfl⟩⟩
end ST
namespace ST
open PySem PySem.Spec PyProof.Rows L2
/-- a method of a tuple whose object is known -/
def tBMT (r : V → List V → Hp → VK → Prop) (to : TE) (t : TA) : TE := fun σ H Q => to σ H fun x H1 => (∃ (a : Addr) (o : Obj) (xs : List V), x = .ref a ∧ o.dict = none ∧ H1 a = some (.frz o (.tup xs))) ∧ t σ H1 fun ys H2 => r x ys H2 Q
theorem pe_bmT {X : Cx} {o e : Expr} {es : List Expr} {to : TE} {t : TA} {name : Str} {apos cpos : Pos} {id : String} {r : V → List V → Hp → VK → Prop}
    (slot : Slot "tuple" name id) (hty : typeOf (.builtin id) = pure (.type "method_descriptor")) (hm : MtR X id r) (ho : PE X o to) (ha : PA X (e :: es) t)
    (hbase : attributeBase o name X.env (eval o X.env) = eval o X.env := by rfl)
    (hfew : ((backTo cpos (starEach (e :: es) X.env)).all (fun x => !x.1) && (backToKw cpos (keywordEach [] X.env)).all (fun x => x.1.isSome) && decide ((e :: es).length + ([] : List Keyword).length + (if ([] : List Keyword).isEmpty then 0 else 1) < 30)) = true := by rfl)
    (hline : (apos.endLine == cpos.line) = true := by rfl) (hs : starEach (e :: es) X.env = (false, eval e X.env) :: starEach es X.env := by rfl) (hplain : (backTo cpos (starEach es X.env)).any (·.1) = false := by rfl) :
    PE X (.Call (.Attribute o name apos) (e :: es) [] cpos) (tBMT r to t) := by
  refine ⟨fun pins s σ H Q I h => ?_⟩
  refine wpAny_Call_method_late hbase hfew hline rfl (thn (ho.run pins s σ H _ I h) fun v s1 ⟨x, H1, I1, r1, ⟨a, ob, xs, ex, hd, hf⟩, q1⟩ => ?_)
  subst ex
  cases r1
  obtain ⟨hg, _, its, _, o', ho', hc', _⟩ := I1.hok a _ hf
  have hcls : ob.cls = .type "tuple" := by
    have : some ob = some o' := hg.symm.trans ho'
    cases this; exact hc'
  refine ⟨"tuple", id, PySem.F.plainAttrs_tuple, slot, hty, ⟨ob, hg, hcls⟩, fun a' ea => ?_, ?_⟩
  · cases ea; exact ⟨ob, hg, hd⟩
  · have hA := ha.run cpos pins s1 σ H1 _ I1 q1
    rw [hs] at hA ⊢
    refine Calls.callWith_builtin (by show (false || (backTo cpos (starEach es X.env)).any (·.1)) = false; rw [hplain]; rfl) (Calls.evalArgs_plain ?_)
    exact thn hA fun us s2 ⟨vs, H2, I2, r2, q2⟩ => hm pins s2 σ H2 (.ref a) vs (.ref a) us Q I2 rfl r2 q2
/-! ### tuples made, their objects known -/
section
variable {X : Cx}
def tTupD (t : TA) : TE := fun σ H Q => t σ H fun xs H1 => xs.length ≤ sizeLine ∧ ∀ (p : Addr) (o : Obj), H1 p = none → o.dict = none → Q (.ref p) (upd H1 p (.frz o (.tup xs)))
theorem frz_new {H : Hp} {h : Heap} {xs : List V} {its : List Value} (z : xs.length ≤ sizeLine) (rv : Vals xs its) :
    ObjOk X.prog X.w (upd H h.objs.size (.frz { cls := .type "tuple", data := .seq its.toArray } (.tup xs))) (h.push { cls := .type "tuple", data := .seq its.toArray }) h.objs.size (.frz { cls := .type "tuple", data := .seq its.toArray } (.tup xs)) :=
  ⟨Heap.get?_push_size _ rfl, z, its, rv, IsTup.new _ _⟩
theorem pe_tupD {es : List Expr} {t : TA} {x1} {pos : Pos} (h : PA X es t) : PE X (.Tuple es x1 pos) (tTupD t) := by
  refine ⟨fun pins s σ H Q I hq => wpAny_Tuple_spliced (thn (h.run pos pins s σ H _ I hq) fun us s1 ⟨xs, H1, I1, rv, z, q⟩ => ⟨by rw [← rv.length]; exact z, ?_⟩)⟩
  exact ⟨.ref s1.heap.objs.size, _, I1.laid (t' := s1.toks) (fun b u k => Heap.get?_push_of_some _ k) (Nat.le_refl _) (frz_new z rv), rfl, q _ _ (I1.hok.fresh (Nat.le_refl _)) rfl⟩
def rCatD (K : PySem.W.Frag) : R2 := fun x y H Q => ∃ a b xs ys, x = .ref a ∧ y = .ref b ∧ SqT K H a xs ∧ SqT K H b ys ∧ xs.length + ys.length ≤ sizeLine ∧
  (xs = [] → Q (.ref b) H) ∧ (xs ≠ [] → ys = [] → Q (.ref a) H) ∧ (xs ≠ [] → ys ≠ [] → ∀ (p : Addr) (o : Obj), H p = none → o.dict = none → Q (.ref p) (upd H p (.frz o (.tup (xs ++ ys)))))
theorem op_catD : OpR X (binaryOp .Add) (rCatD X.K) := by
  intro pins s σ H x y v u Q I rx ry ⟨a, b, xs, ys, ex, ey, ha, hb, hz, q0, q1, q2⟩
  subst ex ey
  by_cases hx : xs = []
  · exact op_catA pins s σ H _ _ v u Q I rx ry ⟨a, b, xs, ys, rfl, rfl, ha, hb, hz, q0, fun z => absurd hx z, fun z => absurd hx z⟩
  · by_cases hy : ys = []
    · exact op_catA pins s σ H _ _ v u Q I rx ry ⟨a, b, xs, ys, rfl, rfl, ha, hb, hz, fun z => absurd z hx, q1, fun _ z => absurd hy z⟩
    · cases rx
      cases ry
      obtain ⟨i1, r1, p1, _⟩ := I.tuple ha
      obtain ⟨i2, r2, p2, _⟩ := I.tuple hb
      refine HT.cat_tup p1 p2 (fun z => hx (r1.nil_iff.mp z)) (fun z => absurd (r2.nil_iff.mp z) hy) (fun _ => ?_) (by have := r1.length; have := r2.length; omega)
      exact ⟨.ref s.heap.objs.size, _, I.laid (t' := s.toks) (fun b ob k => Heap.get?_push_of_some _ k) (Nat.le_refl _) (frz_new (xs := xs ++ ys) (its := i1 ++ i2) (by rw [List.length_append]; exact hz) (r1.append r2)), rfl, q2 hx hy _ _ (I.hok.fresh (Nat.le_refl _)) rfl⟩
/-- tuple(xs) of a list -/
def rTupD (K : PySem.W.Frag) : List V → Hp → VK → Prop := fun xs H Q => ∃ p ys, xs = [.ref p] ∧ SqL K H p ys ∧ ∀ (l : Addr) (o : Obj), H l = none → o.dict = none → Q (.ref l) (upd H l (.frz o (.tup ys)))
theorem call_tupD : CallR X (.type "tuple") (rTupD X.K) := by
  intro pins s σ H xs us Q I r ⟨p, ys, ex, hq, q⟩
  subst ex
  obtain ⟨u, rfl, rx⟩ := vals1 r
  cases rx
  obtain ⟨its, rv, pl, hz⟩ := I.list hq
  have hl := rv.length
  refine call_tuple_list pl.isList (fun h' kp => ?_) (by rw [List.size_toArray]; omega)
  have I1 : Inv X pins σ H { s with heap := h' } := I.kept (t' := s.toks) kp
  exact ⟨.ref h'.objs.size, _, I1.laid (t' := s.toks) (fun b o k => Heap.get?_push_of_some _ k) (Nat.le_refl _) (frz_new (h := h') hz rv), rfl, q _ _ (I1.hok.fresh (Nat.le_refl _)) rfl⟩
end
end ST
namespace ST
open PySem PySem.Spec PyProof.Rows L2
section
variable {P : Program} {w : World} {K : PySem.W.Frag} {mg : Str → Option Value} {base : Heap}
/-! ### is_leaf -/
def PT.isL : PT → Bool
  | .leaf _ => true
  | .node _ _ => false
theorem sc19 : FnScope ["tree"] ["tree"] (defScope (topS 19)) := ⟨rfl, rfl, rfl, by decide +kernel, rfl, by decide +kernel, by decide +kernel⟩
def spLeaf : Sp := fun vs H Q _ => ∃ v t, vs = [v] ∧ Tr H v t ∧ Q (.bl t.isL) H
theorem cl_leaf (D : Dfn K mg 19 "is_leaf") (B : Bt mg) : Cl P w K mg base 1 "is_leaf" ["tree"] spLeaf := by
  refine D.cl sc19 (fun _ _ _ _ _ _ us hl => match us, hl with | [_], _ => rfl) (fun vs H Q E h => ?_) (fun f cdv A outer s H vs Q E hr h => ?_)
  · obtain ⟨v, t, rfl, _⟩ := h; rfl
  obtain ⟨v, t, rfl, ht, q⟩ := h
  refine ⟨_, pss_one (ps_ret (pe_callB call_isi rfl B.isi (by decide +kernel) (pa_cons (pv 0) (pa_cons (pe_bltn rfl B.int (by decide +kernel) (v := .ty "int") rfl) pa_nil)))), ?_⟩
  cases t with
  | leaf g =>
    rw [tr_leaf.mp ht]
    exact ⟨_, rfl, _, _, _, _, true, rfl, .ty "int", .base (.int g), kit_ty (by decide +kernel), q⟩
  | node r bs =>
    obtain ⟨a, b, xs, rfl, ha, hb, hx⟩ := tr_node.mp ht
    exact ⟨_, rfl, _, _, _, _, false, rfl, .ty "int", tyx_tup ha, kit_ty (by decide +kernel), q⟩
end
end ST
namespace ST
open PySem PySem.Spec PyProof.Rows L2
section
variable {P : Program} {w : World} {K : PySem.W.Frag} {mg : Str → Option Value} {base : Heap}
/-! ### guests_of -/
theorem sc20 : FnScope ["tree", "found", "branch"] ["tree"] (defScope (topS 20)) := ⟨rfl, rfl, rfl, by decide +kernel, rfl, by decide +kernel, by decide +kernel⟩
def spGuests (d : Nat) : Sp := fun vs H Q _ => ∃ v t, vs = [v] ∧ Tr H v t ∧ t.dp < d ∧ t.gs.length ≤ 1000 ∧ ∀ p H', Same H H' → H p = none → H' p = some (.lst (t.gs.map V.int)) → Q (.ref p) H'
theorem gsL_take_le {bs : List PT} (i : Nat) : (PT.gsL (bs.take i)).length ≤ (PT.gsL bs).length := by
  have : PT.gsL bs = PT.gsL (bs.take i) ++ PT.gsL (bs.drop i) := by rw [← PT.gsL_append, List.take_append_drop]
  rw [this, List.length_append]; omega
theorem gsL_snoc {bs : List PT} {i : Nat} {b : PT} (h : bs[i]? = some b) : PT.gsL (bs.take (i + 1)) = PT.gsL (bs.take i) ++ PT.gs b := by
  rw [List.take_add_one, h, PT.gsL_append]; simp
theorem cl_guests (D : Dfn K mg 20 "guests_of") (B : Bt mg) (cL : Cl P w K mg base 1 "is_leaf" ["tree"] spLeaf) : ∀ d, Cl P w K mg base (d + 1) "guests_of" ["tree"] (spGuests d)
  | 0 => D.void (fun _ _ _ _ _ _ us hl => match us, hl with | [_], _ => rfl) fun vs H Q E ⟨_, _, _, _, h, _⟩ => absurd h (Nat.not_lt_zero _)
  | d + 1 => by
    have cS := cl_guests D B cL d
    refine D.cl sc20 (fun _ _ _ _ _ _ us hl => match us, hl with | [_], _ => rfl) (fun vs H Q E h => ?_) (fun f cdv A outer s H vs Q E hr h => ?_)
    · obtain ⟨v, t, rfl, _⟩ := h; rfl
    obtain ⟨v, t, rfl, ht, hd, hz, q⟩ := h
    refine ⟨_, pss_cons (ps_if (pt_val (pe_cl cL hr (by omega) rfl (pa_cons (pv 0) pa_nil))) (pss_one (ps_ret (pe_lst (pa_cons (pv 0) pa_nil)))) pss_nil)
      (pss_cons (ps_set (i := 1) sc20.nd rfl (.inl rfl) (pe_lst pa_nil))
      (pss_cons (ps_for PassesOwn.never rfl (pi_tup (pe_ix ix_tup (pv 0) pe_int (fun _ _ => rfl))) (pg_name (i := 2) sc20.nd rfl (.inl rfl))
        (pss_one (ps_expr (pe_bm PySem.F.plainAttrs_list PySem.F.slot_list_extend PySem.F.type_list_extend mt_extend (pv 1) (pa_cons (pe_cl cS hr (Nat.le_refl _) rfl (pa_cons (pv 2) pa_nil)) pa_nil)))))
      (pss_one (ps_ret (pv 1))))), ?_⟩
    refine ⟨_, rfl, _, t, rfl, ht, _, rfl, ?_⟩
    cases t with
    | leaf g =>
      refine iteT ?_
      refine ⟨_, rfl, (by show 1 ≤ sizeLine; decide), fun p hp => ?_⟩
      rw [tr_leaf.mp ht]
      exact q p _ (same_new hp) hp (by rw [upd_same]; simp)
    | node r bs =>
      refine iteF ?_
      obtain ⟨a, b, xs, rfl, ha, hb, hx⟩ := tr_node.mp ht
      refine ⟨Nat.zero_le _, fun l nl => ?_⟩
      have g0 : Same H (upd H l (.lst [])) := same_new nl
      refine ⟨_, rfl, a, _, _, _, rfl, rfl, g0.sqT ha, rfl, b, rfl, ⟨_, g0.sqT hb⟩, ?_⟩
      have hlen : xs.length = bs.length := by rw [hx.len, List.length_map]
      refine for_tup (K := K) (xs := xs) (fun i σ H' => Same H H' ∧ H' l = some (.lst ((PT.gsL (bs.take i)).map V.int)) ∧ ∃ z, σ = [some (.ref a), some (.ref l), z]) ⟨g0, by rw [upd_same]; simp, _, rfl⟩ (fun i σ H' _ h => h.1.sqT hb) (fun i x σ H' hi h => ?_) (fun σ H' h => ?_)
      · obtain ⟨g1, e1, z, rfl⟩ := h
        obtain ⟨dt, e2, hfz⟩ := (hx.same g1).get hi
        rw [List.getElem?_map] at e2
        obtain ⟨c, hc, rfl⟩ := Option.map_eq_some_iff.mp e2
        have hcm : c ∈ bs := List.mem_of_getElem? hc
        have hle : (PT.gsL (bs.take (i + 1))).length ≤ 1000 := Nat.le_trans (gsL_take_le _) (by simpa using hz)
        rw [gsL_snoc hc, List.length_append] at hle
        refine ⟨_, rfl, .inl ⟨rfl, _, SqL.of e1⟩, _, rfl, x, c, rfl, hfz, ?_, by omega, fun p H2 g2 np hp => ?_⟩
        · have := PT.dp_br (r := r) hcm
          omega
        · refine ⟨l, p, _, _, rfl, rfl, g2 _ _ e1, hp, ?_, same_mut (g1.trans g2) nl, ?_, _, rfl⟩
          · rw [List.length_map, List.length_map]; exact big_ok (by omega)
          · rw [upd_same, gsL_snoc hc, List.map_append]
      · obtain ⟨g1, e1, z, rfl⟩ := h
        rw [hlen, List.take_length] at e1
        exact ⟨_, rfl, q l _ g1 nl (by simpa using e1)⟩
end
end ST
namespace ST
open PySem PySem.Spec PyProof.Rows L2
section
variable {P : Program} {w : World} {K : PySem.W.Frag} {mg : Str → Option Value} {base : Heap}
/-! ### whole numbers, guests -/
theorem sc8 : FnScope ["thing"] ["thing"] (defScope (topS 8)) := ⟨rfl, rfl, rfl, by decide +kernel, rfl, by decide +kernel, by decide +kernel⟩
def spWhole : Sp := fun vs H Q _ => ∃ i : Int, vs = [.int i] ∧ Q (.bl true) H
theorem cl_whole (D : Dfn K mg 8 "is_whole") (B : Bt mg) : Cl P w K mg base 1 "is_whole" ["thing"] spWhole := by
  refine D.cl sc8 (fun _ _ _ _ _ _ us hl => match us, hl with | [_], _ => rfl) (fun vs H Q E h => ?_) (fun f cdv A outer s H vs Q E hr h => ?_)
  · obtain ⟨i, rfl, _⟩ := h; rfl
  obtain ⟨i, rfl, q⟩ := h
  refine ⟨_, pss_one (ps_ret (pe_and (pe_callB call_isi rfl B.isi (by decide +kernel) (pa_cons (pv 0) (pa_cons (pe_bltn rfl B.int (by decide +kernel) (v := .ty "int") rfl) pa_nil)))
    (pe_one (pe_not (pe_callB call_isi rfl B.isi (by decide +kernel) (pa_cons (pv 0) (pa_cons (pe_bltn rfl B.bool (by decide +kernel) (v := .ty "bool") rfl) pa_nil))))))), ?_⟩
  refine ⟨_, rfl, _, _, _, _, true, rfl, .ty "int", .base (.int i), kit_ty (by decide +kernel), true, rfl, iteT ?_⟩
  exact ⟨_, rfl, _, _, _, _, false, rfl, .ty "bool", .base (.int i), kit_ty (by decide +kernel), false, rfl, q⟩
theorem sc9 : FnScope ["n", "thing"] ["n", "thing"] (defScope (topS 9)) := ⟨rfl, rfl, rfl, by decide +kernel, rfl, by decide +kernel, by decide +kernel⟩
def spGuest : Sp := fun vs H Q _ => ∃ n g : Int, vs = [.int n, .int g] ∧ 0 ≤ g ∧ g < n ∧ Q (.bl true) H
theorem cl_guest (D : Dfn K mg 9 "is_guest") (B : Bt mg) (cW : Cl P w K mg base 1 "is_whole" ["thing"] spWhole) : Cl P w K mg base 2 "is_guest" ["n", "thing"] spGuest := by
  refine D.cl sc9 (fun _ _ _ _ _ _ us hl => match us, hl with | [_, _], _ => rfl) (fun vs H Q E h => ?_) (fun f cdv A outer s H vs Q E hr h => ?_)
  · obtain ⟨n, g, rfl, _⟩ := h; rfl
  obtain ⟨n, g, rfl, h0, h1, q⟩ := h
  refine ⟨_, pss_one (ps_ret (pe_and (pe_cl cW hr (Nat.le_refl _) rfl (pa_cons (pv 1) pa_nil)) (pe_one (pe_chain op_le op_lt pe_int (pv 1) (pv 0))))), ?_⟩
  refine ⟨_, rfl, g, rfl, true, rfl, iteT ?_⟩
  refine ⟨_, rfl, _, _, rfl, rfl, true, bl_t h0, iteT ?_⟩
  exact ⟨_, rfl, _, _, rfl, rfl, q_t h1 q⟩
theorem sc10 : FnScope ["n"] ["n"] (defScope (topS 10)) := ⟨rfl, rfl, rfl, by decide +kernel, rfl, by decide +kernel, by decide +kernel⟩
def spNeedG : Sp := fun vs H Q _ => ∃ n : Int, vs = [.int n] ∧ 1 ≤ n ∧ n ≤ 7 ∧ Q .non H
theorem cl_needG (D : Dfn K mg 10 "need_guests") (B : Bt mg) (cW : Cl P w K mg base 1 "is_whole" ["thing"] spWhole) : Cl P w K mg base 2 "need_guests" ["n"] spNeedG := by
  refine D.cl sc10 (fun _ _ _ _ _ _ us hl => match us, hl with | [_], _ => rfl) (fun vs H Q E h => ?_) (fun f cdv A outer s H vs Q E hr h => ?_)
  · obtain ⟨n, rfl, _⟩ := h; rfl
  obtain ⟨n, rfl, h0, h1, q⟩ := h
  refine ⟨_, pss_one (ps_if (PW.pt (pw_or (pt_not (pt_val (pe_cl cW hr (Nat.le_refl _) rfl (pa_cons (pv 0) pa_nil)))) (pw_or1 (pt_not (pt_chain op_le op_le pe_int (pv 0) (pe_gi rfl B.MG)))))) (pss_one ps_never) pss_nil), ?_⟩
  refine ⟨_, rfl, n, rfl, true, rfl, iteF ?_⟩
  refine ⟨_, rfl, _, _, rfl, rfl, true, bl_t h0, iteT ?_⟩
  exact ⟨_, _, rfl, rfl, true, bl_t h1, iteF q⟩
/-! ### parties -/
theorem sc11 : FnScope ["n", "thing", "one", "other"] ["n", "thing"] (defScope (topS 11)) := ⟨rfl, rfl, rfl, by decide +kernel, rfl, by decide +kernel, by decide +kernel⟩
/-- a party as the program wants it -/
structure PGd (n : Int) (p : List Int) : Prop where
  ne : p ≠ []
  rg : ∀ g ∈ p, 0 ≤ g ∧ g < n
  up : p.Pairwise (· < ·)
  le : p.length ≤ 1000
def spParty : Sp := fun vs H Q _ => ∃ (n : Int) (v : V) (p : List Int), vs = [.int n, v] ∧ Ro H v p ∧ PGd n p ∧ ∀ H', Same H H' → Q (.bl true) H'
theorem cut_from1 (xs : List V) : cutV xs (some 1) none = xs.drop 1 := by
  unfold cutV
  rw [show HT.sIx xs.length 0 (some 1) = min 1 xs.length from HT.sIx_nat xs.length 0 1, HT.sIx_none]
  cases xs with
  | nil => rfl
  | cons x r => simp
theorem walk_zipT {a b : Addr} {xs ys : List V} {n : Nat} (hn : n = min xs.length ys.length) : Walk (RZ.ItzT K a b) n (fun H => SqT K H a xs ∧ SqT K H b ys) (YPair (fun i => xs[i]?) (fun i => ys[i]?)) := by
  subst hn
  refine ⟨fun i _ hi q => ?_, fun _ q => ⟨xs, ys, q.1, q.2, by omega⟩, fun i H v H' _ q y => ?_⟩
  · have h1 : i < xs.length := by omega
    have h2 : i < ys.length := by omega
    exact ⟨xs, ys, xs[i], ys[i], q.1, q.2, by simp [h1], by simp [h2]⟩
  · obtain ⟨T, x, z, h1, h2, h3, h4, h5⟩ := y
    exact ⟨T, x, z, h1, h2, h3, h4 xs q.1, h5 ys q.2⟩
theorem cl_party (D : Dfn K mg 11 "party_good") (B : Bt mg) (cG : Cl P w K mg base 2 "is_guest" ["n", "thing"] spGuest) : Cl P w K mg base 3 "party_good" ["n", "thing"] spParty := by
  refine D.cl sc11 (fun _ _ _ _ _ _ us hl => match us, hl with | [_, _], _ => rfl) (fun vs H Q E h => ?_) (fun f cdv A outer s H vs Q E hr h => ?_)
  · obtain ⟨n, v, p, rfl, _⟩ := h; rfl
  obtain ⟨n, v, p, rfl, ⟨a, rfl, ha⟩, hp, q⟩ := h
  refine ⟨_, pss_cons (ps_if (PW.pt (pw_or (pt_not (pt_val (pe_callB call_isi rfl B.isi (by decide +kernel) (pa_cons (pv 1) (pa_cons (pe_bltn rfl B.tuple (by decide +kernel) (v := .ty "tuple") rfl) pa_nil)))))
      (pw_or (pt_cmpR (op_eqD hr.units) (pv 1) (pe_tup pa_nil) (nomark _))
        (pw_or1 (pt_not (pt_val (pe_callB (cr_all rfl) rfl B.all (by decide +kernel) (pa_cons (pe_lc (own := [("one", 2)]) (g := gName 2) (tt := tYes) rfl sc11.nd (pi_tup (pv 1)) (blkOk_by (N := ["n", "thing", "one", "other"]) (sc := defScope (topS 11)) (by decide +kernel))
          (fun _ _ _ _ _ => pg_name (i := 2) sc11.nd rfl (Or.inl rfl)) (fun _ _ _ _ _ => pts_nil) (fun _ _ _ _ _ => pe_cl cG hr (Nat.le_refl _) rfl (pa_cons (pv 0) (pa_cons (pv 2) pa_nil)))) pa_nil))))))))
      (pss_one (ps_ret pe_bl)) pss_nil)
    (pss_one (ps_ret (pe_callB (cr_all rfl) rfl B.all (by decide +kernel) (pa_cons (pe_lc (own := [("one", 2), ("other", 3)]) (g := gTup K 2 (gCons (gName 2) (gCons (gName 3) gNil))) (tt := tYes) rfl sc11.nd (RZ.pi_zipA rfl B.zip (pa_cons (pv 1) (pa_cons (pe_slice sl_tupA (pv 1) (po_some pe_int) po_none) pa_nil)))
        (blkOk_by (N := ["n", "thing", "one", "other"]) (sc := defScope (topS 11)) (by decide +kernel))
        (fun _ _ _ _ _ => pg_tup rfl (pgs_cons (pg_name (i := 2) sc11.nd rfl (Or.inl rfl)) (pgs_cons (pg_name (i := 3) sc11.nd rfl (Or.inl rfl)) pgs_nil))) (fun _ _ _ _ _ => pts_nil) (fun _ _ _ _ _ => pe_cmpR op_lt (pv 2) (pv 3) (nomark _))) pa_nil)))), ?_⟩
  have hlen : (p.map V.int).length = p.length := List.length_map _
  refine ⟨_, rfl, _, _, _, _, true, rfl, .ty "tuple", tyx_tup ha, kit_ty (by decide +kernel), true, rfl, iteF ?_⟩
  refine ⟨_, rfl, Nat.zero_le _, fun t nt => ?_⟩
  have g1 : Same H (upd H t (.tup [])) := same_new nt
  refine ⟨.tuple (p.map .int), .tuple [], Fz.dp K _ _ (ro_fz.mpr ⟨a, rfl, g1.rd ha⟩), Dp.tup (SqT.of upd_same) .nil, ?_, by decide +kernel, false, ?_, iteF ?_⟩
  · have : PyData.canLayAll0 (p.map .int) = true ∧ PyData.depthAll (p.map .int) = 0 := by
      clear hp hlen ha
      induction p with
      | nil => exact ⟨rfl, rfl⟩
      | cons x p ih =>
        have := ih
        simp only [List.map_cons, PyData.canLayAll0, PyData.depthAll, PyData.canLay0, PyData.depth]
        exact ⟨by rw [ih.1]; rfl, by rw [ih.2]; rfl⟩
    unfold SeqAt.shaped
    refine Bool.and_eq_true_iff.mpr ⟨by simp only [PyData.canLay0]; exact this.1, decide_eq_true ?_⟩
    simp only [PyData.depth]; rw [this.2]; decide
  · cases p with
    | nil => exact absurd rfl hp.ne
    | cons x p => simp [PyData.eqv, PyData.eqvAll]
  refine ⟨_, rfl, a, rfl, ⟨_, g1.sqT ha⟩, fun D hD => ?_⟩
  refine lc_fz1 (walk_tup (K := K) (a := a) (xs := p.map V.int)) hD (fun H2 g2 => g2.sqT (g1.rd ha)) yat_same (fun _ => rfl) (fun _ => .bool true) (by rw [hlen]; have := hp.le; omega) (fun i x H2 H3 H4 hi g2 y g3 Ky hk => ?_) (fun H2 g2 hL => ?_)
  · obtain ⟨rfl, hx⟩ := y
    rw [List.getElem?_map] at hx
    obtain ⟨z, hz, rfl⟩ := Option.map_eq_some_iff.mp hx
    have := hp.rg z (List.mem_of_getElem? hz)
    exact ⟨_, rfl, _, rfl, n, z, rfl, this.1, this.2, hk _ _ (Same.refl _) (.bl true)⟩
  · rw [gvn_all] at hL
    have e1 : (List.range (p.map V.int).length).map (fun _ => PyData.bool true) = ((List.range (p.map V.int).length).map fun _ => true).map .bool := by rw [List.map_map]; rfl
    rw [e1] at hL
    have hb := hL.bools
    refine ⟨D, _, rfl, SqL.of hb, true, ?_, iteF ?_⟩
    · have : ((List.range (p.map V.int).length).map fun _ => true).all id = true := List.all_eq_true.mpr fun b hb => by
        obtain ⟨_, _, rfl⟩ := List.mem_map.mp hb; rfl
      rw [this]
    have ha2 : Rd H2 a (.tup (p.map V.int)) := g2.rd (g1.rd ha)
    have h1 : 1 ≤ (p.map V.int).length := by rw [hlen]; exact List.length_pos_iff.mpr hp.ne
    have eL : min 1 (p.map V.int).length = 1 := by omega
    have ew : ¬ (HT.sIx (p.map V.int).length 0 (some 1) = 0 ∧ HT.sIx (p.map V.int).length (p.map V.int).length none = (p.map V.int).length) := by
      rw [show HT.sIx (p.map V.int).length 0 (some 1) = min 1 (p.map V.int).length from HT.sIx_nat _ 0 1, eL]
      intro z; exact absurd z.1 (by decide)
    refine ⟨_, rfl, _, rfl, 1, rfl, a, _, rfl, .inl ha2, fun z => absurd z ew, fun _ c nc => ?_⟩
    rw [cut_from1]
    have g3 : Same H2 (upd H2 c (.tup ((p.map V.int).drop 1))) := same_new nc
    refine ⟨a, c, _, _, rfl, .inr ⟨g3.sqT ha2, SqT.of upd_same, fun D2 nD => ?_⟩⟩
    have hmin : min (p.map V.int).length ((p.map V.int).drop 1).length = p.length - 1 := by rw [List.length_drop, hlen]; omega
    refine lc_it (walk_zipT (K := K) (a := a) (b := c) (xs := p.map V.int) (ys := (p.map V.int).drop 1) hmin.symm) (g := gTup K 2 (gCons (gName 2) (gCons (gName 3) gNil)))
      (fun i H4 => Same (upd H2 c (.tup ((p.map V.int).drop 1))) H4 ∧ H4 D2 = some (.lst ((List.replicate i true).map V.bl))) ⟨same_new nD, by rw [upd_same]; rfl⟩ (fun i H4 _ h => ⟨h.1.sqT (g3.rd ha2), SqT.of (h.1 _ _ upd_same)⟩) (fun i x H4 H5 hi h y => ?_) (fun H4 h => ?_)
    · obtain ⟨g4, e4⟩ := h
      obtain ⟨T, x1, x2, rfl, nT, rfl, y1, y2⟩ := y
      replace y1 : (p.map V.int)[i]? = some x1 := y1
      replace y2 : ((p.map V.int).drop 1)[i]? = some x2 := y2
      rw [List.getElem?_map] at y1
      obtain ⟨z1, hz1, rfl⟩ := Option.map_eq_some_iff.mp y1
      rw [List.getElem?_drop, List.getElem?_map] at y2
      obtain ⟨z2, hz2, rfl⟩ := Option.map_eq_some_iff.mp y2
      have lt : z1 < z2 := by
        obtain ⟨k1, rfl⟩ := List.getElem?_eq_some_iff.mp hz1
        obtain ⟨k2, rfl⟩ := List.getElem?_eq_some_iff.mp hz2
        exact List.pairwise_iff_getElem.mp hp.up i (1 + i) k1 k2 (by omega)
      refine ⟨T, _, rfl, SqT.of upd_same, rfl, _, _, rfl, _, _, rfl, rfl, rfl, ?_⟩
      refine ⟨_, rfl, _, rfl, _, _, rfl, rfl, ?_⟩
      have e5 : (upd H4 T (.tup [V.int z1, V.int z2])) D2 = some (.lst ((List.replicate i true).map V.bl)) := by
        rw [upd_ne (ne_of_none e4 nT)]; exact e4
      refine ⟨_, e5, big_lt ?_, ?_, ?_⟩
      · rw [List.length_map, List.length_replicate]; have := hp.le; omega
      · exact same_mut (g4.trans (same_new nT)) nD
      · rw [upd_same, List.replicate_succ', List.map_append]
        show some (HO.lst (_ ++ [V.bl (decide (z1 < z2))])) = _
        rw [decide_eq_true lt]; rfl
    · obtain ⟨g4, e4⟩ := h
      refine ⟨D2, _, rfl, SqL.of e4, ?_⟩
      have : (List.replicate (p.length - 1) true).all id = true := List.all_eq_true.mpr fun b hb => by
        rw [(List.mem_replicate.mp hb).2]; rfl
      rw [this]
      exact q H4 (((g1.trans g2).trans g3).trans g4)
theorem sc12 : FnScope ["n", "thing", "one"] ["n", "thing"] (defScope (topS 12)) := ⟨rfl, rfl, rfl, by decide +kernel, rfl, by decide +kernel, by decide +kernel⟩
/-- parties as the program wants them -/
structure PsGd (n : Int) (ps : List (List Int)) : Prop where
  le : ps.length ≤ 8
  ok : ∀ p ∈ ps, PGd n p
def spParties : Sp := fun vs H Q _ => ∃ (n : Int) (a : Addr) (ps : List (List Int)), vs = [.int n, .ref a] ∧ Ls H a (ps.map eP) ∧ PsGd n ps ∧ ∀ H', Same H H' → Q (.bl true) H'
theorem cl_parties (D : Dfn K mg 12 "parties_good") (B : Bt mg) (cP : Cl P w K mg base 3 "party_good" ["n", "thing"] spParty) : Cl P w K mg base 4 "parties_good" ["n", "thing"] spParties := by
  refine D.cl sc12 (fun _ _ _ _ _ _ us hl => match us, hl with | [_, _], _ => rfl) (fun vs H Q E h => ?_) (fun f cdv A outer s H vs Q E hr h => ?_)
  · obtain ⟨n, v, p, rfl, _⟩ := h; rfl
  obtain ⟨n, a, ps, rfl, ⟨xs, ha, hx⟩, hp, q⟩ := h
  refine ⟨_, pss_one (ps_ret (pe_and (pe_callB call_isi rfl B.isi (by decide +kernel) (pa_cons (pv 1) (pa_cons (pe_bltn rfl B.list (by decide +kernel) (v := .ty "list") rfl) pa_nil)))
    (pe_and (pe_cmpR op_le (pe_callB call_len_seq rfl B.len PySem.boot_len (pa_cons (pv 1) pa_nil)) (pe_gi rfl B.MP) (nomark _))
    (pe_one (pe_callB (cr_all rfl) rfl B.all (by decide +kernel) (pa_cons (pe_lc (own := [("one", 2)]) (g := gName 2) (tt := tYes) rfl sc12.nd (pi_list (pv 1)) (blkOk_by (N := ["n", "thing", "one"]) (sc := defScope (topS 12)) (by decide +kernel))
          (fun _ _ _ _ _ => pg_name (i := 2) sc12.nd rfl (Or.inl rfl)) (fun _ _ _ _ _ => pts_nil) (fun _ _ _ _ _ => pe_cl cP hr (Nat.le_refl _) rfl (pa_cons (pv 0) (pa_cons (pv 2) pa_nil)))) pa_nil)))))), ?_⟩
  have hlen : xs.length = ps.length := by rw [hx.len, List.length_map]
  refine ⟨_, rfl, _, _, _, _, true, rfl, .ty "list", .base (.lst ha), kit_ty (by decide +kernel), true, rfl, iteT ?_⟩
  refine ⟨_, rfl, a, xs, rfl, .inl (SqL.of ha), _, _, rfl, rfl, true, bl_t (by rw [hlen]; have := hp.le; omega), iteT ?_⟩
  refine ⟨_, rfl, a, rfl, ⟨_, SqL.of ha⟩, fun D hD => ?_⟩
  refine lc_fz1 (walk_list (K := K) (a := a) (xs := xs)) hD (fun H2 g2 => SqL.of (g2 _ _ ha)) yat_same (fun _ => rfl) (fun _ => .bool true) (by rw [hlen]; have := hp.le; omega) (fun i x H2 H3 H4 hi g2 y g3 Ky hk => ?_) (fun H2 g2 hL => ?_)
  · obtain ⟨rfl, hxi⟩ := y
    obtain ⟨d, hd, fz⟩ := (hx.same (g2.trans g3)).get hxi
    rw [List.getElem?_map] at hd
    obtain ⟨p, hpi, rfl⟩ := Option.map_eq_some_iff.mp hd
    exact ⟨_, rfl, _, rfl, n, x, p, rfl, ro_fz.mp fz, hp.ok p (List.mem_of_getElem? hpi), fun H5 g5 => hk _ _ g5 (.bl true)⟩
  · rw [gvn_all] at hL
    have e1 : (List.range xs.length).map (fun _ => PyData.bool true) = ((List.range xs.length).map fun _ => true).map .bool := by rw [List.map_map]; rfl
    rw [e1] at hL
    refine ⟨D, _, rfl, SqL.of hL.bools, ?_⟩
    have : ((List.range xs.length).map fun _ => true).all id = true := List.all_eq_true.mpr fun b hb => by
      obtain ⟨_, _, rfl⟩ := List.mem_map.mp hb; rfl
    rw [this]
    exact q H2 g2
theorem sc13 : FnScope ["n", "parties"] ["n", "parties"] (defScope (topS 13)) := ⟨rfl, rfl, rfl, by decide +kernel, rfl, by decide +kernel, by decide +kernel⟩
def spNeedP : Sp := fun vs H Q _ => ∃ (n : Int) (a : Addr) (ps : List (List Int)), vs = [.int n, .ref a] ∧ 1 ≤ n ∧ n ≤ 7 ∧ Ls H a (ps.map eP) ∧ PsGd n ps ∧ ∀ H', Same H H' → Q .non H'
theorem cl_needP (D : Dfn K mg 13 "need_parties") (B : Bt mg) (cN : Cl P w K mg base 2 "need_guests" ["n"] spNeedG) (cP : Cl P w K mg base 4 "parties_good" ["n", "thing"] spParties) : Cl P w K mg base 5 "need_parties" ["n", "parties"] spNeedP := by
  refine D.cl sc13 (fun _ _ _ _ _ _ us hl => match us, hl with | [_, _], _ => rfl) (fun vs H Q E h => ?_) (fun f cdv A outer s H vs Q E hr h => ?_)
  · obtain ⟨n, a, ps, rfl, _⟩ := h; rfl
  obtain ⟨n, a, ps, rfl, h1, h7, hL, hp, q⟩ := h
  refine ⟨_, pss_cons (ps_expr (pe_cl cN hr (by omega) rfl (pa_cons (pv 0) pa_nil)))
    (pss_one (ps_if (pt_not (pt_val (pe_cl cP hr (Nat.le_refl _) rfl (pa_cons (pv 0) (pa_cons (pv 1) pa_nil))))) (pss_one ps_never) pss_nil)), ?_⟩
  refine ⟨_, rfl, n, rfl, h1, h7, _, rfl, _, rfl, n, a, ps, rfl, hL, hp, fun H1 g1 => ⟨true, rfl, iteF (q H1 g1)⟩⟩
end
end ST
namespace ST
open PySem PySem.Spec PyProof.Rows L2
section
variable {P : Program} {w : World} {K : PySem.W.Frag} {mg : Str → Option Value} {base : Heap}
/-! ### sitting together -/
theorem at_neg1 {xs : List V} {v : V} (h : xs.getLast? = some v) : atI xs (-1) = some v := by
  obtain ⟨ys, rfl⟩ : ∃ ys, xs = ys ++ [v] := by
    rcases List.eq_nil_or_concat xs with rfl | ⟨ys, z, rfl⟩
    · simp at h
    · simp at h; subst h; exact ⟨ys, by simp⟩
  exact atI_last ys v
theorem sc14 : FnScope ["seating", "party", "places", "guest"] ["seating", "party"] (defScope (topS 14)) := ⟨rfl, rfl, rfl, by decide +kernel, rfl, by decide +kernel, by decide +kernel⟩
def spSits : Sp := fun vs H Q _ => ∃ (sv pv : V) (s p : List Int), vs = [sv, pv] ∧ RoD H sv s ∧ Ro H pv p ∧ s.Nodup ∧ p.Nodup ∧ p ≠ [] ∧ (∀ g ∈ p, g ∈ s) ∧ Cv (PT.In p) s ∧ p.length ≤ 1000 ∧ ∀ H', Same H H' → Q (.bl true) H'
/-- the sorted places of a block -/
theorem block_places {c : List Int} {x : Nat} (h : c ≠ []) : ∃ m, c.length = m + 1 ∧ ((List.range c.length).map fun i => ((x + i : Nat) : Int))[0]? = some (x : Int) ∧ ((List.range c.length).map fun i => ((x + i : Nat) : Int)).getLast? = some ((x + m : Nat) : Int) ∧ ((List.range c.length).map fun i => ((x + i : Nat) : Int)).length = m + 1 := by
  obtain ⟨m, hm⟩ : ∃ m, c.length = m + 1 := ⟨c.length - 1, by have := List.length_pos_iff.mpr h; omega⟩
  refine ⟨m, hm, ?_, ?_, by simp [hm]⟩
  · rw [hm]; simp
  · rw [hm, List.range_succ]; simp
theorem cl_sits (D : Dfn K mg 14 "sits") (B : Bt mg) : Cl P w K mg base 1 "sits" ["seating", "party"] spSits := by
  refine D.cl sc14 (fun _ _ _ _ _ _ us hl => match us, hl with | [_, _], _ => rfl) (fun vs H Q E h => ?_) (fun f cdv A outer s H vs Q E hr h => ?_)
  · obtain ⟨_, _, _, _, rfl, _⟩ := h; rfl
  obtain ⟨sv, pv', s, p, rfl, ⟨a, oa, rfl, hda, ha⟩, ⟨b, rfl, hb⟩, ns, np, hne, sub, cv, hle, q⟩ := h
  refine ⟨_, pss_cons (ps_set (i := 2) sc14.nd rfl (.inl rfl) (pe_callB cr_sortedI rfl B.sorted (by decide +kernel) (pa_cons
      (pe_lc (own := [("guest", 3)]) (g := gName 3) (tt := tYes) (te := tBMT (rTix K) (tVar 0) (tCons (tVar 3) tNil)) rfl sc14.nd (pi_tup (pv 1)) (blkOk_by (N := ["seating", "party", "places", "guest"]) (sc := defScope (topS 14)) (by decide +kernel))
          (fun _ _ _ _ _ => pg_name (i := 3) sc14.nd rfl (Or.inl rfl)) (fun _ _ _ _ _ => pts_nil) (fun _ _ _ _ _ => pe_bmT PySem.F.slot_tuple_index PySem.F.type_tuple_index mt_tix (pv 0) (pa_cons (pv 3) pa_nil))) pa_nil)))
    (pss_one (ps_ret (pe_cmpR op_eq (pe_op op_sub (pe_ix ix_list (pv 2) (pe_un un_neg pe_int) (fun _ _ => rfl)) (pe_ix ix_list (pv 2) pe_int (fun _ _ => rfl))) (pe_op op_sub (pe_callB call_len_seq rfl B.len PySem.boot_len (pa_cons (pv 1) pa_nil)) pe_int) (nomark _)))), ?_⟩
  have hlen : (p.map V.int).length = p.length := List.length_map _
  refine ⟨_, rfl, b, rfl, ⟨_, .inl hb⟩, fun D hD => ?_⟩
  refine lc_fz1 (walk_tup (K := K) (a := b) (xs := p.map V.int)) hD (fun H2 g2 => g2.sqT hb) yat_same (fun _ => rfl) (fun i => (p[i]?.map fun g => PyData.int (s.idxOf g : Nat)).getD .none) (by rw [hlen]; omega) (fun i x H2 H3 H4 hi g2 y g3 Ky hk => ?_) (fun H2 g2 hL => ?_)
  · obtain ⟨rfl, hx⟩ := y
    rw [List.getElem?_map] at hx
    obtain ⟨z, hz, rfl⟩ := Option.map_eq_some_iff.mp hx
    have hs4 : H4 a = some (.frz oa (.tup (s.map V.int))) := g3 _ _ (g2 _ _ ha)
    refine ⟨_, rfl, ⟨a, oa, _, rfl, hda, hs4⟩, _, rfl, a, s, z, rfl, rfl, .inl (.inr ⟨oa, hs4⟩), sub z (List.mem_of_getElem? hz), hk _ _ (Same.refl _) ?_⟩
    rw [hz]; exact .int _
  · rw [hlen, gvn_list] at hL
    have e1 : p.map (fun g => PyData.int (s.idxOf g : Nat)) = (p.map fun g => (s.idxOf g : Int)).map .int := by rw [List.map_map]; rfl
    rw [e1, Ls.ints] at hL
    refine ⟨D, _, rfl, SqL.of hL, fun places pl hperm hsort npl => ?_⟩
    obtain ⟨x, c, y, rfl, qc⟩ := cv_block ns np sub cv
    have eP := places_block ns qc hperm hsort
    have hcne : c ≠ [] := fun e => hne (by rw [e] at qc; exact List.nil_perm.mp qc)
    obtain ⟨m, hm, e0, eZ, _⟩ := block_places (x := x.length) hcne
    rw [← eP] at e0 eZ
    have g3 : Same H2 (upd H2 pl (.lst (places.map V.int))) := same_new npl
    refine ⟨_, rfl, 1, rfl, pl, _, _, _, rfl, rfl, SqL.of upd_same, at_neg1 (v := V.int ((x.length + m : Nat) : Int)) (by rw [List.getLast?_map, eZ]; rfl), _, rfl, pl, _, _, _, rfl, rfl, SqL.of upd_same, atI_nat (j := 0) (v := V.int (x.length : Int)) (by rw [List.getElem?_map, e0]; rfl), _, _, rfl, rfl, ?_⟩
    refine ⟨_, rfl, b, _, rfl, .inr (g3.sqT (g2.rd hb)), _, _, rfl, rfl, rfl, ?_⟩
    have hpl : p.length = m + 1 := by rw [← qc.length_eq, hm]
    have : V.int (((x.length + m : Nat) : Int) - (x.length : Int)) = V.int (((p.map V.int).length : Int) - 1) := by
      rw [hlen, hpl]; congr 1; omega
    exact q_t this (q _ (g2.trans g3))
theorem sc15 : FnScope ["n", "parties", "seating", "number", "party"] ["n", "parties", "seating"] (defScope (topS 15)) := ⟨rfl, rfl, rfl, by decide +kernel, rfl, by decide +kernel, by decide +kernel⟩
def spBroken : Sp := fun vs H Q _ => ∃ (n : Int) (a : Addr) (sv : V) (ps : List (List Int)) (s : List Int), vs = [.int n, .ref a, sv] ∧ 1 ≤ n ∧ n ≤ 7 ∧ Ls H a (ps.map eP) ∧ PsGd n ps ∧ RoD H sv s ∧ s.Nodup ∧ (∀ p ∈ ps, (∀ g ∈ p, g ∈ s) ∧ Cv (PT.In p) s) ∧ ∀ H', Same H H' → Q .non H'
theorem PGd.nd {n : Int} {p : List Int} (h : PGd n p) : p.Nodup := h.up.imp fun h e => by omega
theorem cl_broken (D : Dfn K mg 15 "first_broken") (B : Bt mg) (cN : Cl P w K mg base 5 "need_parties" ["n", "parties"] spNeedP) (cS : Cl P w K mg base 1 "sits" ["seating", "party"] spSits) : Cl P w K mg base 6 "first_broken" ["n", "parties", "seating"] spBroken := by
  refine D.cl sc15 (fun _ _ _ _ _ _ us hl => match us, hl with | [_, _, _], _ => rfl) (fun vs H Q E h => ?_) (fun f cdv A outer s H vs Q E hr h => ?_)
  · obtain ⟨_, _, _, _, _, rfl, _⟩ := h; rfl
  obtain ⟨n, a, sv, ps, s, rfl, h1, h7, hL, hp, hs, nd, ok, q⟩ := h
  refine ⟨_, pss_cons (ps_expr (pe_cl cN hr (by omega) rfl (pa_cons (pv 0) (pa_cons (pv 1) pa_nil))))
    (pss_cons (ps_for PassesOwn.never rfl (pi_enum rfl B.enum (pa_cons (pv 1) pa_nil)) (pg_tup rfl (pgs_cons (pg_name (i := 3) sc15.nd rfl (.inl rfl)) (pgs_cons (pg_name (i := 4) sc15.nd rfl (.inl rfl)) pgs_nil)))
      (pss_one (ps_if (pt_not (pt_val (pe_cl cS hr (by omega) rfl (pa_cons (pv 2) (pa_cons (pv 4) pa_nil))))) (pss_one (ps_ret (pv 3))) pss_nil)))
    (pss_one (ps_ret pe_non))), ?_⟩
  refine ⟨_, rfl, _, rfl, n, a, ps, rfl, h1, h7, hL, hp, fun H1 g1 => ?_⟩
  obtain ⟨xs, ha, hx⟩ := hL.same g1
  have hlen : xs.length = ps.length := by rw [hx.len, List.length_map]
  refine ⟨_, rfl, a, xs, rfl, SqL.of ha, ?_⟩
  refine for_it (walk_enum (K := K) (a := a) (xs := xs)) (fun i σ H' => Same H1 H' ∧ ∃ y z, σ = [some (.int n), some (.ref a), some sv, y, z]) ⟨Same.refl _, _, _, rfl⟩ (fun i σ H' _ h => SqL.of (h.1 _ _ ha)) (fun i x σ H2 H3 hi h y => ?_) (fun σ H2 h => ?_)
  · obtain ⟨g2, u, z, rfl⟩ := h
    obtain ⟨T, x1, x2, rfl, nT, rfl, y1, y2⟩ := y
    replace y2 : xs[i]? = some x2 := y2
    have gT : Same H2 (upd H2 T (.tup [x1, x2])) := same_new nT
    obtain ⟨d, hd, fz⟩ := (hx.same (g2.trans gT)).get y2
    rw [List.getElem?_map] at hd
    obtain ⟨p, hpi, rfl⟩ := Option.map_eq_some_iff.mp hd
    have hpm := List.mem_of_getElem? hpi
    have pg := hp.ok p hpm
    refine ⟨T, _, rfl, SqT.of upd_same, rfl, _, _, rfl, _, _, rfl, rfl, ?_⟩
    refine ⟨_, rfl, _, rfl, sv, x2, s, p, rfl, hs.same ((g1.trans g2).trans gT), ro_fz.mp fz, nd, pg.nd, pg.ne, (ok p hpm).1, (ok p hpm).2, pg.le, fun H4 g4 => ?_⟩
    exact ⟨true, rfl, iteF ⟨(g2.trans gT).trans g4, _, _, rfl⟩⟩
  · obtain ⟨g2, y, z, rfl⟩ := h
    exact q H2 (g1.trans g2)
end
end ST
namespace ST
open PySem PySem.Spec PyProof.Rows L2
/-! ### rows in a list -/
inductive RwL (H : Hp) : List V → List (List Int) → Prop
  | nil : RwL H [] []
  | cons {v : V} {vs : List V} {r : List Int} {rs : List (List Int)} : RoD H v r → RwL H vs rs → RwL H (v :: vs) (r :: rs)
section
variable {H H' : Hp} {xs ys : List V} {rs ss : List (List Int)}
theorem RwL.len (k : RwL H xs rs) : xs.length = rs.length := by
  induction k with
  | nil => rfl
  | cons _ _ ih => rw [List.length_cons, List.length_cons, ih]
theorem RwL.append (k : RwL H xs rs) (k' : RwL H ys ss) : RwL H (xs ++ ys) (rs ++ ss) := by
  induction k with
  | nil => exact k'
  | cons a _ ih => exact .cons a ih
theorem RwL.get {i : Nat} {x : V} (k : RwL H xs rs) (h : xs[i]? = some x) : ∃ r, rs[i]? = some r ∧ RoD H x r := by
  induction k generalizing i with
  | nil => simp at h
  | cons a _ ih =>
    cases i with
    | zero => simp at h; subst h; exact ⟨_, rfl, a⟩
    | succ i => exact ih (i := i) (by simpa using h)
theorem RwL.mono (m : ∀ v r, RoD H v r → RoD H' v r) (k : RwL H xs rs) : RwL H' xs rs := by
  induction k with
  | nil => exact .nil
  | cons a _ ih => exact .cons (m _ _ a) ih
theorem RwL.same (g : Same H H') (k : RwL H xs rs) : RwL H' xs rs := k.mono fun _ _ => RoD.same g
theorem RoD.off {v : V} {r : List Int} {l : Addr} {zs : List V} {o : HO} (h : H l = some (.lst zs)) (k : RoD H v r) : RoD (upd H l o) v r := by
  obtain ⟨a, ob, e, d, f⟩ := k
  exact ⟨a, ob, e, d, by rw [upd_ne (ne_of f h (by intro z; cases z))]; exact f⟩
theorem RwL.off {l : Addr} {zs : List V} {o : HO} (h : H l = some (.lst zs)) (k : RwL H xs rs) : RwL (upd H l o) xs rs := k.mono fun _ _ => RoD.off h
theorem RwL.of : ∀ {bs : List (V × List Int)}, (∀ b ∈ bs, RoD H b.1 b.2) → RwL H (bs.map (·.1)) (bs.map (·.2))
  | [], _ => .nil
  | b :: bs, h => .cons (h b (by simp)) (RwL.of fun c hc => h c (by simp [hc]))
theorem RwL.zip (k : RwL H xs rs) : ∀ b ∈ xs.zip rs, RoD H b.1 b.2 := by
  induction k with
  | nil => intro b hb; cases hb
  | cons a _ ih =>
    intro b hb
    rw [List.zip_cons_cons] at hb
    rcases List.mem_cons.mp hb with rfl | hb
    · exact a
    · exact ih b hb
end
/-- a list of rows -/
def LR (H : Hp) (a : Addr) (rs : List (List Int)) : Prop := ∃ xs, H a = some (.lst xs) ∧ RwL H xs rs
theorem LR.same {H H' : Hp} {a : Addr} {rs : List (List Int)} (g : Same H H') (h : LR H a rs) : LR H' a rs := by
  obtain ⟨xs, e, k⟩ := h
  exact ⟨xs, g _ _ e, k.same g⟩
/-! ### sorted of rows -/
theorem each_of {rs : List (List Int)} : ∀ {xs : List V} {its : List Value}, Vals xs its → xs.length = rs.length → PySem.W.EachIs (fun v (b : V × List Int) => RelV b.1 v) its (xs.zip rs) := by
  induction rs with
  | nil =>
    intro xs its rv hl
    have : xs = [] := List.eq_nil_of_length_eq_zero hl
    subst this
    cases rv
    exact .nil
  | cons r rs ih =>
    intro xs its rv hl
    cases rv with
    | nil => simp at hl
    | cons a t => exact .cons a (ih t (by simpa using hl))
theorem vals_of_each : ∀ {out : List Value} {bs : List (V × List Int)}, PySem.W.EachIs (fun v (b : V × List Int) => RelV b.1 v) out bs → Vals (bs.map (·.1)) out
  | _, _, .nil => .nil
  | _, _, .cons a t => .cons a (vals_of_each t)
def rSortedR (K : PySem.W.Frag) : List V → Hp → VK → Prop := fun vs H Q => ∃ (a : Addr) (xs : List V) (rs : List (List Int)), vs = [.ref a] ∧ SqL K H a xs ∧ RwL H xs rs ∧ (∀ r ∈ rs, r ≠ []) ∧ xs.length ≤ 100000 ∧
  ∀ (ys : List V) (rs' : List (List Int)) (p : Addr), RwL H ys rs' → rs'.Perm rs → H p = none → Q (.ref p) (upd H p (.lst ys))
theorem cr_sortedR {X : Cx} (hu : X.A.units + 64 < cLine) : CallR X (.builtin "sorted") (rSortedR X.K) := by
  intro pins s σ H vs us Q I rv ⟨a, xs, rs, ev, hs, kr, hne, hz, q⟩
  subst ev
  obtain ⟨its, rx, hl, hz'⟩ := I.list hs
  obtain ⟨u, rfl, ru⟩ := vals1 rv
  cases ru
  have hlen := kr.len
  have e := each_of (rs := rs) rx hlen
  have hd : ∀ b : V × List Int, b ∈ xs.zip rs → ∃ x r, eP b.2 = .tuple (x :: r) := by
    intro b hb
    have hm := (List.of_mem_zip hb).2
    cases hr : b.2 with
    | nil => exact absurd hr (hne _ hm)
    | cons x r => exact ⟨.int x, r.map .int, rfl⟩
  refine PySem.W.sorted_data (β := V × List Int) (R := fun v b => RelV b.1 v) (enc := fun b => eP b.2) (bs := xs.zip rs) hl.isList e ?_ ?_ (.inl ?_) ?_ (fun b hb => ?_) (fun out hlo ho => ?_)
  · refine PySem.W.EachIs.mono ?_ (PySem.W.each_mem e)
    intro v b ⟨r1, hb⟩
    exact Dp.reads I _ _ _ (Fz.dp X.K _ _ (ro_fz.mpr (kr.zip b hb).ro)) r1
  · intro d hd d' hd'
    obtain ⟨b, _, rfl⟩ := List.mem_map.mp hd
    obtain ⟨b', _, rfl⟩ := List.mem_map.mp hd'
    show PySem.W.alike (.tuple _) (.tuple _) = true
    rw [PySem.W.alike]
    exact PySem.W.alike_ints _ _
  · intro d hdm
    obtain ⟨b, hb, rfl⟩ := List.mem_map.mp hdm
    exact hd b hb
  · rw [List.length_zip, ← hlen, Nat.min_self]; exact hz'
  · have : (eP b.2).depth = 1 := by
      unfold eP
      rw [PyData.depth, PySem.W.depth_ints]
    show X.A.units + 2 + (eP b.2).depth < cLine
    rw [this]; omega
  · have hb : ∀ b ∈ (xs.zip rs).mergeSort (PySem.W.dataLe false fun b => eP b.2), RoD H b.1 b.2 := fun b hb => kr.zip b ((List.mergeSort_perm _ _).mem_iff.mp hb)
    have k2 := RwL.of hb
    have qp : (((xs.zip rs).mergeSort (PySem.W.dataLe false fun b => eP b.2)).map (·.2)).Perm rs := by
      have := (List.mergeSort_perm (xs.zip rs) (PySem.W.dataLe false fun b => eP b.2)).map (·.2)
      rwa [List.map_snd_zip (by omega)] at this
    obtain ⟨n, hn⟩ := sortedAll_at s.heap its out.toArray
    have kp : ∀ b o, s.heap.get? b = some o → (sortedAll s.heap its out.toArray).get? b = some o := fun b o e => sortedAll_old e
    have hfr : s.heap.objs.size ≤ s.heap.objs.size + 1 := Nat.le_succ _
    refine ⟨.ref (s.heap.objs.size + 1), _, I.laid (t' := s.toks) (o := .lst (((xs.zip rs).mergeSort (PySem.W.dataLe false fun b => eP b.2)).map (·.1))) kp hfr ⟨?_, out, n, vals_of_each ho, hn⟩, rfl, q _ _ _ k2 qp (I.hok.fresh hfr)⟩
    rw [List.length_map, (List.mergeSort_perm _ _).length_eq, List.length_zip]
    exact Nat.le_trans (Nat.min_le_left _ _) (big_ok hz)
end ST
namespace ST
open PySem PySem.Spec PyProof.Rows L2
section
variable {P : Program} {w : World} {K : PySem.W.Frag} {mg : Str → Option Value} {base : Heap}
/-! ### how many rows -/
theorem kS_row (r : Bool) : decide (V.str (kS r) = V.str ("row" : Str)) = r := by
  cases r with
  | true => exact decide_eq_true rfl
  | false => exact decide_eq_false fun e => absurd (V.str.inj e) (by decide)
theorem kS_any (r : Bool) : decide (V.str (kS r) = V.str ("any" : Str)) = !r := by
  cases r with
  | false => exact decide_eq_true rfl
  | true => exact decide_eq_false fun e => absurd (V.str.inj e) (by decide)
theorem sc21 : FnScope ["tree", "found", "many"] ["tree"] (defScope (topS 21)) := ⟨rfl, rfl, rfl, by decide +kernel, rfl, by decide +kernel, by decide +kernel⟩
def turns (r : Bool) (k : Nat) : Nat := if r then 2 else PT.fact k
def spTurns : Sp := fun vs H Q _ => ∃ (v : V) (r : Bool) (bs : List PT), vs = [v] ∧ Tr H v (.node r bs) ∧ 1 ≤ bs.length ∧ bs.length ≤ 7 ∧ Q (.int (turns r bs.length : Nat)) H
theorem fact7 {k : Nat} (h : k ≤ 7) : PT.fact k ≤ 5040 := PT.fact_mono h
theorem cl_turns (D : Dfn K mg 21 "turns_of") (B : Bt mg) : Cl P w K mg base 1 "turns_of" ["tree"] spTurns := by
  refine D.cl sc21 (fun _ _ _ _ _ _ us hl => match us, hl with | [_], _ => rfl) (fun vs H Q E h => ?_) (fun f cdv A outer s H vs Q E hr h => ?_)
  · obtain ⟨_, _, _, rfl, _⟩ := h; rfl
  obtain ⟨v, r, bs, rfl, ht, h1, h7, q⟩ := h
  obtain ⟨a, b, xs, rfl, ha, hb, hx⟩ := tr_node.mp ht
  have hlen : xs.length = bs.length := by rw [hx.len, List.length_map]
  refine ⟨_, pss_cons (ps_if (pt_cmpR op_eq (pe_ix ix_tup (pv 0) pe_int (fun _ _ => rfl)) (pe_gs rfl B.ROW) (nomark _)) (pss_one (ps_ret pe_int)) pss_nil)
    (pss_cons (ps_set (i := 1) sc21.nd rfl (.inl rfl) pe_int)
    (pss_cons (ps_for PassesOwn.never rfl (pi_range2 rfl B.range (pa_cons pe_int (pa_cons (pe_op op_add (pe_callB call_len_seq rfl B.len PySem.boot_len (pa_cons (pe_ix ix_tup (pv 0) pe_int (fun _ _ => rfl)) pa_nil)) pe_int) pa_nil))) (pg_name (i := 2) sc21.nd rfl (.inl rfl))
      (pss_one (ps_set (i := 1) sc21.nd rfl (.inl rfl) (pe_op op_mul (pv 1) (pv 2)))))
    (pss_one (ps_ret (pv 1))))), ?_⟩
  refine ⟨_, rfl, a, _, _, _, rfl, rfl, .inl ha, rfl, rfl, _, rfl, ?_⟩
  rw [kS_row]
  cases r with
  | true => exact iteT q
  | false =>
    refine iteF ?_
    refine ⟨_, rfl, a, _, _, _, rfl, rfl, .inl ha, rfl, b, _, rfl, .inr (.inl hb), _, _, rfl, rfl, 2, _, rfl, ⟨by decide, by decide, ?_, ?_⟩, ?_⟩
    · rw [hlen]; omega
    · rw [hlen]; omega
    have en : (((xs.length : Nat) : Int) + 1 - 2).toNat = bs.length - 1 := by rw [hlen]; omega
    rw [en]
    refine for_range (lo := 2) (n := bs.length - 1) (fun i σ H' => H' = H ∧ ∃ z, σ = [some (.ref a), some (.int (PT.fact (i + 1) : Nat)), z]) ⟨rfl, _, rfl⟩ (fun i σ H' hi h => ?_) (fun σ H' h => ?_)
    · obtain ⟨rfl, z, rfl⟩ := h
      have hf : PT.fact (i + 1) ≤ 5040 := fact7 (by omega)
      refine ⟨_, rfl, _, rfl, _, _, rfl, rfl, .inl ⟨by omega, by omega⟩, rfl, some (V.int (2 + (i:Int))), ?_⟩
      have : PT.fact (i + 1 + 1) = (i + 1 + 1) * PT.fact (i + 1) := rfl
      have e : (PT.fact (i + 1) : Int) * (2 + (i : Int)) = ((PT.fact (i + 1 + 1) : Nat) : Int) := by
        rw [this, Int.natCast_mul, Int.mul_comm]; congr 1; omega
      show [some (V.ref a), some (V.int ((PT.fact (i + 1) : Int) * (2 + (i : Int)))), some (V.int (2 + (i : Int)))] = _
      rw [e]
    · obtain ⟨rfl, z, rfl⟩ := h
      have e1 : bs.length - 1 + 1 = bs.length := by omega
      rw [e1]
      exact ⟨_, rfl, q⟩
theorem sc23 : FnScope ["tree", "found", "branch"] ["tree"] (defScope (topS 23)) := ⟨rfl, rfl, rfl, by decide +kernel, rfl, by decide +kernel, by decide +kernel⟩
def spMany (d : Nat) : Sp := fun vs H Q _ => ∃ (v : V) (t : PT), vs = [v] ∧ Tr H v t ∧ t.dp < d ∧ PT.Wf t ∧ t.gs.length ≤ 7 ∧ Q (.int (t.many : Nat)) H
theorem gs_mem_le {b : PT} {bs : List PT} (h : b ∈ bs) : b.gs.length ≤ (PT.gsL bs).length := by
  obtain ⟨A, B, rfl⟩ := List.append_of_mem h
  simp only [PT.gsL_append, PT.gsL_cons, List.length_append]; omega
theorem br_le {bs : List PT} (w : ∀ b ∈ bs, PT.Wf b) : bs.length ≤ (PT.gsL bs).length := by
  induction bs with
  | nil => simp
  | cons b bs ih =>
    have := ih fun c hc => w c (by simp [hc])
    have := List.length_pos_iff.mpr (w b (by simp)).ne
    simp only [PT.gsL_cons, List.length_append, List.length_cons]; omega
theorem many_take {r : Bool} {bs : List PT} (i : Nat) : turns r bs.length * PT.manyL (bs.take i) ≤ PT.many (.node r bs) := by
  rw [PT.many_node]
  have : PT.manyL bs = PT.manyL (bs.take i) * PT.manyL (bs.drop i) := by rw [← PT.manyL_append, List.take_append_drop]
  rw [this, ← Nat.mul_assoc]
  exact Nat.le_mul_of_pos_right _ (PT.manyL_pos _)
theorem manyL_snoc {bs : List PT} {i : Nat} {b : PT} (h : bs[i]? = some b) : PT.manyL (bs.take (i + 1)) = PT.manyL (bs.take i) * PT.many b := by
  rw [List.take_add_one, h, PT.manyL_append]; simp
theorem cl_many (D : Dfn K mg 23 "many_of") (B : Bt mg) (cL : Cl P w K mg base 1 "is_leaf" ["tree"] spLeaf) (cT : Cl P w K mg base 1 "turns_of" ["tree"] spTurns) : ∀ d, Cl P w K mg base (d + 1) "many_of" ["tree"] (spMany d)
  | 0 => D.void (fun _ _ _ _ _ _ us hl => match us, hl with | [_], _ => rfl) fun vs H Q E ⟨_, _, _, _, h, _⟩ => absurd h (Nat.not_lt_zero _)
  | d + 1 => by
    have cS := cl_many D B cL cT d
    refine D.cl sc23 (fun _ _ _ _ _ _ us hl => match us, hl with | [_], _ => rfl) (fun vs H Q E h => ?_) (fun f cdv A outer s H vs Q E hr h => ?_)
    · obtain ⟨v, t, rfl, _⟩ := h; rfl
    obtain ⟨v, t, rfl, ht, hd, wt, hz, q⟩ := h
    refine ⟨_, pss_cons (ps_if (pt_val (pe_cl cL hr (by omega) rfl (pa_cons (pv 0) pa_nil))) (pss_one (ps_ret pe_int)) pss_nil)
      (pss_cons (ps_set (i := 1) sc23.nd rfl (.inl rfl) (pe_cl cT hr (by omega) rfl (pa_cons (pv 0) pa_nil)))
      (pss_cons (ps_for PassesOwn.never rfl (pi_tup (pe_ix ix_tup (pv 0) pe_int (fun _ _ => rfl))) (pg_name (i := 2) sc23.nd rfl (.inl rfl))
        (pss_one (ps_set (i := 1) sc23.nd rfl (.inl rfl) (pe_op op_mul (pv 1) (pe_cl cS hr (Nat.le_refl _) rfl (pa_cons (pv 2) pa_nil))))))
      (pss_one (ps_ret (pv 1))))), ?_⟩
    refine ⟨_, rfl, _, t, rfl, ht, _, rfl, ?_⟩
    cases t with
    | leaf g => exact iteT (by rw [PT.many_leaf] at q; exact q)
    | node r bs =>
      refine iteF ?_
      rw [PT.gs_node] at hz
      have hb7 : bs.length ≤ 7 := Nat.le_trans (br_le wt.br) hz
      have h2 := wt.two
      have hbd := PT.many_bound wt
      rw [PT.gs_node] at hbd
      have hb5 : PT.many (.node r bs) ≤ 5040 := Nat.le_trans hbd (fact7 hz)
      obtain ⟨a, b, xs, rfl, ha, hb, hx⟩ := tr_node.mp ht
      have hlen : xs.length = bs.length := by rw [hx.len, List.length_map]
      refine ⟨_, rfl, _, r, bs, rfl, ht, by omega, hb7, ?_⟩
      refine ⟨_, rfl, a, _, _, _, rfl, rfl, .inl ha, rfl, b, rfl, ⟨_, .inl hb⟩, ?_⟩
      refine for_tup (K := K) (xs := xs) (fun i σ H' => H' = H ∧ ∃ z, σ = [some (.ref a), some (.int (turns r bs.length * PT.manyL (bs.take i) : Nat)), z]) ⟨rfl, none, by simp [L2.start]⟩ (fun i σ H' _ h => by rw [h.1]; exact .inl hb) (fun i x σ H' hi h => ?_) (fun σ H' h => ?_)
      · obtain ⟨rfl, z, rfl⟩ := h
        obtain ⟨dt, e2, hfz⟩ := hx.get hi
        rw [List.getElem?_map] at e2
        obtain ⟨c, hc, rfl⟩ := Option.map_eq_some_iff.mp e2
        have hcm : c ∈ bs := List.mem_of_getElem? hc
        have hle := many_take (r := r) (bs := bs) i
        refine ⟨_, rfl, _, rfl, x, c, rfl, hfz, ?_, wt.br c hcm, Nat.le_trans (gs_mem_le hcm) hz, ?_⟩
        · have := PT.dp_br (r := r) hcm; omega
        · refine ⟨_, _, rfl, rfl, .inl ⟨by omega, by omega⟩, rfl, some x, ?_⟩
          rw [manyL_snoc hc, ← Nat.mul_assoc]
          rfl
      · obtain ⟨rfl, z, rfl⟩ := h
        refine ⟨_, rfl, ?_⟩
        rw [hlen, List.take_length]
        rw [PT.many_node] at q
        exact q
theorem sc22 : FnScope ["n", "tree"] ["n", "tree"] (defScope (topS 22)) := ⟨rfl, rfl, rfl, by decide +kernel, rfl, by decide +kernel, by decide +kernel⟩
/-- n guests, a tree of just these -/
def GoodN (n : Nat) (t : PT) : Prop := 1 ≤ n ∧ n ≤ 7 ∧ PT.Good (Rg n) t
theorem GoodN.len {n : Nat} {t : PT} (h : GoodN n t) : t.gs.length = n := by rw [h.2.2.q.length_eq, rg_len]
theorem GoodN.dp {n : Nat} {t : PT} (h : GoodN n t) : t.dp < 7 := by
  have := PT.dp_gs h.2.2.wf
  have := h.len
  have := h.2.1
  omega
def spRowsMany : Sp := fun vs H Q _ => ∃ (n : Nat) (v : V) (t : PT), vs = [.int (n : Int), v] ∧ Tr H v t ∧ GoodN n t ∧ Q (.int (t.many : Nat)) H
theorem cl_rowsMany (D : Dfn K mg 22 "rows_many") (B : Bt mg) (cN : Cl P w K mg base 2 "need_guests" ["n"] spNeedG) (cM : Cl P w K mg base 8 "many_of" ["tree"] (spMany 7)) : Cl P w K mg base 9 "rows_many" ["n", "tree"] spRowsMany := by
  refine D.cl sc22 (fun _ _ _ _ _ _ us hl => match us, hl with | [_, _], _ => rfl) (fun vs H Q E h => ?_) (fun f cdv A outer s H vs Q E hr h => ?_)
  · obtain ⟨_, _, _, rfl, _⟩ := h; rfl
  obtain ⟨n, v, t, rfl, ht, hg, q⟩ := h
  refine ⟨_, pss_cons (ps_expr (pe_cl cN hr (by omega) rfl (pa_cons (pv 0) pa_nil))) (pss_one (ps_ret (pe_cl cM hr (Nat.le_refl _) rfl (pa_cons (pv 1) pa_nil)))), ?_⟩
  exact ⟨_, rfl, n, rfl, by have := hg.1; omega, by have := hg.2.1; omega, _, rfl, v, t, rfl, ht, hg.dp, hg.2.2.wf, by rw [hg.len]; exact hg.2.1, q⟩
end
end ST
namespace ST
open PySem PySem.Spec PyProof.Rows L2
/-! ### slices, sums of tuples as data -/
theorem cut_to (xs : List V) (k : Nat) : cutV xs none (some (k : Int)) = xs.take k := by
  unfold cutV
  rw [HT.sIx_nat, HT.sIx_none, List.drop_zero, Nat.sub_zero]
  by_cases h : k ≤ xs.length
  · rw [Nat.min_eq_left h]
  · rw [Nat.min_eq_right (by omega), List.take_length, List.take_of_length_le (by omega)]
theorem cut_from (xs : List V) (k : Nat) : cutV xs (some (k : Int)) none = xs.drop k := by
  unfold cutV
  rw [HT.sIx_nat, HT.sIx_none]
  by_cases h : k ≤ xs.length
  · rw [Nat.min_eq_left h, List.take_of_length_le (by rw [List.length_drop]; omega)]
  · rw [Nat.min_eq_right (by omega), List.drop_length, List.drop_eq_nil_of_le (by omega)]; simp
section
variable {K : PySem.W.Frag} {H : Hp} {x y : V} {ds es : List PyData} {Q : V → Hp → Prop}
theorem sl_to_fz {k : Nat} (h : Fz H x (.tuple ds)) (q : ∀ v H', Same H H' → Fz H' v (.tuple (ds.take k)) → Q v H') : rSlA K x none (some (k : Int)) H Q := by
  obtain ⟨a, xs, rfl, ha, hx⟩ := fz_tup.mp h
  have hl := hx.len
  refine ⟨a, xs, rfl, .inl ha, fun z => ?_, fun _ p np => ?_⟩
  · refine q _ _ (Same.refl _) ?_
    have : min k xs.length = xs.length := by have := z.2; rwa [HT.sIx_nat] at this
    rw [List.take_of_length_le (by omega)]; exact h
  · rw [cut_to]
    exact q _ _ (same_new np) (.tup (.inl upd_same) ((hx.take k).same (same_new np)))
theorem sl_from_fz {k : Nat} (h : Fz H x (.tuple ds)) (q : ∀ v H', Same H H' → Fz H' v (.tuple (ds.drop k)) → Q v H') : rSlA K x (some (k : Int)) none H Q := by
  obtain ⟨a, xs, rfl, ha, hx⟩ := fz_tup.mp h
  have hl := hx.len
  refine ⟨a, xs, rfl, .inl ha, fun z => ?_, fun _ p np => ?_⟩
  · refine q _ _ (Same.refl _) ?_
    have e : min k xs.length = 0 := by have := z.1; rwa [HT.sIx_nat] at this
    have : ds.drop k = ds := by
      rcases Nat.eq_zero_or_pos k with rfl | hk
      · rfl
      · have : ds = [] := List.eq_nil_of_length_eq_zero (by omega)
        subst this; simp
    rw [this]; exact h
  · rw [cut_from]
    exact q _ _ (same_new np) (.tup (.inl upd_same) ((hx.drop k).same (same_new np)))
theorem cat_fz (hx : Fz H x (.tuple ds)) (hy : Fz H y (.tuple es)) (hz : ds.length + es.length ≤ 100000) (q : ∀ v H', Same H H' → Fz H' v (.tuple (ds ++ es)) → Q v H') : rCatA K x y H Q := by
  obtain ⟨a, xs, rfl, ha, kx⟩ := fz_tup.mp hx
  obtain ⟨b, ys, rfl, hb, ky⟩ := fz_tup.mp hy
  have h1 := kx.len
  have h2 := ky.len
  refine ⟨a, b, xs, ys, rfl, rfl, .inl ha, .inl hb, big_ok (by omega), fun e => ?_, fun _ e => ?_, fun _ _ p np => ?_⟩
  · subst e
    have : ds = [] := List.eq_nil_of_length_eq_zero h1.symm
    subst this
    exact q _ _ (Same.refl _) hy
  · subst e
    have : es = [] := List.eq_nil_of_length_eq_zero h2.symm
    subst this
    exact q _ _ (Same.refl _) (by rw [List.append_nil]; exact hx)
  · exact q _ _ (same_new np) (.tup (.inl upd_same) ((kx.same (same_new np)).append (ky.same (same_new np))))
/-- rows: sums of rows -/
theorem catD_row {r s : List Int} (hx : RoD H x r) (hy : RoD H y s) (hz : r.length + s.length ≤ 100000) (q : ∀ v H', Same H H' → RoD H' v (r ++ s) → Q v H') : rCatD K x y H Q := by
  obtain ⟨a, oa, rfl, da, ha⟩ := id hx
  obtain ⟨b, ob, rfl, db, hb⟩ := id hy
  refine ⟨a, b, _, _, rfl, rfl, .inl (.inr ⟨oa, ha⟩), .inl (.inr ⟨ob, hb⟩), by rw [List.length_map, List.length_map]; exact big_ok hz, fun e => ?_, fun _ e => ?_, fun _ _ p o np hd => ?_⟩
  · have : r = [] := List.map_eq_nil_iff.mp e
    subst this
    exact q _ _ (Same.refl _) hy
  · have : s = [] := List.map_eq_nil_iff.mp e
    subst this
    exact q _ _ (Same.refl _) (by rw [List.append_nil]; exact hx)
  · exact q _ _ (same_new np) ⟨p, o, rfl, hd, by rw [upd_same, List.map_append]⟩
end
/-- trees in a tuple -/
def dt (bs : List PT) : PyData := .tuple (bs.map PT.enc)
theorem tr_kids {H : Hp} {v : V} {r : Bool} {bs : List PT} : Tr H v (.node r bs) ↔ ∃ a b, v = .ref a ∧ Rd H a (.tup [.str (kS r), .ref b]) ∧ Fz H (.ref b) (dt bs) := by
  rw [tr_node]
  constructor
  · rintro ⟨a, b, xs, rfl, ha, hb, hx⟩
    exact ⟨a, b, rfl, ha, .tup hb hx⟩
  · rintro ⟨a, b, rfl, ha, hb⟩
    obtain ⟨b', xs, e, h1, h2⟩ := fz_tup.mp hb
    cases e
    exact ⟨a, b, xs, rfl, ha, h1, h2⟩
theorem Ls.nil {H : Hp} {p : Addr} : Ls (upd H p (.lst [])) p [] := ⟨[], upd_same, .nil⟩

theorem Ls.len {H : Hp} {a : Addr} {ds : List PyData} {xs : List V} (h : Ls H a ds) (e : H a = some (.lst xs)) : xs.length = ds.length := by
  obtain ⟨ys, e', k⟩ := h
  rw [e] at e'; cases e'
  exact k.len
/-- xs.extend(ys) -/
theorem ext_fz {H : Hp} {a b : Addr} {ds es : List PyData} {Q : V → Hp → Prop} (ha : Ls H a ds) (hb : Ls H b es) (hz : ds.length + es.length ≤ 100000) (q : ∀ H', Ls H' a (ds ++ es) → (∀ c, c ≠ a → H' c = H c) → Q .non H') : rExtend (.ref a) [.ref b] H Q := by
  obtain ⟨xs, e1, k1⟩ := ha
  obtain ⟨ys, e2, k2⟩ := hb
  have h1 := k1.len
  have h2 := k2.len
  refine ⟨a, b, xs, ys, rfl, rfl, e1, e2, big_ok (by omega), q _ ⟨_, upd_same, (k1.append k2).tu (tu_upd e1)⟩ fun c hc => upd_ne hc⟩
theorem _root_.L2.Same.sqL {K : PySem.W.Frag} {H H' : Hp} {a : Addr} {xs : List V} (e : Same H H') (h : SqL K H a xs) : SqL K H' a xs := by
  rcases h with (h | ⟨o, h⟩) | h
  · exact .inl (.inl (e _ _ h))
  · exact .inl (.inr ⟨o, e _ _ h⟩)
  · exact .inr h
theorem tu_off {H' H'' : Hp} {m : Addr} {ms : List V} (e : H' m = some (.lst ms)) (ho : ∀ c, c ≠ m → H'' c = H' c) : Tu H' H'' := fun a xs h => by
  rcases h with h | ⟨q, h⟩
  · exact .inl (by rw [ho a (ne_of h e (by intro z; cases z))]; exact h)
  · exact .inr ⟨q, by rw [ho a (ne_of h e (by intro z; cases z))]; exact h⟩
theorem same_off {H H' H'' : Hp} {l : Addr} (g : Same H H') (n : H l = none) (h : ∀ c, c ≠ l → H'' c = H' c) : Same H H'' := fun b u e => by rw [h b (ne_of_none e n)]; exact g b u e
end ST
namespace ST
open PySem PySem.Spec PyProof.Rows L2
/-! ### the orders of some things -/
def insL (x : PT) (s : List PT) : List (List PT) := (List.range (s.length + 1)).map fun k => (s.take k ++ [x]) ++ s.drop k
def ords (bs : List PT) : List (List PT) := bs.foldl (fun acc x => acc.flatMap (insL x)) [[]]
theorem ords_nil : ords [] = [[]] := rfl
theorem ords_snoc (bs : List PT) (x : PT) : ords (bs ++ [x]) = (ords bs).flatMap (insL x) := by unfold ords; rw [List.foldl_append]; rfl
theorem insL_len (x : PT) (s : List PT) : (insL x s).length = s.length + 1 := by simp [insL]
theorem insL_perm {x : PT} {s u : List PT} (h : u ∈ insL x s) : u.Perm (s ++ [x]) := by
  obtain ⟨k, _, rfl⟩ := List.mem_map.mp h
  refine List.Perm.trans ?_ (List.perm_append_comm)
  have h2 : (s.take k ++ [x]) ++ s.drop k = s.take k ++ x :: s.drop k := by simp
  rw [h2]
  refine List.perm_middle.trans ?_
  rw [List.take_append_drop]; rfl
theorem snoc_ind {P : List PT → Prop} (h0 : P []) (hs : ∀ l x, P l → P (l ++ [x])) (l : List PT) : P l := by
  have : ∀ n (l : List PT), l.length = n → P l := by
    intro n
    induction n with
    | zero => intro l hl; rw [List.eq_nil_of_length_eq_zero hl]; exact h0
    | succ n ih =>
      intro l hl
      rcases List.eq_nil_or_concat l with rfl | ⟨ys, z, rfl⟩
      · exact h0
      · rw [List.concat_eq_append] at hl ⊢
        exact hs _ _ (ih ys (by simpa using hl))
  exact this _ l rfl
theorem ords_perm (bs : List PT) : ∀ s ∈ ords bs, s.Perm bs := by
  induction bs using snoc_ind with
  | h0 => intro s hs; rw [ords_nil] at hs; simp at hs; subst hs; exact .nil
  | hs l x ih =>
    intro s hs
    rw [ords_snoc] at hs
    obtain ⟨u, hu, h⟩ := List.mem_flatMap.mp hs
    exact (insL_perm h).trans ((ih u hu).append_right _)
theorem ords_len (bs : List PT) : (ords bs).length = PT.fact bs.length := by
  induction bs using snoc_ind with
  | h0 => rfl
  | hs l x ih =>
    rw [ords_snoc, List.length_append, List.length_singleton, List.length_flatMap]
    have : ∀ L : List (List PT), (∀ s ∈ L, s.Perm l) → (L.map fun a => (insL x a).length).sum = L.length * (l.length + 1) := by
      intro L
      induction L with
      | nil => intro _; simp
      | cons s L ihL =>
        intro h
        rw [List.map_cons, List.sum_cons, ihL fun u hu => h u (by simp [hu]), insL_len, (h s (by simp)).length_eq, List.length_cons, Nat.succ_mul]
        omega
    rw [this _ (ords_perm l), ih]
    show _ = (l.length + 1) * PT.fact l.length
    exact Nat.mul_comm ..
theorem flat_le {α β : Type} {f : α → List β} {L : List α} (i : Nat) : ((L.take i).flatMap f).length ≤ (L.flatMap f).length := by
  conv => rhs; rw [← List.take_append_drop i L]
  rw [List.flatMap_append, List.length_append]; omega
theorem flat_snoc {α β : Type} {f : α → List β} {L : List α} {i : Nat} {x : α} (h : L[i]? = some x) : (L.take (i + 1)).flatMap f = (L.take i).flatMap f ++ f x := by
  rw [List.take_add_one, h, List.flatMap_append]; simp
section
variable {P : Program} {w : World} {K : PySem.W.Frag} {mg : Str → Option Value} {base : Heap}
theorem sc24 : FnScope ["some", "found", "one", "longer", "row", "at"] ["some"] (defScope (topS 24)) := ⟨rfl, rfl, rfl, by decide +kernel, rfl, by decide +kernel, by decide +kernel⟩
def spOrders : Sp := fun vs H Q _ => ∃ (v : V) (bs : List PT), vs = [v] ∧ Fz H v (dt bs) ∧ bs.length ≤ 7 ∧ ∀ p H', Same H H' → H p = none → Ls H' p ((ords bs).map dt) → Q (.ref p) H'
theorem take_snoc {α : Type} {l : List α} {i : Nat} {x : α} (h : l[i]? = some x) : l.take (i + 1) = l.take i ++ [x] := by rw [List.take_add_one, h]; rfl
theorem cl_orders (D : Dfn K mg 24 "orders") (B : Bt mg) : Cl P w K mg base 1 "orders" ["some"] spOrders := by
  refine D.cl sc24 (fun _ _ _ _ _ _ us hl => match us, hl with | [_], _ => rfl) (fun vs H Q E h => ?_) (fun f cdv A outer s H vs Q E hr h => ?_)
  · obtain ⟨_, _, rfl, _⟩ := h; rfl
  obtain ⟨v, bs, rfl, hv, h7, q⟩ := h
  obtain ⟨b, xs, rfl, hb, hx⟩ := fz_tup.mp hv
  have hlen : xs.length = bs.length := by rw [hx.len, List.length_map]
  refine ⟨_, pss_cons (ps_set (i := 1) sc24.nd rfl (.inl rfl) (pe_lst (pa_cons (pe_tup pa_nil) pa_nil)))
    (pss_cons (ps_for PassesOwn.never rfl (pi_tup (pv 0)) (pg_name (i := 2) sc24.nd rfl (.inr rfl))
      (pss_cons (ps_set (i := 3) sc24.nd rfl (.inl rfl) (pe_lst pa_nil))
      (pss_cons (ps_for PassesOwn.never rfl (pi_list (pv 1)) (pg_name (i := 4) sc24.nd rfl (.inr rfl))
        (pss_one (ps_expr (pe_bm PySem.F.plainAttrs_list PySem.F.slot_list_extend PySem.F.type_list_extend mt_extend (pv 3) (pa_cons
          (pe_lc (own := [("at", 5)]) (g := gName 5) (tt := tYes) (te := tOp (rCatA K) (tOp (rCatA K) (tSl (rSlA K) (tVar 4) tNoPart (tPart (tVar 5))) (tTup (tCons (tVar 2) tNil))) (tSl (rSlA K) (tVar 4) (tPart (tVar 5)) tNoPart)) rfl sc24.nd
            (pi_range1 rfl B.range (pa_cons (pe_op op_add (pe_callB call_len_seq rfl B.len PySem.boot_len (pa_cons (pv 4) pa_nil)) pe_int) pa_nil)) (blkOk_by (N := ["some", "found", "one", "longer", "row", "at"]) (sc := defScope (topS 24)) (by decide +kernel))
            (fun _ _ _ _ _ => pg_name (i := 5) sc24.nd rfl (Or.inl rfl)) (fun _ _ _ _ _ => pts_nil)
            (fun _ _ _ _ _ => pe_op op_catA (pe_op op_catA (pe_slice sl_tupA (pv 4) po_none (po_some (pv 5))) (pe_tup (pa_cons (pv 2) pa_nil))) (pe_slice sl_tupA (pv 4) (po_some (pv 5)) po_none))) pa_nil)))))
      (pss_one (ps_set (i := 1) sc24.nd rfl (.inl rfl) (pv 3))))))
    (pss_one (ps_ret (pv 1)))), ?_⟩
  refine ⟨Nat.zero_le _, fun t nt => ⟨(by show 1 ≤ sizeLine; decide), fun l nl => ?_⟩⟩
  have g0 : Same H (upd (upd H t (.tup [])) l (.lst [.ref t])) := (same_new nt).trans (same_new nl)
  have l0 : Ls (upd (upd H t (.tup [])) l (.lst [.ref t])) l (([[]] : List (List PT)).map dt) := by
    refine ⟨_, upd_same, .one ?_⟩
    exact .tup (.inl (by rw [upd_ne (ne_of_none upd_same nl), upd_same])) .nil
  have nlH : H l = none := by
    by_cases e : l = t
    · subst e; exact nt
    · rw [upd_ne e] at nl; exact nl
  refine ⟨_, rfl, b, rfl, ⟨_, g0.sqT hb⟩, ?_⟩
  refine for_tup (K := K) (xs := xs) (fun i σ H' => Same H H' ∧ ∃ l', H l' = none ∧ Ls H' l' ((ords (bs.take i)).map dt) ∧ ∃ y2 y3 y4, σ = [some (.ref b), some (.ref l'), y2, y3, y4, none]) ⟨g0, l, nlH, l0, _, _, _, rfl⟩ (fun i σ H' _ h => h.1.sqT hb) (fun i x σ H1 hi h => ?_) (fun σ H1 h => ?_)
  · obtain ⟨g1, f, nf, hf, y2, y3, y4, rfl⟩ := h
    obtain ⟨d, hd, hxd⟩ := (hx.same g1).get hi
    rw [List.getElem?_map] at hd
    obtain ⟨c, hc, rfl⟩ := Option.map_eq_some_iff.mp hd
    have hi7 : i < 7 := by have := (List.getElem?_eq_some_iff.mp hc).1; omega
    have hL : (ords (bs.take (i + 1))).length ≤ 5040 := by
      rw [ords_len]
      exact fact7 (by rw [List.length_take]; omega)
    rw [take_snoc hc, ords_snoc] at hL
    refine ⟨Nat.zero_le _, fun m nm => ?_⟩
    have g2 : Same H1 (upd H1 m (.lst [])) := same_new nm
    have nmH : H m = none := by
      cases e : H m with
      | none => rfl
      | some u => rw [g1 _ _ e] at nm; cases nm
    obtain ⟨fs, ef, kf⟩ := hf
    have hfl : fs.length = (ords (bs.take i)).length := by rw [kf.len, List.length_map]
    refine ⟨_, rfl, f, rfl, ⟨_, g2.sqL (SqL.of ef)⟩, ?_⟩
    refine for_list (K := K) (xs := fs) (fun j σ H' => Same H1 H' ∧ Ls H' m ((((ords (bs.take i)).take j).flatMap (insL c)).map dt) ∧ ∃ y4, σ = [some (.ref b), some (.ref f), some x, some (.ref m), y4, none]) ⟨g2, Ls.nil, _, rfl⟩ (fun j σ H' _ h => h.1.sqL (SqL.of ef)) (fun j z σ H2 hj h => ?_) (fun σ H2 h => ?_)
    · obtain ⟨g3, hm, y4, rfl⟩ := h
      obtain ⟨d, hd, hz⟩ := (kf.same g3).get hj
      rw [List.getElem?_map] at hd
      obtain ⟨s, hs, rfl⟩ := Option.map_eq_some_iff.mp hd
      have hsp := ords_perm _ s (List.mem_of_getElem? hs)
      have hsl : s.length ≤ 7 := by rw [hsp.length_eq, List.length_take]; omega
      obtain ⟨za, zs, rfl, hza, hzs⟩ := fz_tup.mp hz
      have hzl : zs.length = s.length := by rw [hzs.len, List.length_map]
      obtain ⟨ms, em, km⟩ := hm
      refine ⟨_, rfl, .inl ⟨rfl, _, SqL.of em⟩, _, rfl, za, _, rfl, .inr (.inl hza), _, _, rfl, rfl, _, rfl, by omega, by omega, fun D hD => ?_⟩
      have en : (((zs.length : Nat) : Int) + 1).toNat = s.length + 1 := by omega
      rw [en]
      refine lc_fz1 walk_range hD (fun _ _ => trivial) yfn_same (fun _ => rfl) (fun k => dt ((s.take k ++ [c]) ++ s.drop k)) (by omega) (fun k u H3 H4 H5 hk g4 y g5 Ky hky => ?_) (fun H3 g4 hL3 => ?_)
      · obtain ⟨rfl, rfl⟩ := y
        have g35 : Same H2 H5 := g4.trans g5
        have zz : Fz H5 (.ref za) (dt s) := hz.same g35
        have ek : (0 : Int) + ((k : Nat) : Int) = (k : Int) := by omega
        refine ⟨_, rfl, _, rfl, (0 : Int) + ((k : Nat) : Int), rfl, ?_⟩
        rw [ek]
        refine sl_to_fz zz fun v1 H6 g6 f1 => ?_
        refine ⟨_, rfl, Nat.le_trans (Nat.le_refl _) (by decide : 1 ≤ sizeLine), fun pt npt => ?_⟩
        have gp := same_new (o := .tup [x]) npt
        have f1' := f1.same gp
        have ft : Fz (upd H6 pt (.tup [x])) (.ref pt) (.tuple [c.enc]) := .tup (.inl upd_same) (.one ((((hxd.same g3).same g35).same g6).same gp))
        refine cat_fz f1' ft (by simp; omega) fun v2 H7 g7 f2 => ?_
        refine ⟨_, rfl, _, rfl, (0 : Int) + ((k : Nat) : Int), rfl, ?_⟩
        rw [ek]
        delta tNoPart
        refine sl_from_fz (((zz.same g6).same gp).same g7) fun v3 H8 g8 f3 => ?_
        refine cat_fz (f2.same g8) f3 (by simp; omega) fun v4 H9 g9 f4 => ?_
        refine hky v4 H9 ((((g6.trans gp).trans g7).trans g8).trans g9) ?_
        have : dt ((s.take k ++ [c]) ++ s.drop k) = .tuple (((s.map PT.enc).take k ++ [c.enc]) ++ (s.map PT.enc).drop k) := by
          unfold dt; rw [List.map_append, List.map_append, List.map_take, List.map_drop]; rfl
        rw [this]; exact f4
      · rw [gvn_all] at hL3
        have e1 : (List.range (s.length + 1)).map (fun k => dt ((s.take k ++ [c]) ++ s.drop k)) = (insL c s).map dt := by unfold insL; rw [List.map_map]; rfl
        rw [e1] at hL3
        have nmD : m ≠ D := ne_of_none em hD
        have hm3 : Ls H3 m ((((ords (bs.take i)).take j).flatMap (insL c)).map dt) := Ls.same g4 ⟨ms, em, km⟩
        have hsum : (((ords (bs.take i)).take (j + 1)).flatMap (insL c)).length ≤ 5040 := Nat.le_trans (flat_le _) hL
        rw [flat_snoc hs, List.length_append] at hsum
        delta tNil
        refine ext_fz hm3 hL3 (by rw [List.length_map, List.length_map]; omega) fun H' hl' ho => ?_
        refine ⟨same_off (g3.trans g4) nm ho, ?_, _, rfl⟩
        rw [flat_snoc hs, List.map_append]; exact hl'
    · obtain ⟨g3, hm, y4, rfl⟩ := h
      rw [hfl, List.take_length] at hm
      refine ⟨_, rfl, g1.trans g3, m, nmH, ?_, _, _, _, rfl⟩
      rw [take_snoc hc, ords_snoc]; exact hm
  · obtain ⟨g1, f, nf, hf, y2, y3, y4, rfl⟩ := h
    rw [hlen, List.take_length] at hf
    exact ⟨_, rfl, q f _ g1 nf hf⟩
end
end ST
namespace ST
open PySem PySem.Spec PyProof.Rows L2
theorem LR.nil {H : Hp} {p : Addr} : LR (upd H p (.lst [])) p [] := ⟨[], upd_same, .nil⟩
theorem RwL.snoc {H : Hp} {xs : List V} {rs : List (List Int)} {v : V} {r : List Int} (k : RwL H xs rs) (h : RoD H v r) : RwL H (xs ++ [v]) (rs ++ [r]) := k.append (.cons h .nil)
theorem ext_rw {H : Hp} {a b : Addr} {rs ss : List (List Int)} {Q : V → Hp → Prop} (ha : LR H a rs) (hb : LR H b ss) (hz : rs.length + ss.length ≤ 100000) (q : ∀ H', LR H' a (rs ++ ss) → (∀ c, c ≠ a → H' c = H c) → Q .non H') : rExtend (.ref a) [.ref b] H Q := by
  obtain ⟨xs, e1, k1⟩ := ha
  obtain ⟨ys, e2, k2⟩ := hb
  have h1 := k1.len
  have h2 := k2.len
  exact ⟨a, b, xs, ys, rfl, rfl, e1, e2, big_ok (by omega), q _ ⟨_, upd_same, (k1.append k2).off e1⟩ fun c hc => upd_ne hc⟩
/-- a comprehension that makes rows -/
theorem lc_rw {J : It} {n : Nat} {G : Hp → Prop} {Y : Nat → Hp → V → Hp → Prop} (w : Walk J n G Y) {j : Nat} {te : TE} {vs : List Nat} {σ : L2.St} {H1 : Hp} {D : Addr} {Qd : Hp → Prop} (nD : H1 D = none)
    (hG : ∀ H, Same H1 H → G H) (hY : ∀ i H x H', i < n → Same H1 H → Y i H x H' → Same H H') (hw : ∀ x, wipe ((wipe σ vs).set j (some x)) vs = wipe σ vs) (ds : Nat → List Int) (hn : n ≤ 100000)
    (he : ∀ i x H H' H3, i < n → Same H1 H → Y i H x H' → Same H' H3 → ∀ Ky : VK, (∀ y H4, Same H3 H4 → RoD H4 y (ds i) → Ky y H4) → te ((wipe σ vs).set j (some x)) H3 Ky)
    (hd : ∀ H, Same H1 H → LR H D ((List.range n).map ds) → Qd H) :
    ∃ W : Nat → Nat → Hp → Prop, (∃ m, W 0 m (upd H1 D (.lst []))) ∧ ∀ i m H, W i m H →
      (J.stop i H ∧ Qd H) ∨ (J.go i H ∧ ∃ Nx : Hp → Prop, (∀ H', Nx H' → ∃ m', m' < m ∧ W (i + 1) m' H') ∧ ∀ x H', J.yld i H x H' → (gName j) x (wipe σ vs) H' fun σ2 H2 => wipe σ2 vs = wipe σ vs ∧ tYes σ2 H2 fun b H3 =>
        if b = true then te σ2 H3 fun y H4 => ∃ acc, H4 D = some (.lst acc) ∧ acc.length < sizeLine ∧ Nx (upd H4 D (.lst (acc ++ [y]))) else Nx H3) := by
  refine lc_it w (g := gName j) (fun i H => Same H1 H ∧ LR H D ((List.range i).map ds)) ⟨same_new nD, LR.nil⟩ (fun i H _ p => hG H p.1) (fun i x H H' hi p y => ?_) fun H p => hd H p.1 p.2
  obtain ⟨g1, zs, e1, k1⟩ := p
  have gy := hY i H x H' hi g1 y
  refine ⟨hw x, iteT (B := Same H1 H' ∧ LR H' D ((List.range (i + 1)).map ds)) (he i x H H' H' hi g1 y (Same.refl _) _ fun v H4 g4 fz => ?_)⟩
  have e4 : H4 D = some (.lst zs) := g4 _ _ (gy _ _ e1)
  refine ⟨zs, e4, big_lt ?_, same_mut ((g1.trans gy).trans g4) nD, zs ++ [v], upd_same, ?_⟩
  · have := k1.len
    rw [List.length_map, List.length_range] at this
    omega
  · rw [List.range_succ, List.map_append]
    exact ((k1.same gy).same g4 |>.off e4).snoc (fz.off e4)
section
variable {P : Program} {w : World} {K : PySem.W.Frag} {mg : Str → Option Value} {base : Heap}
/-! ### standings -/
def Stn (r : Bool) (bs s : List PT) : Prop := s.Perm bs ∧ (r = true → s = bs ∨ s = bs.reverse)
theorem Stn.fr {r : Bool} {bs s : List PT} {l : List Int} (h : Stn r bs s) (k : PT.FrL s l) : PT.Fr (.node r bs) l := by
  cases r with
  | false => exact PT.fr_any.mpr ⟨s, h.1, k⟩
  | true =>
    refine PT.fr_row.mpr ?_
    rcases h.2 rfl with rfl | rfl
    · exact .inl k
    · exact .inr k
theorem sc25 : FnScope ["tree"] ["tree"] (defScope (topS 25)) := ⟨rfl, rfl, rfl, by decide +kernel, rfl, by decide +kernel, by decide +kernel⟩
def spStand : Sp := fun vs H Q _ => ∃ (v : V) (r : Bool) (bs : List PT), vs = [v] ∧ Tr H v (.node r bs) ∧ bs.length ≤ 7 ∧ ∀ (p : Addr) (H' : Hp) (sts : List (List PT)), Same H H' → H p = none → Ls H' p (sts.map dt) → sts.length = turns r bs.length → (∀ s ∈ sts, Stn r bs s) → Q (.ref p) H'
theorem cl_stand (D : Dfn K mg 25 "standings") (B : Bt mg) (cO : Cl P w K mg base 1 "orders" ["some"] spOrders) : Cl P w K mg base 2 "standings" ["tree"] spStand := by
  refine D.cl sc25 (fun _ _ _ _ _ _ us hl => match us, hl with | [_], _ => rfl) (fun vs H Q E h => ?_) (fun f cdv A outer s H vs Q E hr h => ?_)
  · obtain ⟨_, _, _, rfl, _⟩ := h; rfl
  obtain ⟨v, r, bs, rfl, ht, h7, q⟩ := h
  obtain ⟨a, b, rfl, ha, hb⟩ := tr_kids.mp ht
  refine ⟨_, pss_cons (ps_if (pt_cmpR op_eq (pe_ix ix_tup (pv 0) pe_int (fun _ _ => rfl)) (pe_gs rfl B.ROW) (nomark _))
      (pss_one (ps_ret (pe_lst (pa_cons (pe_ix ix_tup (pv 0) pe_int (fun _ _ => rfl)) (pa_cons (pe_revT (pe_ix ix_tup (pv 0) pe_int (fun _ _ => rfl))) pa_nil))))) pss_nil)
    (pss_one (ps_ret (pe_cl cO hr (Nat.le_refl _) rfl (pa_cons (pe_ix ix_tup (pv 0) pe_int (fun _ _ => rfl)) pa_nil)))), ?_⟩
  refine ⟨_, rfl, a, _, _, _, rfl, rfl, .inl ha, rfl, rfl, _, rfl, ?_⟩
  rw [kS_row]
  cases r with
  | true =>
    refine iteT ?_
    obtain ⟨_, xs, e, hb', hx⟩ := fz_tup.mp hb
    cases e
    refine ⟨_, rfl, a, _, _, _, rfl, rfl, .inl ha, rfl, _, rfl, a, _, _, _, rfl, rfl, .inl ha, rfl, b, xs, rfl, .inl hb', fun c nc => ?_⟩
    have g1 : Same H (upd H c (.tup xs.reverse)) := same_new nc
    refine ⟨(by show 2 ≤ sizeLine; decide), fun l nl => ?_⟩
    have g2 := same_new (o := .lst [.ref b, .ref c]) nl
    have nlH : H l = none := by
      cases e : H l with
      | none => rfl
      | some u => rw [g1 _ _ e] at nl; cases nl
    refine q l _ [bs, bs.reverse] (g1.trans g2) nlH ⟨_, upd_same, ?_⟩ rfl ?_
    · refine .cons ((hb.same g1).same g2) (.one ?_)
      refine .tup (g2.rd (.inl upd_same)) ?_
      have := ((hx.same g1).same g2).rev
      rwa [← List.map_reverse] at this
    · intro s hs
      simp at hs
      rcases hs with rfl | rfl
      · exact ⟨.refl _, fun _ => .inl rfl⟩
      · exact ⟨List.reverse_perm _, fun _ => .inr rfl⟩
  | false =>
    refine iteF ?_
    refine ⟨_, rfl, a, _, _, _, rfl, rfl, .inl ha, rfl, _, bs, rfl, hb, h7, fun p H' g np hL => ?_⟩
    exact q p H' _ g np hL (ords_len bs) fun s hs => ⟨ords_perm bs s hs, fun e => by cases e⟩
/-! ### one behind the other -/
theorem sc26 : FnScope ["some", "more", "found", "row", "other"] ["some", "more"] (defScope (topS 26)) := ⟨rfl, rfl, rfl, by decide +kernel, rfl, by decide +kernel, by decide +kernel⟩
def behind (rs ss : List (List Int)) : List (List Int) := rs.flatMap fun r => ss.map fun s => r ++ s
theorem behind_len (rs ss : List (List Int)) : (behind rs ss).length = rs.length * ss.length := by
  unfold behind
  induction rs with
  | nil => simp
  | cons r rs ih => rw [List.flatMap_cons, List.length_append, ih, List.length_map, List.length_cons, Nat.succ_mul]; omega
def spPut : Sp := fun vs H Q _ => ∃ (a b : Addr) (rs ss : List (List Int)), vs = [.ref a, .ref b] ∧ LR H a rs ∧ LR H b ss ∧ rs.length * ss.length ≤ 5040 ∧ rs.length ≤ 5040 ∧ ss.length ≤ 5040 ∧ (∀ r ∈ rs, r.length ≤ 7) ∧ (∀ s ∈ ss, s.length ≤ 7) ∧
  ∀ p H', Same H H' → H p = none → LR H' p (behind rs ss) → Q (.ref p) H'
theorem cl_put (D : Dfn K mg 26 "put_behind") (B : Bt mg) : Cl P w K mg base 1 "put_behind" ["some", "more"] spPut := by
  refine D.cl sc26 (fun _ _ _ _ _ _ us hl => match us, hl with | [_, _], _ => rfl) (fun vs H Q E h => ?_) (fun f cdv A outer s H vs Q E hr h => ?_)
  · obtain ⟨_, _, _, _, rfl, _⟩ := h; rfl
  obtain ⟨a, b, rs, ss, rfl, ha, hb, hz, hzr, hzs, hr7, hs7, q⟩ := h
  obtain ⟨xs, ea, kx⟩ := ha
  obtain ⟨ys, eb, ky⟩ := hb
  have hxl := kx.len
  have hyl := ky.len
  refine ⟨_, pss_cons (ps_set (i := 2) sc26.nd rfl (.inl rfl) (pe_lst pa_nil))
    (pss_cons (ps_for PassesOwn.never rfl (pi_list (pv 0)) (pg_name (i := 3) sc26.nd rfl (.inr rfl))
      (pss_one (ps_expr (pe_bm PySem.F.plainAttrs_list PySem.F.slot_list_extend PySem.F.type_list_extend mt_extend (pv 2) (pa_cons
          (pe_lc (own := [("other", 4)]) (g := gName 4) (tt := tYes) (te := tOp (rCatD K) (tVar 3) (tVar 4)) rfl sc26.nd (pi_list (pv 1)) (blkOk_by (N := ["some", "more", "found", "row", "other"]) (sc := defScope (topS 26)) (by decide +kernel))
            (fun _ _ _ _ _ => pg_name (i := 4) sc26.nd rfl (Or.inl rfl)) (fun _ _ _ _ _ => pts_nil) (fun _ _ _ _ _ => pe_op op_catD (pv 3) (pv 4))) pa_nil)))))
    (pss_one (ps_ret (pv 2)))), ?_⟩
  refine ⟨Nat.zero_le _, fun m nm => ?_⟩
  have g0 : Same H (upd H m (.lst [])) := same_new nm
  refine ⟨_, rfl, a, rfl, ⟨_, g0.sqL (SqL.of ea)⟩, ?_⟩
  refine for_list (K := K) (xs := xs) (fun j σ H' => Same H H' ∧ LR H' m (behind (rs.take j) ss) ∧ ∃ y3, σ = [some (.ref a), some (.ref b), some (.ref m), y3, none]) ⟨g0, LR.nil, _, rfl⟩ (fun j σ H' _ h => h.1.sqL (SqL.of ea)) (fun j z σ H1 hj h => ?_) (fun σ H1 h => ?_)
  · obtain ⟨g1, hm, y3, rfl⟩ := h
    obtain ⟨r, hr', hz'⟩ := (kx.same g1).get hj
    have hrl := hr7 r (List.mem_of_getElem? hr')
    obtain ⟨ms, em, km⟩ := hm
    refine ⟨_, rfl, .inl ⟨rfl, _, SqL.of em⟩, _, rfl, b, rfl, ⟨_, g1.sqL (SqL.of eb)⟩, fun D hD => ?_⟩
    refine lc_rw (walk_list (K := K) (a := b) (xs := ys)) hD (fun H2 g2 => g2.sqL (g1.sqL (SqL.of eb))) yat_same (fun _ => rfl) (fun i => r ++ (ss[i]?).getD []) (by omega) (fun i u H2 H3 H4 hi g2 y g4 Ky hk => ?_) (fun H2 g2 hL => ?_)
    · obtain ⟨rfl, hu⟩ := y
      have g24 := (g1.trans g2).trans g4
      obtain ⟨s, hs, hus⟩ := (ky.same g24).get hu
      have hsl := hs7 s (List.mem_of_getElem? hs)
      refine ⟨_, rfl, _, rfl, ?_⟩
      refine catD_row ((hz'.same g2).same g4) hus (by omega) fun v H5 g5 hv => hk v H5 g5 ?_
      rw [hs]; exact hv
    · have e1 : (List.range ys.length).map (fun i => r ++ (ss[i]?).getD []) = ss.map fun s => r ++ s := by
        refine List.ext_getElem? fun i => ?_
        rw [List.getElem?_map, List.getElem?_map, hyl]
        by_cases h : i < ss.length
        · rw [List.getElem?_eq_getElem h, List.getElem?_eq_getElem (by simpa using h)]
          simp [h]
        · rw [List.getElem?_eq_none (by simpa using h), List.getElem?_eq_none (by omega)]; rfl
      rw [e1] at hL
      have hsum : (behind (rs.take (j + 1)) ss).length ≤ 5040 := Nat.le_trans (flat_le _) (by show (behind rs ss).length ≤ _; rw [behind_len]; exact hz)
      have es : behind (rs.take (j + 1)) ss = behind (rs.take j) ss ++ ss.map fun s => r ++ s := flat_snoc hr'
      rw [es, List.length_append] at hsum
      delta tNil
      refine ext_rw (LR.same g2 ⟨ms, em, km⟩) hL (by omega) fun H' hl ho => ?_
      exact ⟨same_off (g1.trans g2) nm ho, by rw [es]; exact hl, _, rfl⟩
  · obtain ⟨g1, hm, y3, rfl⟩ := h
    rw [hxl, List.take_length] at hm
    exact ⟨_, rfl, q m _ g1 nm hm⟩
/-! ### all rows -/
theorem sc27 : FnScope ["tree", "found", "branches", "some", "branch"] ["tree"] (defScope (topS 27)) := ⟨rfl, rfl, rfl, by decide +kernel, rfl, by decide +kernel, by decide +kernel⟩
def spAll (d : Nat) : Sp := fun vs H Q _ => ∃ (v : V) (t : PT), vs = [v] ∧ Tr H v t ∧ t.dp < d ∧ PT.Wf t ∧ t.gs.length ≤ 7 ∧ ∀ (p : Addr) (H' : Hp) (rs : List (List Int)), Same H H' → H p = none → LR H' p rs → rs.length = t.many → (∀ r ∈ rs, PT.Fr t r) → Q (.ref p) H'
theorem many7 {t : PT} (w : PT.Wf t) (h : t.gs.length ≤ 7) : t.many ≤ 5040 := Nat.le_trans (PT.many_bound w) (fact7 h)
theorem manyL_take_le (s : List PT) (i : Nat) : PT.manyL (s.take i) ≤ PT.manyL s := by
  have : PT.manyL s = PT.manyL (s.take i) * PT.manyL (s.drop i) := by rw [← PT.manyL_append, List.take_append_drop]
  rw [this]
  exact Nat.le_mul_of_pos_right _ (PT.manyL_pos _)
theorem none_back {H H' : Hp} {p : Addr} (g : Same H H') (h : H' p = none) : H p = none := by
  cases e : H p with
  | none => rfl
  | some u => rw [g _ _ e] at h; cases h
theorem cl_all (D : Dfn K mg 27 "all_rows") (B : Bt mg) (cL : Cl P w K mg base 1 "is_leaf" ["tree"] spLeaf) (cS : Cl P w K mg base 2 "standings" ["tree"] spStand) (cP : Cl P w K mg base 1 "put_behind" ["some", "more"] spPut) : ∀ d, Cl P w K mg base (d + 3) "all_rows" ["tree"] (spAll d)
  | 0 => D.void (fun _ _ _ _ _ _ us hl => match us, hl with | [_], _ => rfl) fun vs H Q E ⟨_, _, _, _, h, _⟩ => absurd h (Nat.not_lt_zero _)
  | d + 1 => by
    have cA := cl_all D B cL cS cP d
    refine D.cl sc27 (fun _ _ _ _ _ _ us hl => match us, hl with | [_], _ => rfl) (fun vs H Q E h => ?_) (fun f cdv A outer s H vs Q E hr h => ?_)
    · obtain ⟨_, _, rfl, _⟩ := h; rfl
    obtain ⟨v, t, rfl, ht, hd, wt, h7, q⟩ := h
    refine ⟨_, pss_cons (ps_if (pt_val (pe_cl cL hr (by omega) rfl (pa_cons (pv 0) pa_nil))) (pss_one (ps_ret (pe_lst (pa_cons (pe_tupD (pa_cons (pv 0) pa_nil)) pa_nil)))) pss_nil)
      (pss_cons (ps_set (i := 1) sc27.nd rfl (.inl rfl) (pe_lst pa_nil))
      (pss_cons (ps_for PassesOwn.never rfl (pi_list (pe_cl cS hr (by omega) rfl (pa_cons (pv 0) pa_nil))) (pg_name (i := 2) sc27.nd rfl (.inl rfl))
        (pss_cons (ps_set (i := 3) sc27.nd rfl (.inl rfl) (pe_lst (pa_cons (pe_tupD pa_nil) pa_nil)))
        (pss_cons (ps_for PassesOwn.never rfl (pi_tup (pv 2)) (pg_name (i := 4) sc27.nd rfl (.inl rfl))
          (pss_one (ps_set (i := 3) sc27.nd rfl (.inl rfl) (pe_cl cP hr (by omega) rfl (pa_cons (pv 3) (pa_cons (pe_cl cA hr (by omega) rfl (pa_cons (pv 4) pa_nil)) pa_nil))))))
        (pss_one (ps_expr (pe_bm PySem.F.plainAttrs_list PySem.F.slot_list_extend PySem.F.type_list_extend mt_extend (pv 1) (pa_cons (pv 3) pa_nil)))))))
      (pss_one (ps_ret (pv 1))))), ?_⟩
    refine ⟨_, rfl, _, t, rfl, ht, _, rfl, ?_⟩
    cases t with
    | leaf g =>
      refine iteT ?_
      refine ⟨_, rfl, (by show 1 ≤ sizeLine; decide), fun a o na hda => ?_⟩
      have g1 := same_new (o := .frz o (.tup [v])) na
      refine ⟨(by show 1 ≤ sizeLine; decide), fun l nl => ?_⟩
      have g2 := same_new (o := .lst [.ref a]) nl
      rw [tr_leaf.mp ht] at g1 g2 nl ⊢
      refine q l _ [[g]] (g1.trans g2) (none_back g1 nl) ⟨_, upd_same, .cons ⟨a, o, rfl, hda, g2 _ _ upd_same⟩ .nil⟩ (by simp) fun r hr => ?_
      simp at hr; subst hr
      exact .leaf g
    | node r bs =>
      refine iteF ?_
      have hM := many7 wt h7
      rw [PT.gs_node] at h7
      have hb7 : bs.length ≤ 7 := Nat.le_trans (br_le wt.br) h7
      rw [PT.many_node] at hM q
      change turns r bs.length * PT.manyL bs ≤ 5040 at hM
      have hmp := PT.manyL_pos bs
      have ht1 : 1 ≤ turns r bs.length := by unfold turns; split <;> first | omega | exact PT.fact_pos _
      have hmL : PT.manyL bs ≤ 5040 := Nat.le_trans (Nat.le_mul_of_pos_left _ ht1) hM
      refine ⟨Nat.zero_le _, fun m nm => ?_⟩
      have g0 : Same H (upd H m (.lst [])) := same_new nm
      refine ⟨_, rfl, _, r, bs, rfl, ht.same g0, hb7, fun S H0 sts g1 nS hS hSl hSt => ?_⟩
      obtain ⟨zs, eS, kS⟩ := hS
      have hzl : zs.length = sts.length := by rw [kS.len, List.length_map]
      refine ⟨S, rfl, ⟨_, SqL.of eS⟩, ?_⟩
      have gH : Same H H0 := g0.trans g1
      refine for_list (K := K) (xs := zs) (fun i σ H' => (Same H H' ∧ H' S = some (.lst zs) ∧ Tu H0 H') ∧ (∃ rs, LR H' m rs ∧ rs.length = i * PT.manyL bs ∧ ∀ r' ∈ rs, PT.Fr (.node r bs) r') ∧ ∃ y2 y3 y4, σ = [some v, some (.ref m), y2, y3, y4])
        ⟨⟨gH, eS, (Same.refl _).tu⟩, ⟨[], LR.nil.same g1, by simp, by simp⟩, _, _, _, rfl⟩ (fun j σ H' _ h => SqL.of h.1.2.1) (fun i z σ H1 hi h => ?_) (fun σ H1 h => ?_)
      · obtain ⟨⟨gH1, eS1, tu1⟩, ⟨rs, hm, hrl, hrf⟩, y2, y3, y4, rfl⟩ := h
        obtain ⟨dd, hdd, hz⟩ := kS.get hi
        rw [List.getElem?_map] at hdd
        obtain ⟨s, hs, rfl⟩ := Option.map_eq_some_iff.mp hdd
        have hst := hSt s (List.mem_of_getElem? hs)
        have hit : i < turns r bs.length := by rw [← hSl]; exact (List.getElem?_eq_some_iff.mp hs).1
        have hsl : s.length ≤ 7 := by rw [hst.1.length_eq]; exact hb7
        have ws : ∀ b ∈ s, PT.Wf b := fun b hb => wt.br b (hst.1.mem_iff.mp hb)
        have hgs : (PT.gsL s).length ≤ 7 := by rw [(PT.gsL_perm hst.1).length_eq]; exact h7
        have hms : PT.manyL s = PT.manyL bs := PT.manyL_perm hst.1
        replace hz := hz.tu tu1
        obtain ⟨c, cs, rfl, hc, hcs⟩ := fz_tup.mp hz
        have hcl : cs.length = s.length := by rw [hcs.len, List.length_map]
        refine ⟨Nat.zero_le _, fun u o nu hdu => ?_⟩
        have gu := same_new (o := .frz o (.tup [])) nu
        refine ⟨(by show 1 ≤ sizeLine; decide), fun l nl => ?_⟩
        have gl := same_new (o := .lst [.ref u]) nl
        have g2 := gu.trans gl
        refine ⟨_, rfl, c, rfl, ⟨_, g2.sqT hc⟩, ?_⟩
        refine for_tup (K := K) (xs := cs) (fun j σ H' => Same H1 H' ∧ ∃ l' y4, (∃ ss, LR H' l' ss ∧ ss.length = PT.manyL (s.take j) ∧ ∀ r' ∈ ss, PT.FrL (s.take j) r') ∧ σ = [some v, some (.ref m), some (.ref c), some (.ref l'), y4])
          ⟨g2, l, _, ⟨[[]], ⟨_, upd_same, .cons ⟨u, o, rfl, hdu, gl _ _ upd_same⟩ .nil⟩, by simp, by simp⟩, rfl⟩ (fun j σ H' _ h => h.1.sqT hc) (fun j x σ H2 hj h => ?_) (fun σ H2 h => ?_)
        · obtain ⟨g3, l', y4, ⟨ss, hL, hsl', hsf⟩, rfl⟩ := h
          obtain ⟨dd, hdd, hx⟩ := hcs.get hj
          rw [List.getElem?_map] at hdd
          obtain ⟨b, hb, rfl⟩ := Option.map_eq_some_iff.mp hdd
          have hbm : b ∈ s := List.mem_of_getElem? hb
          have hbb : b ∈ bs := hst.1.mem_iff.mp hbm
          have hg1 : b.gs.length ≤ 7 := Nat.le_trans (gs_mem_le hbb) h7
          refine ⟨_, rfl, _, rfl, x, b, rfl, hx.same g3, by have := PT.dp_br (r := r) hbb; omega, wt.br b hbb, hg1, fun p H3 ts g4 np hp hpl hpf => ?_⟩
          have hle1 : PT.manyL (s.take (j + 1)) ≤ 5040 := Nat.le_trans (manyL_take_le _ _) (by rw [hms]; exact hmL)
          have hle0 : PT.manyL (s.take j) ≤ 5040 := Nat.le_trans (manyL_take_le _ _) (by rw [hms]; exact hmL)
          rw [manyL_snoc hb] at hle1
          have hr7 : ∀ r' ∈ ss, r'.length ≤ 7 := fun r' hr' => by
            rw [(PT.frl_perm (hsf r' hr')).length_eq]
            exact Nat.le_trans (gsL_take_le _) hgs
          refine ⟨l', p, ss, ts, rfl, hL.same g4, hp, by rw [hsl', hpl]; exact hle1, by rw [hsl']; exact hle0, by rw [hpl]; exact many7 (wt.br b hbb) hg1, hr7, fun r' hr' => by rw [(PT.fr_perm (hpf r' hr')).length_eq]; exact hg1, fun p' H4 g5 np' hp' => ?_⟩
          refine ⟨(g3.trans g4).trans g5, p', _, ⟨_, hp', by rw [behind_len, hsl', hpl, manyL_snoc hb], fun r' hr' => ?_⟩, rfl⟩
          obtain ⟨r1, h1, h2⟩ := List.mem_flatMap.mp hr'
          obtain ⟨r2, h3, rfl⟩ := List.mem_map.mp h2
          rw [take_snoc hb]
          exact PT.frl_append.mpr ⟨r1, r2, rfl, hsf r1 h1, PT.frl_one.mpr (hpf r2 h3)⟩
        · obtain ⟨g3, l', y4, ⟨ss, hL, hsl', hsf⟩, rfl⟩ := h
          rw [hcl, List.take_length] at hsl' hsf
          rw [hms] at hsl'
          have hm2 := hm.same g3
          obtain ⟨ms, em, km⟩ := hm2
          refine ⟨_, rfl, .inl ⟨rfl, _, SqL.of em⟩, _, rfl, ?_⟩
          delta tNil
          have hsum : (i + 1) * PT.manyL bs ≤ 5040 := Nat.le_trans (Nat.mul_le_mul_right _ hit) hM
          rw [Nat.succ_mul] at hsum
          refine ext_rw ⟨ms, em, km⟩ hL (by omega) fun H' hl ho => ?_
          have nSm : S ≠ m := (ne_of_none upd_same nS).symm
          refine ⟨⟨same_off (gH1.trans g3) nm ho, by rw [ho S nSm]; exact g3 _ _ eS1, (tu1.trans g3.tu).trans (tu_off em ho)⟩, ⟨_, hl, by rw [List.length_append, hrl, hsl', Nat.succ_mul], fun r' hr' => ?_⟩, _, _, _, rfl⟩
          rcases List.mem_append.mp hr' with h | h
          · exact hrf r' h
          · exact hst.fr (hsf r' h)
      · obtain ⟨⟨gH1, eS1, tu1⟩, ⟨rs, hm, hrl, hrf⟩, y2, y3, y4, rfl⟩ := h
        rw [hzl, hSl] at hrl
        exact ⟨_, rfl, q m _ rs gH1 nm hm hrl hrf⟩
end
end ST
namespace ST
open PySem PySem.Spec PyProof.Rows L2
/-- x in a tuple of data -/
def rInTD (K : PySem.W.Frag) : R2 := fun x y H Q => ∃ d ds, Dp K H x d ∧ Dp K H y (.tuple ds) ∧ SeqAt.shaped d = true ∧ SeqAt.shaped (.tuple ds) = true ∧ Q (.bl (ds.any fun z => PyData.eqv z d)) H
theorem op_inTD {X : Cx} (hu : X.A.units + 65 < cLine) : OpR X (compareOp .In) (rInTD X.K) := by
  intro pins s σ H x y v u Q I rx ry h
  obtain ⟨d, ds, hd, he, sd, se, q⟩ := h
  obtain ⟨as, r1⟩ := Dp.reads I d x v hd rx
  obtain ⟨bs, r2⟩ := Dp.reads I (.tuple ds) y u he ry
  exact SeqAt.in_tuple_reads r2 r1 (SeqAt.canLay_of_shaped se) (SeqAt.canLay_of_shaped sd) (room_in_shaped sd hu) ⟨.bl _, H, I, rfl, q⟩
theorem dp_ints (K : PySem.W.Frag) {H : Hp} {ns : List Int} : DpAll K H (ns.map V.int) (ns.map .int) := FzL.dp K _ _ (fzl_ints.mpr rfl)
theorem lay_ints (ns : List Int) : PyData.canLayAll0 (ns.map .int) = true ∧ PyData.depthAll (ns.map .int) = 0 := by
  induction ns with
  | nil => exact ⟨rfl, rfl⟩
  | cons x p ih =>
    simp only [List.map_cons, PyData.canLayAll0, PyData.depthAll, PyData.canLay0, PyData.depth]
    exact ⟨by rw [ih.1]; rfl, by rw [ih.2]; rfl⟩
theorem eqv_ints (ns : List Int) : PyData.eqvAll (ns.map .int) (ns.map .int) = true := by
  induction ns with
  | nil => rfl
  | cons x p ih => simp only [List.map_cons, PyData.eqvAll, PyData.eqv, ih]; simp
/-! ### blocks of branches -/
def offs : Nat → List PT → List Nat
  | _, [] => []
  | k, b :: bs => k :: offs (k + b.gs.length) bs
theorem offs_len (k : Nat) (bs : List PT) : (offs k bs).length = bs.length := by
  induction bs generalizing k with
  | nil => rfl
  | cons b bs ih => rw [offs, List.length_cons, List.length_cons, ih]
theorem offs_lt {bs : List PT} : ∀ {k : Nat}, (∀ b ∈ bs, b.gs ≠ []) → (∀ o ∈ offs k bs, k ≤ o) ∧ (offs k bs).Pairwise (· < ·) := by
  induction bs with
  | nil => intro k _; exact ⟨fun o h => by simp [offs] at h, by simp [offs]⟩
  | cons b bs ih =>
    intro k h
    obtain ⟨h1, h2⟩ := ih (k := k + b.gs.length) fun c hc => h c (by simp [hc])
    have hp := List.length_pos_iff.mpr (h b (by simp))
    rw [offs]
    refine ⟨fun o ho => ?_, List.pairwise_cons.mpr ⟨fun o ho => ?_, h2⟩⟩
    · rcases List.mem_cons.mp ho with rfl | ho
      · exact Nat.le_refl _
      · have := h1 o ho; omega
    · have := h1 o ho; omega
/-- b sits in s from place k on -/
def Blk (s : List Int) (b : PT) (k : Nat) : Prop := ∃ x c y, s = x ++ (c ++ y) ∧ x.length = k ∧ PT.Fr b c
theorem frl_blk {s : List Int} {bs : List PT} : ∀ {x c y : List Int}, s = x ++ (c ++ y) → PT.FrL bs c → ∀ (i : Nat) (b : PT), bs[i]? = some b → ∃ k, (offs x.length bs)[i]? = some k ∧ Blk s b k := by
  induction bs with
  | nil => intro x c y _ _ i b h; simp at h
  | cons d bs ih =>
    intro x c y e h i b hb
    obtain ⟨c1, c2, rfl, h1, h2⟩ := PT.frl_cons.mp h
    cases i with
    | zero =>
      simp at hb; subst hb
      exact ⟨x.length, rfl, x, c1, c2 ++ y, by rw [e]; simp, rfl, h1⟩
    | succ i =>
      have e2 : s = (x ++ c1) ++ (c2 ++ y) := by rw [e]; simp
      obtain ⟨k, hk, hb'⟩ := ih e2 h2 i b (by simpa using hb)
      refine ⟨k, ?_, hb'⟩
      rw [offs, List.getElem?_cons_succ]
      rw [List.length_append, (PT.fr_perm h1).length_eq] at hk
      exact hk
/-- the first places of the branches -/
def Fst (s : List Int) (bs : List PT) (ps : List Nat) : Prop := ps.length = bs.length ∧ ∀ (i : Nat) (b : PT), bs[i]? = some b → ∃ k, ps[i]? = some k ∧ Blk s b k
theorem fst_any {s : List Int} {bs : List PT} (h : ∀ b ∈ bs, ∃ k, Blk s b k) : ∃ ps, Fst s bs ps := by
  induction bs with
  | nil => exact ⟨[], rfl, fun i b h => by simp at h⟩
  | cons b bs ih =>
    obtain ⟨ps, h1, h2⟩ := ih fun c hc => h c (by simp [hc])
    obtain ⟨k, hk⟩ := h b (by simp)
    refine ⟨k :: ps, by simp [h1], fun i c hc => ?_⟩
    cases i with
    | zero => simp at hc; subst hc; exact ⟨k, rfl, hk⟩
    | succ i => exact h2 i c (by simpa using hc)
theorem fst_row {s x c y : List Int} {bs : List PT} (e : s = x ++ (c ++ y)) (w : ∀ b ∈ bs, b.gs ≠ []) (h : PT.FrL bs c ∨ PT.FrL bs.reverse c) : ∃ ps, Fst s bs ps ∧ (ps.Pairwise (· < ·) ∨ ps.Pairwise (· > ·)) := by
  rcases h with h | h
  · exact ⟨offs x.length bs, ⟨offs_len _ _, frl_blk e h⟩, .inl (offs_lt w).2⟩
  · refine ⟨(offs x.length bs.reverse).reverse, ⟨by rw [List.length_reverse, offs_len, List.length_reverse], fun i b hb => ?_⟩, .inr ?_⟩
    · have hi : i < bs.length := (List.getElem?_eq_some_iff.mp hb).1
      have hb2 : bs.reverse[bs.length - 1 - i]? = some b := by
        rw [List.getElem?_reverse (by omega)]
        rw [show bs.length - 1 - (bs.length - 1 - i) = i by omega]; exact hb
      obtain ⟨k, hk, hB⟩ := frl_blk e h _ b hb2
      refine ⟨k, ?_, hB⟩
      rw [List.getElem?_reverse (by rw [offs_len, List.length_reverse]; omega), offs_len, List.length_reverse]
      exact hk
    · rw [List.pairwise_reverse]
      exact (offs_lt fun b hb => w b (by simpa using hb)).2
theorem fst_node {s x c y : List Int} {r : Bool} {bs : List PT} (e : s = x ++ (c ++ y)) (w : ∀ b ∈ bs, b.gs ≠ []) (h : PT.Fr (.node r bs) c) : ∃ ps, Fst s bs ps ∧ (r = true → ps.Pairwise (· < ·) ∨ ps.Pairwise (· > ·)) := by
  cases r with
  | true =>
    obtain ⟨ps, h1, h2⟩ := fst_row e w (PT.fr_row.mp h)
    exact ⟨ps, h1, fun _ => h2⟩
  | false =>
    obtain ⟨bs', q, hf⟩ := PT.fr_any.mp h
    obtain ⟨ps, h1⟩ := fst_any (s := s) (bs := bs) fun b hb => by
      obtain ⟨i, hi⟩ := List.mem_iff_getElem?.mp (q.mem_iff.mpr hb)
      obtain ⟨k, _, hB⟩ := frl_blk e hf i b hi
      exact ⟨k, hB⟩
    exact ⟨ps, h1, fun z => by cases z⟩
section
variable {P : Program} {w : World} {K : PySem.W.Frag} {mg : Str → Option Value} {base : Heap}
theorem sc31 : FnScope ["branches", "seating", "found", "branch", "places", "guest"] ["branches", "seating"] (defScope (topS 30)) := ⟨rfl, rfl, rfl, by decide +kernel, rfl, by decide +kernel, by decide +kernel⟩
def spSpans : Sp := fun vs H Q _ => ∃ (bv sv : V) (bs : List PT) (s : List Int) (ps : List Nat), vs = [bv, sv] ∧ Fz H bv (dt bs) ∧ RoD H sv s ∧ s.Nodup ∧ bs.length ≤ 7 ∧ (∀ b ∈ bs, b.gs ≠ [] ∧ b.gs.length ≤ 7 ∧ b.dp < 7) ∧ Fst s bs ps ∧
  ∀ p H', Same H H' → H p = none → H' p = some (.lst (ps.map fun k => V.int (k : Nat))) → Q (.ref p) H'
theorem cl_spans (D : Dfn K mg 30 "spans_of") (B : Bt mg) (cG : Cl P w K mg base 8 "guests_of" ["tree"] (spGuests 7)) : Cl P w K mg base 9 "spans_of" ["branches", "seating"] spSpans := by
  refine D.cl sc31 (fun _ _ _ _ _ _ us hl => match us, hl with | [_, _], _ => rfl) (fun vs H Q E h => ?_) (fun f cdv A outer s H vs Q E hr h => ?_)
  · obtain ⟨_, _, _, _, _, rfl, _⟩ := h; rfl
  obtain ⟨bv, sv, bs, s, ps, rfl, hb, hs, nd, h7, hbs, hF, q⟩ := h
  obtain ⟨b, xs, rfl, hb0, hx⟩ := fz_tup.mp hb
  have hlen : xs.length = bs.length := by rw [hx.len, List.length_map]
  refine ⟨_, pss_cons (ps_set (i := 2) sc31.nd rfl (.inl rfl) (pe_lst pa_nil))
    (pss_cons (ps_for PassesOwn.never rfl (pi_tup (pv 0)) (pg_name (i := 3) sc31.nd rfl (.inl rfl))
      (pss_cons (ps_set (i := 4) sc31.nd rfl (.inl rfl) (pe_callB cr_sortedI rfl B.sorted (by decide +kernel) (pa_cons
          (pe_lc (own := [("guest", 5)]) (g := gName 5) (tt := tYes) (te := tBMT (rTix K) (tVar 1) (tCons (tVar 5) tNil)) rfl sc31.nd (pi_list (pe_cl cG hr (Nat.le_refl _) rfl (pa_cons (pv 3) pa_nil))) (blkOk_by (N := ["branches", "seating", "found", "branch", "places", "guest"]) (sc := defScope (topS 30)) (by decide +kernel))
            (fun _ _ _ _ _ => pg_name (i := 5) sc31.nd rfl (Or.inl rfl)) (fun _ _ _ _ _ => pts_nil) (fun _ _ _ _ _ => pe_bmT PySem.F.slot_tuple_index PySem.F.type_tuple_index mt_tix (pv 1) (pa_cons (pv 5) pa_nil))) pa_nil)))
      (pss_cons (ps_if (pt_cmpR op_ge (pe_op op_sub (pe_ix ix_list (pv 4) (pe_un un_neg pe_int) (fun _ _ => rfl)) (pe_ix ix_list (pv 4) pe_int (fun _ _ => rfl))) (pe_callB call_len_seq rfl B.len PySem.boot_len (pa_cons (pv 4) pa_nil)) (nomark _)) (pss_one (ps_ret pe_non)) pss_nil)
      (pss_one (ps_expr (pe_bm PySem.F.plainAttrs_list PySem.F.slot_list_append PySem.F.type_list_append mt_append (pv 2) (pa_cons (pe_ix ix_list (pv 4) pe_int (fun _ _ => rfl)) pa_nil)))))))
    (pss_one (ps_ret (pv 2)))), ?_⟩
  refine ⟨Nat.zero_le _, fun m nm => ?_⟩
  have g0 : Same H (upd H m (.lst [])) := same_new nm
  refine ⟨_, rfl, b, rfl, ⟨_, g0.sqT hb0⟩, ?_⟩
  refine for_tup (K := K) (xs := xs) (fun i σ H' => Same H H' ∧ H' m = some (.lst ((ps.take i).map fun k => V.int (k : Nat))) ∧ ∃ y3 y4, σ = [some (.ref b), some sv, some (.ref m), y3, y4, none]) ⟨g0, by rw [upd_same]; rfl, _, _, rfl⟩ (fun j σ H' _ h => h.1.sqT hb0) (fun i x σ H1 hi h => ?_) (fun σ H1 h => ?_)
  · obtain ⟨g1, hm, y3, y4, rfl⟩ := h
    obtain ⟨dd, hdd, hxx⟩ := (hx.same g1).get hi
    rw [List.getElem?_map] at hdd
    obtain ⟨t, hti, rfl⟩ := Option.map_eq_some_iff.mp hdd
    obtain ⟨hne, hl7, hd7⟩ := hbs t (List.mem_of_getElem? hti)
    obtain ⟨k, hk, x1, c, y, es, hxk, hfr⟩ := hF.2 i t hti
    have hcp := PT.fr_perm hfr
    refine ⟨_, rfl, x, t, rfl, hxx, hd7, by omega, fun G H2 g2 nG hG => ?_⟩
    refine ⟨G, rfl, ⟨_, SqL.of hG⟩, fun D hD => ?_⟩
    have hgl : (t.gs.map V.int).length = t.gs.length := List.length_map _
    refine lc_fz1 (walk_list (K := K) (a := G) (xs := t.gs.map V.int)) hD (fun H3 g3 => g3.sqL (SqL.of hG)) yat_same (fun _ => rfl) (fun i => (t.gs[i]?.map fun g => PyData.int (s.idxOf g : Nat)).getD .none) (by rw [hgl]; omega) (fun j u H3 H4 H5 hj g3 y' g4 Ky hky => ?_) (fun H3 g3 hL => ?_)
    · obtain ⟨rfl, hu⟩ := y'
      rw [List.getElem?_map] at hu
      obtain ⟨z, hz, rfl⟩ := Option.map_eq_some_iff.mp hu
      obtain ⟨sa, so, rfl, hsd, hsh⟩ := hs.same (((g1.trans g2).trans g3).trans g4)
      have hzs : z ∈ s := by
        rw [es]
        exact List.mem_append_right _ (List.mem_append_left _ (hcp.mem_iff.mpr (List.mem_of_getElem? hz)))
      refine ⟨_, rfl, ⟨sa, so, _, rfl, hsd, hsh⟩, _, rfl, sa, s, z, rfl, rfl, .inl (.inr ⟨so, hsh⟩), hzs, hky _ _ (Same.refl _) ?_⟩
      rw [hz]; exact .int _
    · rw [hgl, gvn_list] at hL
      have e1 : t.gs.map (fun g => PyData.int (s.idxOf g : Nat)) = (t.gs.map fun g => (s.idxOf g : Int)).map .int := by rw [List.map_map]; rfl
      rw [e1, Ls.ints] at hL
      refine ⟨D, _, rfl, SqL.of hL, fun places pl hperm hsort npl => ?_⟩
      have eP := places_block (x := x1) (c := c) (y := y) (by rw [← es]; exact nd) hcp (by rw [← es]; exact hperm) hsort
      have hcne : c ≠ [] := fun e => hne (by rw [e] at hcp; exact List.nil_perm.mp hcp)
      obtain ⟨mm, hmm, e0, eZ, eL⟩ := block_places (x := x1.length) hcne
      rw [← eP] at e0 eZ eL
      have gp : Same H3 (upd H3 pl (.lst (places.map V.int))) := same_new npl
      have gall := ((g1.trans g2).trans g3).trans gp
      refine ⟨_, rfl, 1, rfl, pl, _, _, _, rfl, rfl, SqL.of upd_same, at_neg1 (v := V.int ((x1.length + mm : Nat) : Int)) (by rw [List.getLast?_map, eZ]; rfl), _, rfl, pl, _, _, _, rfl, rfl, SqL.of upd_same, atI_nat (j := 0) (v := V.int (x1.length : Int)) (by rw [List.getElem?_map, e0]; rfl), _, _, rfl, rfl, _, rfl, pl, _, rfl, .inl (SqL.of upd_same), ?_⟩
      have hm4 : (upd H3 pl (.lst (places.map V.int))) m = some (.lst ((ps.take i).map fun k => V.int (k : Nat))) := ((g2.trans g3).trans gp) _ _ hm
      refine ⟨_, _, rfl, rfl, _, rfl, ?_⟩
      rw [decide_eq_false (by rw [List.length_map, eL]; omega)]
      refine iteF ?_
      refine ⟨_, rfl, .inl ⟨rfl, _, SqL.of hm4⟩, _, rfl, pl, _, _, _, rfl, rfl, SqL.of upd_same, atI_nat (j := 0) (v := V.int (x1.length : Int)) (by rw [List.getElem?_map, e0]; rfl), ?_⟩
      have hpl : (ps.take i).length ≤ 7 := by rw [List.length_take]; have := hF.1; omega
      refine ⟨m, _, _, rfl, rfl, hm4, by rw [List.length_map]; exact big_lt (by omega), same_mut gall nm, ?_, _, _, rfl⟩
      rw [upd_same, take_snoc hk, List.map_append, ← hxk]; rfl
  · obtain ⟨g1, hm, y3, y4, rfl⟩ := h
    rw [hlen, ← hF.1, List.take_length] at hm
    exact ⟨_, rfl, q m _ g1 nm hm⟩
end
end ST
namespace ST
open PySem PySem.Spec PyProof.Rows L2
theorem room65 {k : Nat} {A : Around} (r : Room k A) : A.units + 65 < cLine := by have := r.un; omega
theorem nat_pw {ps : List Nat} (h : ps.Pairwise (· < ·)) : (ps.map fun k : Nat => (k : Int)).Pairwise (· ≤ ·) := by
  rw [List.pairwise_map]; exact h.imp fun h => by omega
theorem nat_pwG {ps : List Nat} (h : ps.Pairwise (· > ·)) : (ps.map fun k : Nat => (k : Int)).Pairwise (· ≥ ·) := by
  rw [List.pairwise_map]; exact h.imp fun h => by omega
theorem eq_le {l m : List Int} (q : l.Perm m) (h : l.Pairwise (· ≤ ·)) (k : m.Pairwise (· ≤ ·)) : l = m :=
  (srt_uniq q h).trans (srt_uniq (.refl _) k).symm
theorem eq_ge {l m : List Int} (q : l.Perm m) (h : l.Pairwise (· ≥ ·)) (k : m.Pairwise (· ≥ ·)) : l = m := by
  have := eq_le (((List.reverse_perm l).trans q).trans (List.reverse_perm m).symm) (by rw [List.pairwise_reverse]; exact h) (by rw [List.pairwise_reverse]; exact k)
  have := congrArg List.reverse this
  simpa using this
section
variable {P : Program} {w : World} {K : PySem.W.Frag} {mg : Str → Option Value} {base : Heap}
theorem sc31' : FnScope ["tree", "seating", "firsts", "branch"] ["tree", "seating"] (defScope (topS 31)) := ⟨rfl, rfl, rfl, by decide +kernel, rfl, by decide +kernel, by decide +kernel⟩
def spFits (d : Nat) : Sp := fun vs H Q _ => ∃ (v sv : V) (t : PT) (s x c y : List Int), vs = [v, sv] ∧ Tr H v t ∧ RoD H sv s ∧ s.Nodup ∧ s = x ++ (c ++ y) ∧ PT.Fr t c ∧ PT.Wf t ∧ t.gs.length ≤ 7 ∧ t.dp < d ∧ ∀ H', Same H H' → Q (.bl true) H'
theorem wf_kids {r : Bool} {bs : List PT} (w : PT.Wf (.node r bs)) (h7 : (PT.gsL bs).length ≤ 7) : ∀ b ∈ bs, b.gs ≠ [] ∧ b.gs.length ≤ 7 ∧ b.dp < 7 := fun b hb => by
  have h1 := Nat.le_trans (gs_mem_le hb) h7
  have := PT.dp_gs (w.br b hb)
  exact ⟨(w.br b hb).ne, h1, by omega⟩
theorem cl_fits (D : Dfn K mg 31 "fits") (B : Bt mg) (cL : Cl P w K mg base 1 "is_leaf" ["tree"] spLeaf) (cS : Cl P w K mg base 9 "spans_of" ["branches", "seating"] spSpans) : ∀ d, Cl P w K mg base (d + 10) "fits" ["tree", "seating"] (spFits d)
  | 0 => D.void (fun _ _ _ _ _ _ us hl => match us, hl with | [_, _], _ => rfl) fun vs H Q E ⟨_, _, _, _, _, _, _, _, _, _, _, _, _, _, _, h, _⟩ => absurd h (Nat.not_lt_zero _)
  | d + 1 => by
    have cF := cl_fits D B cL cS d
    refine D.cl sc31' (fun _ _ _ _ _ _ us hl => match us, hl with | [_, _], _ => rfl) (fun vs H Q E h => ?_) (fun f cdv A outer s H vs Q E hr h => ?_)
    · obtain ⟨_, _, _, _, _, _, _, rfl, _⟩ := h; rfl
    obtain ⟨v, sv, t, s, x, c, y, rfl, ht, hs, nd, es, hfr, wt, h7, hd, q⟩ := h
    refine ⟨_, pss_cons (ps_if (pt_val (pe_cl cL hr (by omega) rfl (pa_cons (pv 0) pa_nil))) (pss_one (ps_ret pe_bl)) pss_nil)
      (pss_cons (ps_set (i := 2) sc31'.nd rfl (.inl rfl) (pe_cl cS hr (by omega) rfl (pa_cons (pe_ix ix_tup (pv 0) pe_int (fun _ _ => rfl)) (pa_cons (pv 1) pa_nil))))
      (pss_cons (ps_if (PW.pt (pw_or (pt_cmpR op_isN (pv 2) pe_non (nomark _)) (pw_or1 (pt_not (pt_val (pe_callB (cr_all rfl) rfl B.all (by decide +kernel) (pa_cons
          (pe_lc (own := [("branch", 3)]) (g := gName 3) (tt := tYes) rfl sc31'.nd (pi_tup (pe_ix ix_tup (pv 0) pe_int (fun _ _ => rfl))) (blkOk_by (N := ["tree", "seating", "firsts", "branch"]) (sc := defScope (topS 31)) (by decide +kernel))
            (fun _ _ _ _ _ => pg_name (i := 3) sc31'.nd rfl (Or.inl rfl)) (fun _ _ _ _ _ => pts_nil) (fun _ _ _ _ _ => pe_cl cF hr (Nat.le_refl _) rfl (pa_cons (pv 3) (pa_cons (pv 1) pa_nil)))) pa_nil)))))))
          (pss_one (ps_ret pe_bl)) pss_nil)
      (pss_one (ps_ret (pe_or (pe_cmpR op_eq (pe_ix ix_tup (pv 0) pe_int (fun _ _ => rfl)) (pe_gs rfl B.ANY) (nomark _))
        (pe_one (pe_cmpR (op_inTD (room65 hr)) (pv 2) (pe_tup (pa_cons (pe_callB cr_sortedI rfl B.sorted (by decide +kernel) (pa_cons (pv 2) pa_nil)) (pa_cons (pe_callBK (cr_sortedRev (b := true)) rfl B.sorted (by decide +kernel) (pa_cons (pv 2) pa_nil) (pk_cons pe_bl pk_nil)) pa_nil))) rfl))))))), ?_⟩
    refine ⟨_, rfl, _, t, rfl, ht, _, rfl, ?_⟩
    cases t with
    | leaf g => exact iteT (q H (Same.refl _))
    | node r bs =>
      refine iteF ?_
      rw [PT.gs_node] at h7
      have hb7 : bs.length ≤ 7 := Nat.le_trans (br_le wt.br) h7
      obtain ⟨a, b, rfl, ha, hb⟩ := tr_kids.mp ht
      have wk := wf_kids wt h7
      obtain ⟨ps, hF, hord⟩ := fst_node es (fun b hb => (wk b hb).1) hfr
      refine ⟨_, rfl, a, _, _, _, rfl, rfl, .inl ha, rfl, _, rfl, _, sv, bs, s, ps, rfl, hb, hs, nd, hb7, wk, hF, fun p H1 g1 np hp => ?_⟩
      obtain ⟨b', xs, e', hb0, hx⟩ := fz_tup.mp hb
      cases e'
      have hlen : xs.length = bs.length := by rw [hx.len, List.length_map]
      refine ⟨_, rfl, rfl, false, bl_f (by intro z; cases z), iteF ?_⟩
      refine ⟨_, rfl, a, _, _, _, rfl, rfl, .inl (g1.rd ha), rfl, b, rfl, ⟨_, g1.sqT hb0⟩, fun D hD => ?_⟩
      refine lc_fz1 (walk_tup (K := K) (a := b) (xs := xs)) hD (fun H2 g2 => (g1.trans g2).sqT hb0) yat_same (fun _ => rfl) (fun _ => .bool true) (by omega) (fun i z H2 H3 H4 hi g2 y' g3 Ky hk => ?_) (fun H2 g2 hL => ?_)
      · obtain ⟨rfl, hz⟩ := y'
        obtain ⟨dd, hdd, hzz⟩ := hx.get hz
        rw [List.getElem?_map] at hdd
        obtain ⟨u, hu, rfl⟩ := Option.map_eq_some_iff.mp hdd
        have hum := List.mem_of_getElem? hu
        obtain ⟨k, hk0, x1, c1, y1, e1, _, hf1⟩ := hF.2 i u hu
        have g14 := (g1.trans g2).trans g3
        refine ⟨_, rfl, _, rfl, z, sv, u, s, x1, c1, y1, rfl, hzz.same g14, hs.same g14, nd, e1, hf1, wt.br u hum, (wk u hum).2.1, ?_, fun H5 g5 => hk _ _ g5 (.bl true)⟩
        have := PT.dp_br (r := r) hum; omega
      · rw [gvn_all] at hL
        have e1 : (List.range xs.length).map (fun _ => PyData.bool true) = ((List.range xs.length).map fun _ => true).map .bool := by rw [List.map_map]; rfl
        rw [e1] at hL
        have hbl := hL.bools
        refine ⟨D, _, rfl, SqL.of hbl, true, ?_, iteF ?_⟩
        · have : ((List.range xs.length).map fun _ => true).all id = true := List.all_eq_true.mpr fun b hb => by
            obtain ⟨_, _, rfl⟩ := List.mem_map.mp hb; rfl
          rw [this]
        have g12 := g1.trans g2
        refine ⟨_, rfl, a, _, _, _, rfl, rfl, .inl (g12.rd ha), rfl, rfl, _, rfl, ?_⟩
        rw [kS_any]
        cases r with
        | false => exact q _ g12
        | true =>
          have hp2 : H2 p = some (.lst ((ps.map fun k : Nat => (k : Int)).map V.int)) := by rw [List.map_map]; exact g2 _ _ hp
          refine ⟨_, rfl, _, rfl, p, _, rfl, SqL.of hp2, fun l1 A1 q1 o1 n1 => ?_⟩
          have k1 : Same H2 (upd H2 A1 (.lst (l1.map V.int))) := same_new n1
          refine ⟨_, rfl, p, _, rfl, rfl, SqL.of (k1 _ _ hp2), fun l2 A2 q2 o2 n2 => ?_⟩
          have k2 := same_new (o := .lst (l2.map V.int)) n2
          refine ⟨(by show 2 ≤ sizeLine; decide), fun T nT => ?_⟩
          have k3 := same_new (o := .tup [.ref A1, .ref A2]) nT
          have hA1 := k3 _ _ (k2 _ _ (upd_same (H := H2) (a := A1) (o := .lst (l1.map V.int))))
          have hA2 := k3 _ _ (upd_same (H := upd H2 A1 (.lst (l1.map V.int))) (a := A2) (o := .lst (l2.map V.int)))
          have hp3 := k3 _ _ (k2 _ _ (k1 _ _ hp2))
          refine ⟨.list ((ps.map fun k : Nat => (k : Int)).map .int), [.list (l1.map .int), .list (l2.map .int)], .lst (SqL.of hp3) (dp_ints K), .tup (SqT.of upd_same) (.cons (.lst (SqL.of hA1) (dp_ints K)) (.cons (.lst (SqL.of hA2) (dp_ints K)) .nil)), ?_, ?_, ?_⟩
          · unfold SeqAt.shaped
            simp only [PyData.canLay0, PyData.depth, (lay_ints _).1, (lay_ints _).2]; decide
          · unfold SeqAt.shaped
            simp only [PyData.canLay0, PyData.canLayAll0, PyData.depth, PyData.depthAll, (lay_ints _).1, (lay_ints _).2]; decide
          have gf := ((g12.trans k1).trans k2).trans k3
          have : ([PyData.list (l1.map .int), .list (l2.map .int)].any fun z => PyData.eqv z (.list ((ps.map fun k : Nat => (k : Int)).map .int))) = true := by
            rcases hord rfl with h | h
            · rw [eq_le q1 o1 (nat_pw h)]
              simp only [List.any_cons, PyData.eqv, eqv_ints]; rfl
            · rw [eq_ge q2 o2 (nat_pwG h)]
              simp only [List.any_cons, PyData.eqv, eqv_ints]; simp
          rw [this]
          exact q _ gf
theorem sc29 : FnScope ["n", "tree", "seating"] ["n", "tree", "seating"] (defScope (topS 29)) := ⟨rfl, rfl, rfl, by decide +kernel, rfl, by decide +kernel, by decide +kernel⟩
theorem rg_row {n : Nat} {t : PT} {r : List Int} (h : GoodN n t) (f : PT.Fr t r) : r.Nodup := (((PT.fr_perm f).trans h.2.2.q).nodup_iff).mpr (rg_nd n)
def spHasRow : Sp := fun vs H Q _ => ∃ (n : Nat) (v sv : V) (t : PT) (s : List Int), vs = [.int (n : Int), v, sv] ∧ Tr H v t ∧ RoD H sv s ∧ PT.Fr t s ∧ GoodN n t ∧ ∀ H', Same H H' → Q (.bl true) H'
theorem cl_hasRow (D : Dfn K mg 29 "has_row") (B : Bt mg) (cN : Cl P w K mg base 2 "need_guests" ["n"] spNeedG) (cF : Cl P w K mg base 17 "fits" ["tree", "seating"] (spFits 7)) : Cl P w K mg base 18 "has_row" ["n", "tree", "seating"] spHasRow := by
  refine D.cl sc29 (fun _ _ _ _ _ _ us hl => match us, hl with | [_, _, _], _ => rfl) (fun vs H Q E h => ?_) (fun f cdv A outer s H vs Q E hr h => ?_)
  · obtain ⟨_, _, _, _, _, rfl, _⟩ := h; rfl
  obtain ⟨n, v, sv, t, s, rfl, ht, hs, hf, hg, q⟩ := h
  refine ⟨_, pss_cons (ps_expr (pe_cl cN hr (by omega) rfl (pa_cons (pv 0) pa_nil))) (pss_one (ps_ret (pe_cl cF hr (Nat.le_refl _) rfl (pa_cons (pv 1) (pa_cons (pv 2) pa_nil))))), ?_⟩
  refine ⟨_, rfl, n, rfl, by have := hg.1; omega, by have := hg.2.1; omega, _, rfl, _, rfl, v, sv, t, s, [], s, [], rfl, ht, hs, rg_row hg hf, by simp, hf, hg.2.2.wf, by rw [hg.len]; exact hg.2.1, hg.dp, q⟩
/-! ### rows in order -/
theorem sc28 : FnScope ["n", "tree"] ["n", "tree"] (defScope (topS 28)) := ⟨rfl, rfl, rfl, by decide +kernel, rfl, by decide +kernel, by decide +kernel⟩
def spRowsOf : Sp := fun vs H Q _ => ∃ (n : Nat) (v : V) (t : PT), vs = [.int (n : Int), v] ∧ Tr H v t ∧ GoodN n t ∧ ∀ (p : Addr) (H' : Hp) (rs : List (List Int)), Same H H' → H p = none → LR H' p rs → rs.length = t.many → (∀ r ∈ rs, PT.Fr t r) → Q (.ref p) H'
theorem cl_rowsOf (D : Dfn K mg 28 "rows_of") (B : Bt mg) (cN : Cl P w K mg base 2 "need_guests" ["n"] spNeedG) (cA : Cl P w K mg base 10 "all_rows" ["tree"] (spAll 7)) : Cl P w K mg base 11 "rows_of" ["n", "tree"] spRowsOf := by
  refine D.cl sc28 (fun _ _ _ _ _ _ us hl => match us, hl with | [_, _], _ => rfl) (fun vs H Q E h => ?_) (fun f cdv A outer s H vs Q E hr h => ?_)
  · obtain ⟨_, _, _, rfl, _⟩ := h; rfl
  obtain ⟨n, v, t, rfl, ht, hg, q⟩ := h
  refine ⟨_, pss_cons (ps_expr (pe_cl cN hr (by omega) rfl (pa_cons (pv 0) pa_nil))) (pss_one (ps_ret (pe_callB (cr_sortedR hr.units) rfl B.sorted (by decide +kernel) (pa_cons (pe_cl cA hr (Nat.le_refl _) rfl (pa_cons (pv 1) pa_nil)) pa_nil)))), ?_⟩
  have h7 : t.gs.length ≤ 7 := by rw [hg.len]; exact hg.2.1
  refine ⟨_, rfl, n, rfl, by have := hg.1; omega, by have := hg.2.1; omega, _, rfl, v, t, rfl, ht, hg.dp, hg.2.2.wf, h7, fun p H1 rs g1 np hp hl hf => ?_⟩
  obtain ⟨xs, ep, kp⟩ := hp
  have := many7 hg.2.2.wf h7
  refine ⟨p, xs, rs, rfl, SqL.of ep, kp, fun r hr' e => ?_, by rw [kp.len]; omega, fun ys rs' p' k' q' np' => ?_⟩
  · subst e
    have := (PT.fr_perm (hf _ hr')).length_eq
    exact hg.2.2.wf.ne (List.eq_nil_of_length_eq_zero this.symm)
  · have g2 : Same H1 (upd H1 p' (.lst ys)) := same_new np'
    exact q p' _ rs' (g1.trans g2) (none_back g1 np') ⟨ys, upd_same, k'.same g2⟩ (by rw [q'.length_eq]; exact hl) fun r hr' => hf r (q'.mem_iff.mp hr')
theorem sc32 : FnScope ["n", "tree", "number"] ["n", "tree", "number"] (defScope (topS 32)) := ⟨rfl, rfl, rfl, by decide +kernel, rfl, by decide +kernel, by decide +kernel⟩
def spRowAt : Sp := fun vs H Q _ => ∃ (n : Nat) (v : V) (t : PT) (k : Nat), vs = [.int (n : Int), v, .int (k : Int)] ∧ Tr H v t ∧ GoodN n t ∧ k < t.many ∧ ∀ (u : V) (H' : Hp) (r : List Int), Same H H' → RoD H' u r → PT.Fr t r → Q u H'
theorem cl_rowAt (D : Dfn K mg 32 "row_at") (B : Bt mg) (cN : Cl P w K mg base 2 "need_guests" ["n"] spNeedG) (cW : Cl P w K mg base 1 "is_whole" ["thing"] spWhole) (cM : Cl P w K mg base 8 "many_of" ["tree"] (spMany 7)) (cR : Cl P w K mg base 11 "rows_of" ["n", "tree"] spRowsOf) : Cl P w K mg base 12 "row_at" ["n", "tree", "number"] spRowAt := by
  refine D.cl sc32 (fun _ _ _ _ _ _ us hl => match us, hl with | [_, _, _], _ => rfl) (fun vs H Q E h => ?_) (fun f cdv A outer s H vs Q E hr h => ?_)
  · obtain ⟨_, _, _, _, rfl, _⟩ := h; rfl
  obtain ⟨n, v, t, k, rfl, ht, hg, hk, q⟩ := h
  refine ⟨_, pss_cons (ps_expr (pe_cl cN hr (by omega) rfl (pa_cons (pv 0) pa_nil)))
    (pss_cons (ps_if (PW.pt (pw_or (pt_not (pt_val (pe_cl cW hr (by omega) rfl (pa_cons (pv 2) pa_nil)))) (pw_or1 (pt_not (pt_chain op_le op_lt pe_int (pv 2) (pe_cl cM hr (by omega) rfl (pa_cons (pv 1) pa_nil))))))) (pss_one ps_never) pss_nil)
    (pss_one (ps_ret (pe_ix ix_list (pe_cl cR hr (Nat.le_refl _) rfl (pa_cons (pv 0) (pa_cons (pv 1) pa_nil))) (pv 2) (fun _ _ => rfl))))), ?_⟩
  have h7 : t.gs.length ≤ 7 := by rw [hg.len]; exact hg.2.1
  refine ⟨_, rfl, n, rfl, by have := hg.1; omega, by have := hg.2.1; omega, ?_⟩
  refine ⟨_, rfl, _, rfl, true, rfl, iteF ?_⟩
  refine ⟨_, rfl, _, _, rfl, rfl, true, bl_t (by omega), iteT ?_⟩
  refine ⟨_, rfl, v, t, rfl, ht, hg.dp, hg.2.2.wf, h7, _, _, rfl, rfl, true, bl_t (by omega), iteF ?_⟩
  refine ⟨_, rfl, _, rfl, n, v, t, rfl, ht, hg, fun p H1 rs g1 np hp hl hf => ?_⟩
  obtain ⟨xs, ep, kp⟩ := hp
  have hkl : k < xs.length := by rw [kp.len]; omega
  obtain ⟨r, hr', hx⟩ := kp.get (List.getElem?_eq_getElem hkl)
  exact ⟨_, rfl, p, _, _, _, rfl, rfl, SqL.of ep, atI_nat (List.getElem?_eq_getElem hkl), q _ H1 r g1 hx (hf r (List.mem_of_getElem? hr'))⟩
end
end ST
namespace ST
open PySem PySem.Spec PyProof.Rows L2
/-! ### sorted of pairs, an int first -/
def IsPT (h : Heap) (v : Value) (x : Int) : Prop := ∃ a o t u n, v = .ref a ∧ h.get? a = some o ∧ o.cls = .type "tuple" ∧ o.data = .seq #[.int x t, u] n
theorem IsPT.keeps {h h' : Heap} {v : Value} {x : Int} (p : IsPT h v x) (k : ∀ b o, h.get? b = some o → o.cls = .type "tuple" → h'.get? b = some o) : IsPT h' v x := by
  obtain ⟨a, o, t, u, n, e, ho, hc, hd⟩ := p
  exact ⟨a, o, t, u, n, e, k _ _ ho hc, hc, hd⟩
theorem IsPT.uniq {h : Heap} {v : Value} {x y : Int} (p : IsPT h v x) (q : IsPT h v y) : x = y := by
  obtain ⟨a, o, t, u, n, rfl, ho, hc, hd⟩ := p
  obtain ⟨a', o', t', u', n', e, ho', hc', hd'⟩ := q
  cases e
  have : o = o' := Option.some.inj (ho.symm.trans ho')
  subst this
  rw [hd] at hd'
  cases hd'; rfl
theorem swo_key (k : Value → Int) : SrtO.Swo fun v u => decide (k v < k u) := by
  refine ⟨fun x y h => ?_, fun x y z h1 h2 => ?_⟩
  · have := of_decide_eq_true h
    exact decide_eq_false (by omega)
  · have a := of_decide_eq_false h1
    have b := of_decide_eq_false h2
    exact decide_eq_false (by omega)
section
variable {prog : Program} {w : World} {A : Around} {E : Value → Shared → Prop} {s : Shared}
theorem pt_cmpS {vs : List Value} {k : Value → Int} (hp : ∀ v ∈ vs, IsPT s.heap v (k v)) (inj : ∀ v ∈ vs, ∀ u ∈ vs, k v = k u → v = u) : SrtO.Cmp prog w A s (tuples' true) (fun p => p.1 ∈ vs) (SrtO.lt2 fun v u => decide (k v < k u)) := by
  intro p q hm hm'
  have h1 := hp _ hm
  have h2 := hp _ hm'
  have hi := inj _ hm _ hm'
  show wpAny (model prog w) A (keyLt' (tuples' true) p.1 q.1) (fun r s' => s' = s ∧ r = decide (k p.1 < k q.1)) (fun _ _ => False) s
  obtain ⟨a, o, t, u, n, e, ho, hc, hd⟩ := h1
  obtain ⟨a', o', t', u', n', e', ho', hc', hd'⟩ := h2
  generalize k p.1 = x at *
  generalize k q.1 = x' at *
  rw [e, e']
  refine PySem.W.kat_lt ho hd ho' hd' ?_
  show PySem.W.KatLex prog w A true (decide (2 < 2)) _ [(.int x t, .int x' t'), (u, u')] 0 s
  refine PySem.W.kat_cons (SeqAt.EqAt.int_int x t x' t' prog w _ _ ?_)
  refine PySem.W.kat_go (fun e1 => ?_) (fun e1 => ?_)
  · have ex : x = x' := by simpa using e1
    have ev := hi ex
    rw [e, e'] at ev
    cases ev
    have : o = o' := Option.some.inj (ho.symm.trans ho')
    subst this
    rw [hd] at hd'
    cases hd'
    refine PySem.W.kat_yes (PySem.W.kat_cons (SeqAt.EqAt.same u prog w _ _ ?_))
    exact PySem.W.kat_yes (PySem.W.kat_nil ⟨rfl, by simp⟩)
  · exact PySem.W.kat_no (oneLt_int ⟨rfl, rfl⟩)
theorem firsts_pt {h : Heap} {k : Value → Int} : ∀ {vs : List Value}, (∀ v ∈ vs, IsPT h v (k v)) → ∃ fs : List Value, PySem.W.KatTups h vs fs ∧ fs.length = vs.length ∧ ∀ f ∈ fs, ∃ x t, f = Value.int x t
  | [], _ => ⟨[], PySem.W.KatTups.nil, rfl, fun _ hm => by simp at hm⟩
  | v :: vs, hp => by
    obtain ⟨fs, h1, h2, h3⟩ := firsts_pt (vs := vs) fun v' hm => hp v' (List.mem_cons_of_mem _ hm)
    obtain ⟨a, o, t, u, n, e, ho, hc, hd⟩ := hp v (List.mem_cons_self ..)
    subst e
    refine ⟨.int _ t :: fs, PySem.W.KatTups.cons ho hc hd rfl h1, by rw [List.length_cons, List.length_cons, h2], fun f hm => ?_⟩
    rcases List.mem_cons.mp hm with rfl | hm
    · exact ⟨_, t, rfl⟩
    · exact h3 f hm
theorem pts_sortable {a : Addr} {vs : List Value} {k : Value → Int} (h0 : 0 < vs.length) (hp : ∀ v ∈ vs, IsPT s.heap v (k v)) (inj : ∀ v ∈ vs, ∀ u ∈ vs, k v = k u → v = u) (ha : ∀ o, s.heap.get? a = some o → o.cls ≠ .type "tuple") : SrtO.SortableO prog w A s a vs fun v u => decide (k v < k u) := by
  intro h' keep
  have hp' : ∀ v ∈ vs, IsPT h' v (k v) := fun v hm => (hp v hm).keeps fun b o e c => keep b o (fun z => by subst z; exact ha o e c) e
  obtain ⟨fs, h1, h2, h3⟩ := firsts_pt hp'
  refine ⟨tuples' true, fun Q E hq => ?_, pt_cmpS hp' inj⟩
  refine PySem.W.kat_kind (T := .type "int") h1 (by omega) (fun f hm => ?_) (by rfl) ?_
  · obtain ⟨x, t, rfl⟩ := h3 f hm
    exact PySem.W.Looks.now
  · have e : (Value.type "int" != Value.type "tuple") = true := by first | decide +kernel | rfl | decide
    rw [e]
    exact hq
end
/-- an int and a tree -/
def ePr (p : Int × PT) : PyData := .tuple [.int p.1, p.2.enc]
def kOf (H : Hp) : V → Int
  | .ref a => match H a with
    | some (.tup (.int i :: _)) => i
    | some (.frz _ (.tup (.int i :: _))) => i
    | _ => 0
  | _ => 0
theorem fz_pr {H : Hp} {v : V} {p : Int × PT} : Fz H v (ePr p) ↔ ∃ a y, v = .ref a ∧ Rd H a (.tup [.int p.1, y]) ∧ Tr H y p.2 := by
  unfold ePr
  rw [fz_tup]
  constructor
  · rintro ⟨a, xs, rfl, ha, hx⟩
    cases hx with
    | cons h1 h2 =>
      cases h2 with
      | cons h2 h3 =>
        cases h3
        rw [fz_int.mp h1] at ha
        exact ⟨a, _, rfl, ha, h2⟩
  · rintro ⟨a, y, rfl, ha, hy⟩
    exact ⟨a, _, rfl, ha, .cons (.int _) (.cons hy .nil)⟩
theorem kOf_pr {H : Hp} {v : V} {p : Int × PT} (h : Fz H v (ePr p)) : kOf H v = p.1 := by
  obtain ⟨a, y, rfl, ha | ⟨o, ha⟩, _⟩ := fz_pr.mp h
  · simp only [kOf, ha]
  · simp only [kOf, ha]
def srtP (l : List (Int × PT)) : List (Int × PT) := l.mergeSort fun a b => decide (a.1 ≤ b.1)
theorem srtP_perm (l : List (Int × PT)) : (srtP l).Perm l := List.mergeSort_perm _ _
theorem strict {α : Type} {f : α → Int} {l : List α} (h : l.Pairwise fun a b => f a ≤ f b) (nd : (l.map f).Nodup) : l.Pairwise fun a b => f a < f b := by
  have h2 : l.Pairwise fun a b => f a ≠ f b := by
    rw [List.Nodup, List.pairwise_map] at nd; exact nd
  exact h.imp₂ (fun a b h1 h2 => by omega) h2
theorem srtP_le (l : List (Int × PT)) : (srtP l).Pairwise fun a b => a.1 ≤ b.1 := by
  have := List.pairwise_mergeSort (le := fun a b : Int × PT => decide (a.1 ≤ b.1)) (fun a b c h1 h2 => decide_eq_true (Int.le_trans (of_decide_eq_true h1) (of_decide_eq_true h2))) (fun a b => by simp; omega) l
  exact this.imp fun h => of_decide_eq_true h
theorem FzL.zip {H : Hp} {α : Type} {e : α → PyData} {xs : List V} {ps : List α} (k : FzL H xs (ps.map e)) : ∀ b ∈ xs.zip ps, Fz H b.1 (e b.2) := by
  induction ps generalizing xs with
  | nil => intro b hb; simp at hb
  | cons p ps ih =>
    cases k with
    | cons a t =>
      intro b hb
      rw [List.zip_cons_cons] at hb
      rcases List.mem_cons.mp hb with rfl | hb
      · exact a
      · exact ih t b hb
theorem FzL.unzip {H : Hp} {α : Type} {e : α → PyData} : ∀ {bs : List (V × α)}, (∀ b ∈ bs, Fz H b.1 (e b.2)) → FzL H (bs.map (·.1)) ((bs.map (·.2)).map e)
  | [], _ => .nil
  | b :: bs, h => .cons (h b (by simp)) (FzL.unzip fun c hc => h c (by simp [hc]))
/-- what a sort of such pairs gives -/
theorem sort_pr {H : Hp} {xs ys : List V} {ps : List (Int × PT)} (k : FzL H xs (ps.map ePr)) (nd : (ps.map (·.1)).Nodup) (q : ys.Perm xs) (s : ys.Pairwise fun a b => kOf H a ≤ kOf H b) : FzL H ys ((srtP ps).map ePr) := by
  have hl : xs.length = ps.length := by rw [k.len, List.length_map]
  let zs := (xs.zip ps).mergeSort fun a b => decide (a.2.1 ≤ b.2.1)
  have zp : zs.Perm (xs.zip ps) := List.mergeSort_perm _ _
  have hz : ∀ b ∈ zs, Fz H b.1 (ePr b.2) := fun b hb => k.zip b (zp.mem_iff.mp hb)
  have z1 : (zs.map (·.1)).Perm xs := by have := zp.map (·.1); rwa [List.map_fst_zip (by omega)] at this
  have z2 : (zs.map (·.2)).Perm ps := by have := zp.map (·.2); rwa [List.map_snd_zip (by omega)] at this
  have zo : zs.Pairwise fun a b => a.2.1 ≤ b.2.1 := by
    have := List.pairwise_mergeSort (le := fun a b : V × (Int × PT) => decide (a.2.1 ≤ b.2.1)) (fun a b c h1 h2 => decide_eq_true (Int.le_trans (of_decide_eq_true h1) (of_decide_eq_true h2))) (fun a b => by simp; omega) (xs.zip ps)
    exact this.imp fun h => of_decide_eq_true h
  have kk : xs.map (kOf H) = ps.map (·.1) := by
    clear nd q s z1 z2 zo zp hz
    induction ps generalizing xs with
    | nil => cases k; rfl
    | cons p ps ih =>
      cases k with
      | cons a t => rw [List.map_cons, List.map_cons, kOf_pr a, ih t (by simpa using hl)]
  have ndx : (xs.map (kOf H)).Nodup := by rw [kk]; exact nd
  have e1 : ys = zs.map (·.1) := by
    refine PT.sorted_eq (f := kOf H) (strict s ((q.map _).nodup_iff.mpr ndx)) (strict ?_ ((z1.map _).nodup_iff.mpr ndx)) fun a => (q.mem_iff).trans (z1.mem_iff).symm
    rw [List.pairwise_map]
    have : ∀ (l : List (V × (Int × PT))), (∀ b ∈ l, Fz H b.1 (ePr b.2)) → l.Pairwise (fun a b => a.2.1 ≤ b.2.1) → l.Pairwise fun a b => kOf H a.1 ≤ kOf H b.1 := by
      intro l
      induction l with
      | nil => intro _ _; exact .nil
      | cons b l ih =>
        intro h1 h2
        obtain ⟨h3, h4⟩ := List.pairwise_cons.mp h2
        refine List.pairwise_cons.mpr ⟨fun c hc => ?_, ih (fun c hc => h1 c (by simp [hc])) h4⟩
        rw [kOf_pr (h1 b (by simp)), kOf_pr (h1 c (by simp [hc]))]
        exact h3 c hc
    exact this zs hz zo
  have e2 : zs.map (·.2) = srtP ps := by
    refine PT.sorted_eq (f := fun p : Int × PT => p.1) (strict ?_ ((z2.map _).nodup_iff.mpr nd)) (strict (srtP_le ps) (((srtP_perm ps).map _).nodup_iff.mpr nd)) fun a => (z2.mem_iff).trans ((srtP_perm ps).mem_iff).symm
    rw [List.pairwise_map]; exact zo
  rw [e1, ← e2]
  exact FzL.unzip hz
def rSortedP (K : PySem.W.Frag) : List V → Hp → VK → Prop := fun vs H Q => ∃ (a : Addr) (xs : List V) (ps : List (Int × PT)), vs = [.ref a] ∧ SqL K H a xs ∧ FzL H xs (ps.map ePr) ∧ (ps.map (·.1)).Nodup ∧
  ∀ (ys : List V) (p : Addr), FzL H ys ((srtP ps).map ePr) → H p = none → Q (.ref p) (upd H p (.lst ys))
theorem cr_sortedP {X : Cx} : CallR X (.builtin "sorted") (rSortedP X.K) := by
  intro pins s σ H vs us Q I rv ⟨a, xs, ps, ev, hs, kp, nd, q⟩
  subst ev
  obtain ⟨its, rx, hl, hz⟩ := I.list hs
  obtain ⟨u, rfl, ru⟩ := vals1 rv
  cases ru
  have hlen : xs.length = ps.length := by rw [kp.len, List.length_map]
  have hx : ∀ x ∈ xs, ∃ p ∈ ps, Fz H x (ePr p) := fun x hx => by
    obtain ⟨i, hi⟩ := List.mem_iff_getElem?.mp hx
    obtain ⟨d, hd, hf⟩ := kp.get hi
    rw [List.getElem?_map] at hd
    obtain ⟨p, hp, rfl⟩ := Option.map_eq_some_iff.mp hd
    exact ⟨p, List.mem_of_getElem? hp, hf⟩
  obtain ⟨e1, e2⟩ := refs_back rx fun x m => by
    obtain ⟨p, _, hf⟩ := hx x m
    obtain ⟨b, y, e, _⟩ := fz_pr.mp hf
    exact ⟨b, e⟩
  have hp : ∀ v ∈ its, IsPT s.heap v (kOf H (backV v)) := fun v hv => by
    obtain ⟨t, rfl⟩ := e2 v hv
    have hm : V.ref t ∈ xs := by rw [e1]; exact List.mem_map.mpr ⟨_, hv, rfl⟩
    obtain ⟨p, _, hf⟩ := hx _ hm
    have ek := kOf_pr hf
    show IsPT s.heap (.ref t) (kOf H (.ref t))
    rw [ek]
    obtain ⟨b, y, e, hb, _⟩ := fz_pr.mp hf
    cases e
    obtain ⟨its2, r2, ⟨o, ho, hc, n, hd⟩, _⟩ := I.tuple (X := X) (.inl hb)
    obtain ⟨u1, u2, rfl, ri, rj⟩ := vals2 r2
    obtain ⟨t1, rfl⟩ := ri
    exact ⟨t, o, t1, u2, n, rfl, ho, hc, hd⟩
  have inj : ∀ v ∈ its, ∀ u ∈ its, kOf H (backV v) = kOf H (backV u) → v = u := fun v hv u hu e => by
    obtain ⟨t, rfl⟩ := e2 v hv
    obtain ⟨t', rfl⟩ := e2 u hu
    have hm : V.ref t ∈ xs := by rw [e1]; exact List.mem_map.mpr ⟨_, hv, rfl⟩
    have hm' : V.ref t' ∈ xs := by rw [e1]; exact List.mem_map.mpr ⟨_, hu, rfl⟩
    obtain ⟨i, hi⟩ := List.mem_iff_getElem?.mp hm
    obtain ⟨j, hj⟩ := List.mem_iff_getElem?.mp hm'
    obtain ⟨d, hd, hf⟩ := kp.get hi
    obtain ⟨d', hd', hf'⟩ := kp.get hj
    rw [List.getElem?_map] at hd hd'
    obtain ⟨p, hp, rfl⟩ := Option.map_eq_some_iff.mp hd
    obtain ⟨p', hp', rfl⟩ := Option.map_eq_some_iff.mp hd'
    have : p.1 = p'.1 := by rw [← kOf_pr hf, ← kOf_pr hf']; exact e
    have hij : i = j := by
      have h1 : (ps.map (·.1))[i]? = some p.1 := by rw [List.getElem?_map, hp]; rfl
      have h2 : (ps.map (·.1))[j]? = some p.1 := by rw [List.getElem?_map, hp', this]; rfl
      have hi' := (List.getElem?_eq_some_iff.mp h1).1
      exact (List.getElem?_inj hi' nd).mp (h1.trans h2.symm)
    subst hij
    rw [hi] at hj
    cases hj; rfl
  refine SrtO.sorted_ord (swo_key fun v => kOf H (backV v)) hl.isList (by rw [← rx.length]; exact hz) (fun h2 h₁ a' ha' kk => ?_) fun out h1 h2 => ?_
  · refine pts_sortable (s := { s with heap := h₁ }) (by omega) (fun v hm => (hp v hm).keeps fun b o e _ => (kk b o e).2) inj fun o e => ?_
    have e' : some o = some (seqObj "list" its.toArray 0) := e.symm.trans ha'
    cases e'
    intro c
    exact absurd (Value.type.inj c) (by decide)
  · have h3 : ∀ u ∈ out, ∃ a, u = Value.ref a := fun u hu => e2 u (h2.perm.mem_iff.mp hu)
    obtain ⟨ep, he'⟩ := PyProof.Rows.sortedAll_at s.heap its out.toArray
    have hb : (out.map backV).Perm xs := by rw [e1]; exact h2.perm.map _
    have ho : (out.map backV).Pairwise fun a b => kOf H a ≤ kOf H b := by
      rw [List.pairwise_map]
      exact h1.imp fun h => by have := of_decide_eq_false h; omega
    refine ⟨.ref _, upd H (s.heap.objs.size + 1) (.lst (out.map backV)), I.laid (t' := s.toks) (fun _ _ => PyProof.Rows.sortedAll_old) (Nat.le_succ _) ⟨by rw [hb.length_eq]; exact hz, out, ep, vals_back h3, he'⟩, rfl, q _ _ (sort_pr kp nd hb ho) (I.hok.fresh (Nat.le_succ _))⟩
end ST
namespace ST
open PySem PySem.Spec PyProof.Rows L2
section
variable {P : Program} {w : World} {K : PySem.W.Frag} {mg : Str → Option Value} {base : Heap}
/-! ### least forms -/
theorem leasts_nd {bs : List PT} (w : ∀ b ∈ bs, PT.Wf b) (nd : (PT.gsL bs).Nodup) : ((bs.map PT.least).map (·.1)).Nodup := by
  induction bs with
  | nil => exact List.nodup_nil
  | cons b bs ih =>
    rw [PT.gsL_cons, List.nodup_append] at nd
    rw [List.map_cons, List.map_cons, List.nodup_cons]
    refine ⟨fun hm => ?_, ih (fun c hc => w c (by simp [hc])) nd.2.1⟩
    obtain ⟨p, hp, e⟩ := List.mem_map.mp hm
    obtain ⟨c, hc, rfl⟩ := List.mem_map.mp hp
    have wb := w b (by simp)
    have wc := w c (by simp [hc])
    rw [PT.least_mn wb, PT.least_mn wc] at e
    have h1 := (PT.mn_spec wb.ne).1
    have h2 := (PT.mn_spec wc.ne).1
    exact nd.2.2 _ h1 _ (PT.mem_gsL.mpr ⟨c, hc, h2⟩) e.symm
theorem min_is {l : List Int} {m : Int} (h : m ∈ l) (le : ∀ y ∈ l, m ≤ y) : l.min?.getD 0 = m := by
  have : l.min? = some m := List.min?_eq_some_iff.mpr ⟨h, le⟩
  rw [this]; rfl
theorem fz_ix {H : Hp} {xs : List V} {ps : List (Int × PT)} {i : Nat} {x : V} (k : FzL H xs (ps.map ePr)) (h : xs[i]? = some x) : ∃ p a y, ps[i]? = some p ∧ x = .ref a ∧ Rd H a (.tup [.int p.1, y]) ∧ Tr H y p.2 := by
  obtain ⟨d, hd, hf⟩ := k.get h
  rw [List.getElem?_map] at hd
  obtain ⟨p, hp, rfl⟩ := Option.map_eq_some_iff.mp hd
  obtain ⟨a, y, e, h1, h2⟩ := fz_pr.mp hf
  exact ⟨p, a, y, hp, e, h1, h2⟩
theorem sc33 : FnScope ["tree", "some", "least", "branch", "pair"] ["tree"] (defScope (topS 33)) := ⟨rfl, rfl, rfl, by decide +kernel, rfl, by decide +kernel, by decide +kernel⟩
def spLeast (d : Nat) : Sp := fun vs H Q _ => ∃ (v : V) (t : PT), vs = [v] ∧ Tr H v t ∧ t.dp < d ∧ PT.Wf t ∧ t.gs.Nodup ∧ t.gs.length ≤ 1000 ∧ ∀ (u : V) (H' : Hp), Same H H' → Fz H' u (ePr (PT.least t)) → Q u H'
theorem cl_least (D : Dfn K mg 33 "least_of") (B : Bt mg) (cL : Cl P w K mg base 1 "is_leaf" ["tree"] spLeaf) : ∀ d, Cl P w K mg base (d + 1) "least_of" ["tree"] (spLeast d)
  | 0 => D.void (fun _ _ _ _ _ _ us hl => match us, hl with | [_], _ => rfl) fun vs H Q E ⟨_, _, _, _, h, _⟩ => absurd h (Nat.not_lt_zero _)
  | d + 1 => by
    have cS := cl_least D B cL d
    refine D.cl sc33 (fun _ _ _ _ _ _ us hl => match us, hl with | [_], _ => rfl) (fun vs H Q E h => ?_) (fun f cdv A outer s H vs Q E hr h => ?_)
    · obtain ⟨_, _, rfl, _⟩ := h; rfl
    obtain ⟨v, t, rfl, ht, hd, wt, nd, hz, q⟩ := h
    refine ⟨_, pss_cons (ps_if (pt_val (pe_cl cL hr (by omega) rfl (pa_cons (pv 0) pa_nil))) (pss_one (ps_ret (pe_tup (pa_cons (pv 0) (pa_cons (pv 0) pa_nil))))) pss_nil)
      (pss_cons (ps_setLc (i := 1) (own := [("branch", 3)]) (g := gName 3) (tt := tYes) rfl sc33.nd rfl rfl (sw_true rfl rfl rfl rfl) (pi_tup (pe_ix ix_tup (pv 0) pe_int (fun _ _ => rfl))) (blkOk_by (N := ["tree", "some", "least", "branch", "pair"]) (sc := defScope (topS 33)) (by decide +kernel))
          (fun _ _ _ _ _ => pg_name (i := 3) sc33.nd rfl (Or.inl rfl)) (fun _ _ _ _ _ => pts_nil) (fun _ _ _ _ _ => pe_cl cS hr (Nat.le_refl _) rfl (pa_cons (pv 3) pa_nil)))
      (pss_cons (ps_set (i := 2) sc33.nd rfl (.inl rfl) (pe_callB (cr_min rfl) rfl B.min (by decide +kernel) (pa_cons
          (pe_lc (own := [("pair", 4)]) (g := gName 4) (tt := tYes) (te := tOp (rIxT K) (tVar 4) (tC (.int 0))) rfl sc33.nd (pi_list (pv 1)) (blkOk_by (N := ["tree", "some", "least", "branch", "pair"]) (sc := defScope (topS 33)) (by decide +kernel))
          (fun _ _ _ _ _ => pg_name (i := 4) sc33.nd rfl (Or.inl rfl)) (fun _ _ _ _ _ => pts_nil) (fun _ _ _ _ _ => pe_ix ix_tup (pv 4) pe_int (fun _ _ => rfl))) pa_nil)))
      (pss_cons (ps_if (pt_cmpR op_eq (pe_ix ix_tup (pv 0) pe_int (fun _ _ => rfl)) (pe_gs rfl B.ANY) (nomark _))
          (pss_one (ps_set (i := 1) sc33.nd rfl (.inl rfl) (pe_callB cr_sortedP rfl B.sorted (by decide +kernel) (pa_cons (pv 1) pa_nil))))
          (pss_one (ps_if (pt_cmpR op_lt (pe_ix ix_tup (pe_ix ix_list (pv 1) (pe_un un_neg pe_int) (fun _ _ => rfl)) pe_int (fun _ _ => rfl)) (pe_ix ix_tup (pe_ix ix_list (pv 1) pe_int (fun _ _ => rfl)) pe_int (fun _ _ => rfl)) (nomark _))
            (pss_one (ps_expr (pe_bm0 PySem.F.plainAttrs_list PySem.F.slot_list_reverse PySem.F.type_list_reverse mt_reverse (pv 1)))) pss_nil)))
      (pss_one (ps_ret (pe_tup (pa_cons (pv 2) (pa_cons (pe_tup (pa_cons (pe_ix ix_tup (pv 0) pe_int (fun _ _ => rfl)) (pa_cons (pe_callTy call_tupD rfl B.tuple (by decide +kernel) (pa_cons
          (pe_lc (own := [("pair", 4)]) (g := gName 4) (tt := tYes) (te := tOp (rIxT K) (tVar 4) (tC (.int 1))) rfl sc33.nd (pi_list (pv 1)) (blkOk_by (N := ["tree", "some", "least", "branch", "pair"]) (sc := defScope (topS 33)) (by decide +kernel))
          (fun _ _ _ _ _ => pg_name (i := 4) sc33.nd rfl (Or.inl rfl)) (fun _ _ _ _ _ => pts_nil) (fun _ _ _ _ _ => pe_ix ix_tup (pv 4) pe_int (fun _ _ => rfl))) pa_nil)) pa_nil))) pa_nil)))))))), ?_⟩
    refine ⟨_, rfl, _, t, rfl, ht, _, rfl, ?_⟩
    cases t with
    | leaf g =>
      refine iteT ?_
      rw [PT.least_leaf] at q
      refine ⟨_, rfl, _, rfl, (by show 2 ≤ sizeLine; decide), fun p np => ?_⟩
      have hv := tr_leaf.mp ht
      subst hv
      exact q _ _ (same_new np) (fz_pr.mpr ⟨p, _, rfl, .inl upd_same, tr_leaf.mpr rfl⟩)
    | node r bs =>
      refine iteF ?_
      rw [PT.gs_node] at hz nd
      have hb := br_le wt.br
      have h2 := wt.two
      obtain ⟨a, b, rfl, ha, hb0⟩ := tr_kids.mp ht
      obtain ⟨_, xs, e', hbr, hx⟩ := fz_tup.mp hb0
      cases e'
      have hlen : xs.length = bs.length := by rw [hx.len, List.length_map]
      refine ⟨_, rfl, a, _, _, _, rfl, rfl, .inl ha, rfl, b, rfl, ⟨_, .inl hbr⟩, fun S nS => ?_⟩
      refine lc_fz1 (walk_tup (K := K) (a := b) (xs := xs)) nS (fun H2 g2 => g2.sqT hbr) yat_same (fun _ => rfl) (fun i => (bs[i]?.map fun c => ePr (PT.least c)).getD .none) (by omega) (fun i z H2 H3 H4 hi g2 y' g3 Ky hk => ?_) (fun H1 g1 hL => ?_)
      · obtain ⟨rfl, hz'⟩ := y'
        obtain ⟨dd, hdd, hzz⟩ := hx.get hz'
        rw [List.getElem?_map] at hdd
        obtain ⟨u, hu, rfl⟩ := Option.map_eq_some_iff.mp hdd
        have hum := List.mem_of_getElem? hu
        refine ⟨_, rfl, z, u, rfl, hzz.same (g2.trans g3), by have := PT.dp_br (r := r) hum; omega, wt.br u hum, PT.nd_of nd hum, Nat.le_trans (gs_mem_le hum) hz, fun y' H5 g5 hf => hk _ _ g5 ?_⟩
        rw [hu]; exact hf
      rw [hlen, gvn_list] at hL
      have eL : bs.map (fun c => ePr (PT.least c)) = (bs.map PT.least).map ePr := by rw [List.map_map]; rfl
      rw [eL] at hL
      obtain ⟨ys, eS, hy⟩ := hL
      have hyl : ys.length = bs.length := by rw [hy.len, List.length_map, List.length_map]
      refine ⟨_, rfl, S, rfl, ⟨_, SqL.of eS⟩, fun M nM => ?_⟩
      refine lc_fz1 (walk_list (K := K) (a := S) (xs := ys)) nM (fun H2 g2 => g2.sqL (SqL.of eS)) yat_same (fun _ => rfl) (fun i => ((bs.map PT.least)[i]?.map fun p => PyData.int p.1).getD .none) (by omega) (fun i z H2 H3 H4 hi g2 y' g3 Ky hk => ?_) (fun H2 g2 hL2 => ?_)
      · obtain ⟨rfl, hz'⟩ := y'
        obtain ⟨p, pa, py, hp, rfl, hpr, _⟩ := fz_ix hy hz'
        refine ⟨_, rfl, pa, _, _, _, rfl, rfl, .inl ((g2.trans g3).rd hpr), rfl, hk _ _ (Same.refl _) ?_⟩
        rw [hp]; exact .int _
      have hyl2 : ys.length = (bs.map PT.least).length := by rw [hyl, List.length_map]
      rw [hyl2, gvn_list] at hL2
      have e2 : (bs.map PT.least).map (fun p => PyData.int p.1) = ((bs.map PT.least).map (·.1)).map .int := by rw [List.map_map (g := PyData.int)]; rfl
      rw [e2, Ls.ints] at hL2
      refine ⟨M, _, rfl, SqL.of hL2, by rw [List.length_map, List.length_map]; omega, fun m hm hmin => ?_⟩
      have em : ((bs.map PT.least).map (·.1)).min?.getD 0 = m := min_is hm hmin
      have g12 := g1.trans g2
      have eS2 := g2 _ _ eS
      have hy2 := hy.same g2
      refine ⟨_, rfl, a, _, _, _, rfl, rfl, .inl (g12.rd ha), rfl, rfl, _, rfl, ?_⟩
      rw [kS_any]
      -- the end of it, whatever list some is
      have fin : ∀ (S' : Addr) (H3 : Hp) (zs : List V), Same H H3 → H3 S' = some (.lst zs) → FzL H3 zs ((PT.leastB r bs).map ePr) →
          tRet (tTup (tCons (tVar 2) (tCons (tTup (tCons (tOp (rIxT K) (tVar 0) (tC (.int 0))) (tCons (tCB (rTupD K) (tCons (tLc (iList K (tVar 1)) (gName 4) tYes (tOp (rIxT K) (tVar 4) (tC (.int 1))) [4]) tNil)) tNil))) tNil))) { nx := fun _ H' => Q .non H', rt := Q } [some (.ref a), some (.ref S'), some (.int m), none, none] H3 := by
        intro S' H3 zs g3 eS' hzs
        have hzl : zs.length = (PT.leastB r bs).length := by rw [hzs.len, List.length_map]
        have hbl : (PT.leastB r bs).length = bs.length := by rw [(PT.leastB_perm r bs).length_eq, List.length_map]
        refine ⟨_, rfl, _, rfl, a, _, _, _, rfl, rfl, .inl (g3.rd ha), rfl, _, rfl, S', rfl, ⟨_, SqL.of eS'⟩, fun D nD => ?_⟩
        refine lc_fz1 (walk_list (K := K) (a := S') (xs := zs)) nD (fun H4 g4 => g4.sqL (SqL.of eS')) yat_same (fun _ => rfl) (fun i => ((PT.leastB r bs)[i]?.map fun p => p.2.enc).getD .none) (by omega) (fun i z H4 H5 H6 hi g4 y' g5 Ky hk => ?_) (fun H4 g4 hL4 => ?_)
        · obtain ⟨rfl, hz'⟩ := y'
          obtain ⟨p, pa, py, hp, rfl, hpr, hpt⟩ := fz_ix hzs hz'
          refine ⟨_, rfl, pa, _, _, _, rfl, rfl, .inl ((g4.trans g5).rd hpr), rfl, hk _ _ (Same.refl _) ?_⟩
          rw [hp]; exact (hpt.same (g4.trans g5))
        rw [hzl, gvn_list] at hL4
        have e4 : (PT.leastB r bs).map (fun p => p.2.enc) = ((PT.leastB r bs).map (·.2)).map PT.enc := by rw [List.map_map]; rfl
        rw [e4] at hL4
        obtain ⟨ws, eD, hws⟩ := hL4
        refine ⟨D, ws, rfl, SqL.of eD, fun l o nl hdo => ?_⟩
        have gl := same_new (o := .frz o (.tup ws)) nl
        refine ⟨(by show 2 ≤ sizeLine; decide), fun t1 n1 => ?_⟩
        have gt := same_new (o := .tup [.str (kS r), .ref l]) n1
        refine ⟨(by show 2 ≤ sizeLine; decide), fun t2 n2 => ?_⟩
        have gt2 := same_new (o := .tup [.int m, .ref t1]) n2
        refine q _ _ ((((g3.trans g4).trans gl).trans gt).trans gt2) (fz_pr.mpr ⟨t2, .ref t1, rfl, .inl ?_, ?_⟩)
        · rw [upd_same, PT.least_node, em]
        · rw [PT.least_node]
          exact tr_node.mpr ⟨t1, l, ws, rfl, .inl (gt2 _ _ upd_same), .inr ⟨o, gt2 _ _ (gt _ _ upd_same)⟩, (((hws.same gl).same gt).same gt2)⟩
      cases r with
      | false =>
        refine iteT ?_
        refine ⟨_, rfl, S, ys, bs.map PT.least, rfl, SqL.of eS2, hy2, leasts_nd wt.br nd, fun zs p hzs np => ?_⟩
        have gp : Same H2 (upd H2 p (.lst zs)) := same_new np
        exact fin p _ zs (g12.trans gp) upd_same (hzs.same gp)
      | true =>
        refine iteF ?_
        have hpos : 0 < ys.length := by omega
        obtain ⟨pl, al, yl, hpl, hvl, hrl, _⟩ := fz_ix hy2 (List.getElem?_eq_getElem (i := ys.length - 1) (by omega))
        obtain ⟨p0, a0, y0, hp0, hv0, hr0, _⟩ := fz_ix hy2 (List.getElem?_eq_getElem hpos)
        refine ⟨_, rfl, 1, rfl, S, _, _, _, rfl, rfl, SqL.of eS2, at_neg1 (v := .ref al) (by rw [List.getLast?_eq_getElem?, List.getElem?_eq_getElem (by omega), hvl]), al, _, _, _, rfl, rfl, .inl hrl, rfl, _, rfl, S, _, _, _, rfl, rfl, SqL.of eS2, atI_nat (j := 0) (v := .ref a0) (by rw [List.getElem?_eq_getElem hpos, hv0]), a0, _, _, _, rfl, rfl, .inl hr0, rfl, _, _, rfl, rfl, _, rfl, ?_⟩
        have hlast : (((bs.map PT.least).getLast?).map (·.1)).getD 0 = pl.1 := by
          rw [List.getLast?_eq_getElem?, ← hyl2, hpl]; rfl
        have hhead : (((bs.map PT.least).head?).map (·.1)).getD 0 = p0.1 := by
          rw [List.head?_eq_getElem?, hp0]; rfl
        by_cases hlt : pl.1 < p0.1
        · rw [decide_eq_true hlt]
          refine iteT ?_
          have eB : PT.leastB true bs = (bs.map PT.least).reverse := by
            unfold PT.leastB
            rw [if_pos rfl, hlast, hhead, if_pos hlt]
          refine ⟨_, rfl, .inl ⟨rfl, _, SqL.of eS2⟩, S, ys, rfl, rfl, eS2, ?_⟩
          have eS3 : (upd H2 S (.lst ys.reverse)) S = some (.lst ys.reverse) := upd_same
          refine fin S _ ys.reverse (same_mut g12 nS) eS3 ?_
          rw [eB, List.map_reverse]
          exact (hy2.rev).tu (tu_upd eS2)
        · rw [decide_eq_false hlt]
          refine iteF ?_
          have eB : PT.leastB true bs = bs.map PT.least := by
            unfold PT.leastB
            rw [if_pos rfl, hlast, hhead, if_neg hlt]
          refine fin S _ ys g12 eS2 ?_
          rw [eB]; exact hy2
theorem sc34 : FnScope ["n", "tree"] ["n", "tree"] (defScope (topS 34)) := ⟨rfl, rfl, rfl, by decide +kernel, rfl, by decide +kernel, by decide +kernel⟩
def spForm : Sp := fun vs H Q _ => ∃ (n : Nat) (v : V) (t : PT), vs = [.int (n : Int), v] ∧ Tr H v t ∧ GoodN n t ∧ ∀ (u : V) (H' : Hp), Same H H' → Tr H' u (PT.least t).2 → Q u H'
theorem GoodN.nd {n : Nat} {t : PT} (h : GoodN n t) : t.gs.Nodup := h.2.2.nd (rg_nd n)
theorem cl_form (D : Dfn K mg 34 "least_form") (B : Bt mg) (cN : Cl P w K mg base 2 "need_guests" ["n"] spNeedG) (cL : Cl P w K mg base 8 "least_of" ["tree"] (spLeast 7)) : Cl P w K mg base 9 "least_form" ["n", "tree"] spForm := by
  refine D.cl sc34 (fun _ _ _ _ _ _ us hl => match us, hl with | [_, _], _ => rfl) (fun vs H Q E h => ?_) (fun f cdv A outer s H vs Q E hr h => ?_)
  · obtain ⟨_, _, _, rfl, _⟩ := h; rfl
  obtain ⟨n, v, t, rfl, ht, hg, q⟩ := h
  refine ⟨_, pss_cons (ps_expr (pe_cl cN hr (by omega) rfl (pa_cons (pv 0) pa_nil))) (pss_one (ps_ret (pe_ix ix_tup (pe_cl cL hr (Nat.le_refl _) rfl (pa_cons (pv 1) pa_nil)) pe_int (fun _ _ => rfl)))), ?_⟩
  refine ⟨_, rfl, n, rfl, by have := hg.1; omega, by have := hg.2.1; omega, _, rfl, v, t, rfl, ht, hg.dp, hg.2.2.wf, hg.nd, by rw [hg.len]; have := hg.2.1; omega, fun u H' g hf => ?_⟩
  obtain ⟨a, y, rfl, ha, hy⟩ := fz_pr.mp hf
  exact ⟨a, _, _, _, rfl, rfl, .inl ha, rfl, q _ _ g hy⟩
end
end ST
namespace ST
open PySem PySem.Spec PyProof.Rows L2
open PT (Sh sh part)
theorem room1 {k : Nat} {A : Around} (r : Room k A) : A.units + 1 < cLine := by have := r.un; omega
def shS : Sh → Str
  | .no => "none"
  | .so => "some"
  | .al => "all"
theorem shS_dec (a b : Sh) : decide (V.str (shS a) = V.str (shS b)) = decide (a = b) := by
  cases a <;> cases b <;> first | exact (decide_eq_true rfl).trans (decide_eq_true rfl).symm | exact (decide_eq_false fun e => absurd (V.str.inj e) (by decide)).trans (decide_eq_false (by intro e; cases e)).symm
theorem shaped_int (g : Int) : SeqAt.shaped (.int g) = true := rfl
theorem shaped_p {p : List Int} : SeqAt.shaped (eP p) = true := by
  unfold SeqAt.shaped eP
  simp only [PyData.canLay0, PyData.depth, (lay_ints _).1, (lay_ints _).2]; decide
theorem any_eqv (g : Int) (p : List Int) : ((p.map PyData.int).any fun z => PyData.eqv z (.int g)) = decide (g ∈ p) := by
  induction p with
  | nil => simp
  | cons x p ih =>
    rw [List.map_cons, List.any_cons, ih]
    simp only [PyData.eqv]
    by_cases h : x = g
    · subst h; simp
    · have : ¬ g = x := fun e => h e.symm
      simp [h, this]
theorem Ro.dp {K : PySem.W.Frag} {H : Hp} {v : V} {p : List Int} (h : Ro H v p) : Dp K H v (eP p) := Fz.dp K _ _ (ro_fz.mpr h)
section
variable {P : Program} {w : World} {K : PySem.W.Frag} {mg : Str → Option Value} {base : Heap}
/-! ### the share of a party -/
/-- a tree as tight wants it -/
structure Tg (t : PT) : Prop where
  wf : PT.Wf t
  z : t.gs.length ≤ 7
theorem Tg.dp {t : PT} (h : Tg t) : t.dp < 7 := by have := PT.dp_gs h.wf; have := h.z; omega
theorem Tg.br {r : Bool} {bs : List PT} (h : Tg (.node r bs)) : ∀ b ∈ bs, Tg b := fun b hb => ⟨h.wf.br b hb, Nat.le_trans (gs_mem_le hb) (by have := h.z; rwa [PT.gs_node] at this)⟩
theorem Tg.len {r : Bool} {bs : List PT} (h : Tg (.node r bs)) : bs.length ≤ 7 := Nat.le_trans (br_le h.wf.br) (by have := h.z; rwa [PT.gs_node] at this)
theorem sc39 : FnScope ["tree", "party", "inside", "guest"] ["tree", "party"] (defScope (topS 39)) := ⟨rfl, rfl, rfl, by decide +kernel, rfl, by decide +kernel, by decide +kernel⟩
def spShare : Sp := fun vs H Q _ => ∃ (v pv : V) (t : PT) (p : List Int), vs = [v, pv] ∧ Tr H v t ∧ Ro H pv p ∧ Tg t ∧ ∀ H', Same H H' → Q (.str (shS (sh p t))) H'
theorem cl_share (D : Dfn K mg 39 "share_of") (B : Bt mg) (cG : Cl P w K mg base 8 "guests_of" ["tree"] (spGuests 7)) : Cl P w K mg base 9 "share_of" ["tree", "party"] spShare := by
  refine D.cl sc39 (fun _ _ _ _ _ _ us hl => match us, hl with | [_, _], _ => rfl) (fun vs H Q E h => ?_) (fun f cdv A outer s H vs Q E hr h => ?_)
  · obtain ⟨_, _, _, _, rfl, _⟩ := h; rfl
  obtain ⟨v, pv', t, p, rfl, ht, hp, tg, q⟩ := h
  refine ⟨_, pss_cons (ps_setLc (i := 2) (own := [("guest", 3)]) (g := gName 3) (tt := tYes) (te := tOp (rInTD K) (tVar 3) (tVar 1)) rfl sc39.nd rfl rfl (sw_true rfl rfl rfl rfl) (pi_list (pe_cl cG hr (Nat.le_refl _) rfl (pa_cons (pv 0) pa_nil))) (blkOk_by (N := ["tree", "party", "inside", "guest"]) (sc := defScope (topS 39)) (by decide +kernel))
      (fun _ _ _ _ _ => pg_name (i := 3) sc39.nd rfl (Or.inl rfl)) (fun _ _ _ _ _ => pts_nil) (fun _ _ _ _ _ => pe_cmpR (op_inTD (room65 hr)) (pv 3) (pv 1) rfl))
    (pss_cons (ps_if (pt_val (pe_callB (cr_all rfl) rfl B.all (by decide +kernel) (pa_cons (pv 2) pa_nil))) (pss_one (ps_ret (pe_gs rfl B.ALL))) pss_nil)
    (pss_cons (ps_if (pt_val (pe_callB (cr_any rfl) rfl B.any (by decide +kernel) (pa_cons (pv 2) pa_nil))) (pss_one (ps_ret (pe_gs rfl B.SOME))) pss_nil)
    (pss_one (ps_ret (pe_gs rfl B.NONE))))), ?_⟩
  refine ⟨_, rfl, v, t, rfl, ht, tg.dp, by have := tg.z; omega, fun G H1 g1 nG hG => ⟨G, rfl, ⟨_, SqL.of hG⟩, fun D hD => ?_⟩⟩
  have hgl : (t.gs.map V.int).length = t.gs.length := List.length_map _
  refine lc_fz1 (walk_list (K := K) (a := G) (xs := t.gs.map V.int)) hD (fun H3 g3 => g3.sqL (SqL.of hG)) yat_same (fun _ => rfl) (fun i => (t.gs[i]?.map fun g => PyData.bool (decide (g ∈ p))).getD .none) (by rw [hgl]; have := tg.z; omega) (fun j u H3 H4 H5 hj g3 y' g4 Ky hky => ?_) (fun H3 g3 hL => ?_)
  · obtain ⟨rfl, hu⟩ := y'
    rw [List.getElem?_map] at hu
    obtain ⟨z, hz, rfl⟩ := Option.map_eq_some_iff.mp hu
    refine ⟨_, rfl, _, rfl, .int z, p.map .int, .int z, (hp.same ((g1.trans g3).trans g4)).dp, rfl, shaped_p, ?_⟩
    rw [any_eqv]
    refine hky _ _ (Same.refl _) ?_
    rw [hz]; exact .bl _
  rw [hgl, gvn_list] at hL
  have e1 : t.gs.map (fun g => PyData.bool (decide (g ∈ p))) = (t.gs.map fun g => decide (g ∈ p)).map .bool := by rw [List.map_map]; rfl
  rw [e1] at hL
  have hb := hL.bools
  have g13 := g1.trans g3
  have eAll : (t.gs.map fun g => decide (g ∈ p)).all id = t.gs.all fun g => decide (g ∈ p) := by rw [List.all_map]; rfl
  have eAny : (t.gs.map fun g => decide (g ∈ p)).any id = t.gs.any fun g => decide (g ∈ p) := by rw [List.any_map]; rfl
  refine ⟨_, rfl, D, _, rfl, SqL.of hb, _, rfl, ?_⟩
  rw [eAll]
  have qq := q H3 g13
  unfold sh at qq
  cases h1 : t.gs.all fun g => decide (g ∈ p) with
  | true => rw [h1] at qq; exact iteT qq
  | false =>
    rw [h1] at qq
    refine iteF ⟨_, rfl, D, _, rfl, SqL.of hb, _, rfl, ?_⟩
    rw [eAny]
    cases h2 : t.gs.any fun g => decide (g ∈ p) with
    | true => rw [h2] at qq; exact iteT qq
    | false => rw [h2] at qq; exact iteF qq
/-! ### grouped -/
theorem encs_at {H : Hp} {xs : List V} {bs : List PT} {i : Nat} {x : V} (k : FzL H xs (bs.map PT.enc)) (h : xs[i]? = some x) : ∃ b, bs[i]? = some b ∧ Tr H x b := by
  obtain ⟨d, hd, hf⟩ := k.get h
  rw [List.getElem?_map] at hd
  obtain ⟨b, hb, rfl⟩ := Option.map_eq_some_iff.mp hd
  exact ⟨b, hb, hf⟩
theorem sc40 : FnScope ["branches"] ["branches"] (defScope (topS 40)) := ⟨rfl, rfl, rfl, by decide +kernel, rfl, by decide +kernel, by decide +kernel⟩
def spGrouped : Sp := fun vs H Q _ => ∃ (a : Addr) (bs : List PT), vs = [.ref a] ∧ Ls H a (bs.map PT.enc) ∧ ∀ p H', Same H H' → Ls H' p ((PT.grouped bs).map PT.enc) → Q (.ref p) H'
theorem cl_grouped (D : Dfn K mg 40 "grouped") (B : Bt mg) : Cl P w K mg base 1 "grouped" ["branches"] spGrouped := by
  refine D.cl sc40 (fun _ _ _ _ _ _ us hl => match us, hl with | [_], _ => rfl) (fun vs H Q E h => ?_) (fun f cdv A outer s H vs Q E hr h => ?_)
  · obtain ⟨_, _, rfl, _⟩ := h; rfl
  obtain ⟨a, bs, rfl, ⟨xs, ha, hx⟩, q⟩ := h
  have hl : xs.length = bs.length := by rw [hx.len, List.length_map]
  refine ⟨_, pss_cons (ps_if (pt_cmpR op_lt (pe_callB call_len_seq rfl B.len PySem.boot_len (pa_cons (pv 0) pa_nil)) pe_int (nomark _)) (pss_one (ps_ret (pe_callTy call_list_of rfl B.list (by decide +kernel) (pa_cons (pv 0) pa_nil)))) pss_nil)
    (pss_one (ps_ret (pe_lst (pa_cons (pe_tup (pa_cons (pe_gs rfl B.ANY) (pa_cons (pe_callTy call_tupD rfl B.tuple (by decide +kernel) (pa_cons (pv 0) pa_nil)) pa_nil))) pa_nil)))), ?_⟩
  refine ⟨_, rfl, a, _, rfl, .inl (SqL.of ha), _, _, rfl, rfl, _, rfl, ?_⟩
  unfold PT.grouped at q
  by_cases h : bs.length < 2
  · rw [decide_eq_true (by omega)]
    rw [if_pos h] at q
    refine iteT ⟨_, rfl, a, xs, rfl, .inl (SqL.of ha), fun l nl => ?_⟩
    exact q l _ (same_new nl) ⟨xs, upd_same, hx.same (same_new nl)⟩
  · rw [decide_eq_false (by omega)]
    rw [if_neg h] at q
    refine iteF ⟨_, rfl, a, xs, rfl, SqL.of ha, fun l o nl hdo => ?_⟩
    have gl := same_new (o := .frz o (.tup xs)) nl
    refine ⟨(by show 2 ≤ sizeLine; decide), fun t1 n1 => ?_⟩
    have gt := same_new (o := .tup [.str "any", .ref l]) n1
    refine ⟨(by show 1 ≤ sizeLine; decide), fun t2 n2 => ?_⟩
    have gt2 := same_new (o := .lst [.ref t1]) n2
    refine q t2 _ ((gl.trans gt).trans gt2) ⟨_, upd_same, .one ?_⟩
    exact tr_node.mpr ⟨t1, l, xs, rfl, .inl (gt2 _ _ upd_same), .inr ⟨o, gt2 _ _ (gt _ _ upd_same)⟩, (hx.same gl).same gt |>.same gt2⟩
/-! ### parted -/
theorem part_snoc {s : Sh} {p : List Int} {as : List PT} {b : PT} : part s p (as ++ [b]) = if sh p b = s then part s p as ++ [b] else part s p as := by
  unfold PT.part
  rw [List.filter_append]
  by_cases h : sh p b = s
  · rw [if_pos h]; simp [h]
  · rw [if_neg h]; simp [h]
theorem sc41 : FnScope ["branches", "party", "found", "branch"] ["branches", "party"] (defScope (topS 41)) := ⟨rfl, rfl, rfl, by decide +kernel, rfl, by decide +kernel, by decide +kernel⟩
/-- three lists of trees in a tuple -/
def Thr (H : Hp) (u : V) (l m r : List PT) : Prop := ∃ t a b c, u = .ref t ∧ H t = some (.tup [.ref a, .ref b, .ref c]) ∧ Ls H a (l.map PT.enc) ∧ Ls H b (m.map PT.enc) ∧ Ls H c (r.map PT.enc)
def spParted : Sp := fun vs H Q _ => ∃ (v pv : V) (bs : List PT) (p : List Int), vs = [v, pv] ∧ Fz H v (dt bs) ∧ Ro H pv p ∧ (∀ b ∈ bs, Tg b) ∧ bs.length ≤ 7 ∧ ∀ u H', Same H H' → Thr H' u (part .no p bs) (part .so p bs) (part .al p bs) → Q u H'
theorem part_le {s : Sh} {p : List Int} {bs : List PT} : (part s p bs).length ≤ bs.length := List.length_filter_le _ _
def of3 (a b c : Addr) : Sh → Addr
  | .no => a
  | .so => b
  | .al => c
/-- the dict of a parting -/
def dk3 (a b c : Addr) : List (Key × V) := [(.inr "none", .ref a), (.inr "some", .ref b), (.inr "all", .ref c)]
theorem dk3_get (a b c : Addr) (s : Sh) : valV (dk3 a b c) (.inr (shS s)) = some (.ref (of3 a b c s)) := by
  cases s <;> rfl
theorem cl_parted (D : Dfn K mg 41 "parted") (B : Bt mg) (cS : Cl P w K mg base 9 "share_of" ["tree", "party"] spShare) : Cl P w K mg base 10 "parted" ["branches", "party"] spParted := by
  refine D.cl sc41 (fun _ _ _ _ _ _ us hl => match us, hl with | [_, _], _ => rfl) (fun vs H Q E h => ?_) (fun f cdv A outer s H vs Q E hr h => ?_)
  · obtain ⟨_, _, _, _, rfl, _⟩ := h; rfl
  obtain ⟨v, pv', bs, p, rfl, hv, hp, tg, h7, q⟩ := h
  obtain ⟨bb, xs, rfl, hbr, hx⟩ := fz_tup.mp hv
  have hlen : xs.length = bs.length := by rw [hx.len, List.length_map]
  refine ⟨_, pss_cons (ps_set (i := 2) sc41.nd rfl (.inl rfl) (pe_disp (pps_cons (pe_gs rfl B.NONE) (pe_lst pa_nil) (pps_cons (pe_gs rfl B.SOME) (pe_lst pa_nil) (pps_cons (pe_gs rfl B.ALL) (pe_lst pa_nil) pps_nil))) rfl rfl (by simp) (by decide)))
    (pss_cons (ps_for PassesOwn.never rfl (pi_tup (pv 0)) (pg_name (i := 3) sc41.nd rfl (.inl rfl))
      (pss_one (ps_expr (pe_bm PySem.F.plainAttrs_list PySem.F.slot_list_append PySem.F.type_list_append mt_append (pe_dget (room1 hr) (pv 2) (pe_cl cS hr (Nat.le_refl _) rfl (pa_cons (pv 3) (pa_cons (pv 1) pa_nil))) (fun _ _ => rfl)) (pa_cons (pv 3) pa_nil)))))
    (pss_one (ps_ret (pe_tup (pa_cons (pe_dget (room1 hr) (pv 2) (pe_gs rfl B.NONE) (fun _ _ => rfl)) (pa_cons (pe_dget (room1 hr) (pv 2) (pe_gs rfl B.SOME) (fun _ _ => rfl)) (pa_cons (pe_dget (room1 hr) (pv 2) (pe_gs rfl B.ALL) (fun _ _ => rfl)) pa_nil))))))), ?_⟩
  intro d nd
  have gd := same_new (o := .dK []) nd
  refine ⟨Nat.zero_le _, fun a na => ?_⟩
  have ga := same_new (o := .lst []) na
  refine ⟨Nat.zero_le _, fun b nb => ?_⟩
  have gb := same_new (o := .lst []) nb
  refine ⟨Nat.zero_le _, fun c nc => ?_⟩
  have gc := same_new (o := .lst []) nc
  have gabc := (ga.trans gb).trans gc
  have hd0 := gabc _ _ (upd_same (H := H) (a := d) (o := .dK []))
  refine ⟨hd0, dk3 a b c, rfl, by show 3 ≤ 15; decide, ?_⟩
  have ndb : ∀ (X : Hp) (z : Addr), X z = none → X d = some (.dK []) → z ≠ d := fun X z h1 h2 e => by subst e; rw [h1] at h2; cases h2
  have dA : a ≠ d := ndb _ a na upd_same
  have dB : b ≠ d := ndb _ b nb (ga _ _ upd_same)
  have dC : c ≠ d := ndb _ c nc (gb _ _ (ga _ _ upd_same))
  have dab : b ≠ a := (ne_of_none upd_same nb).symm
  have dac : c ≠ a := (ne_of_none (gb _ _ upd_same) nc).symm
  have dbc : c ≠ b := (ne_of_none upd_same nc).symm
  have em : mergeK [] (dk3 a b c) = dk3 a b c := rfl
  rw [em]
  have g0 : Same H (upd (upd (upd (upd (upd H d (.dK [])) a (.lst [])) b (.lst [])) c (.lst [])) d (.dK (dk3 a b c))) := same_mut (gd.trans gabc) nd
  have naH : H a = none := none_back gd na
  have nbH : H b = none := none_back (gd.trans ga) nb
  have ncH : H c = none := none_back ((gd.trans ga).trans gb) nc
  have lnil : ∀ z, z ≠ d → ∀ X : Hp, X z = some (.lst []) → Ls (upd X d (.dK (dk3 a b c))) z (([] : List PT).map PT.enc) := fun z hz X e => ⟨[], by rw [upd_ne hz]; exact e, .nil⟩
  refine ⟨_, rfl, bb, rfl, ⟨_, g0.sqT hbr⟩, ?_⟩
  refine for_tup (K := K) (xs := xs) (fun i σ H' => Same H H' ∧ H' d = some (.dK (dk3 a b c)) ∧ (∀ s : Sh, Ls H' (of3 a b c s) ((part s p (bs.take i)).map PT.enc)) ∧ ∃ y, σ = [some (.ref bb), some pv', some (.ref d), y])
    ⟨g0, upd_same, fun s => ?_, _, rfl⟩ (fun j σ H' _ h => h.1.sqT hbr) (fun i x σ H1 hi h => ?_) (fun σ H1 h => ?_)
  · cases s with
    | no => exact lnil a dA _ (gc _ _ (gb _ _ upd_same))
    | so => exact lnil b dB _ (gc _ _ upd_same)
    | al => exact lnil c dC _ upd_same
  · obtain ⟨g1, hd1, hL, y, rfl⟩ := h
    obtain ⟨t, hti, hxt⟩ := encs_at (hx.same g1) hi
    refine ⟨_, rfl, _, rfl, _, rfl, x, pv', t, p, rfl, hxt, hp.same g1, tg t (List.mem_of_getElem? hti), fun H2 g2 => ?_⟩
    have hd2 := g2 _ _ hd1
    have hL2 := fun s => (hL s).same g2
    have key : ∀ s : Sh, sh p t = s → ∀ (l : Addr), l = (of3 a b c s) → ∃ zs, H2 l = some (.lst zs) ∧ zs.length < sizeLine ∧ (Same H (upd H2 l (.lst (zs ++ [x]))) ∧ (upd H2 l (.lst (zs ++ [x]))) d = some (.dK (dk3 a b c)) ∧ (∀ s : Sh, Ls (upd H2 l (.lst (zs ++ [x]))) (of3 a b c s) ((part s p (bs.take (i + 1))).map PT.enc))) := by
      intro s es l el
      obtain ⟨zs, ez, kz⟩ := hL2 s
      rw [← el] at ez
      have hzl : zs.length ≤ 7 := by
        rw [kz.len, List.length_map]
        exact Nat.le_trans part_le (by rw [List.length_take]; omega)
      have hld : l ≠ d := by rw [el]; cases s <;> assumption
      have nlH : H l = none := by rw [el]; cases s <;> assumption
      refine ⟨zs, ez, big_lt (by omega), same_mut (g1.trans g2) nlH, by rw [upd_ne hld.symm]; exact hd2, fun s' => ?_⟩
      rw [take_snoc hti, part_snoc]
      by_cases hs : sh p t = s'
      · rw [if_pos hs]
        have : s' = s := hs.symm.trans es
        subst this
        rw [← el]
        refine ⟨_, upd_same, ?_⟩
        rw [List.map_append]
        exact (kz.snoc (hxt.same g2)).tu (tu_upd ez)
      · rw [if_neg hs]
        have hne : (of3 a b c s') ≠ l := by
          rw [el]
          have hss : s' ≠ s := fun e => hs (es.trans e.symm)
          cases s <;> cases s' <;> first | exact absurd rfl hss | assumption | (apply Ne.symm; assumption)
        exact (hL2 s').off (tu_upd ez) (upd_ne hne)
    obtain ⟨zs, ez, hz1, k1, k2, k3⟩ := key (sh p t) rfl _ rfl
    refine ⟨d, _, rfl, .inl ⟨dk3 a b c, .inr (shS (sh p t)), .inl hd2, rfl, (dk3_get a b c _).symm⟩, .inl ⟨rfl, _, SqL.of ez⟩, _, rfl, _, zs, x, rfl, rfl, ez, hz1, k1, k2, k3, _, rfl⟩
  · obtain ⟨g1, hd1, hL, y, rfl⟩ := h
    rw [hlen, List.take_length] at hL
    refine ⟨_, rfl, d, _, rfl, .inl ⟨dk3 a b c, .inr (shS .no), .inl hd1, rfl, (dk3_get a b c .no).symm⟩, _, rfl, d, _, rfl, .inl ⟨dk3 a b c, .inr (shS .so), .inl hd1, rfl, (dk3_get a b c .so).symm⟩, _, rfl, d, _, rfl, .inl ⟨dk3 a b c, .inr (shS .al), .inl hd1, rfl, (dk3_get a b c .al).symm⟩, ?_⟩
    refine ⟨(by show 3 ≤ sizeLine; decide), fun t nt => ?_⟩
    have gt := same_new (o := .tup [.ref a, .ref b, .ref c]) nt
    exact q _ _ (g1.trans gt) ⟨t, a, b, c, rfl, upd_same, (hL .no).same gt, (hL .so).same gt, (hL .al).same gt⟩
end
end ST
namespace ST
open PySem PySem.Spec PyProof.Rows L2
open PT (Sh sh part)
open Classical
theorem cat_ls {H : Hp} {a b : Addr} {ds es : List PyData} {Q : V → Hp → Prop} (ha : Ls H a ds) (hb : Ls H b es) (hz : ds.length + es.length ≤ 100000) (q : ∀ p, H p = none → ∀ H', Same H H' → Ls H' p (ds ++ es) → Q (.ref p) H') : rCat (.ref a) (.ref b) H Q := by
  obtain ⟨xs, e1, k1⟩ := ha
  obtain ⟨ys, e2, k2⟩ := hb
  have h1 := k1.len
  have h2 := k2.len
  exact ⟨a, b, xs, ys, rfl, rfl, e1, e2, big_ok (by omega), fun p np => q p np _ (same_new np) ⟨_, upd_same, (k1.append k2).same (same_new np)⟩⟩
theorem Ls.dp (K : PySem.W.Frag) {H : Hp} {a : Addr} {ds : List PyData} (h : Ls H a ds) : Dp K H (.ref a) (.list ds) := by
  obtain ⟨xs, e, k⟩ := h
  exact .lst (SqL.of e) (FzL.dp K _ _ k)
theorem eqv_lists (as bs : List PT) : PyData.eqv (.list (as.map PT.enc)) (.list (bs.map PT.enc)) = decide (as = bs) := by
  simp only [PyData.eqv]; exact PT.eqvAll_enc as bs
theorem eq_ls {K : PySem.W.Frag} {H : Hp} {a b : Addr} {as bs : List PT} {Q : V → Hp → Prop} (ha : Ls H a (as.map PT.enc)) (hb : Ls H b (bs.map PT.enc)) (wa : ∀ t ∈ as, t.dp ≤ 20) (wb : ∀ t ∈ bs, t.dp ≤ 20) (q : Q (.bl (decide (as = bs))) H) : rEqD K (.ref a) (.ref b) H Q :=
  ⟨_, _, ha.dp K, hb.dp K, PT.shaped_encs (.inl rfl) wa, PT.shaped_encs (.inl rfl) wb, by rw [eqv_lists]; exact q⟩
theorem ne_ls {K : PySem.W.Frag} {H : Hp} {a b : Addr} {as bs : List PT} {Q : V → Hp → Prop} (ha : Ls H a (as.map PT.enc)) (hb : Ls H b (bs.map PT.enc)) (wa : ∀ t ∈ as, t.dp ≤ 20) (wb : ∀ t ∈ bs, t.dp ≤ 20) (q : Q (.bl (!decide (as = bs))) H) : rNeD K (.ref a) (.ref b) H Q :=
  ⟨_, _, ha.dp K, hb.dp K, PT.shaped_encs (.inl rfl) wa, PT.shaped_encs (.inl rfl) wb, by rw [eqv_lists]; exact q⟩
theorem lsEmp {H : Hp} {p : Addr} : Ls (upd H p (.lst [])) p (([] : List PT).map PT.enc) := Ls.nil
/-- a list of trees or None -/
def OptL (H : Hp) (u : V) : Option (List PT) → Prop
  | none => u = .non
  | some L => ∃ a, u = .ref a ∧ Ls H a (L.map PT.enc)
section
variable {P : Program} {w : World} {K : PySem.W.Frag} {mg : Str → Option Value} {base : Heap}
theorem sc42 : FnScope ["tree", "party", "none", "some", "full", "middle", "branches"] ["tree", "party"] (defScope (topS 42)) := ⟨rfl, rfl, rfl, by decide +kernel, rfl, by decide +kernel, by decide +kernel⟩
def spLed (d : Nat) : Sp := fun vs H Q _ => ∃ (v pv : V) (t : PT) (p : List Int), vs = [v, pv] ∧ Tr H v t ∧ Ro H pv p ∧ Tg t ∧ t.dp < d ∧ ∀ u H', Same H H' → OptL H' u (PT.led p t) → (∀ a, u = .ref a → H a = none) → Q u H'
theorem led_len {p : List Int} {t : PT} (w : Tg t) {L : List PT} (e : PT.led p t = some L) : (PT.gsL L).length = t.gs.length := by
  obtain ⟨l, hl⟩ := PT.frl_some L
  have := (PT.spec_led t w.wf l).mpr ⟨L, e, hl⟩
  rw [← (PT.fr_perm this.1).length_eq, ← (PT.frl_perm hl).length_eq]
theorem led_tg {p : List Int} {t : PT} (w : Tg t) {L : List PT} (e : PT.led p t = some L) : ∀ b ∈ L, Tg b := fun b hb => ⟨PT.wf_led t w.wf L e b hb, Nat.le_trans (gs_mem_le hb) (by rw [led_len w e]; exact w.z)⟩
theorem led_le {p : List Int} {t : PT} (w : Tg t) {L : List PT} (e : PT.led p t = some L) : L.length ≤ 7 := Nat.le_trans (br_le fun b hb => (led_tg w e b hb).wf) (by rw [led_len w e]; exact w.z)
theorem cl_led (D : Dfn K mg 42 "led_right") (B : Bt mg) (cS : Cl P w K mg base 9 "share_of" ["tree", "party"] spShare) (cG : Cl P w K mg base 1 "grouped" ["branches"] spGrouped) (cP : Cl P w K mg base 10 "parted" ["branches", "party"] spParted) : ∀ d, Cl P w K mg base (d + 11) "led_right" ["tree", "party"] (spLed d)
  | 0 => D.void (fun _ _ _ _ _ _ us hl => match us, hl with | [_, _], _ => rfl) fun vs H Q E ⟨_, _, _, _, _, _, _, _, h, _⟩ => absurd h (Nat.not_lt_zero _)
  | d + 1 => by
    have cL := cl_led D B cS cG cP d
    refine D.cl sc42 (fun _ _ _ _ _ _ us hl => match us, hl with | [_, _], _ => rfl) (fun vs H Q E h => ?_) (fun f cdv A outer s H vs Q E hr h => ?_)
    · obtain ⟨_, _, _, _, rfl, _⟩ := h; rfl
    obtain ⟨v, pv', t, p, rfl, ht, hp, tg, hd, q⟩ := h
    have dp20 : ∀ {l : List PT}, (∀ b ∈ l, Tg b) → ∀ b ∈ l, b.dp ≤ 20 := fun h b hb => by have := (h b hb).dp; omega
    have rest : ∃ tr : TS, PSs (cxOf CX0 P w K mg base ["tree", "party", "none", "some", "full", "middle", "branches"] "led_right" (defScope (topS 42)) f cdv A outer s H E).nox ((defBody (topS 42)).drop 5) tr ∧
        ∀ (r : Bool) (bs m : List PT) (a nn ss ff M : Addr) (H1 : Hp) (y6 : Option V), t = .node r bs → v = .ref a → Same H H1 → Ls H1 nn ((part .no p bs).map PT.enc) → Ls H1 ff ((part .al p bs).map PT.enc) → Ls H1 M (m.map PT.enc) → m.length ≤ 7 →
          PT.led p t = PT.ledEnd p r bs m → tr { nx := fun _ H' => Q .non H', rt := Q } [some v, some pv', some (.ref nn), some (.ref ss), some (.ref ff), some (.ref M), y6] H1 := by
      refine ⟨_, (pss_cons (ps_if (pt_cmpR op_eq (pe_ix ix_tup (pv 0) pe_int (fun _ _ => rfl)) (pe_gs rfl B.ANY) (nomark _))
          (pss_one (ps_ret (pe_op op_cat (pe_op op_cat (pe_cl cG hr (by omega) rfl (pa_cons (pv 2) pa_nil)) (pv 5)) (pe_cl cG hr (by omega) rfl (pa_cons (pv 4) pa_nil))))) pss_nil)
        (pss_cons (ps_for PassesOwn.never rfl (pi_tup (pe_tup (pa_cons (pe_ix ix_tup (pv 0) pe_int (fun _ _ => rfl)) (pa_cons (pe_revT (pe_ix ix_tup (pv 0) pe_int (fun _ _ => rfl))) pa_nil)))) (pg_name (i := 6) sc42.nd rfl (.inl rfl))
          (pss_cons (ps_asg (pe_cl cP hr (by omega) rfl (pa_cons (pv 6) (pa_cons (pv 1) pa_nil))) (pg_tup rfl (pgs_cons (pg_name (i := 2) sc42.nd rfl (.inl rfl)) (pgs_cons (pg_name (i := 3) sc42.nd rfl (.inl rfl)) (pgs_cons (pg_name (i := 4) sc42.nd rfl (.inl rfl)) pgs_nil)))))
          (pss_one (ps_if (pt_cmpR (op_eqD hr.units) (pe_op op_cat (pe_op op_cat (pv 2) (pv 3)) (pv 4)) (pe_callTy call_list_of rfl B.list (by decide +kernel) (pa_cons (pv 6) pa_nil)) (nomark _))
            (pss_one (ps_ret (pe_op op_cat (pe_op op_cat (pv 2) (pv 5)) (pv 4)))) pss_nil))))
        (pss_one (ps_ret pe_non)))), ?_⟩
      intro r bs m a nn ss ff M H1 y6 et ev g1 hn hf hM hm7 el
      subst ev et
      obtain ⟨_, b, e, ha, hb⟩ := tr_kids.mp ht
      cases e
      have tb := tg.br
      have hb7 := tg.len
      refine ⟨_, rfl, a, _, _, _, rfl, rfl, .inl (g1.rd ha), rfl, rfl, _, rfl, ?_⟩
      rw [kS_any]
      have pl : ∀ s : Sh, (part s p bs).length ≤ 7 := fun s => Nat.le_trans part_le hb7
      have gle : ∀ l : List PT, l.length ≤ 7 → (PT.grouped l).length ≤ 7 := fun l h => by
        unfold PT.grouped; split
        · exact h
        · simp
      cases r with
      | false =>
        refine iteT ?_
        refine ⟨_, rfl, nn, _, rfl, hn, fun p1 H2 g2 hp1 => ⟨_, rfl, ?_⟩⟩
        have h1 := gle _ (pl .no)
        have h2 := gle _ (pl .al)
        refine cat_ls hp1 (hM.same g2) (by rw [List.length_map, List.length_map]; omega) fun p2 _ H3 g3 hp2 => ?_
        refine ⟨_, rfl, ff, _, rfl, (hf.same g2).same g3, fun p3 H4 g4 hp3 => ?_⟩
        refine cat_ls (hp2.same g4) hp3 (by rw [List.length_append, List.length_map, List.length_map, List.length_map]; omega) fun p4 n4 H5 g5 hp4 => ?_
        refine q _ _ ((((g1.trans g2).trans g3).trans g4).trans g5) ?_ fun a' e' => by cases e'; exact none_back (((g1.trans g2).trans g3).trans g4) n4
        rw [el]
        unfold PT.ledEnd
        rw [if_pos rfl]
        refine ⟨p4, rfl, ?_⟩
        rw [← List.append_assoc, List.map_append, List.map_append]
        exact hp4
      | true =>
        refine iteF ?_
        obtain ⟨_, xs, e, hbr, hx⟩ := fz_tup.mp hb
        cases e
        refine ⟨_, rfl, a, _, _, _, rfl, rfl, .inl (g1.rd ha), rfl, _, rfl, a, _, _, _, rfl, rfl, .inl (g1.rd ha), rfl, b, xs, rfl, g1.sqT hbr, fun c nc => ?_⟩
        have gc := same_new (o := .tup xs.reverse) nc
        refine ⟨(by show 2 ≤ sizeLine; decide), fun T nT => ?_⟩
        have gT := same_new (o := .tup [.ref b, .ref c]) nT
        have g2 := gc.trans gT
        have g12 := g1.trans g2
        have hc : Fz (upd (upd H1 c (.tup xs.reverse)) T (.tup [.ref b, .ref c])) (.ref c) (dt bs.reverse) := by
          refine .tup (gT.rd (.inl upd_same)) ?_
          have := (hx.same g12).rev
          rwa [← List.map_reverse] at this
        refine ⟨T, rfl, ⟨_, SqT.of upd_same⟩, ?_⟩
        generalize hH2 : upd (upd H1 c (.tup xs.reverse)) T (.tup [.ref b, .ref c]) = H2 at *
        have hT2 : H2 T = some (.tup [.ref b, .ref c]) := by rw [← hH2]; exact upd_same
        refine for_tup (K := K) (xs := [V.ref b, V.ref c]) (fun i σ H' => Same H2 H' ∧ (1 ≤ i → part .no p bs ++ (part .so p bs ++ part .al p bs) ≠ bs) ∧ (2 ≤ i → part .no p bs.reverse ++ (part .so p bs.reverse ++ part .al p bs.reverse) ≠ bs.reverse) ∧ ∃ y2 y3 y4 y6, σ = [some (.ref a), some pv', y2, y3, y4, some (.ref M), y6])
          ⟨Same.refl _, fun h => absurd h (by decide), fun h => absurd h (by decide), _, _, _, _, rfl⟩ (fun j σ H' _ h => SqT.of (h.1 _ _ hT2)) (fun i x σ H3 hi h => ?_) (fun σ H3 h => ?_)
        · obtain ⟨g3, c1, c2, y2, y3, y4, y6', rfl⟩ := h
          -- the branches of this turn
          obtain ⟨bi, hbi, hdt, hperm, hend⟩ : ∃ bi : List PT, (i = 0 ∧ bi = bs ∨ i = 1 ∧ bi = bs.reverse) ∧ Fz H3 x (dt bi) ∧ bi.Perm bs ∧
              (part .no p bi ++ (part .so p bi ++ part .al p bi) = bi → PT.ledEnd p true bs m = some (part .no p bi ++ (m ++ part .al p bi))) := by
            match i, hi with
            | 0, hi =>
              cases hi
              refine ⟨bs, .inl ⟨rfl, rfl⟩, (hb.same g12).same g3, .refl _, fun h => ?_⟩
              unfold PT.ledEnd
              rw [if_neg (by decide), if_pos h]
            | 1, hi =>
              cases hi
              refine ⟨bs.reverse, .inr ⟨rfl, rfl⟩, hc.same g3, List.reverse_perm _, fun h => ?_⟩
              unfold PT.ledEnd
              rw [if_neg (by decide), if_neg (c1 (by decide)), if_pos h]
            | i + 2, hi => exact absurd hi (by simp)
          have ti : ∀ b ∈ bi, Tg b := fun b hb => tb b (hperm.mem_iff.mp hb)
          have li : bi.length ≤ 7 := by rw [hperm.length_eq]; exact hb7
          have g13 := g12.trans g3
          refine ⟨_, rfl, _, rfl, x, pv', bi, p, rfl, hdt, hp.same g13, ti, li, fun u H4 g4 hT => ?_⟩
          obtain ⟨T', n', s', f', rfl, hT', hn', hs', hf'⟩ := hT
          refine ⟨T', _, rfl, SqT.of hT', rfl, _, _, rfl, _, _, rfl, _, _, rfl, rfl, ?_⟩
          have pi : ∀ s : Sh, (part s p bi).length ≤ 7 := fun s => Nat.le_trans part_le li
          have p1 := pi .no
          have p2 := pi .so
          have p3 := pi .al
          refine ⟨_, rfl, _, rfl, ?_⟩
          refine cat_ls hn' hs' (by rw [List.length_map, List.length_map]; omega) fun d1 _ H5 g5 k5 => ?_
          refine ⟨_, rfl, ?_⟩
          refine cat_ls k5 (hf'.same g5) (by rw [List.length_append, List.length_map, List.length_map, List.length_map]; omega) fun d2 _ H6 g6 k6 => ?_
          rw [← List.map_append, ← List.map_append] at k6
          obtain ⟨xa, xx, rfl, hxa, hxx⟩ := fz_tup.mp ((((hdt.same g4).same g5).same g6))
          refine ⟨_, rfl, xa, xx, rfl, .inr (.inl hxa), fun l nl => ?_⟩
          have gl := same_new (o := .lst xx) nl
          have hl : Ls (upd H6 l (.lst xx)) l (bi.map PT.enc) := ⟨xx, upd_same, hxx.same gl⟩
          have tp : ∀ s : Sh, ∀ b ∈ part s p bi, Tg b := fun s b hb => ti b (PT.part_sub hb)
          refine eq_ls (K := K) (k6.same gl) hl (dp20 fun b hb => ?_) (dp20 ti) ⟨_, rfl, ?_⟩
          · rcases List.mem_append.mp hb with hb | hb
            · rcases List.mem_append.mp hb with hb | hb
              · exact tp _ b hb
              · exact tp _ b hb
            · exact tp _ b hb
          have g47 : Same H4 (upd H6 l (.lst xx)) := (g5.trans g6).trans gl
          by_cases he : part .no p bi ++ part .so p bi ++ part .al p bi = bi
          · rw [decide_eq_true he]
            refine iteT ?_
            have he' : part .no p bi ++ (part .so p bi ++ part .al p bi) = bi := by rw [← List.append_assoc]; exact he
            refine ⟨_, rfl, _, rfl, ?_⟩
            refine cat_ls (hn'.same g47) (((hM.same g2).same g3).same (g4.trans g47)) (by rw [List.length_map, List.length_map]; omega) fun d3 _ H8 g8 k8 => ?_
            refine ⟨_, rfl, ?_⟩
            refine cat_ls k8 ((hf'.same g47).same g8) (by rw [List.length_append, List.length_map, List.length_map, List.length_map]; omega) fun d4 n9 H9 g9 k9 => ?_
            refine q _ _ ((((g13.trans g4).trans g47).trans g8).trans g9) ?_ fun a' e' => by cases e'; exact none_back (((g13.trans g4).trans g47).trans g8) n9
            rw [el, hend he']
            refine ⟨d4, rfl, ?_⟩
            rw [← List.append_assoc, List.map_append, List.map_append]
            exact k9
          · rw [decide_eq_false he]
            refine iteF ?_
            rw [List.append_assoc] at he
            refine ⟨(g3.trans g4).trans g47, fun h1 => ?_, fun h2 => ?_, _, _, _, _, rfl⟩
            · rcases hbi with ⟨rfl, rfl⟩ | ⟨rfl, rfl⟩
              · exact he
              · exact c1 (by decide)
            · rcases hbi with ⟨rfl, rfl⟩ | ⟨rfl, rfl⟩
              · omega
              · exact he
        · obtain ⟨g3, c1, c2, y2, y3, y4, y6', rfl⟩ := h
          refine q _ _ (g12.trans g3) ?_ fun a' e' => by cases e'
          rw [el]
          unfold PT.ledEnd
          rw [if_neg (by decide), if_neg (c1 (show 1 ≤ 2 by decide)), if_neg (c2 (show 2 ≤ 2 by decide))]
          rfl
    obtain ⟨tr, hrest, hR⟩ := rest
    refine ⟨_, pss_cons (ps_if (pt_cmpR op_ne (pe_cl cS hr (by omega) rfl (pa_cons (pv 0) (pa_cons (pv 1) pa_nil))) (pe_gs rfl B.SOME) (nomark _)) (pss_one (ps_ret (pe_lst (pa_cons (pv 0) pa_nil)))) pss_nil)
      (pss_cons (ps_asg (pe_cl cP hr (by omega) rfl (pa_cons (pe_ix ix_tup (pv 0) pe_int (fun _ _ => rfl)) (pa_cons (pv 1) pa_nil))) (pg_tup rfl (pgs_cons (pg_name (i := 2) sc42.nd rfl (.inl rfl)) (pgs_cons (pg_name (i := 3) sc42.nd rfl (.inl rfl)) (pgs_cons (pg_name (i := 4) sc42.nd rfl (.inl rfl)) pgs_nil)))))
      (pss_cons (ps_if (pt_cmpR op_gt (pe_callB call_len_seq rfl B.len PySem.boot_len (pa_cons (pv 3) pa_nil)) pe_int (nomark _)) (pss_one (ps_ret pe_non)) pss_nil)
      (pss_cons (ps_set (i := 5) sc42.nd rfl (.inl rfl) (pe_lst pa_nil))
      (pss_cons (ps_if (pt_cmpR (op_neD hr.units) (pv 3) (pe_lst pa_nil) (nomark _))
          (pss_cons (ps_set (i := 5) sc42.nd rfl (.inl rfl) (pe_cl cL hr (Nat.le_refl _) rfl (pa_cons (pe_ix ix_list (pv 3) pe_int (fun _ _ => rfl)) (pa_cons (pv 1) pa_nil))))
          (pss_one (ps_if (pt_cmpR op_isN (pv 5) pe_non (nomark _)) (pss_one (ps_ret pe_non)) pss_nil))) pss_nil) hrest)))), ?_⟩
    refine ⟨_, rfl, _, rfl, v, pv', t, p, rfl, ht, hp, tg, fun H1 g1 => ?_⟩
    refine ⟨rfl, _, rfl, ?_⟩
    have hc : decide (V.str (shS (sh p t)) = V.str "some") = decide (sh p t = .so) := shS_dec (sh p t) .so
    rw [hc]
    by_cases hso : sh p t = .so
    · rw [decide_eq_true hso]
      refine iteF ?_
      cases t with
      | leaf g => exact absurd hso PT.leaf_so
      | node r bs =>
        obtain ⟨a, b, rfl, ha, hb⟩ := tr_kids.mp ht
        have tb := tg.br
        have hb7 := tg.len
        refine ⟨_, rfl, a, _, _, _, rfl, rfl, .inl (g1.rd ha), rfl, _, rfl, _, pv', bs, p, rfl, hb.same g1, hp.same g1, tb, hb7, fun u H2 g2 hT => ?_⟩
        obtain ⟨T, nn, ss, ff, rfl, hT, hn, hs, hf⟩ := hT
        refine ⟨T, _, rfl, SqT.of hT, rfl, _, _, rfl, _, _, rfl, _, _, rfl, rfl, ?_⟩
        obtain ⟨xs, es, kx⟩ := hs
        have hxl : xs.length = (part .so p bs).length := by rw [kx.len, List.length_map]
        refine ⟨_, rfl, ss, xs, rfl, .inl (SqL.of es), _, _, rfl, rfl, _, rfl, ?_⟩
        by_cases hm : 1 < (part .so p bs).length
        · rw [decide_eq_true (by omega)]
          refine iteT (q _ _ (g1.trans g2) ?_ fun a' e' => by cases e')
          rw [PT.led_more hso hm]; rfl
        rw [decide_eq_false (by omega)]
        refine iteF ⟨Nat.zero_le _, fun M nM => ?_⟩
        have gM := same_new (o := .lst []) nM
        refine ⟨_, rfl, Nat.zero_le _, fun e ne => ?_⟩
        have ge := same_new (o := .lst []) ne
        have g3 := gM.trans ge
        have ts : ∀ b ∈ part .so p bs, Tg b := fun b hb => tb b (PT.part_sub hb)
        refine ne_ls (K := K) (as := part .so p bs) (bs := []) (Ls.same g3 ⟨xs, es, kx⟩) lsEmp (dp20 ts) (fun _ h => by cases h) ⟨_, rfl, ?_⟩
        rcases PT.short (l := part .so p bs) (by omega) with h0 | ⟨s0, h0⟩
        · rw [decide_eq_true h0]
          refine iteF ?_
          exact hR r bs [] a nn ss ff M _ _ rfl rfl ((g1.trans g2).trans g3) (hn.same g3) (hf.same g3) (lsEmp.same ge) (by simp) (PT.led_nil hso h0)
        · rw [decide_eq_false (by rw [h0]; simp)]
          refine iteT ?_
          have hs0 : (part .so p bs)[0]? = some s0 := by rw [h0]; rfl
          obtain ⟨x0, hx0, hf0⟩ := kx.at (i := 0) (d := s0.enc) (by rw [List.getElem?_map, hs0]; rfl)
          have hm0 : s0 ∈ bs := PT.part_sub (s := .so) (p := p) (by rw [h0]; simp)
          have hs3 := g3 _ _ es
          refine ⟨_, rfl, ss, _, _, _, rfl, rfl, SqL.of hs3, atI_nat (j := 0) hx0, _, rfl, x0, pv', s0, p, rfl, Fz.same g3 hf0, hp.same ((g1.trans g2).trans g3), tb s0 hm0, by have := PT.dp_br (r := r) hm0; omega, fun u H4 g4 hu _ => ?_⟩
          have g34 := g3.trans g4
          refine ⟨_, rfl, rfl, _, rfl, ?_⟩
          have hone := PT.led_one hso h0
          cases hl : PT.led p s0 with
          | none =>
            rw [hl] at hu hone
            have : u = .non := hu
            subst this
            refine iteT (q _ _ ((g1.trans g2).trans g34) ?_ fun a' e' => by cases e')
            rw [hone]; rfl
          | some L =>
            rw [hl] at hu hone
            obtain ⟨M', rfl, hM'⟩ := hu
            refine iteF ?_
            exact hR r bs L a nn ss ff M' _ _ rfl rfl ((g1.trans g2).trans g34) (hn.same g34) (hf.same g34) hM' (led_le (tb s0 hm0) hl) hone
    · rw [decide_eq_false hso]
      refine iteT ⟨_, rfl, (by show 1 ≤ sizeLine; decide), fun l nl => ?_⟩
      have gl := same_new (o := .lst [v]) nl
      refine q _ _ (g1.trans gl) ?_ fun a' e' => by cases e'; exact none_back g1 nl
      rw [PT.led_other hso]
      exact ⟨l, rfl, [v], upd_same, .one ((Tr.same gl (ht.same g1)))⟩
end
end ST
namespace ST
open PySem PySem.Spec PyProof.Rows L2
open PT (Sh sh part)
open Classical
/-- lists of trees or Nones in a list at D -/
inductive OLs (H : Hp) (D : Addr) : List V → List (Option (List PT)) → Prop
  | nil : OLs H D [] []
  | cons {v : V} {vs : List V} {o : Option (List PT)} {os : List (Option (List PT))} : OptL H v o → (∀ a, v = .ref a → a ≠ D) → OLs H D vs os → OLs H D (v :: vs) (o :: os)
theorem OptL.same {H H' : Hp} {u : V} {o : Option (List PT)} (g : Same H H') (h : OptL H u o) : OptL H' u o := by
  cases o with
  | none => exact h
  | some L => obtain ⟨a, e, k⟩ := h; exact ⟨a, e, k.same g⟩
theorem OLs.same {H H' : Hp} {D : Addr} {vs : List V} {os : List (Option (List PT))} (g : Same H H') (h : OLs H D vs os) : OLs H' D vs os := by
  induction h with
  | nil => exact .nil
  | cons a b _ ih => exact .cons (a.same g) b ih
theorem OptL.off {H : Hp} {D : Addr} {u : V} {o : Option (List PT)} {xs ys : List V} (e : H D = some (.lst xs)) (h : OptL H u o) (n : ∀ a, u = .ref a → a ≠ D) : OptL (upd H D (.lst ys)) u o := by
  cases o with
  | none => exact h
  | some L => obtain ⟨a, ea, k⟩ := h; exact ⟨a, ea, k.off (tu_upd e) (upd_ne (n a ea))⟩
theorem OLs.off {H : Hp} {D : Addr} {vs : List V} {os : List (Option (List PT))} {xs ys : List V} (e : H D = some (.lst xs)) (h : OLs H D vs os) : OLs (upd H D (.lst ys)) D vs os := by
  induction h with
  | nil => exact .nil
  | cons a b _ ih => exact .cons (a.off e b) b ih
theorem OLs.snoc {H : Hp} {D : Addr} {vs : List V} {os : List (Option (List PT))} {v : V} {o : Option (List PT)} (h : OLs H D vs os) (a : OptL H v o) (b : ∀ a, v = .ref a → a ≠ D) : OLs H D (vs ++ [v]) (os ++ [o]) := by
  induction h with
  | nil => exact .cons a b .nil
  | cons a' b' _ ih => exact .cons a' b' ih
theorem OLs.len {H : Hp} {D : Addr} {vs : List V} {os : List (Option (List PT))} (h : OLs H D vs os) : vs.length = os.length := by
  induction h with
  | nil => rfl
  | cons _ _ _ ih => rw [List.length_cons, List.length_cons, ih]
def dO : Option (List PT) → PyData
  | none => .none
  | some L => .list (L.map PT.enc)
theorem OptL.dp {K : PySem.W.Frag} {H : Hp} {u : V} {o : Option (List PT)} (h : OptL H u o) : Dp K H u (dO o) := by
  cases o with
  | none => have : u = .non := h; subst this; exact .non
  | some L => obtain ⟨a, rfl, k⟩ := h; exact k.dp K
theorem OLs.dp {K : PySem.W.Frag} {H : Hp} {D : Addr} {vs : List V} {os : List (Option (List PT))} (h : OLs H D vs os) : DpAll K H vs (os.map dO) := by
  induction h with
  | nil => exact .nil
  | cons a _ _ ih => exact .cons a.dp ih
theorem any_none (os : List (Option (List PT))) : ((os.map dO).any fun z => PyData.eqv z .none) = os.any fun o => o.isNone := by
  induction os with
  | nil => rfl
  | cons o os ih =>
    rw [List.map_cons, List.any_cons, List.any_cons, ih]
    cases o with
    | none => rfl
    | some L => simp [dO, PyData.eqv]
theorem shaped_os {os : List (Option (List PT))} (h : ∀ o ∈ os, ∀ L, o = some L → ∀ b ∈ L, b.dp ≤ 7) : SeqAt.shaped (.list (os.map dO)) = true := by
  have all : PyData.canLayAll0 (os.map dO) = true ∧ PyData.depthAll (os.map dO) ≤ 30 := by
    induction os with
    | nil => exact ⟨rfl, by simp [PyData.depthAll]⟩
    | cons o os ih =>
      have h2 := ih fun o ho => h o (by simp [ho])
      have h1 : (dO o).canLay0 = true ∧ (dO o).depth ≤ 30 := by
        cases o with
        | none => exact ⟨rfl, by simp [dO, PyData.depth]⟩
        | some L =>
          have hL := h (some L) (by simp) L rfl
          have : PyData.canLayAll0 (L.map PT.enc) = true ∧ PyData.depthAll (L.map PT.enc) ≤ 14 := by
            clear h h2 ih
            induction L with
            | nil => exact ⟨rfl, by simp [PyData.depthAll]⟩
            | cons b bs ihb =>
              have k1 := PT.lay_enc b
              have k2 := ihb fun c hc => hL c (by simp [hc])
              have k3 := hL b (by simp)
              simp only [List.map_cons, PyData.canLayAll0, PyData.depthAll]
              exact ⟨by rw [k1.1, k2.1]; rfl, by omega⟩
          simp only [dO, PyData.canLay0, PyData.depth]
          exact ⟨this.1, by have := this.2; omega⟩
      simp only [List.map_cons, PyData.canLayAll0, PyData.depthAll]
      exact ⟨by rw [h1.1, h2.1]; rfl, by omega⟩
  unfold SeqAt.shaped
  refine Bool.and_eq_true_iff.mpr ⟨by simp only [PyData.canLay0]; exact all.1, decide_eq_true ?_⟩
  simp only [PyData.depth]
  have := all.2
  omega
/-- a tree or None -/
def OptT (H : Hp) (u : V) : Option PT → Prop
  | none => u = .non
  | some t => Tr H u t
/-- a node of a kind and a tuple of branches -/
theorem tr_mk {H : Hp} {a b : Addr} {r : Bool} {bs : List PT} {xs : List V} {ob : Obj} (ha : H a = some (.tup [.str (kS r), .ref b])) (hb : H b = some (.frz ob (.tup xs))) (hx : FzL H xs (bs.map PT.enc)) : Tr H (.ref a) (.node r bs) :=
  tr_node.mpr ⟨a, b, xs, rfl, .inl ha, .inr ⟨ob, hb⟩, hx⟩
section
variable {P : Program} {w : World} {K : PySem.W.Frag} {mg : Str → Option Value} {base : Heap}
theorem sc43 : FnScope ["none", "some", "full", "party", "ends", "branches", "branch"] ["none", "some", "full", "party"] (defScope (topS 43)) := ⟨rfl, rfl, rfl, by decide +kernel, rfl, by decide +kernel, by decide +kernel⟩
def spAnyTog : Sp := fun vs H Q _ => ∃ (nn ss ff : Addr) (pv : V) (no so al : List PT) (p : List Int), vs = [.ref nn, .ref ss, .ref ff, pv] ∧ Ls H nn (no.map PT.enc) ∧ Ls H ss (so.map PT.enc) ∧ Ls H ff (al.map PT.enc) ∧ Ro H pv p ∧
  (∀ b ∈ no, Tg b) ∧ (∀ b ∈ so, Tg b) ∧ (∀ b ∈ al, Tg b) ∧ no.length ≤ 7 ∧ so.length ≤ 7 ∧ al.length ≤ 7 ∧ ∀ u H', Same H H' → OptT H' u (PT.anyTog p no so al) → Q u H'
theorem grp_le {l : List PT} (h : l.length ≤ 7) : (PT.grouped l).length ≤ 7 := by
  unfold PT.grouped; split
  · exact h
  · simp
theorem tg20 {l : List PT} (h : ∀ b ∈ l, Tg b) : ∀ b ∈ l, b.dp ≤ 20 := fun b hb => by have := (h b hb).dp; omega
theorem cl_anyTog (D : Dfn K mg 43 "any_together") (B : Bt mg) (cG : Cl P w K mg base 1 "grouped" ["branches"] spGrouped) (cL : Cl P w K mg base 18 "led_right" ["tree", "party"] (spLed 7)) : Cl P w K mg base 19 "any_together" ["none", "some", "full", "party"] spAnyTog := by
  refine D.cl sc43 (fun _ _ _ _ _ _ us hl => match us, hl with | [_, _, _, _], _ => rfl) (fun vs H Q E h => ?_) (fun f cdv A outer s H vs Q E hr h => ?_)
  · obtain ⟨_, _, _, _, _, _, _, _, rfl, _⟩ := h; rfl
  obtain ⟨nn, ss, ff, pv', no, so, al, p, rfl, hn, hs, hf, hp, tn, ts, tf, ln, lso, lf, q⟩ := h
  -- the end: the branches are known
  have rest : ∃ tr : TS, PSs (cxOf CX0 P w K mg base ["none", "some", "full", "party", "ends", "branches", "branch"] "any_together" (defScope (topS 43)) f cdv A outer s H E).nox ((defBody (topS 43)).drop 5) tr ∧
      ∀ (L : List PT) (bb : Addr) (H1 : Hp) (y4 y6 : Option V), Same H H1 → Ls H1 bb (L.map PT.enc) → PT.anyTog p no so al = some (PT.wrapRow no L) →
        tr { nx := fun _ H' => Q .non H', rt := Q } [some (.ref nn), some (.ref ss), some (.ref ff), some pv', y4, some (.ref bb), y6] H1 := by
    refine ⟨_, (pss_cons (ps_if (pt_cmpR (op_eqD hr.units) (pv 0) (pe_lst pa_nil) (nomark _)) (pss_one (ps_ret (pe_tup (pa_cons (pe_gs rfl B.ROW) (pa_cons (pe_callTy call_tupD rfl B.tuple (by decide +kernel) (pa_cons (pv 5) pa_nil)) pa_nil))))) pss_nil)
      (pss_one (ps_ret (pe_tup (pa_cons (pe_gs rfl B.ANY) (pa_cons (pe_callTy call_tupD rfl B.tuple (by decide +kernel) (pa_cons (pe_op op_cat (pv 0) (pe_lst (pa_cons (pe_tup (pa_cons (pe_gs rfl B.ROW) (pa_cons (pe_callTy call_tupD rfl B.tuple (by decide +kernel) (pa_cons (pv 5) pa_nil)) pa_nil))) pa_nil))) pa_nil)) pa_nil)))))), ?_⟩
    intro L bb H1 y4 y6 g1 hb ea
    refine ⟨_, rfl, Nat.zero_le _, fun e ne => ?_⟩
    have ge := same_new (o := .lst []) ne
    refine eq_ls (K := K) (as := no) (bs := []) ((hn.same g1).same ge) lsEmp (tg20 tn) (fun _ h => by cases h) ⟨_, rfl, ?_⟩
    obtain ⟨xs, eb, kb⟩ := hb.same ge
    have g2 := g1.trans ge
    by_cases h0 : no = []
    · rw [decide_eq_true h0]
      refine iteT ⟨_, rfl, bb, xs, rfl, SqL.of eb, fun l o nl hdo => ?_⟩
      have gl := same_new (o := .frz o (.tup xs)) nl
      refine ⟨(by show 2 ≤ sizeLine; decide), fun t1 n1 => ?_⟩
      have gt := same_new (o := .tup [.str (kS true), .ref l]) n1
      refine q _ _ ((g2.trans gl).trans gt) ?_
      rw [ea]
      unfold PT.wrapRow
      rw [if_pos h0]
      exact tr_mk upd_same (gt _ _ upd_same) ((kb.same gl).same gt)
    · rw [decide_eq_false h0]
      refine iteF ⟨_, rfl, _, rfl, bb, xs, rfl, SqL.of eb, fun l o nl hdo => ?_⟩
      have gl := same_new (o := .frz o (.tup xs)) nl
      refine ⟨(by show 2 ≤ sizeLine; decide), fun t1 n1 => ?_⟩
      have gt := same_new (o := .tup [.str (kS true), .ref l]) n1
      refine ⟨(by show 1 ≤ sizeLine; decide), fun t2 n2 => ?_⟩
      have gt2 := same_new (o := .lst [.ref t1]) n2
      have g3 := (g2.trans gl).trans (gt.trans gt2)
      have hR : Tr (upd (upd (upd (upd H1 e (.lst [])) l (.frz o (.tup xs))) t1 (.tup [.str (kS true), .ref l])) t2 (.lst [.ref t1])) (.ref t1) (.node true L) :=
        tr_mk (gt2 _ _ upd_same) (gt2 _ _ (gt _ _ upd_same)) (((kb.same gl).same gt).same gt2)
      refine cat_ls (hn.same g3) (⟨_, upd_same, .one hR⟩ : Ls _ t2 [PT.enc (.node true L)]) (by rw [List.length_map]; simp; omega) fun c nc H5 g5 hc => ?_
      obtain ⟨ys, ec, kc⟩ := hc
      refine ⟨c, ys, rfl, SqL.of ec, fun l2 o2 nl2 hdo2 => ?_⟩
      have gl2 := same_new (o := .frz o2 (.tup ys)) nl2
      refine ⟨(by show 2 ≤ sizeLine; decide), fun t3 n3 => ?_⟩
      have gt3 := same_new (o := .tup [.str (kS false), .ref l2]) n3
      refine q _ _ (((g3.trans g5).trans gl2).trans gt3) ?_
      rw [ea]
      unfold PT.wrapRow
      rw [if_neg h0]
      refine tr_mk upd_same (gt3 _ _ upd_same) ?_
      have : ((no ++ [PT.node true L]).map PT.enc) = no.map PT.enc ++ [PT.enc (.node true L)] := by rw [List.map_append]; rfl
      rw [this]
      exact (kc.same gl2).same gt3
  obtain ⟨tr, hrest, hR⟩ := rest
  refine ⟨_, pss_cons (ps_if (pt_cmpR (op_eqD hr.units) (pv 1) (pe_lst pa_nil) (nomark _)) (pss_one (ps_ret (pe_tup (pa_cons (pe_gs rfl B.ANY) (pa_cons (pe_callTy call_tupD rfl B.tuple (by decide +kernel) (pa_cons (pe_op op_cat (pv 0) (pe_cl cG hr (by omega) rfl (pa_cons (pv 2) pa_nil))) pa_nil)) pa_nil))))) pss_nil)
    (pss_cons (ps_setLc (i := 4) (own := [("branch", 6)]) (g := gName 6) (tt := tYes) rfl sc43.nd rfl rfl (sw_true rfl rfl rfl rfl) (pi_list (pv 1)) (blkOk_by (N := ["none", "some", "full", "party", "ends", "branches", "branch"]) (sc := defScope (topS 43)) (by decide +kernel))
        (fun _ _ _ _ _ => pg_name (i := 6) sc43.nd rfl (Or.inl rfl)) (fun _ _ _ _ _ => pts_nil) (fun _ _ _ _ _ => pe_cl cL hr (Nat.le_refl _) rfl (pa_cons (pv 6) (pa_cons (pv 3) pa_nil))))
    (pss_cons (ps_if (PW.pt (pw_or (pt_cmpR (op_inD (room65 hr)) pe_non (pv 4) rfl) (pw_or1 (pt_cmpR op_gt (pe_callB call_len_seq rfl B.len PySem.boot_len (pa_cons (pv 4) pa_nil)) pe_int (nomark _))))) (pss_one (ps_ret pe_non)) pss_nil)
    (pss_cons (ps_set (i := 5) sc43.nd rfl (.inl rfl) (pe_op op_cat (pe_ix ix_list (pv 4) pe_int (fun _ _ => rfl)) (pe_cl cG hr (by omega) rfl (pa_cons (pv 2) pa_nil))))
    (pss_cons (ps_if (pt_cmpR op_eq (pe_callB call_len_seq rfl B.len PySem.boot_len (pa_cons (pv 4) pa_nil)) pe_int (nomark _)) (pss_one (ps_set (i := 5) sc43.nd rfl (.inl rfl) (pe_op op_cat (pv 5) (pe_revL (pe_ix ix_list (pv 4) pe_int (fun _ _ => rfl)))))) pss_nil) hrest)))), ?_⟩
  refine ⟨_, rfl, Nat.zero_le _, fun e ne => ?_⟩
  have ge := same_new (o := .lst []) ne
  refine eq_ls (K := K) (as := so) (bs := []) (hs.same ge) lsEmp (tg20 ts) (fun _ h => by cases h) ⟨_, rfl, ?_⟩
  by_cases h0 : so = []
  · rw [decide_eq_true h0]
    refine iteT ⟨_, rfl, _, rfl, ff, al, rfl, hf.same ge, fun p1 H2 g2 h1 => ?_⟩
    have h2 := grp_le lf
    refine cat_ls ((hn.same ge).same g2) h1 (by rw [List.length_map, List.length_map]; omega) fun c nc H3 g3 hc => ?_
    obtain ⟨ys, ec, kc⟩ := hc
    refine ⟨c, ys, rfl, SqL.of ec, fun l2 o2 nl2 hdo2 => ?_⟩
    have gl2 := same_new (o := .frz o2 (.tup ys)) nl2
    refine ⟨(by show 2 ≤ sizeLine; decide), fun t3 n3 => ?_⟩
    have gt3 := same_new (o := .tup [.str (kS false), .ref l2]) n3
    refine q _ _ ((((ge.trans g2).trans g3).trans gl2).trans gt3) ?_
    subst h0
    show Tr _ _ _
    refine tr_mk upd_same (gt3 _ _ upd_same) ?_
    rw [List.map_append]
    exact (kc.same gl2).same gt3
  rw [decide_eq_false h0]
  refine iteF ?_
  obtain ⟨xs, es, kx⟩ := hs.same ge
  have hxl : xs.length = so.length := by rw [kx.len, List.length_map]
  refine ⟨_, rfl, ss, rfl, ⟨_, SqL.of es⟩, fun D nD => ?_⟩
  have nDH : H D = none := none_back ge nD
  refine lc_it (walk_list (K := K) (a := ss) (xs := xs)) (g := gName 6) (fun i H' => Same (upd H e (.lst [])) H' ∧ ∃ zs, H' D = some (.lst zs) ∧ OLs H' D zs ((so.take i).map (PT.led p))) ⟨same_new nD, [], upd_same, .nil⟩ (fun i H' _ h => h.1.sqL (SqL.of es)) (fun i x H1 H2 hi h y => ?_) (fun H1 h => ?_)
  · obtain ⟨g1, zs, eD, kz⟩ := h
    obtain ⟨rfl, hx⟩ := y
    obtain ⟨t, hti, hxt⟩ := encs_at (kx.same g1) hx
    have tt := ts t (List.mem_of_getElem? hti)
    refine ⟨rfl, _, rfl, _, rfl, x, pv', t, p, rfl, hxt, (hp.same ge).same g1, tt, tt.dp, fun u H4 g4 hu hfr => ?_⟩
    have eD4 := g4 _ _ eD
    refine ⟨zs, eD4, big_lt ?_, same_mut (g1.trans g4) nD, zs ++ [u], upd_same, ?_⟩
    · rw [kz.len, List.length_map, List.length_take]; omega
    · rw [take_snoc hti, List.map_append]
      refine ((kz.same g4).off eD4).snoc (hu.off eD4 fun a ea => ?_) fun a ea => ?_
      · exact fun z => by subst z; rw [hfr a ea] at eD; cases eD
      · exact fun z => by subst z; rw [hfr a ea] at eD; cases eD
  obtain ⟨g1, zs, eD, kz⟩ := h
  rw [hxl, List.take_length] at kz
  have gA := ge.trans g1
  have hsh : SeqAt.shaped (.list ((so.map (PT.led p)).map dO)) = true := shaped_os fun o ho L eo b hb => by
    obtain ⟨t, ht, rfl⟩ := List.mem_map.mp ho
    have := (led_tg (ts t ht) eo b hb).dp
    omega
  have hzl : zs.length = so.length := by rw [kz.len, List.length_map]
  refine ⟨_, rfl, .none, _, .non, .lst (SqL.of eD) kz.dp, rfl, hsh, _, rfl, ?_⟩
  rw [any_none]
  cases hN : (so.map (PT.led p)).any fun o => o.isNone with
  | true =>
    refine iteT (q _ _ gA ?_)
    have : PT.anyTog p no so al = none := by
      match so, h0, hN with
      | [], h0, _ => exact absurd rfl h0
      | [s], _, hN =>
        show (PT.led p s).map _ = none
        cases h : PT.led p s with
        | none => rfl
        | some L => simp [h] at hN
      | [s, s'], _, hN =>
        show (PT.led p s).bind _ = none
        cases h : PT.led p s with
        | none => rfl
        | some L =>
          cases h' : PT.led p s' with
          | none => simp [h']
          | some L' => simp [h, h'] at hN
      | _ :: _ :: _ :: _, _, _ => rfl
    rw [this]; rfl
  | false =>
    refine iteF ?_
    refine ⟨_, rfl, D, zs, rfl, .inl (SqL.of eD), _, _, rfl, rfl, _, rfl, ?_⟩
    match so, h0, hN, kz, hzl, ts, q, hR with
    | [], h0, _, _, _, _, _, _ => exact absurd rfl h0
    | [s], _, hN, kz, hzl, ts, q, hR =>
      rw [decide_eq_false (by rw [hzl]; simp)]
      refine iteF ?_
      cases hl : PT.led p s with
      | none => simp [hl] at hN
      | some L =>
        have tl := ts s (by simp)
        cases kz with
        | cons k1 n1 k2 =>
          cases k2
          rw [hl] at k1
          obtain ⟨M, rfl, hM⟩ := k1
          have hll := led_le tl hl
          refine ⟨_, rfl, D, _, _, _, rfl, rfl, SqL.of eD, rfl, _, rfl, ff, al, rfl, hf.same gA, fun p1 H2 g2 h1 => ?_⟩
          have h2 := grp_le lf
          refine cat_ls (hM.same g2) h1 (by rw [List.length_map, List.length_map]; omega) fun c nc H3 g3 hc => ?_
          refine ⟨_, rfl, D, _, rfl, .inl (SqL.of (g3 _ _ (g2 _ _ eD))), rfl, _, rfl, ?_⟩
          refine iteF ?_
          refine hR (L ++ PT.grouped al) c H3 _ _ ((gA.trans g2).trans g3) (by rw [List.map_append]; exact hc) ?_
          show (PT.led p s).map _ = _
          rw [hl]; rfl
    | [s, s'], _, hN, kz, hzl, ts, q, hR =>
      rw [decide_eq_false (by rw [hzl]; simp)]
      refine iteF ?_
      cases hl : PT.led p s with
      | none => simp [hl] at hN
      | some L =>
        cases hl' : PT.led p s' with
        | none => simp [hl'] at hN
        | some L' =>
          have tl := ts s (by simp)
          have tl' := ts s' (by simp)
          cases kz with
          | cons k1 n1 k2 =>
            cases k2 with
            | cons k2 n2 k3 =>
              cases k3
              rw [hl] at k1
              rw [hl'] at k2
              obtain ⟨M, rfl, hM⟩ := k1
              obtain ⟨M', rfl, hM'⟩ := k2
              have hll := led_le tl hl
              have hll' := led_le tl' hl'
              refine ⟨_, rfl, D, _, _, _, rfl, rfl, SqL.of eD, rfl, _, rfl, ff, al, rfl, hf.same gA, fun p1 H2 g2 h1 => ?_⟩
              have h2 := grp_le lf
              refine cat_ls (hM.same g2) h1 (by rw [List.length_map, List.length_map]; omega) fun c nc H3 g3 hc => ?_
              have eD3 := g3 _ _ (g2 _ _ eD)
              refine ⟨_, rfl, D, _, rfl, .inl (SqL.of eD3), rfl, _, rfl, ?_⟩
              refine iteT ?_
              obtain ⟨ws, ew, kw⟩ := (hM'.same g2).same g3
              refine ⟨_, rfl, _, rfl, D, _, _, _, rfl, rfl, SqL.of eD3, rfl, M', ws, rfl, SqL.of ew, fun rv nr => ?_⟩
              have gr := same_new (o := .lst ws.reverse) nr
              have hrv : Ls (upd H3 rv (.lst ws.reverse)) rv (L'.reverse.map PT.enc) := ⟨_, upd_same, by have := (kw.same gr).rev; rwa [← List.map_reverse] at this⟩
              refine cat_ls (hc.same gr) hrv (by rw [List.length_append, List.length_map, List.length_map, List.length_map, List.length_reverse]; omega) fun c2 nc2 H4 g4 hc2 => ?_
              refine hR (L ++ PT.grouped al ++ L'.reverse) c2 H4 _ _ (((gA.trans g2).trans g3).trans (gr.trans g4)) (by rw [List.map_append, List.map_append]; exact hc2) ?_
              show (PT.led p s).bind _ = _
              rw [hl, Option.bind_some, hl']; rfl
    | s :: s' :: s'' :: r, _, hN, kz, hzl, ts, q, hR =>
      rw [decide_eq_true (by rw [hzl]; simp only [List.length_cons]; omega)]
      exact iteT (q _ _ gA rfl)
end
end ST
namespace ST
open PySem PySem.Spec PyProof.Rows L2
open PT (Sh sh part)
open Classical
/-! ### places of a party -/
theorem places_snoc (p : List Int) (as : List PT) (b : PT) : PT.places p 0 (as ++ [b]) = PT.places p 0 as ++ (if sh p b = .no then [] else [as.length]) := by
  rw [PT.places_append, PT.places_cons]
  simp only [PT.places, Nat.zero_add]
theorem gvn_places (p : List Int) (bs : List PT) : ∀ m, m ≤ bs.length → gvn m (fun i => (bs[i]?.map fun b => !decide (sh p b = .no)).getD false) (fun i => .int (i : Nat)) = (PT.places p 0 (bs.take m)).map fun i : Nat => PyData.int (i : Nat)
  | 0, _ => by simp [gvn, PT.places]
  | m + 1, h => by
    have e : bs[m]? = some bs[m] := List.getElem?_eq_getElem (by omega)
    rw [take_snoc e, places_snoc, List.map_append, ← gvn_places p bs m (by omega)]
    by_cases h1 : sh p bs[m] = .no
    · rw [gvn_no (by rw [e]; simp [h1]), if_pos h1]; simp
    · rw [gvn_yes (by rw [e]; simp [h1]), if_neg h1, List.length_take, Nat.min_eq_left (by omega)]; rfl
theorem cut_mid (xs : List V) {n m : Nat} (h1 : n ≤ xs.length) (h2 : m ≤ xs.length) : cutV xs (some (n : Int)) (some (m : Int)) = (xs.drop n).take (m - n) := by
  unfold cutV
  rw [HT.sIx_nat, HT.sIx_nat, Nat.min_eq_left h1, Nat.min_eq_left h2]
theorem cut_in (xs : List V) (h : 1 ≤ xs.length) : cutV xs (some 1) (some (-1)) = xs.tail.dropLast := by
  unfold cutV
  rw [show HT.sIx xs.length 0 (some 1) = min 1 xs.length from HT.sIx_nat _ _ 1, Nat.min_eq_left h]
  have : HT.sIx xs.length xs.length (some (-1)) = xs.length - 1 := by
    show (if (-1 : Int) < 0 then ((-1 : Int) + (xs.length : Int)).toNat else min (-1 : Int).toNat xs.length) = _
    rw [if_pos (by decide)]; omega
  rw [this, List.drop_one, List.dropLast_eq_take, List.length_tail]
section
variable {K : PySem.W.Frag} {H : Hp} {x : V} {ds : List PyData} {Q : V → Hp → Prop}
theorem sl_mid_fz {n m : Nat} (h : Fz H x (.tuple ds)) (h1 : n ≤ ds.length) (h2 : m ≤ ds.length) (q : ∀ v H', Same H H' → Fz H' v (.tuple ((ds.drop n).take (m - n))) → Q v H') : rSlA K x (some (n : Int)) (some (m : Int)) H Q := by
  obtain ⟨a, xs, rfl, ha, hx⟩ := fz_tup.mp h
  have hl := hx.len
  refine ⟨a, xs, rfl, .inl ha, fun z => ?_, fun _ p np => ?_⟩
  · refine q _ _ (Same.refl _) ?_
    have z1 : min n xs.length = 0 := by have := z.1; rwa [HT.sIx_nat] at this
    have z2 : min m xs.length = xs.length := by have := z.2; rwa [HT.sIx_nat] at this
    have e0 : n = 0 := by omega
    have e1 : m = ds.length := by omega
    subst e0 e1
    simpa using h
  · rw [cut_mid xs (by omega) (by omega)]
    exact q _ _ (same_new np) (.tup (.inl upd_same) (((hx.drop n).take (m - n)).same (same_new np)))
end
section
variable {P : Program} {w : World} {K : PySem.W.Frag} {mg : Str → Option Value} {base : Heap}
theorem sc44 : FnScope ["branches", "party", "shares", "places", "first", "last", "left", "right", "inner", "branch", "place"] ["branches", "party"] (defScope (topS 44)) := ⟨rfl, rfl, rfl, by decide +kernel, rfl, by decide +kernel, by decide +kernel⟩
def spRowTog : Sp := fun vs H Q _ => ∃ (v pv : V) (bs : List PT) (p : List Int), vs = [v, pv] ∧ Fz H v (dt bs) ∧ Ro H pv p ∧ (∀ b ∈ bs, Tg b) ∧ bs.length ≤ 7 ∧ PT.places p 0 bs ≠ [] ∧ ∀ u H', Same H H' → OptT H' u (PT.rowTog p bs) → Q u H'
theorem cl_rowTog (D : Dfn K mg 44 "row_together") (B : Bt mg) (cS : Cl P w K mg base 9 "share_of" ["tree", "party"] spShare) (cL : Cl P w K mg base 18 "led_right" ["tree", "party"] (spLed 7)) : Cl P w K mg base 19 "row_together" ["branches", "party"] spRowTog := by
  refine D.cl sc44 (fun _ _ _ _ _ _ us hl => match us, hl with | [_, _], _ => rfl) (fun vs H Q E h => ?_) (fun f cdv A outer s H vs Q E hr h => ?_)
  · obtain ⟨_, _, _, _, rfl, _⟩ := h; rfl
  obtain ⟨v, pv', bs, p, rfl, hv, hp, tb, h7, hne, q⟩ := h
  obtain ⟨b0, xs, rfl, hbr, hx⟩ := fz_tup.mp hv
  have hlen : xs.length = bs.length := by rw [hx.len, List.length_map]
  refine ⟨_, pss_cons (ps_set (i := 2) sc44.nd rfl (.inr rfl) (pe_lc (own := [("branch", 9)]) (g := gName 9) (tt := tYes) rfl sc44.nd (pi_tup (pv 0)) (blkOk_by (N := ["branches", "party", "shares", "places", "first", "last", "left", "right", "inner", "branch", "place"]) (sc := defScope (topS 44)) (by decide +kernel))
        (fun _ _ _ _ _ => pg_name (i := 9) sc44.nd rfl (Or.inl rfl)) (fun _ _ _ _ _ => pts_nil) (fun _ _ _ _ _ => pe_cl cS hr (by omega) rfl (pa_cons (pv 9) (pa_cons (pv 1) pa_nil)))))
    (pss_cons (ps_setLc (i := 3) (own := [("place", 10)]) (g := gName 10) (tt := tB (tOp rNe (tOp (rIxL K) (tVar 2) (tVar 10)) (tC (.str "none")))) (te := tVar 10) rfl sc44.nd rfl rfl (sw_true rfl rfl rfl rfl) (pi_range1 rfl B.range (pa_cons (pe_callB call_len_seq rfl B.len PySem.boot_len (pa_cons (pv 2) pa_nil)) pa_nil)) (blkOk_by (N := ["branches", "party", "shares", "places", "first", "last", "left", "right", "inner", "branch", "place"]) (sc := defScope (topS 44)) (by decide +kernel))
        (fun _ _ _ _ _ => pg_name (i := 10) sc44.nd rfl (Or.inl rfl)) (fun _ _ _ _ _ => pts_one (pt_cmpR op_ne (pe_ix ix_list (pv 2) (pv 10) (fun _ _ => rfl)) (pe_gs rfl B.NONE) (nomark _))) (fun _ _ _ _ _ => pv 10))
    (pss_cons (ps_par (i := 4) (j := 5) rfl sc44.nd rfl rfl (by decide) rfl rfl (pa_cons (pe_ix ix_list (pv 3) pe_int (fun _ _ => rfl)) (pa_cons (pe_ix ix_list (pv 3) (pe_un un_neg pe_int) (fun _ _ => rfl)) pa_nil)) rfl)
    (pss_cons (ps_if (PW.pt (pw_or (pt_cmpR op_ge (pe_op op_sub (pv 5) (pv 4)) (pe_callB call_len_seq rfl B.len PySem.boot_len (pa_cons (pv 3) pa_nil)) (nomark _)) (pw_or1 (pt_val (pe_callB (cr_any rfl) rfl B.any (by decide +kernel) (pa_cons
          (pe_lc (own := [("place", 10)]) (g := gName 10) (tt := tYes) (te := tOp rEq (tOp (rIxL K) (tVar 2) (tVar 10)) (tC (.str "some"))) rfl sc44.nd (pi_list (pe_slice sl_list (pv 3) (po_some pe_int) (po_some (pe_un un_neg pe_int)))) (blkOk_by (N := ["branches", "party", "shares", "places", "first", "last", "left", "right", "inner", "branch", "place"]) (sc := defScope (topS 44)) (by decide +kernel))
            (fun _ _ _ _ _ => pg_name (i := 10) sc44.nd rfl (Or.inl rfl)) (fun _ _ _ _ _ => pts_nil) (fun _ _ _ _ _ => pe_cmpR op_eq (pe_ix ix_list (pv 2) (pv 10) (fun _ _ => rfl)) (pe_gs rfl B.SOME) (nomark _))) pa_nil)))))) (pss_one (ps_ret pe_non)) pss_nil)
    (pss_cons (ps_set (i := 6) sc44.nd rfl (.inl rfl) (pe_cl cL hr (Nat.le_refl _) rfl (pa_cons (pe_ix ix_tup (pv 0) (pv 4) (fun _ _ => rfl)) (pa_cons (pv 1) pa_nil))))
    (pss_cons (ps_set (i := 7) sc44.nd rfl (.inl rfl) (pe_cl cL hr (Nat.le_refl _) rfl (pa_cons (pe_ix ix_tup (pv 0) (pv 5) (fun _ _ => rfl)) (pa_cons (pv 1) pa_nil))))
    (pss_cons (ps_if (PW.pt (pw_or (pt_cmpR op_isN (pv 6) pe_non (nomark _)) (pw_or1 (pt_cmpR op_isN (pv 7) pe_non (nomark _))))) (pss_one (ps_ret pe_non)) pss_nil)
    (pss_cons (ps_set (i := 8) sc44.nd rfl (.inl rfl) (pe_callTy call_list_of rfl B.list (by decide +kernel) (pa_cons (pe_slice sl_tupA (pv 0) (po_some (pe_op op_add (pv 4) pe_int)) (po_some (pv 5))) pa_nil)))
    (pss_one (ps_ret (pe_tup (pa_cons (pe_gs rfl B.ROW) (pa_cons (pe_op op_catA (pe_op op_catA (pe_slice sl_tupA (pv 0) po_none (po_some (pv 4))) (pe_callTy call_tupD rfl B.tuple (by decide +kernel) (pa_cons (pe_op op_cat (pe_op op_cat (pv 6) (pv 8)) (pe_revL (pv 7))) pa_nil)))
        (pe_slice sl_tupA (pv 0) (po_some (pe_op op_add (pv 5) pe_int)) po_none)) pa_nil)))))))))))), ?_⟩
  -- the shares
  refine ⟨_, rfl, b0, rfl, ⟨_, .inl hbr⟩, fun S nS => ?_⟩
  refine lc_fz1 (walk_tup (K := K) (a := b0) (xs := xs)) nS (fun H2 g2 => g2.sqT hbr) yat_same (fun _ => rfl) (fun i => (bs[i]?.map fun b => PyData.str (shS (sh p b))).getD .none) (by omega) (fun i z H2 H3 H4 hi g2 y' g3 Ky hk => ?_) (fun H1 g1 hS => ?_)
  · obtain ⟨rfl, hz⟩ := y'
    obtain ⟨t, hti, hzt⟩ := encs_at (hx.same (g2.trans g3)) hz
    refine ⟨_, rfl, _, rfl, z, pv', t, p, rfl, hzt, hp.same (g2.trans g3), tb t (List.mem_of_getElem? hti), fun H5 g5 => hk _ _ g5 ?_⟩
    rw [hti]; exact .str _
  rw [hlen, gvn_list] at hS
  obtain ⟨ys, eS, ky⟩ := hS
  have hyl : ys.length = bs.length := by rw [ky.len, List.length_map]
  have yat : ∀ (i : Nat) (b : PT), bs[i]? = some b → ys[i]? = some (.str (shS (sh p b))) := fun i b hb => by
    obtain ⟨y, hy, hf⟩ := ky.at (i := i) (d := .str (shS (sh p b))) (by rw [List.getElem?_map, hb]; rfl)
    rw [hy, fz_str.mp hf]
  -- the places
  refine ⟨_, rfl, S, ys, rfl, .inl (SqL.of eS), _, rfl, by omega, by omega, fun D nD => ?_⟩
  have en : ((ys.length : Nat) : Int).toNat = bs.length := by omega
  rw [en]
  refine lc_fz walk_range nD (fun _ _ => trivial) yfn_same (fun _ => rfl) (fun i => (bs[i]?.map fun b => !decide (sh p b = .no)).getD false) (fun i => .int (i : Nat)) (by omega) (fun i z H2 H3 hi g2 y' Kb hk => ?_) (fun i z H2 H3 H4 hi hf g2 y' g3 Ky hk => ?_) (fun H2 g2 hD => ?_)
  · obtain ⟨rfl, rfl⟩ := y'
    have hb : bs[i]? = some bs[i] := List.getElem?_eq_getElem hi
    have e0 : (0 : Int) + ((i : Nat) : Int) = (i : Int) := by omega
    refine ⟨_, rfl, _, rfl, S, ys, _, _, rfl, rfl, SqL.of (g2 _ _ eS), by rw [e0]; exact atI_nat (yat i _ hb), rfl, _, rfl, ?_⟩
    have : (!decide (V.str (shS (sh p bs[i])) = V.str "none")) = ((bs[i]?.map fun b => !decide (sh p b = .no)).getD false) := by
      rw [hb]
      show (!decide (V.str (shS (sh p bs[i])) = V.str (shS .no))) = _
      rw [shS_dec]; rfl
    rw [this]
    exact hk _ (Same.refl _)
  · obtain ⟨rfl, rfl⟩ := y'
    have e0 : (0 : Int) + ((i : Nat) : Int) = (i : Int) := by omega
    refine ⟨_, rfl, hk _ _ (Same.refl _) ?_⟩
    show Fz H4 (V.int (0 + ((i : Nat) : Int))) _
    rw [e0]; exact .int _
  rw [gvn_places p bs _ (Nat.le_refl _), List.take_length] at hD
  generalize hpl : PT.places p 0 bs = pl at hD hne
  have ePl : pl.map (fun i : Nat => PyData.int (i : Nat)) = (pl.map fun i : Nat => (i : Int)).map .int := by rw [List.map_map]; rfl
  rw [ePl, Ls.ints] at hD
  have hmem : ∀ k ∈ pl, ∃ b, bs[k]? = some b := fun k hk => by
    rw [← hpl] at hk
    obtain ⟨j, b, h1, h2, _⟩ := PT.places_mem.mp hk
    exact ⟨b, by rw [h2, Nat.zero_add]; exact h1⟩
  have hple : pl.length ≤ 7 := by rw [← hpl]; exact Nat.le_trans PT.places_le h7
  obtain ⟨f0, pr, epl⟩ : ∃ f0 pr, pl = f0 :: pr := by
    cases pl with
    | nil => exact absurd rfl hne
    | cons a b => exact ⟨a, b, rfl⟩
  obtain ⟨e0, he0⟩ : ∃ e0, pl.getLast? = some e0 := ⟨pl.getLast hne, List.getLast?_eq_some_getLast hne⟩
  have hf0 : pl.headD 0 = f0 := by rw [epl]; rfl
  have he1 : pl.getLastD 0 = e0 := by rw [List.getLastD_eq_getLast?, he0]; rfl
  have hfm : f0 ∈ pl := by rw [epl]; simp
  have hem : e0 ∈ pl := List.mem_of_getLast? he0
  obtain ⟨tf, htf⟩ := hmem f0 hfm
  obtain ⟨te, hte⟩ := hmem e0 hem
  have hfl := (List.getElem?_eq_some_iff.mp htf).1
  have hel := (List.getElem?_eq_some_iff.mp hte).1
  have mtf := tb tf (List.mem_of_getElem? htf)
  have mte := tb te (List.mem_of_getElem? hte)
  have g12 := g1.trans g2
  have rt : PT.rowTog p bs = if e0 - f0 ≥ pl.length ∨ (pl.tail.dropLast.any fun i => decide (sh p (bs.getD i PT.dft) = .so)) = true then none
      else (PT.led p tf).bind fun L => (PT.led p te).map fun R => .node true (bs.take f0 ++ (L ++ (bs.drop (f0 + 1)).take (e0 - (f0 + 1)) ++ R.reverse) ++ bs.drop (e0 + 1)) := by
    unfold PT.rowTog
    simp only [hpl, hf0, he1]
    rw [show bs.getD f0 PT.dft = tf by rw [List.getD_eq_getElem?_getD, htf]; rfl, show bs.getD e0 PT.dft = te by rw [List.getD_eq_getElem?_getD, hte]; rfl]
  have at0 : ((pl.map fun i : Nat => (i : Int)).map V.int)[0]? = some (.int (f0 : Nat)) := by rw [epl]; rfl
  have atE : ((pl.map fun i : Nat => (i : Int)).map V.int).getLast? = some (.int (e0 : Nat)) := by rw [List.getLast?_map, List.getLast?_map, he0]; rfl
  have hDl : ((pl.map fun i : Nat => (i : Int)).map V.int).length = pl.length := by rw [List.length_map, List.length_map]
  have hpos : 1 ≤ pl.length := by rw [epl]; simp
  refine ⟨_, rfl, D, _, _, _, rfl, rfl, SqL.of hD, atI_nat (j := 0) at0, _, rfl, 1, rfl, D, _, _, _, rfl, rfl, SqL.of hD, at_neg1 atE, _, _, rfl, ?_⟩
  refine ⟨_, rfl, _, rfl, _, _, rfl, rfl, _, rfl, D, _, rfl, .inl (SqL.of hD), _, _, rfl, rfl, _, rfl, ?_⟩
  rw [hDl]
  by_cases hc1 : e0 - f0 ≥ pl.length
  · rw [decide_eq_true (by omega)]
    refine iteT (q _ _ g12 ?_)
    rw [rt, if_pos (.inl hc1)]; rfl
  rw [decide_eq_false (by omega)]
  refine iteF ?_
  refine ⟨_, rfl, 1, rfl, 1, rfl, -1, rfl, D, _, rfl, SqL.of hD, fun W nW => ?_⟩
  rw [cut_in _ (by rw [hDl]; exact hpos)]
  have eW : ((pl.map fun i : Nat => (i : Int)).map V.int).tail.dropLast = pl.tail.dropLast.map fun i : Nat => V.int (i : Nat) := by
    rw [List.map_map, ← List.map_tail, ← List.map_dropLast]; rfl
  rw [eW]
  have gW : Same H2 (upd H2 W (.lst (pl.tail.dropLast.map fun i : Nat => V.int (i : Nat)))) := same_new nW
  have hWl : (pl.tail.dropLast.map fun i : Nat => V.int (i : Nat)).length = pl.tail.dropLast.length := List.length_map _
  refine ⟨W, rfl, ⟨_, SqL.of upd_same⟩, fun F nF => ?_⟩
  refine lc_fz1 (walk_list (K := K) (a := W) (xs := pl.tail.dropLast.map fun i : Nat => V.int (i : Nat))) nF (fun H3 g3 => g3.sqL (SqL.of upd_same)) yat_same (fun _ => rfl) (fun i => (pl.tail.dropLast[i]?.map fun k => PyData.bool (decide (sh p (bs.getD k PT.dft) = .so))).getD .none)
    (by rw [hWl, List.length_dropLast, List.length_tail]; omega) (fun i z H3 H4 H5 hi g3 y' g4 Ky hk => ?_) (fun H3 g3 hF => ?_)
  · obtain ⟨rfl, hz⟩ := y'
    rw [List.getElem?_map] at hz
    obtain ⟨k, hki, rfl⟩ := Option.map_eq_some_iff.mp hz
    have hkm : k ∈ pl := List.mem_of_mem_tail (List.dropLast_subset _ (List.mem_of_getElem? hki))
    obtain ⟨bk, hbk⟩ := hmem k hkm
    refine ⟨_, rfl, _, rfl, S, ys, _, _, rfl, rfl, SqL.of (g4 _ _ (g3 _ _ (gW _ _ (g2 _ _ eS)))), atI_nat (yat k _ hbk), rfl, hk _ _ (Same.refl _) ?_⟩
    rw [hki]
    have : decide (V.str (shS (sh p bk)) = V.str "some") = decide (sh p (bs.getD k PT.dft) = .so) := by
      rw [show bs.getD k PT.dft = bk by rw [List.getD_eq_getElem?_getD, hbk]; rfl]
      exact shS_dec _ .so
    rw [this]
    exact .bl _
  rw [hWl, gvn_list] at hF
  have eF : pl.tail.dropLast.map (fun k => PyData.bool (decide (sh p (bs.getD k PT.dft) = .so))) = (pl.tail.dropLast.map fun k => decide (sh p (bs.getD k PT.dft) = .so)).map .bool := by rw [List.map_map]; rfl
  rw [eF] at hF
  refine ⟨F, _, rfl, SqL.of hF.bools, _, rfl, ?_⟩
  have eA : (pl.tail.dropLast.map fun k => decide (sh p (bs.getD k PT.dft) = .so)).any id = pl.tail.dropLast.any fun i => decide (sh p (bs.getD i PT.dft) = .so) := by rw [List.any_map]; rfl
  rw [eA]
  have g13 := g12.trans (gW.trans g3)
  by_cases hc2 : (pl.tail.dropLast.any fun i => decide (sh p (bs.getD i PT.dft) = .so)) = true
  · rw [hc2]
    refine iteT (q _ _ g13 ?_)
    rw [rt, if_pos (.inr hc2)]; rfl
  have hc2f : (pl.tail.dropLast.any fun i => decide (sh p (bs.getD i PT.dft) = .so)) = false := by simpa using hc2
  rw [hc2f]
  refine iteF ?_
  rw [if_neg (fun z => z.elim hc1 hc2)] at rt
  obtain ⟨xf, hxf, kxf⟩ := hx.at (i := f0) (d := tf.enc) (by rw [List.getElem?_map, htf]; rfl)
  obtain ⟨xe, hxe, kxe⟩ := hx.at (i := e0) (d := te.enc) (by rw [List.getElem?_map, hte]; rfl)
  refine ⟨_, rfl, _, rfl, b0, xs, _, _, rfl, rfl, g13.sqT hbr, atI_nat hxf, _, rfl, xf, pv', tf, p, rfl, kxf.same g13, hp.same g13, mtf, mtf.dp, fun u H4 g4 hu _ => ?_⟩
  have g14 := g13.trans g4
  refine ⟨_, rfl, _, rfl, b0, xs, _, _, rfl, rfl, g14.sqT hbr, atI_nat hxe, _, rfl, xe, pv', te, p, rfl, kxe.same g14, hp.same g14, mte, mte.dp, fun u' H5 g5 hu' _ => ?_⟩
  have g15 := g14.trans g5
  have hu5 := hu.same g5
  refine ⟨_, rfl, rfl, _, rfl, ?_⟩
  cases hlf : PT.led p tf with
  | none =>
    rw [hlf] at hu5 rt
    have : u = .non := hu5
    subst this
    refine iteT (q _ _ g15 ?_)
    rw [rt]; rfl
  | some L =>
    rw [hlf] at hu5 rt
    obtain ⟨LL, rfl, hLL⟩ := hu5
    refine iteF ⟨_, rfl, rfl, _, rfl, ?_⟩
    cases hle : PT.led p te with
    | none =>
      rw [hle] at hu' rt
      have : u' = .non := hu'
      subst this
      refine iteT (q _ _ g15 ?_)
      rw [rt]; rfl
    | some R =>
      rw [hle] at hu' rt
      obtain ⟨RR, rfl, hRR⟩ := hu'
      have lL := led_le mtf hlf
      have lR := led_le mte hle
      refine iteF ⟨_, rfl, _, rfl, _, _, rfl, rfl, ((f0 + 1 : Nat) : Int), rfl, _, rfl, ((e0 : Nat) : Int), rfl, ?_⟩
      have hv5 := hv.same g15
      refine sl_mid_fz (n := f0 + 1) (m := e0) hv5 (by rw [List.length_map]; omega) (by rw [List.length_map]; omega) fun v1 H6 g6 hv1 => ?_
      obtain ⟨ia, ix, rfl, hia, hix⟩ := fz_tup.mp hv1
      refine ⟨ia, ix, rfl, .inr (.inl hia), fun I nI => ?_⟩
      have gI := same_new (o := .lst ix) nI
      have hI : Ls (upd H6 I (.lst ix)) I ((((bs.drop (f0 + 1)).take (e0 - (f0 + 1)))).map PT.enc) := ⟨ix, upd_same, by rw [List.map_take, List.map_drop]; exact hix.same gI⟩
      have g17 := g15.trans (g6.trans gI)
      refine ⟨_, rfl, _, rfl, ((f0 : Nat) : Int), rfl, ?_⟩
      refine sl_to_fz (k := f0) (hv.same g17) fun v2 H8 g8 hv2 => ?_
      have g18 := g17.trans g8
      refine ⟨_, rfl, _, rfl, ?_⟩
      refine cat_ls ((hLL.same (g6.trans gI)).same g8) (hI.same g8) (by rw [List.length_map, List.length_map, List.length_take, List.length_drop]; omega) fun c1 n1 H9 g9 k9 => ?_
      obtain ⟨rs, er, kr⟩ := ((hRR.same (g6.trans gI)).same g8).same g9
      refine ⟨_, rfl, RR, rs, rfl, SqL.of er, fun rv nr => ?_⟩
      have gr := same_new (o := .lst rs.reverse) nr
      have hrv : Ls (upd H9 rv (.lst rs.reverse)) rv (R.reverse.map PT.enc) := ⟨_, upd_same, by have := (kr.same gr).rev; rwa [← List.map_reverse] at this⟩
      refine cat_ls (k9.same gr) hrv (by rw [List.length_append, List.length_map, List.length_map, List.length_map, List.length_take, List.length_drop, List.length_reverse]; omega) fun c2 n2 H10 g10 k10 => ?_
      obtain ⟨zs, ez, kz⟩ := k10
      refine ⟨c2, zs, rfl, SqL.of ez, fun l o nl hdo => ?_⟩
      have gl := same_new (o := .frz o (.tup zs)) nl
      have hl : Fz (upd H10 l (.frz o (.tup zs))) (.ref l) (dt (L ++ (bs.drop (f0 + 1)).take (e0 - (f0 + 1)) ++ R.reverse)) := by
        refine .tup (.inr ⟨o, upd_same⟩) ?_
        rw [List.map_append, List.map_append]
        exact kz.same gl
      have g811 := ((g9.trans gr).trans g10).trans gl
      have hv2' : Fz (upd H10 l (.frz o (.tup zs))) v2 (dt (bs.take f0)) := by
        have := hv2.same g811
        unfold dt
        rw [List.map_take]; exact this
      refine cat_fz hv2' hl (by simp; omega) fun v3 H12 g12' hv3 => ?_
      refine ⟨_, rfl, _, rfl, _, _, rfl, rfl, ((e0 + 1 : Nat) : Int), rfl, ?_⟩
      delta tNoPart
      have g118 := g18.trans (g811.trans g12')
      refine sl_from_fz (k := e0 + 1) (hv.same g118) fun v4 H13 g13' hv4 => ?_
      refine cat_fz (hv3.same g13') hv4 (by simp; omega) fun v5 H14 g14' hv5' => ?_
      refine ⟨(by show 2 ≤ sizeLine; decide), fun T nT => ?_⟩
      have gT := same_new (o := .tup [.str (kS true), v5]) nT
      refine q _ _ (((g118.trans g13').trans g14').trans gT) ?_
      rw [rt]
      show Tr _ _ _
      obtain ⟨ba, bx, rfl, hba, hbx⟩ := fz_tup.mp hv5'
      refine tr_node.mpr ⟨T, ba, bx, rfl, .inl upd_same, gT.rd hba, ?_⟩
      have : (bs.take f0 ++ (L ++ (bs.drop (f0 + 1)).take (e0 - (f0 + 1)) ++ R.reverse) ++ bs.drop (e0 + 1)).map PT.enc = (bs.take f0).map PT.enc ++ (L ++ (bs.drop (f0 + 1)).take (e0 - (f0 + 1)) ++ R.reverse).map PT.enc ++ (bs.map PT.enc).drop (e0 + 1) := by
        rw [List.map_append, List.map_append, List.map_drop]
      rw [this]
      exact hbx.same gT
end
end ST
namespace ST
open PySem PySem.Spec PyProof.Rows L2
open PT (Sh sh part)
open Classical
theorem OptT.same {H H' : Hp} {u : V} {o : Option PT} (g : Same H H') (h : OptT H u o) : OptT H' u o := by
  cases o with
  | none => exact h
  | some t => exact Tr.same g h
section
variable {P : Program} {w : World} {K : PySem.W.Frag} {mg : Str → Option Value} {base : Heap}
theorem sc45 : FnScope ["tree", "party", "none", "some", "full", "inner", "branch"] ["tree", "party"] (defScope (topS 45)) := ⟨rfl, rfl, rfl, by decide +kernel, rfl, by decide +kernel, by decide +kernel⟩
def spTog (d : Nat) : Sp := fun vs H Q _ => ∃ (v pv : V) (t : PT) (p : List Int), vs = [v, pv] ∧ Tr H v t ∧ Ro H pv p ∧ Tg t ∧ t.dp < d ∧ sh p t ≠ .no ∧ ∀ u H', Same H H' → OptT H' u (PT.tog p t) → Q u H'
theorem some_place {p : List Int} {r : Bool} {bs : List PT} (tg : Tg (.node r bs)) (h : sh p (.node r bs) ≠ .no) : PT.places p 0 bs ≠ [] := by
  intro e
  refine h (PT.sh_all_no tg.wf.br (by intro z; have := tg.wf.two; rw [z] at this; simp at this) fun b hb => ?_)
  by_cases hs : sh p b = .no
  · exact hs
  · obtain ⟨j, hj⟩ := List.mem_iff_getElem?.mp hb
    have : j ∈ PT.places p 0 bs := PT.places_mem.mpr ⟨j, b, hj, by omega, hs⟩
    rw [e] at this; cases this
theorem cl_tog (D : Dfn K mg 45 "together") (B : Bt mg) (cS : Cl P w K mg base 9 "share_of" ["tree", "party"] spShare) (cP : Cl P w K mg base 10 "parted" ["branches", "party"] spParted) (cA : Cl P w K mg base 19 "any_together" ["none", "some", "full", "party"] spAnyTog) (cR : Cl P w K mg base 19 "row_together" ["branches", "party"] spRowTog) : ∀ d, Cl P w K mg base (d + 20) "together" ["tree", "party"] (spTog d)
  | 0 => D.void (fun _ _ _ _ _ _ us hl => match us, hl with | [_, _], _ => rfl) fun vs H Q E ⟨_, _, _, _, _, _, _, _, h, _⟩ => absurd h (Nat.not_lt_zero _)
  | d + 1 => by
    have cT := cl_tog D B cS cP cA cR d
    refine D.cl sc45 (fun _ _ _ _ _ _ us hl => match us, hl with | [_, _], _ => rfl) (fun vs H Q E h => ?_) (fun f cdv A outer s H vs Q E hr h => ?_)
    · obtain ⟨_, _, _, _, rfl, _⟩ := h; rfl
    obtain ⟨v, pv', t, p, rfl, ht, hp, tg, hd, hno, q⟩ := h
    refine ⟨_, pss_cons (ps_if (pt_cmpR op_eq (pe_cl cS hr (by omega) rfl (pa_cons (pv 0) (pa_cons (pv 1) pa_nil))) (pe_gs rfl B.ALL) (nomark _)) (pss_one (ps_ret (pv 0))) pss_nil)
      (pss_cons (ps_asg (pe_cl cP hr (by omega) rfl (pa_cons (pe_ix ix_tup (pv 0) pe_int (fun _ _ => rfl)) (pa_cons (pv 1) pa_nil))) (pg_tup rfl (pgs_cons (pg_name (i := 2) sc45.nd rfl (.inl rfl)) (pgs_cons (pg_name (i := 3) sc45.nd rfl (.inr rfl)) (pgs_cons (pg_name (i := 4) sc45.nd rfl (.inl rfl)) pgs_nil)))))
      (pss_cons (ps_if (pt_cmpR op_eq (pe_op op_add (pe_callB call_len_seq rfl B.len PySem.boot_len (pa_cons (pv 3) pa_nil)) (pe_callB call_len_seq rfl B.len PySem.boot_len (pa_cons (pv 4) pa_nil))) pe_int (nomark _))
        (pss_cons (ps_if (pt_cmpR (op_eqD hr.units) (pv 3) (pe_lst pa_nil) (nomark _)) (pss_one (ps_ret (pv 0))) pss_nil)
        (pss_cons (ps_set (i := 5) sc45.nd rfl (.inr rfl) (pe_cl cT hr (Nat.le_refl _) rfl (pa_cons (pe_ix ix_list (pv 3) pe_int (fun _ _ => rfl)) (pa_cons (pv 1) pa_nil))))
        (pss_cons (ps_if (pt_cmpR op_isN (pv 5) pe_non (nomark _)) (pss_one (ps_ret pe_non)) pss_nil)
        (pss_one (ps_ret (pe_tup (pa_cons (pe_ix ix_tup (pv 0) pe_int (fun _ _ => rfl)) (pa_cons (pe_callTy call_tupD rfl B.tuple (by decide +kernel) (pa_cons
          (pe_lc (own := [("branch", 6)]) (g := gName 6) (tt := tYes) (te := tIf (tB (tOp (rEqD K) (tVar 6) (tOp (rIxL K) (tVar 3) (tC (.int 0))))) (tVar 5) (tVar 6)) rfl sc45.nd (pi_tup (pe_ix ix_tup (pv 0) pe_int (fun _ _ => rfl))) (blkOk_by (N := ["tree", "party", "none", "some", "full", "inner", "branch"]) (sc := defScope (topS 45)) (by decide +kernel))
            (fun _ _ _ _ _ => pg_name (i := 6) sc45.nd rfl (Or.inl rfl)) (fun _ _ _ _ _ => pts_nil) (fun _ _ _ _ _ => pe_ifExp (pt_cmpR (op_eqD hr.units) (pv 6) (pe_ix ix_list (pv 3) pe_int (fun _ _ => rfl)) (nomark _)) (pv 5) (pv 6))) pa_nil)) pa_nil)))))))) pss_nil)
      (pss_cons (ps_if (pt_cmpR op_eq (pe_ix ix_tup (pv 0) pe_int (fun _ _ => rfl)) (pe_gs rfl B.ANY) (nomark _)) (pss_one (ps_ret (pe_cl cA hr (by omega) rfl (pa_cons (pv 2) (pa_cons (pv 3) (pa_cons (pv 4) (pa_cons (pv 1) pa_nil))))))) pss_nil)
      (pss_one (ps_ret (pe_cl cR hr (by omega) rfl (pa_cons (pe_ix ix_tup (pv 0) pe_int (fun _ _ => rfl)) (pa_cons (pv 1) pa_nil)))))))), ?_⟩
    refine ⟨_, rfl, _, rfl, v, pv', t, p, rfl, ht, hp, tg, fun H1 g1 => ?_⟩
    refine ⟨rfl, _, rfl, ?_⟩
    have hc : decide (V.str (shS (sh p t)) = V.str "all") = decide (sh p t = .al) := shS_dec (sh p t) .al
    rw [hc]
    by_cases hal : sh p t = .al
    · rw [decide_eq_true hal]
      refine iteT ⟨_, rfl, q _ _ g1 ?_⟩
      rw [PT.tog_al hal]
      exact ht.same g1
    rw [decide_eq_false hal]
    refine iteF ?_
    cases t with
    | leaf g =>
      exfalso
      have w : PT.gs (.leaf g) ≠ [] := by simp
      have h1 := PT.leaf_so (p := p) (g := g)
      cases hs : sh p (.leaf g) with
      | no => exact hno hs
      | so => exact h1 hs
      | al => exact hal hs
    | node r bs =>
      obtain ⟨a, b, rfl, ha, hb⟩ := tr_kids.mp ht
      have tb := tg.br
      have hb7 := tg.len
      refine ⟨_, rfl, a, _, _, _, rfl, rfl, .inl (g1.rd ha), rfl, _, rfl, _, pv', bs, p, rfl, hb.same g1, hp.same g1, tb, hb7, fun u H2 g2 hT => ?_⟩
      obtain ⟨T, nn, ss, ff, rfl, hT, hn, hs, hf⟩ := hT
      refine ⟨T, _, rfl, SqT.of hT, rfl, _, _, rfl, _, _, rfl, _, _, rfl, rfl, ?_⟩
      have g12 := g1.trans g2
      obtain ⟨xs, es, kx⟩ := id hs
      obtain ⟨zs, ef, kz⟩ := id hf
      have hxl : xs.length = (part .so p bs).length := by rw [kx.len, List.length_map]
      have hzl : zs.length = (part .al p bs).length := by rw [kz.len, List.length_map]
      have tp : ∀ s : Sh, ∀ b ∈ part s p bs, Tg b := fun s b hb => tb b (PT.part_sub hb)
      have pl : ∀ s : Sh, (part s p bs).length ≤ 7 := fun s => Nat.le_trans part_le hb7
      refine ⟨_, rfl, ss, xs, rfl, .inl (SqL.of es), _, rfl, ff, zs, rfl, .inl (SqL.of ef), _, _, rfl, rfl, rfl, _, rfl, ?_⟩
      have hdec : decide (V.int ((xs.length : Int) + (zs.length : Int)) = V.int 1) = decide ((part .so p bs).length + (part .al p bs).length = 1) := by
        rw [dec_int, hxl, hzl]
        by_cases h : (part .so p bs).length + (part .al p bs).length = 1
        · rw [decide_eq_true h]; exact beq_iff_eq.mpr (by omega)
        · rw [decide_eq_false h]; exact beq_eq_false_iff_ne.mpr (by omega)
      rw [hdec]
      by_cases h1 : (part .so p bs).length + (part .al p bs).length = 1
      · rw [decide_eq_true h1]
        refine iteT ⟨_, rfl, Nat.zero_le _, fun e ne => ?_⟩
        have ge := same_new (o := .lst []) ne
        refine eq_ls (K := K) (as := part .so p bs) (bs := []) (hs.same ge) lsEmp (tg20 (tp .so)) (fun _ h => by cases h) ⟨_, rfl, ?_⟩
        rcases PT.short (l := part .so p bs) (by omega) with h0 | ⟨s0, h0⟩
        · rw [decide_eq_true h0]
          refine iteT ⟨_, rfl, q _ _ (g12.trans ge) ?_⟩
          rw [PT.tog_one_al hal h1 h0]
          exact ht.same (g12.trans ge)
        rw [decide_eq_false (by rw [h0]; simp)]
        refine iteF ?_
        have hs0 : (part .so p bs)[0]? = some s0 := by rw [h0]; rfl
        obtain ⟨x0, hx0, hf0⟩ := kx.at (i := 0) (d := s0.enc) (by rw [List.getElem?_map, hs0]; rfl)
        have hm0 : s0 ∈ bs := PT.part_sub (s := .so) (p := p) (by rw [h0]; simp)
        have hsh0 : sh p s0 = .so := (PT.mem_part.mp (show s0 ∈ part .so p bs by rw [h0]; simp)).2
        have g13 := g12.trans ge
        refine ⟨_, rfl, ss, _, _, _, rfl, rfl, SqL.of (ge _ _ es), atI_nat (j := 0) hx0, _, rfl, x0, pv', s0, p, rfl, Fz.same ge hf0, hp.same g13, tb s0 hm0, by have := PT.dp_br (r := r) hm0; omega, (by rw [hsh0]; intro z; cases z), fun u H4 g4 hu => ?_⟩
        have g14 := g13.trans g4
        have hone := PT.tog_one_so hal h1 h0
        refine ⟨_, rfl, rfl, _, rfl, ?_⟩
        cases hl : PT.tog p s0 with
        | none =>
          rw [hl] at hu hone
          have : u = .non := hu
          subst this
          refine iteT (q _ _ g14 ?_)
          rw [hone]; rfl
        | some i0 =>
          rw [hl] at hu hone
          have hu : Tr H4 u i0 := hu
          have hun : V.non ≠ u := by
            intro e; subst e
            cases i0 with
            | leaf g => have := tr_leaf.mp hu; cases this
            | node r' bs' => obtain ⟨_, _, _, e, _⟩ := tr_node.mp hu; cases e
          rw [decide_eq_false fun e => hun e.symm]
          refine iteF ?_
          obtain ⟨_, bx, e', hbr, hbx⟩ := fz_tup.mp hb
          cases e'
          have hbl : bx.length = bs.length := by rw [hbx.len, List.length_map]
          refine ⟨_, rfl, a, _, _, _, rfl, rfl, .inl (g14.rd ha), rfl, _, rfl, a, _, _, _, rfl, rfl, .inl (g14.rd ha), rfl, b, rfl, ⟨_, g14.sqT hbr⟩, fun D nD => ?_⟩
          refine lc_fz1 (walk_tup (K := K) (a := b) (xs := bx)) nD (fun H5 g5 => (g14.trans g5).sqT hbr) yat_same (fun _ => rfl) (fun i => (bs[i]?.map fun c => PT.enc (if c = s0 then i0 else c)).getD .none) (by omega) (fun i z H5 H6 H7 hi g5 y' g6 Ky hk => ?_) (fun H5 g5 hL => ?_)
          · obtain ⟨rfl, hz⟩ := y'
            have g56 := g5.trans g6
            obtain ⟨c, hci, hzc⟩ := encs_at (hbx.same (g14.trans g56)) hz
            have hcm := List.mem_of_getElem? hci
            have dc := (tb c hcm).dp
            have d0 := (tb s0 hm0).dp
            refine ⟨_, rfl, _, rfl, ss, xs, _, _, rfl, rfl, SqL.of ((ge.trans (g4.trans g56)) _ _ es), atI_nat (j := 0) hx0, c.enc, s0.enc, Fz.dp K _ _ hzc, Fz.dp K _ _ (Fz.same (ge.trans (g4.trans g56)) hf0), PT.shaped_enc (by omega), PT.shaped_enc (by omega), _, rfl, ?_⟩
            rw [PT.eqv_enc]
            have hgoal : ∀ y, Fz H7 y (PT.enc (if c = s0 then i0 else c)) → Ky y H7 := fun y hy => hk _ _ (Same.refl _) (by rw [hci]; exact hy)
            by_cases hcs : c = s0
            · rw [decide_eq_true hcs]
              refine iteT ⟨_, rfl, hgoal _ ?_⟩
              rw [if_pos hcs]
              exact hu.same g56
            · rw [decide_eq_false hcs]
              refine iteF ⟨_, rfl, hgoal _ ?_⟩
              rw [if_neg hcs]
              exact hzc
          rw [hbl, gvn_list] at hL
          have eM : bs.map (fun c => PT.enc (if c = s0 then i0 else c)) = (bs.map fun c => if c = s0 then i0 else c).map PT.enc := by rw [List.map_map]; rfl
          rw [eM] at hL
          obtain ⟨ws, eD, hws⟩ := hL
          refine ⟨D, ws, rfl, SqL.of eD, fun l o nl hdo => ?_⟩
          have gl := same_new (o := .frz o (.tup ws)) nl
          refine ⟨(by show 2 ≤ sizeLine; decide), fun t1 n1 => ?_⟩
          have gt := same_new (o := .tup [.str (kS r), .ref l]) n1
          refine q _ _ (((g14.trans g5).trans gl).trans gt) ?_
          rw [hone]
          exact tr_mk upd_same (gt _ _ upd_same) ((hws.same gl).same gt)
      · rw [decide_eq_false h1]
        refine iteF ?_
        refine ⟨_, rfl, a, _, _, _, rfl, rfl, .inl (g12.rd ha), rfl, rfl, _, rfl, ?_⟩
        rw [kS_any]
        cases r with
        | false =>
          refine iteT ⟨_, rfl, _, rfl, _, rfl, _, rfl, nn, ss, ff, pv', part .no p bs, part .so p bs, part .al p bs, p, rfl, hn, hs, hf, hp.same g12, tp .no, tp .so, tp .al, pl .no, pl .so, pl .al, fun u H3 g3 hu => q u H3 (g12.trans g3) ?_⟩
          rw [PT.tog_any hal h1]; exact hu
        | true =>
          refine iteF ⟨_, rfl, a, _, _, _, rfl, rfl, .inl (g12.rd ha), rfl, _, rfl, _, pv', bs, p, rfl, hb.same g12, hp.same g12, tb, hb7, some_place tg hno, fun u H3 g3 hu => q u H3 (g12.trans g3) ?_⟩
          rw [PT.tog_row hal h1]; exact hu
/-! ### tightened -/
theorem sc46 : FnScope ["n", "tree", "party", "found"] ["n", "tree", "party"] (defScope (topS 46)) := ⟨rfl, rfl, rfl, by decide +kernel, rfl, by decide +kernel, by decide +kernel⟩
def spTight : Sp := fun vs H Q _ => ∃ (n : Nat) (v pv : V) (t : PT) (p : List Int), vs = [.int (n : Int), v, pv] ∧ Tr H v t ∧ Ro H pv p ∧ GoodN n t ∧ PT.POk (Rg n) p ∧ ∀ u H', Same H H' → OptT H' u (PT.tight p t) → Q u H'
theorem GoodN.tg {n : Nat} {t : PT} (h : GoodN n t) : Tg t := ⟨h.2.2.wf, by rw [h.len]; exact h.2.1⟩
theorem tog_good {n : Nat} {t : PT} {p : List Int} (h : GoodN n t) (hp : PT.POk (Rg n) p) {T : PT} (e : PT.tog p t = some T) : GoodN n T := by
  have hs := PT.good_sh h.2.2 hp
  obtain ⟨l, hl⟩ := PT.fr_some T
  have h1 := (PT.spec_tog t h.2.2.wf hs l).mpr ⟨T, e, hl⟩
  exact ⟨h.1, h.2.1, ⟨PT.wf_tog t h.2.2.wf hs T e, ((PT.fr_perm hl).symm.trans (PT.fr_perm h1.1)).trans h.2.2.q⟩⟩
theorem cl_tight (D : Dfn K mg 46 "tightened") (B : Bt mg) (cN : Cl P w K mg base 2 "need_guests" ["n"] spNeedG) (cT : Cl P w K mg base 27 "together" ["tree", "party"] (spTog 7)) (cL : Cl P w K mg base 8 "least_of" ["tree"] (spLeast 7)) : Cl P w K mg base 28 "tightened" ["n", "tree", "party"] spTight := by
  refine D.cl sc46 (fun _ _ _ _ _ _ us hl => match us, hl with | [_, _, _], _ => rfl) (fun vs H Q E h => ?_) (fun f cdv A outer s H vs Q E hr h => ?_)
  · obtain ⟨_, _, _, _, _, rfl, _⟩ := h; rfl
  obtain ⟨n, v, pv', t, p, rfl, ht, hp, hg, hok, q⟩ := h
  refine ⟨_, pss_cons (ps_expr (pe_cl cN hr (by omega) rfl (pa_cons (pv 0) pa_nil)))
    (pss_cons (ps_set (i := 3) sc46.nd rfl (.inl rfl) (pe_cl cT hr (Nat.le_refl _) rfl (pa_cons (pv 1) (pa_cons (pv 2) pa_nil))))
    (pss_cons (ps_if (pt_cmpR op_isN (pv 3) pe_non (nomark _)) (pss_one (ps_ret pe_non)) pss_nil)
    (pss_one (ps_ret (pe_ix ix_tup (pe_cl cL hr (by omega) rfl (pa_cons (pv 3) pa_nil)) pe_int (fun _ _ => rfl)))))), ?_⟩
  refine ⟨_, rfl, n, rfl, by have := hg.1; omega, by have := hg.2.1; omega, ?_⟩
  refine ⟨_, rfl, _, rfl, v, pv', t, p, rfl, ht, hp, hg.tg, hg.dp, PT.good_sh hg.2.2 hok, fun u H1 g1 hu => ?_⟩
  refine ⟨_, rfl, rfl, _, rfl, ?_⟩
  unfold PT.tight at q
  cases hT : PT.tog p t with
  | none =>
    rw [hT] at hu q
    have : u = .non := hu
    subst this
    exact iteT (q _ _ g1 rfl)
  | some T =>
    rw [hT] at hu q
    have hu : Tr H1 u T := hu
    have hun : u ≠ V.non := by
      intro e; subst e
      cases T with
      | leaf g => have := tr_leaf.mp hu; cases this
      | node r' bs' => obtain ⟨_, _, _, e, _⟩ := tr_node.mp hu; cases e
    rw [decide_eq_false hun]
    have gT := tog_good hg hok hT
    refine iteF ⟨_, rfl, u, T, rfl, hu, gT.dp, gT.2.2.wf, gT.nd, by rw [gT.len]; have := gT.2.1; omega, fun u' H2 g2 hf => ?_⟩
    obtain ⟨a, y, rfl, ha, hy⟩ := fz_pr.mp hf
    exact ⟨a, _, _, _, rfl, rfl, .inl ha, rfl, q _ _ (g1.trans g2) hy⟩
theorem sc47 : FnScope ["n", "tree", "party"] ["n", "tree", "party"] (defScope (topS 47)) := ⟨rfl, rfl, rfl, by decide +kernel, rfl, by decide +kernel, by decide +kernel⟩
def spHolds : Sp := fun vs H Q _ => ∃ (n : Nat) (v pv : V) (t : PT) (p : List Int), vs = [.int (n : Int), v, pv] ∧ Tr H v t ∧ Ro H pv p ∧ GoodN n t ∧ PT.POk (Rg n) p ∧ ∀ H', Same H H' → Q (.bl (decide (PT.tight p t = some (PT.least t).2))) H'
def dT : Option PT → PyData
  | none => .none
  | some t => t.enc
theorem OptT.dp {K : PySem.W.Frag} {H : Hp} {u : V} {o : Option PT} (h : OptT H u o) : Dp K H u (dT o) := by
  cases o with
  | none => have : u = .non := h; subst this; exact .non
  | some t => exact Fz.dp K _ _ h
theorem shaped_dT {o : Option PT} (h : ∀ t, o = some t → t.dp ≤ 30) : SeqAt.shaped (dT o) = true := by
  cases o with
  | none => rfl
  | some t => exact PT.shaped_enc (h t rfl)
theorem eqv_dT (o : Option PT) (t : PT) : PyData.eqv (dT o) t.enc = decide (o = some t) := by
  cases o with
  | none =>
    rw [decide_eq_false (by intro e; cases e)]
    cases t with
    | leaf g => rw [PT.enc_leaf]; simp only [dT, PyData.eqv]
    | node r bs => rw [PT.enc_node]; simp only [dT, PyData.eqv]
  | some u =>
    show PyData.eqv u.enc t.enc = _
    rw [PT.eqv_enc]
    by_cases h : u = t
    · subst h; simp
    · rw [decide_eq_false h, decide_eq_false (by intro e; cases e; exact h rfl)]
theorem tight_goodN {n : Nat} {t : PT} {p : List Int} (h : GoodN n t) (hp : PT.POk (Rg n) p) {T : PT} (e : PT.tight p t = some T) : GoodN n T :=
  ⟨h.1, h.2.1, (PT.tight_good h.2.2 hp (rg_nd n) e).1⟩
theorem least_goodN {n : Nat} {t : PT} (h : GoodN n t) : GoodN n (PT.least t).2 := ⟨h.1, h.2.1, ⟨PT.least_wf h.2.2.wf, (PT.least_gs t).trans h.2.2.q⟩⟩
theorem cl_holds (D : Dfn K mg 47 "holds_in") (B : Bt mg) (cT : Cl P w K mg base 28 "tightened" ["n", "tree", "party"] spTight) (cL : Cl P w K mg base 8 "least_of" ["tree"] (spLeast 7)) : Cl P w K mg base 29 "holds_in" ["n", "tree", "party"] spHolds := by
  refine D.cl sc47 (fun _ _ _ _ _ _ us hl => match us, hl with | [_, _, _], _ => rfl) (fun vs H Q E h => ?_) (fun f cdv A outer s H vs Q E hr h => ?_)
  · obtain ⟨_, _, _, _, _, rfl, _⟩ := h; rfl
  obtain ⟨n, v, pv', t, p, rfl, ht, hp, hg, hok, q⟩ := h
  refine ⟨_, pss_one (ps_ret (pe_cmpR (op_eqD hr.units) (pe_cl cT hr (Nat.le_refl _) rfl (pa_cons (pv 0) (pa_cons (pv 1) (pa_cons (pv 2) pa_nil)))) (pe_ix ix_tup (pe_cl cL hr (by omega) rfl (pa_cons (pv 1) pa_nil)) pe_int (fun _ _ => rfl)) (nomark _))), ?_⟩
  refine ⟨_, rfl, _, rfl, _, rfl, n, v, pv', t, p, rfl, ht, hp, hg, hok, fun u H1 g1 hu => ?_⟩
  refine ⟨_, rfl, v, t, rfl, ht.same g1, hg.dp, hg.2.2.wf, hg.nd, by rw [hg.len]; have := hg.2.1; omega, fun u' H2 g2 hf => ?_⟩
  obtain ⟨a, y, rfl, ha, hy⟩ := fz_pr.mp hf
  refine ⟨a, _, _, _, rfl, rfl, .inl ha, rfl, _, _, (hu.same g2).dp, Fz.dp K _ _ hy, shaped_dT fun T e => ?_, PT.shaped_enc ?_, ?_⟩
  · have := (tight_goodN hg hok e).dp; omega
  · have := (least_goodN hg).dp; omega
  · rw [eqv_dT]; exact q _ (g1.trans g2)
end
end ST
namespace ST
open PySem PySem.Spec PyProof.Rows L2
/-! ### zip of two tuples, the pairs kept -/
def ZG (h : Heap) (zz ti tO : Addr) (f0 : Value) (f1 : Bool) : Prop :=
  h.get? zz = some { cls := .type "zip", dict := none, data := .fields #[f0, .bool f1, .bool false, .ref ti, .ref tO], slots := #[] }
def Held (v : Value) : Prop := v = .none ∨ ∃ T : Nat, v = rawInt (T : Int)
section
variable {prog : Program} {w : World} {A : Around} {E : Value → Shared → Prop} {s : Shared}
theorem alive_any {a : Addr} {Q : Option Obj → Shared → Prop} (k : Q (s.heap.get? a) s) : wpAny (model prog w) A (loadIfAlive a) Q E s := fun _ _ _ => k
theorem own_any {zz ti tO : Addr} {f0 : Value} {f1 : Bool} {Q : Bool → Shared → Prop} (kz : ZG s.heap zz ti tO f0 f1) (hf : Held f0)
    (k : ∀ b g, (∃ f2, ZG g zz ti tO f0 f2) → Heap.SameBut zz s.heap g → Q b { s with heap := g }) : wpAny (model prog w) A (Builtin.SmallTypes.ownedTupleIsFree (.ref zz)) Q E s := by
  unfold Builtin.SmallTypes.ownedTupleIsFree
  rcases hf with rfl | ⟨T, rfl⟩
  · exact wpAny_bind (wpAny_field kz rfl (x := .none) rfl (wpAny_pure (k true s.heap ⟨f1, kz⟩ (Heap.SameBut.refl _ _))))
  refine wpAny_bind (wpAny_field kz rfl (x := rawInt T) rfl ?_)
  show wpAny _ _ (loadIfAlive (((T : Nat) : Int).toNat) >>= _) _ _ _
  rw [Int.toNat_natCast]
  refine wpAny_bind (alive_any ?_)
  cases hT : s.heap.get? T with
  | none =>
    simp only [Option.isNone_none, if_true]
    exact wpAny_pure (k true s.heap ⟨f1, kz⟩ (Heap.SameBut.refl _ _))
  | some oT =>
    simp only [Option.isNone_some]
    rw [if_neg Bool.false_ne_true]
    refine wpAny_bind (wpAny_field kz rfl (x := .bool f1) rfl ?_)
    cases f1 with
    | true =>
      rw [if_neg (fun e : (Value.bool true != Value.bool true) = true => Bool.false_ne_true e)]
      exact wpAny_pure (k false s.heap ⟨true, kz⟩ (Heap.SameBut.refl _ _))
    | false =>
      rw [if_pos (by rfl : (Value.bool false != Value.bool true) = true)]
      exact wpAny_bind (wpAny_setField_rec kz (by simp) fun g kg sg => wpAny_pure (k false g ⟨true, kg⟩ sg))
theorem zq_item {zz ti tO j1 j2 m1 m2 : Addr} {f0 : Value} {f1 : Bool} {c1 c2 : Nat} {us vs : Array Value} {u v a b : Value} {Q : Value → Shared → Prop} (D : ZipApart zz ti tO j1 j2 m1 m2)
    (kz : ZG s.heap zz ti tO f0 f1) (hf : Held f0) (kti : IsPair s.heap ti (.ref j1) (.ref j2)) (kto : IsPair s.heap tO a b)
    (k1 : s.heap.IsTupleIter j1 m1 c1) (k2 : s.heap.IsTupleIter j2 m2 c2) (km1 : s.heap.IsTuple m1 us) (km2 : s.heap.IsTuple m2 vs) (hu : us[c1]? = some u) (hv : vs[c2]? = some v)
    (out : ∀ g, (∃ f0' f1', ZG g zz ti tO f0' f1' ∧ Held f0') → (∃ a' b', IsPair g tO a' b') → g.IsTupleIter j1 m1 (c1 + 1) → g.IsTupleIter j2 m2 (c2 + 1) → IsPair g s.heap.objs.size u v →
      (∀ c o, c ≠ zz → c ≠ tO → c ≠ j1 → c ≠ j2 → s.heap.get? c = some o → g.get? c = some o) → Q (.ref s.heap.objs.size) { s with heap := g }) :
    wpAny (model prog w) A (Builtin.«zip.__next__» ⟨[.ref zz], []⟩) (fun fin s' => ∃ v, fin = .done (.ret v) ∧ Q v s') E s := by
  show wpAny _ _ (field (.ref zz) 2 >>= _) _ _ _
  refine wpAny_bind (wpAny_field kz rfl (x := .bool false) rfl ?_)
  show wpAny _ _ (field (.ref zz) 3 >>= _) _ _ _
  refine wpAny_bind (wpAny_field kz rfl (x := .ref ti) rfl ?_)
  refine wpAny_bind (wpAny_seqItems kti rfl ?_)
  show wpAny _ _ (Builtin.SmallTypes.ownedTupleIsFree (.ref zz) >>= _) _ _ _
  refine wpAny_bind (own_any kz hf fun fr g0 ⟨f2, kz0⟩ sb0 => ?_)
  have to0 : IsPair g0 tO a b := sb0.extBut _ _ D.TOz kto
  cases fr with
  | true =>
    simp only [if_true]
    refine wpAny_bind (wpAny_rule ?_)
    refine wpAny_bind (wpAny_field kz0 rfl (x := .ref tO) rfl ?_)
    refine wpAny_bind (wpAny_setField_rec (s := { s with heap := g0 }) kz0 (by simp) fun g1 kz1 sb1 => ?_)
    replace kz1 : ZG g1 zz ti tO .ellipsis f2 := kz1
    refine wpAny_bind ?_
    simp only [List.zipIdx_cons, List.zipIdx_nil, List.forIn_cons, List.forIn_nil]
    refine wpAny_bind (wpAny_bind (wpAny_onRaise ?_))
    show wpAny _ _ (Builtin.SmallTypes.nextOf (.ref j1) >>= _) _ _ _
    refine wpAny_bind (RZ.nextOf_tuple_item (s := { s with heap := g1 }) ((k1.extBut sb0.extBut D.i1z).extBut sb1.extBut D.i1z) ((km1.extBut sb0.extBut D.l1z).extBut sb1.extBut D.l1z) hu fun g2 e2 sb2 => wpAny_pure ?_)
    have to2 : IsPair g2 tO a b := sb2.extBut _ _ D.TOi1 (sb1.extBut _ _ D.TOz to0)
    refine wpAny_bind (wpAny_seqItems (s := { s with heap := g2 }) to2 rfl ?_)
    refine wpAny_bind (wpAny_updateSeq_pair (s := { s with heap := g2 }) to2 fun g3 to3 sb3 => ?_)
    replace to3 : IsPair g3 tO u b := to3
    refine wpAny_bind (wpAny_letGo (wpAny_pure ?_))
    refine wpAny_bind (wpAny_bind (wpAny_onRaise ?_))
    show wpAny _ _ (Builtin.SmallTypes.nextOf (.ref j2) >>= _) _ _ _
    refine wpAny_bind (RZ.nextOf_tuple_item (s := { s with heap := g3 }) ((((k2.extBut sb0.extBut D.i2z).extBut sb1.extBut D.i2z).extBut sb2.extBut D.i12.symm).extBut sb3.extBut D.TOi2.symm)
      ((((km2.extBut sb0.extBut D.l2z).extBut sb1.extBut D.l2z).extBut sb2.extBut D.l2i1).extBut sb3.extBut D.l2TO) hv fun g4 e4 sb4 => wpAny_pure ?_)
    have to4 : IsPair g4 tO u b := sb4.extBut _ _ D.TOi2 to3
    refine wpAny_bind (wpAny_seqItems (s := { s with heap := g4 }) to4 rfl ?_)
    refine wpAny_bind (wpAny_updateSeq_pair (s := { s with heap := g4 }) to4 fun g5 to5 sb5 => ?_)
    replace to5 : IsPair g5 tO u v := to5
    refine wpAny_bind (wpAny_letGo (wpAny_pure (wpAny_pure ?_)))
    refine wpAny_bind (wpAny_seqItems (s := { s with heap := g5 }) to5 rfl ?_)
    refine wpAny_bind (wpAny_newTuple ?_)
    have sz5 : g5.objs.size = s.heap.objs.size := by rw [sb5.1, sb4.1, sb3.1, sb2.1, sb1.1, sb0.1]
    have kz5 : ZG g5 zz ti tO .ellipsis f2 := sb5.extBut _ _ D.TOz.symm (sb4.extBut _ _ D.i2z.symm (sb3.extBut _ _ D.TOz.symm (sb2.extBut _ _ D.i1z.symm kz1)))
    have old5 : ∀ c o, c ≠ zz → c ≠ tO → c ≠ j1 → c ≠ j2 → s.heap.get? c = some o → g5.get? c = some o := fun c o n1 n2 n3 n4 e =>
      sb5.extBut _ _ n2 (sb4.extBut _ _ n4 (sb3.extBut _ _ n2 (sb2.extBut _ _ n3 (sb1.extBut _ _ n1 (sb0.extBut _ _ n1 e)))))
    have it1 : g5.IsTupleIter j1 m1 (c1 + 1) := ((e2.extBut sb3.extBut D.TOi1.symm).extBut sb4.extBut D.i12).extBut sb5.extBut D.TOi1.symm
    have it2 : g5.IsTupleIter j2 m2 (c2 + 1) := e4.extBut sb5.extBut D.TOi2.symm
    have ltz : zz < g5.objs.size := Heap.lt_size kz5
    show wpAny _ _ (Builtin.SmallTypes.ownedTupleHandOut (.ref zz) (.ref g5.objs.size) >>= _) _ _ _
    refine wpAny_bind ?_
    unfold Builtin.SmallTypes.ownedTupleHandOut
    have kz6 : ZG (g5.push { cls := .type "tuple", data := .seq #[u, v] }) zz ti tO .ellipsis f2 := Heap.get?_push_of_some _ kz5
    refine wpAny_bind (wpAny_setField_rec (s := { s with heap := g5.push { cls := .type "tuple", data := .seq #[u, v] } }) kz6 (by simp) fun g7 kz7 sb7 => ?_)
    replace kz7 : ZG g7 zz ti tO (rawInt g5.objs.size) f2 := kz7
    refine wpAny_setField_rec (s := { s with heap := g7 }) kz7 (by simp) fun g8 kz8 sb8 => ?_
    replace kz8 : ZG g8 zz ti tO (rawInt g5.objs.size) false := kz8
    have up : ∀ c o, c ≠ zz → g5.get? c = some o → g8.get? c = some o := fun c o n e => sb8.extBut _ _ n (sb7.extBut _ _ n (Heap.get?_push_of_some _ e))
    have tp8 : IsPair g8 g5.objs.size u v := sb8.extBut _ _ (Nat.ne_of_gt ltz) (sb7.extBut _ _ (Nat.ne_of_gt ltz) (Heap.get?_push_size _ rfl))
    rw [sz5] at kz8 tp8
    refine wpAny_pure ⟨_, rfl, ?_⟩
    show Q (.ref g5.objs.size) _
    rw [sz5]
    exact out g8 ⟨_, _, kz8, .inr ⟨_, rfl⟩⟩ ⟨_, _, up _ _ D.TOz to5⟩ (it1.at fun o e => up _ o D.i1z e) (it2.at fun o e => up _ o D.i2z e) tp8 fun c o n1 n2 n3 n4 e => up c o n1 (old5 c o n1 n2 n3 n4 e)
  | false =>
    simp only [Bool.false_eq_true, if_false]
    refine wpAny_bind ?_
    rw [← Array.forIn_toList]
    simp only [List.forIn_cons, List.forIn_nil]
    refine wpAny_bind (wpAny_bind (wpAny_holding ?_))
    show wpAny _ _ (Builtin.SmallTypes.nextOf (.ref j1) >>= _) _ _ _
    refine wpAny_bind (RZ.nextOf_tuple_item (s := { s with heap := g0 }) (k1.extBut sb0.extBut D.i1z) (km1.extBut sb0.extBut D.l1z) hu fun g2 e2 sb2 => wpAny_pure ?_)
    refine wpAny_pure ?_
    refine wpAny_bind (wpAny_bind (wpAny_holding ?_))
    show wpAny _ _ (Builtin.SmallTypes.nextOf (.ref j2) >>= _) _ _ _
    refine wpAny_bind (RZ.nextOf_tuple_item (s := { s with heap := g2 }) ((k2.extBut sb0.extBut D.i2z).extBut sb2.extBut D.i12.symm) ((km2.extBut sb0.extBut D.l2z).extBut sb2.extBut D.l2i1) hv fun g3 e3 sb3 => wpAny_pure ?_)
    refine wpAny_pure (wpAny_pure ?_)
    show wpAny _ _ (newTuple [u, v] >>= _) _ _ _
    refine wpAny_bind (wpAny_newTuple ?_)
    have sz3 : g3.objs.size = s.heap.objs.size := by rw [sb3.1, sb2.1, sb0.1]
    have kz3 : ZG g3 zz ti tO f0 f2 := sb3.extBut _ _ D.i2z.symm (sb2.extBut _ _ D.i1z.symm kz0)
    have to3 : IsPair g3 tO a b := sb3.extBut _ _ D.TOi2 (sb2.extBut _ _ D.TOi1 to0)
    have old3 : ∀ c o, c ≠ zz → c ≠ j1 → c ≠ j2 → s.heap.get? c = some o → g3.get? c = some o := fun c o n1 n2 n3 e => sb3.extBut _ _ n3 (sb2.extBut _ _ n2 (sb0.extBut _ _ n1 e))
    have it1 : g3.IsTupleIter j1 m1 (c1 + 1) := e2.extBut sb3.extBut D.i12
    refine wpAny_pure ⟨_, rfl, ?_⟩
    show Q (.ref g3.objs.size) _
    have tp : IsPair (g3.push { cls := .type "tuple", data := .seq #[u, v] }) g3.objs.size u v := Heap.get?_push_size _ rfl
    rw [sz3] at tp ⊢
    exact out _ ⟨_, _, Heap.get?_push_of_some _ kz3, hf⟩ ⟨_, _, Heap.get?_push_of_some _ to3⟩ (it1.at fun o e => Heap.get?_push_of_some _ e) (e3.at fun o e => Heap.get?_push_of_some _ e) tp fun c o n1 n2 n3 n4 e => Heap.get?_push_of_some _ (old3 c o n1 n3 n4 e)
theorem zq_end {zz ti tO j1 j2 m1 m2 : Addr} {f0 : Value} {f1 : Bool} {c1 c2 : Nat} {us vs : Array Value} {a b : Value} {Q : Fin → Shared → Prop} (hh : A.handled = none) (D : ZipApart zz ti tO j1 j2 m1 m2)
    (kz : ZG s.heap zz ti tO f0 f1) (hf : Held f0) (kti : IsPair s.heap ti (.ref j1) (.ref j2)) (kto : IsPair s.heap tO a b)
    (k1 : s.heap.IsTupleIter j1 m1 c1) (k2 : s.heap.IsTupleIter j2 m2 c2) (km1 : s.heap.IsTuple m1 us) (km2 : s.heap.IsTuple m2 vs) (he : us[c1]? = none ∨ vs[c2]? = none)
    (out : ∀ g e, (∀ c o, c ≠ zz → c ≠ tO → c ≠ j1 → c ≠ j2 → s.heap.get? c = some o → g.get? c = some o) → (∃ o, g.get? e = some o ∧ o.cls = .type "StopIteration") → E (.ref e) { s with heap := g }) :
    wpAny (model prog w) A (Builtin.«zip.__next__» ⟨[.ref zz], []⟩) Q E s := by
  show wpAny _ _ (field (.ref zz) 2 >>= _) _ _ _
  refine wpAny_bind (wpAny_field kz rfl (x := .bool false) rfl ?_)
  show wpAny _ _ (field (.ref zz) 3 >>= _) _ _ _
  refine wpAny_bind (wpAny_field kz rfl (x := .ref ti) rfl ?_)
  refine wpAny_bind (wpAny_seqItems kti rfl ?_)
  show wpAny _ _ (Builtin.SmallTypes.ownedTupleIsFree (.ref zz) >>= _) _ _ _
  refine wpAny_bind (own_any kz hf fun fr g0 ⟨f2, kz0⟩ sb0 => ?_)
  have to0 : IsPair g0 tO a b := sb0.extBut _ _ D.TOz kto
  cases fr with
  | true =>
    simp only [if_true]
    refine wpAny_bind (wpAny_rule ?_)
    refine wpAny_bind (wpAny_field kz0 rfl (x := .ref tO) rfl ?_)
    refine wpAny_bind (wpAny_setField_rec (s := { s with heap := g0 }) kz0 (by simp) fun g1 kz1 sb1 => ?_)
    replace kz1 : ZG g1 zz ti tO .ellipsis f2 := kz1
    refine wpAny_bind ?_
    simp only [List.zipIdx_cons, List.zipIdx_nil, List.forIn_cons, List.forIn_nil]
    refine wpAny_bind (wpAny_bind (wpAny_onRaise ?_))
    show wpAny _ _ (Builtin.SmallTypes.nextOf (.ref j1) >>= _) _ _ _
    have q1 := (k1.extBut sb0.extBut D.i1z).extBut sb1.extBut D.i1z
    have qm1 := (km1.extBut sb0.extBut D.l1z).extBut sb1.extBut D.l1z
    cases hu : us[c1]? with
    | none =>
      refine wpAny_bind (RZ.nextOf_tuple_end (s := { s with heap := g1 }) hh q1 qm1 hu fun g2 e xb ⟨oe, hoe, hce⟩ => ?_)
      have kz2 : ZG g2 zz ti tO .ellipsis f2 := xb _ _ D.i1z.symm kz1
      have hez : e ≠ zz := fun x => by subst x; rw [kz2] at hoe; cases hoe; simp at hce
      refine wpAny_setField_rec (s := { s with heap := g2 }) kz2 (by simp) fun g3 _ sb3 => out g3 e (fun c o n1 _ n3 _ x => sb3.extBut _ _ n1 (xb _ _ n3 (sb1.extBut _ _ n1 (sb0.extBut _ _ n1 x)))) ⟨oe, sb3.extBut _ _ hez hoe, hce⟩
    | some u =>
      have hv : vs[c2]? = none := by
        rcases he with h | h
        · rw [hu] at h; cases h
        · exact h
      refine wpAny_bind (RZ.nextOf_tuple_item (s := { s with heap := g1 }) q1 qm1 hu fun g2 e2 sb2 => wpAny_pure ?_)
      have to2 : IsPair g2 tO a b := sb2.extBut _ _ D.TOi1 (sb1.extBut _ _ D.TOz to0)
      refine wpAny_bind (wpAny_seqItems (s := { s with heap := g2 }) to2 rfl ?_)
      refine wpAny_bind (wpAny_updateSeq_pair (s := { s with heap := g2 }) to2 fun g3 to3 sb3 => ?_)
      refine wpAny_bind (wpAny_letGo (wpAny_pure ?_))
      refine wpAny_bind (wpAny_bind (wpAny_onRaise ?_))
      show wpAny _ _ (Builtin.SmallTypes.nextOf (.ref j2) >>= _) _ _ _
      refine wpAny_bind (RZ.nextOf_tuple_end (s := { s with heap := g3 }) hh ((((k2.extBut sb0.extBut D.i2z).extBut sb1.extBut D.i2z).extBut sb2.extBut D.i12.symm).extBut sb3.extBut D.TOi2.symm)
        ((((km2.extBut sb0.extBut D.l2z).extBut sb1.extBut D.l2z).extBut sb2.extBut D.l2i1).extBut sb3.extBut D.l2TO) hv fun g4 e xb ⟨oe, hoe, hce⟩ => ?_)
      have kz4 : ZG g4 zz ti tO .ellipsis f2 := xb _ _ D.i2z.symm (sb3.extBut _ _ D.TOz.symm (sb2.extBut _ _ D.i1z.symm kz1))
      have hez : e ≠ zz := fun x => by subst x; rw [kz4] at hoe; cases hoe; simp at hce
      refine wpAny_setField_rec (s := { s with heap := g4 }) kz4 (by simp) fun g5 _ sb5 => out g5 e (fun c o n1 n2 n3 n4 x => sb5.extBut _ _ n1 (xb _ _ n4 (sb3.extBut _ _ n2 (sb2.extBut _ _ n3 (sb1.extBut _ _ n1 (sb0.extBut _ _ n1 x)))))) ⟨oe, sb5.extBut _ _ hez hoe, hce⟩
  | false =>
    simp only [Bool.false_eq_true, if_false]
    refine wpAny_bind ?_
    rw [← Array.forIn_toList]
    simp only [List.forIn_cons, List.forIn_nil]
    refine wpAny_bind (wpAny_bind (wpAny_holding ?_))
    show wpAny _ _ (Builtin.SmallTypes.nextOf (.ref j1) >>= _) _ _ _
    have q1 := k1.extBut sb0.extBut D.i1z
    have qm1 := km1.extBut sb0.extBut D.l1z
    cases hu : us[c1]? with
    | none =>
      refine wpAny_bind (RZ.nextOf_tuple_end (s := { s with heap := g0 }) hh q1 qm1 hu fun g2 e xb hoe => ?_)
      exact out g2 e (fun c o n1 _ n3 _ x => xb _ _ n3 (sb0.extBut _ _ n1 x)) hoe
    | some u =>
      have hv : vs[c2]? = none := by
        rcases he with h | h
        · rw [hu] at h; cases h
        · exact h
      refine wpAny_bind (RZ.nextOf_tuple_item (s := { s with heap := g0 }) q1 qm1 hu fun g2 e2 sb2 => wpAny_pure ?_)
      refine wpAny_pure ?_
      refine wpAny_bind (wpAny_bind (wpAny_holding ?_))
      show wpAny _ _ (Builtin.SmallTypes.nextOf (.ref j2) >>= _) _ _ _
      refine wpAny_bind (RZ.nextOf_tuple_end (s := { s with heap := g2 }) hh ((k2.extBut sb0.extBut D.i2z).extBut sb2.extBut D.i12.symm) ((km2.extBut sb0.extBut D.l2z).extBut sb2.extBut D.l2i1) hv fun g3 e xb hoe => ?_)
      exact out g3 e (fun c o n1 _ n3 n4 x => xb _ _ n4 (sb2.extBut _ _ n3 (sb0.extBut _ _ n1 x))) hoe
theorem py_zq_item {zz ti tO j1 j2 m1 m2 : Addr} {f0 : Value} {f1 : Bool} {c1 c2 : Nat} {us vs : Array Value} {u v a b : Value} {Q : Option Value → Shared → Prop} (D : ZipApart zz ti tO j1 j2 m1 m2)
    (kz : ZG s.heap zz ti tO f0 f1) (hf : Held f0) (kti : IsPair s.heap ti (.ref j1) (.ref j2)) (kto : IsPair s.heap tO a b)
    (k1 : s.heap.IsTupleIter j1 m1 c1) (k2 : s.heap.IsTupleIter j2 m2 c2) (km1 : s.heap.IsTuple m1 us) (km2 : s.heap.IsTuple m2 vs) (hu : us[c1]? = some u) (hv : vs[c2]? = some v)
    (out : ∀ g, (∃ f0' f1', ZG g zz ti tO f0' f1' ∧ Held f0') → (∃ a' b', IsPair g tO a' b') → g.IsTupleIter j1 m1 (c1 + 1) → g.IsTupleIter j2 m2 (c2 + 1) → IsPair g s.heap.objs.size u v →
      (∀ c o, c ≠ zz → c ≠ tO → c ≠ j1 → c ≠ j2 → s.heap.get? c = some o → g.get? c = some o) → Q (some (.ref s.heap.objs.size)) { s with heap := g }) :
    wpAny (model prog w) A (pyNext (.ref zz)) Q E s := by
  have isz : s.TypeIs (.ref zz) "zip" := ⟨_, kz, rfl⟩
  unfold pyNext
  refine wpAny_bind (wpAny_attempt (wpAny_callSpecial?_slot (name := Str.ofString "__next__") isz F.slot_zip_next ?_))
  exact wpAny_call_entry F.slot_zip_next isz F.entry_zip_next (zq_item D kz hf kti kto k1 k2 km1 km2 hu hv fun g b1 b2 b3 b4 b5 b6 => wpAny_pure (out g b1 b2 b3 b4 b5 b6)) (F.args_zip_next_1 _)
theorem py_zq_end {zz ti tO j1 j2 m1 m2 : Addr} {f0 : Value} {f1 : Bool} {c1 c2 : Nat} {us vs : Array Value} {a b : Value} {Q : Option Value → Shared → Prop} (hh : A.handled = none) (D : ZipApart zz ti tO j1 j2 m1 m2)
    (kz : ZG s.heap zz ti tO f0 f1) (hf : Held f0) (kti : IsPair s.heap ti (.ref j1) (.ref j2)) (kto : IsPair s.heap tO a b)
    (k1 : s.heap.IsTupleIter j1 m1 c1) (k2 : s.heap.IsTupleIter j2 m2 c2) (km1 : s.heap.IsTuple m1 us) (km2 : s.heap.IsTuple m2 vs) (he : us[c1]? = none ∨ vs[c2]? = none)
    (out : ∀ g, (∀ c o, c ≠ zz → c ≠ tO → c ≠ j1 → c ≠ j2 → s.heap.get? c = some o → g.get? c = some o) → Q none { s with heap := g }) :
    wpAny (model prog w) A (pyNext (.ref zz)) Q E s := by
  have isz : s.TypeIs (.ref zz) "zip" := ⟨_, kz, rfl⟩
  unfold pyNext
  refine wpAny_bind (wpAny_attempt (wpAny_callSpecial?_slot (name := Str.ofString "__next__") isz F.slot_zip_next ?_))
  refine wpAny_call_entry F.slot_zip_next isz F.entry_zip_next (zq_end hh D kz hf kti kto k1 k2 km1 km2 he fun g e kp ⟨o, ho, hc⟩ => ?_) (F.args_zip_next_1 _)
  refine wpAny_bind (wpAny_isInstance (T := "StopIteration") (b := true) ⟨o, ho, hc⟩ isSubtype_stop ?_)
  exact wpAny_pure (out g kp)
end
theorem mem5 {c a1 a2 a3 a4 a5 : Addr} (h : c ∈ [a1, a2, a3, a4, a5]) : c = a1 ∨ c = a2 ∨ c = a3 ∨ c = a4 ∨ c = a5 := by simpa using h
/-- a turn of such a zip, the pair put under one name -/
theorem turn_zq {P : Program} {w : World} {K : PySem.W.Frag} {x : Str} {pos : Pos} {m1 m2 zz ti tO j1 j2 : Addr} (D : ZipApart zz ti tO j1 j2 m1 m2) :
    Turn P w K (.Name x pos) (RZ.ItzT K m1 m2) [zz, ti, tO, j1, j2] zz (fun i h => (∃ f0 f1, ZG h zz ti tO f0 f1 ∧ Held f0) ∧ IsPair h ti (.ref j1) (.ref j2) ∧ (∃ a b, IsPair h tO a b) ∧ h.IsTupleIter j1 m1 i ∧ h.IsTupleIter j2 m2 i) where
  mem := by simp
  obj := fun i h ⟨⟨f0, f1, kz, _⟩, kti, ⟨a, b, kto⟩, ⟨o1, q1, _, d1⟩, ⟨o2, q2, _, d2⟩⟩ c hc => by
    rcases mem5 hc with rfl | rfl | rfl | rfl | rfl
    · exact ⟨_, kz, fun v q => nomatch q⟩
    · exact ⟨_, kti, fun v q => nomatch q⟩
    · exact ⟨_, kto, fun v q => nomatch q⟩
    · exact ⟨o1, q1, fun v q => by rw [d1] at q; cases q⟩
    · exact ⟨o2, q2, fun v q => by rw [d2] at q; cases q⟩
  keep := fun i h g ⟨⟨f0, f1, kz, hf⟩, kti, ⟨a, b, kto⟩, q1, q2⟩ k =>
    ⟨⟨f0, f1, k zz (by simp) _ kz, hf⟩, k ti (by simp) _ kti, ⟨a, b, k tO (by simp) _ kto⟩, q1.at fun o q => k j1 (by simp) o q, q2.at fun o q => k j2 (by simp) o q⟩
  item := by
    intro X hP hw hK hc i pins s σ H E I hfp ⟨⟨f0, f1, kz, hf⟩, kti, ⟨a, b, kto⟩, q1, q2⟩ ⟨xs, ys, x', y', hqx, hqy, hx, hy⟩
    subst hP hw hK
    obtain ⟨its, rv, p1, _⟩ := I.tuple hqx
    obtain ⟨its2, rv2, p2, _⟩ := I.tuple hqy
    obtain ⟨u, hu, ru⟩ := rv.get hx
    obtain ⟨u2, hu2, ru2⟩ := rv2.get hy
    refine py_zq_item D kz hf kti kto q1 q2 p1 p2 (u := u) (v := u2) (by simpa using hu) (by simpa using hu2) fun g b1 b2 b3 b4 b5 b6 => ?_
    have new : ObjOk X.prog X.w (upd H s.heap.objs.size (.tup [x', y'])) g s.heap.objs.size (.tup [x', y']) :=
      ⟨by show 2 ≤ sizeLine; decide, [u, u2], .cons ru (.cons ru2 .nil), ⟨_, b5, rfl, _, rfl⟩⟩
    have I1 : Inv X pins σ (upd H s.heap.objs.size (.tup [x', y'])) { s with heap := g } :=
      I.turnedNew (t' := s.toks) (ch := [zz, ti, tO, j1, j2]) (fun c o hb q => b6 c o (fun z => hb (by simp [z])) (fun z => hb (by simp [z])) (fun z => hb (by simp [z])) (fun z => hb (by simp [z])) q) hfp (Nat.le_refl _) new
    refine ⟨_, rfl, wpAny_pure ⟨.ref s.heap.objs.size, _, I1, rfl, ⟨_, x', y', rfl, I.hok.fresh (Nat.le_refl _), rfl, fun l hl => by rw [I.tuple_inj hl hqx]; exact hx, fun l hl => by rw [I.tuple_inj hl hqy]; exact hy⟩, ⟨b1, ?_, b2, b3, b4⟩, fun c hcm => ?_⟩⟩
    · exact b6 _ _ D.TIz D.TITO D.TIi1 D.TIi2 kti
    · have hlt : c < s.heap.objs.size := by
        rcases mem5 hcm with rfl | rfl | rfl | rfl | rfl
        · exact Heap.lt_size kz
        · exact Heap.lt_size kti
        · exact Heap.lt_size kto
        · obtain ⟨_, e, _⟩ := q1; exact Heap.lt_size e
        · obtain ⟨_, e, _⟩ := q2; exact Heap.lt_size e
      rw [upd_ne (Nat.ne_of_lt hlt)]
      exact (hfp c hcm).1
  done := by
    intro X hP hw hK hc i pins s σ H E I hfp ⟨⟨f0, f1, kz, hf⟩, kti, ⟨a, b, kto⟩, q1, q2⟩ ⟨xs, ys, hqx, hqy, hend⟩
    subst hP hw hK
    obtain ⟨its, rv, p1, _⟩ := I.tuple hqx
    obtain ⟨its2, rv2, p2, _⟩ := I.tuple hqy
    have l1 := rv.length
    have l2 := rv2.length
    have he : its.toArray[i]? = none ∨ its2.toArray[i]? = none := by
      rcases hend with q | q
      · exact .inl (by simp; omega)
      · exact .inr (by simp; omega)
    exact py_zq_end (I.ok.hd hc) D kz hf kti kto q1 q2 p1 p2 he fun g kp => ⟨rfl, I.turnedL (t' := s.toks) (ch := [zz, ti, tO, j1, j2]) (fun c o hb q =>
      kp c o (fun z => hb (by simp [z])) (fun z => hb (by simp [z])) (fun z => hb (by simp [z])) (fun z => hb (by simp [z])) q) hfp⟩
  self := fun A i s Q E ⟨⟨f0, f1, kz, _⟩, _⟩ k => by
    have isz : s.TypeIs (.ref zz) "zip" := ⟨_, kz, rfl⟩
    refine wpAny_pyIter_slot isz F.slot_zip_iter (wpAny_call_entry F.slot_zip_iter isz F.entry_zip_iter ?_ (F.args_zip_iter_1 _))
    show wpAny _ _ (ret (.ref zz)) _ _ s
    exact wpAny_pure ⟨_, rfl, "zip", _, isz, F.slot_zip_next.lookup, k⟩
def iZipN (K : PySem.W.Frag) (ta : TA) : TI := fun σ H R => ta σ H fun vs H1 => ∃ a b xs ys, vs = [.ref a, .ref b] ∧ SqT K H1 a xs ∧ SqT K H1 b ys ∧ R (RZ.ItzT K a b) H1
theorem pi_zipN {X : Cx} {e e2 : Expr} {ta : TA} {p pos tpos : Pos} {x : Str} (hg : Gl X "zip") (hm : X.mg "zip" = none) (ha : PA X [e, e2] ta)
    (hs : starEach [e, e2] X.env = (false, eval e X.env) :: starEach [e2] X.env := by rfl) (pl : (backTo pos (starEach [e2] X.env)).any (·.1) = false := by rfl) :
    PI X (.Name x tpos) (.Call (.Name "zip" p) [e, e2] [] pos) (iZipN X.K ta) := by
  refine ⟨fun pins s σ H R I h => ?_⟩
  refine Call_ (ld_blt I hg hm PyProof.Rows.boot_zip (PyProof.Rows.callWith_type1 (thn (ha.run pos pins s σ H _ I h) fun us s1 ⟨vs, H1, I1, r1, a, b, xs, ys, ex, hqx, hqy, q⟩ => ?_) hs pl))
  subst ex
  obtain ⟨u1, u2, rfl, ra, rb⟩ := vals2 r1
  cases ra
  cases rb
  obtain ⟨its, rv, p1, _⟩ := I1.tuple hqx
  obtain ⟨its2, rv2, p2, _⟩ := I1.tuple hqy
  obtain ⟨o1, ho1, _⟩ := id p1
  obtain ⟨o2, ho2, _⟩ := id p2
  have fr : ∀ c, c ∈ [s1.heap.objs.size + 4, s1.heap.objs.size + 2, s1.heap.objs.size + 3, s1.heap.objs.size, s1.heap.objs.size + 1] → FpOk X pins H1 c := fun c hc => by
    have hle : s1.heap.objs.size ≤ c := by
      rcases mem5 hc with rfl | rfl | rfl | rfl | rfl <;> omega
    exact I1.fpOk hle (I1.hok.fresh hle)
  refine RZ.call_zipT (show s1.heap.IsTuple a its.toArray from p1) (show s1.heap.IsTuple b its2.toArray from p2) fun g kz kti kto k1 k2 ksz kp => wpAny_pyIter_zip kz ?_
  have I2 : Inv X pins σ H1 { s1 with heap := g } := I1.kept (t' := s1.toks) kp
  exact ⟨s1.heap.objs.size + 4, [s1.heap.objs.size + 4, s1.heap.objs.size + 2, s1.heap.objs.size + 3, s1.heap.objs.size, s1.heap.objs.size + 1], _, _, H1, rfl, I2, turn_zq (PySem.W.ktu_apart s1.heap.objs.size a b (Heap.lt_size ho1) (Heap.lt_size ho2)), ⟨⟨_, _, kz, .inl rfl⟩, kti, ⟨_, _, kto⟩, k1, k2⟩, fr, q⟩
end ST
namespace ST
open PySem PySem.Spec PyProof.Rows L2
open Classical
section
variable {P : Program} {w : World} {K : PySem.W.Frag} {mg : Str → Option Value} {base : Heap}
theorem rgV_rg (n : Nat) : rgV 0 (n : Int) = (Rg n).map V.int := by
  unfold rgV Rg
  rw [List.map_map]
  have : ((n : Int) - 0).toNat = n := by omega
  rw [this]
  refine List.map_congr_left fun i _ => ?_
  show V.int (0 + (i : Int)) = V.int (i : Int)
  rw [Int.zero_add]
theorem sc49 : FnScope ["n"] ["n"] (defScope (topS 49)) := ⟨rfl, rfl, rfl, by decide +kernel, rfl, by decide +kernel, by decide +kernel⟩
def spFree : Sp := fun vs H Q _ => ∃ (n : Nat), vs = [.int (n : Int)] ∧ n ≤ 7 ∧ ∀ u H', Same H H' → Tr H' u (PT.free n) → Q u H'
theorem leaves_fz {H : Hp} (l : List Int) : FzL H (l.map V.int) ((l.map PT.leaf).map PT.enc) := by
  induction l with
  | nil => exact .nil
  | cons g l ih => exact .cons (by rw [PT.enc_leaf]; exact .int g) ih
theorem cl_free (D : Dfn K mg 49 "free_tree") (B : Bt mg) : Cl P w K mg base 1 "free_tree" ["n"] spFree := by
  refine D.cl sc49 (fun _ _ _ _ _ _ us hl => match us, hl with | [_], _ => rfl) (fun vs H Q E h => ?_) (fun f cdv A outer s H vs Q E hr h => ?_)
  · obtain ⟨_, rfl, _⟩ := h; rfl
  obtain ⟨n, rfl, h7, q⟩ := h
  refine ⟨_, pss_cons (ps_if (pt_cmpR op_eq (pv 0) pe_int (nomark _)) (pss_one (ps_ret pe_int)) pss_nil)
    (pss_one (ps_ret (pe_tup (pa_cons (pe_gs rfl B.ANY) (pa_cons (pe_tupRg rfl rfl B.tuple (prg_1 rfl B.range (pv 0))) pa_nil))))), ?_⟩
  refine ⟨_, rfl, rfl, _, rfl, ?_⟩
  rw [dec_int]
  by_cases h1 : n = 1
  · rw [show (((n : Nat) : Int) == 1) = true from beq_iff_eq.mpr (by omega)]
    refine iteT (q _ _ (Same.refl _) ?_)
    unfold PT.free
    rw [if_pos h1]
    exact tr_leaf.mpr rfl
  · rw [show (((n : Nat) : Int) == 1) = false from beq_eq_false_iff_ne.mpr (by omega)]
    refine iteF ⟨_, rfl, _, rfl, RgOk.of_le (by omega) (by omega) (by omega) (by omega), fun l nl => ?_⟩
    rw [rgV_rg]
    have gl := same_new (o := .tup ((Rg n).map V.int)) nl
    refine ⟨(by show 2 ≤ sizeLine; decide), fun t nt => ?_⟩
    have gt := same_new (o := .tup [.str (kS false), .ref l]) nt
    refine q _ _ (gl.trans gt) ?_
    rw [PT.free_leaves h1]
    exact tr_node.mpr ⟨t, l, _, rfl, .inl upd_same, .inl (gt _ _ upd_same), leaves_fz _⟩
/-! ### one party after the other -/
theorem sc50 : FnScope ["n", "tree", "parties", "found", "party"] ["n", "tree", "parties"] (defScope (topS 50)) := ⟨rfl, rfl, rfl, by decide +kernel, rfl, by decide +kernel, by decide +kernel⟩
def spTAll : Sp := fun vs H Q _ => ∃ (n : Nat) (v : V) (a : Addr) (t : PT) (ps : List (List Int)), vs = [.int (n : Int), v, .ref a] ∧ Tr H v t ∧ Ls H a (ps.map eP) ∧ GoodN n t ∧ (∀ p ∈ ps, PT.POk (Rg n) p) ∧ ∀ u H', Same H H' → OptT H' u (PT.tightAll t ps) → Q u H'
theorem rows_at {H : Hp} {xs : List V} {ps : List (List Int)} {i : Nat} {x : V} (k : FzL H xs (ps.map eP)) (h : xs[i]? = some x) : ∃ p, ps[i]? = some p ∧ Ro H x p := by
  obtain ⟨d, hd, hf⟩ := k.get h
  rw [List.getElem?_map] at hd
  obtain ⟨p, hp, rfl⟩ := Option.map_eq_some_iff.mp hd
  exact ⟨p, hp, ro_fz.mp hf⟩
theorem tr_ne {H : Hp} {u : V} {t : PT} (h : Tr H u t) : u ≠ V.non := by
  intro e; subst e
  cases t with
  | leaf g => have := tr_leaf.mp h; cases this
  | node r' bs' => obtain ⟨_, _, _, e, _⟩ := tr_node.mp h; cases e
theorem cl_tAll (D : Dfn K mg 50 "tightened_all") (B : Bt mg) (cT : Cl P w K mg base 28 "tightened" ["n", "tree", "party"] spTight) : Cl P w K mg base 29 "tightened_all" ["n", "tree", "parties"] spTAll := by
  refine D.cl sc50 (fun _ _ _ _ _ _ us hl => match us, hl with | [_, _, _], _ => rfl) (fun vs H Q E h => ?_) (fun f cdv A outer s H vs Q E hr h => ?_)
  · obtain ⟨_, _, _, _, _, rfl, _⟩ := h; rfl
  obtain ⟨n, v, a, t, ps, rfl, ht, ⟨xs, ea, kx⟩, hg, hok, q⟩ := h
  have hlen : xs.length = ps.length := by rw [kx.len, List.length_map]
  refine ⟨_, pss_cons (ps_set (i := 3) sc50.nd rfl (.inl rfl) (pv 1))
    (pss_cons (ps_for PassesOwn.never rfl (pi_list (pv 2)) (pg_name (i := 4) sc50.nd rfl (.inl rfl))
      (pss_one (ps_if (pt_cmpR op_notN (pv 3) pe_non (nomark _)) (pss_one (ps_set (i := 3) sc50.nd rfl (.inl rfl) (pe_cl cT hr (Nat.le_refl _) rfl (pa_cons (pv 0) (pa_cons (pv 3) (pa_cons (pv 4) pa_nil)))))) pss_nil)))
    (pss_one (ps_ret (pv 3)))), ?_⟩
  refine ⟨_, rfl, _, rfl, a, rfl, ⟨_, SqL.of ea⟩, ?_⟩
  refine for_list (K := K) (xs := xs) (fun i σ H' => Same H H' ∧ ∃ u y, OptT H' u (PT.tightAll t (ps.take i)) ∧ σ = [some (.int (n : Int)), some v, some (.ref a), some u, y]) ⟨Same.refl _, v, _, ht, rfl⟩ (fun j σ H' _ h => h.1.sqL (SqL.of ea)) (fun i x σ H1 hi h => ?_) (fun σ H1 h => ?_)
  · obtain ⟨g1, u, y, hu, rfl⟩ := h
    obtain ⟨p, hpi, hp⟩ := rows_at (kx.same g1) hi
    have hpm := List.mem_of_getElem? hpi
    refine ⟨_, rfl, rfl, _, rfl, ?_⟩
    rw [take_snoc hpi, PT.tightAll_snoc]
    cases hT : PT.tightAll t (ps.take i) with
    | none =>
      rw [hT] at hu
      have : u = .non := hu
      subst this
      exact iteF ⟨g1, .non, _, rfl, rfl⟩
    | some T =>
      rw [hT] at hu
      have hu : Tr H1 u T := hu
      rw [decide_eq_false (tr_ne hu)]
      have gT : GoodN n T := ⟨hg.1, hg.2.1, (PT.all_good (rg_nd n) _ t hg.2.2 (fun p hp => hok p (List.mem_of_mem_take hp)) T hT).1⟩
      exact iteT ⟨_, rfl, _, rfl, _, rfl, n, u, x, T, p, rfl, hu, hp, gT, hok p hpm, fun u' H2 g2 hu' => ⟨g1.trans g2, u', _, hu', rfl⟩⟩
  · obtain ⟨g1, u, y, hu, rfl⟩ := h
    rw [hlen, List.take_length] at hu
    exact ⟨_, rfl, q u H1 g1 hu⟩
theorem pok_of {n : Nat} {p : List Int} (h : PGd (n : Int) p) : PT.POk (Rg n) p := ⟨h.ne, fun g hg => mem_rg.mpr (h.rg g hg)⟩
theorem sc51 : FnScope ["n", "parties"] ["n", "parties"] (defScope (topS 51)) := ⟨rfl, rfl, rfl, by decide +kernel, rfl, by decide +kernel, by decide +kernel⟩
def spTreeOf : Sp := fun vs H Q _ => ∃ (n : Nat) (a : Addr) (ps : List (List Int)), vs = [.int (n : Int), .ref a] ∧ Ls H a (ps.map eP) ∧ PsGd (n : Int) ps ∧ 1 ≤ n ∧ n ≤ 7 ∧ ∀ u H', Same H H' → OptT H' u (PT.treeOf n ps) → Q u H'
theorem cl_treeOf (D : Dfn K mg 51 "tree_of") (B : Bt mg) (cN : Cl P w K mg base 5 "need_parties" ["n", "parties"] spNeedP) (cF : Cl P w K mg base 1 "free_tree" ["n"] spFree) (cA : Cl P w K mg base 29 "tightened_all" ["n", "tree", "parties"] spTAll) : Cl P w K mg base 30 "tree_of" ["n", "parties"] spTreeOf := by
  refine D.cl sc51 (fun _ _ _ _ _ _ us hl => match us, hl with | [_, _], _ => rfl) (fun vs H Q E h => ?_) (fun f cdv A outer s H vs Q E hr h => ?_)
  · obtain ⟨_, _, _, rfl, _⟩ := h; rfl
  obtain ⟨n, a, ps, rfl, hL, hp, h1, h7, q⟩ := h
  refine ⟨_, pss_cons (ps_expr (pe_cl cN hr (by omega) rfl (pa_cons (pv 0) (pa_cons (pv 1) pa_nil))))
    (pss_one (ps_ret (pe_cl cA hr (Nat.le_refl _) rfl (pa_cons (pv 0) (pa_cons (pe_cl cF hr (by omega) rfl (pa_cons (pv 0) pa_nil)) (pa_cons (pv 1) pa_nil)))))), ?_⟩
  refine ⟨_, rfl, _, rfl, (n : Int), a, ps, rfl, by omega, by omega, hL, hp, fun H1 g1 => ?_⟩
  refine ⟨_, rfl, _, rfl, n, rfl, h7, fun u H2 g2 hu => ?_⟩
  refine ⟨_, rfl, n, u, a, PT.free n, ps, rfl, hu, hL.same (g1.trans g2), ⟨h1, h7, PT.free_good h1⟩, fun p hpm => pok_of (hp.ok p hpm), fun u' H3 g3 hu' => q u' H3 ((g1.trans g2).trans g3) hu'⟩
/-! ### the party of some trees -/
theorem sc52 : FnScope ["trees", "found", "tree"] ["trees"] (defScope (topS 52)) := ⟨rfl, rfl, rfl, by decide +kernel, rfl, by decide +kernel, by decide +kernel⟩
def spPartyOf : Sp := fun vs H Q _ => ∃ (a : Addr) (xs : List V) (ts : List PT), vs = [.ref a] ∧ (H a = some (.lst xs) ∨ H a = some (.tup xs)) ∧ FzL H xs (ts.map PT.enc) ∧ (∀ t ∈ ts, t.dp < 7) ∧ (PT.gsL ts).length ≤ 1000 ∧ ∀ u H', Same H H' → RoD H' u (srt (PT.gsL ts)) → Q u H'
theorem cl_partyOf (D : Dfn K mg 52 "party_of") (B : Bt mg) (cG : Cl P w K mg base 8 "guests_of" ["tree"] (spGuests 7)) : Cl P w K mg base 9 "party_of" ["trees"] spPartyOf := by
  refine D.cl sc52 (fun _ _ _ _ _ _ us hl => match us, hl with | [_], _ => rfl) (fun vs H Q E h => ?_) (fun f cdv A outer s H vs Q E hr h => ?_)
  · obtain ⟨_, _, _, rfl, _⟩ := h; rfl
  obtain ⟨a, xs, ts, rfl, ha, kx, hd, hz, q⟩ := h
  have hlen : xs.length = ts.length := by rw [kx.len, List.length_map]
  refine ⟨_, pss_cons (ps_set (i := 1) sc52.nd rfl (.inl rfl) (pe_lst pa_nil))
    (pss_cons (ps_for PassesOwn.never rfl (pi_or (pi_list (pv 0)) (pi_tup (pv 0))) (pg_name (i := 2) sc52.nd rfl (.inl rfl))
      (pss_one (ps_expr (pe_bm PySem.F.plainAttrs_list PySem.F.slot_list_extend PySem.F.type_list_extend mt_extend (pv 1) (pa_cons (pe_cl cG hr (Nat.le_refl _) rfl (pa_cons (pv 2) pa_nil)) pa_nil)))))
    (pss_one (ps_ret (pe_callTy call_tupD rfl B.tuple (by decide +kernel) (pa_cons (pe_callB cr_sortedI rfl B.sorted (by decide +kernel) (pa_cons (pv 1) pa_nil)) pa_nil))))), ?_⟩
  refine ⟨Nat.zero_le _, fun l nl => ?_⟩
  have g0 : Same H (upd H l (.lst [])) := same_new nl
  have step : ∀ (Pv : Nat → L2.St → Hp → Prop), Pv = (fun i σ H' => Same H H' ∧ H' l = some (.lst ((PT.gsL (ts.take i)).map V.int)) ∧ ∃ y, σ = [some (.ref a), some (.ref l), y]) → True := fun _ _ => trivial
  rcases ha with ha | ha
  · refine .inl ⟨_, rfl, a, rfl, ⟨_, g0.sqL (SqL.of ha)⟩, ?_⟩
    refine for_list (K := K) (xs := xs) (fun i σ H' => Same H H' ∧ H' l = some (.lst ((PT.gsL (ts.take i)).map V.int)) ∧ ∃ y, σ = [some (.ref a), some (.ref l), y]) ⟨g0, by rw [upd_same]; simp, _, rfl⟩ (fun j σ H' _ h => h.1.sqL (SqL.of ha)) (fun i x σ H1 hi h => ?_) (fun σ H1 h => ?_)
    · obtain ⟨g1, e1, y, rfl⟩ := h
      obtain ⟨t, hti, hxt⟩ := encs_at (kx.same g1) hi
      have hle : (PT.gsL (ts.take (i + 1))).length ≤ 1000 := Nat.le_trans (gsL_take_le _) hz
      rw [gsL_snoc hti, List.length_append] at hle
      refine ⟨_, rfl, .inl ⟨rfl, _, SqL.of e1⟩, _, rfl, x, t, rfl, hxt, hd t (List.mem_of_getElem? hti), by omega, fun p H2 g2 np hp => ?_⟩
      refine ⟨l, p, _, _, rfl, rfl, g2 _ _ e1, hp, ?_, same_mut (g1.trans g2) nl, ?_, _, rfl⟩
      · rw [List.length_map, List.length_map]; exact big_ok (by omega)
      · rw [upd_same, gsL_snoc hti, List.map_append]
    · obtain ⟨g1, e1, y, rfl⟩ := h
      rw [hlen, List.take_length] at e1
      refine ⟨_, rfl, l, _, rfl, SqL.of e1, fun ns p hq hs np => ?_⟩
      have gp := same_new (o := .lst (ns.map V.int)) np
      refine ⟨p, _, rfl, SqL.of upd_same, fun r o nr hdo => q _ _ ((g1.trans gp).trans (same_new nr)) ⟨r, o, rfl, hdo, ?_⟩⟩
      rw [upd_same, srt_uniq hq hs]
  · refine .inr ⟨_, rfl, a, rfl, ⟨_, g0.sqT (.inl ha)⟩, ?_⟩
    refine for_tup (K := K) (xs := xs) (fun i σ H' => Same H H' ∧ H' l = some (.lst ((PT.gsL (ts.take i)).map V.int)) ∧ ∃ y, σ = [some (.ref a), some (.ref l), y]) ⟨g0, by rw [upd_same]; simp, _, rfl⟩ (fun j σ H' _ h => h.1.sqT (.inl ha)) (fun i x σ H1 hi h => ?_) (fun σ H1 h => ?_)
    · obtain ⟨g1, e1, y, rfl⟩ := h
      obtain ⟨t, hti, hxt⟩ := encs_at (kx.same g1) hi
      have hle : (PT.gsL (ts.take (i + 1))).length ≤ 1000 := Nat.le_trans (gsL_take_le _) hz
      rw [gsL_snoc hti, List.length_append] at hle
      refine ⟨_, rfl, .inl ⟨rfl, _, SqL.of e1⟩, _, rfl, x, t, rfl, hxt, hd t (List.mem_of_getElem? hti), by omega, fun p H2 g2 np hp => ?_⟩
      refine ⟨l, p, _, _, rfl, rfl, g2 _ _ e1, hp, ?_, same_mut (g1.trans g2) nl, ?_, _, rfl⟩
      · rw [List.length_map, List.length_map]; exact big_ok (by omega)
      · rw [upd_same, gsL_snoc hti, List.map_append]
    · obtain ⟨g1, e1, y, rfl⟩ := h
      rw [hlen, List.take_length] at e1
      refine ⟨_, rfl, l, _, rfl, SqL.of e1, fun ns p hq hs np => ?_⟩
      have gp := same_new (o := .lst (ns.map V.int)) np
      refine ⟨p, _, rfl, SqL.of upd_same, fun r o nr hdo => q _ _ ((g1.trans gp).trans (same_new nr)) ⟨r, o, rfl, hdo, ?_⟩⟩
      rw [upd_same, srt_uniq hq hs]
end
end ST
namespace ST
open PySem PySem.Spec PyProof.Rows L2
open Classical
/-- the pairs of neighbours -/
theorem pairs_at : ∀ (bs : List PT), PT.pairs bs = (List.range (bs.length - 1)).map fun i => srt (PT.gs (bs.getD i PT.dft) ++ PT.gs (bs.getD (i + 1) PT.dft))
  | [] => rfl
  | [_] => rfl
  | a :: b :: r => by
    have ih := pairs_at (b :: r)
    have e : (a :: b :: r).length - 1 = ((b :: r).length - 1) + 1 := by simp
    rw [PT.pairs, ih, e, List.range_succ_eq_map, List.map_cons, List.map_map]
    rfl
theorem pairs_len (bs : List PT) : (PT.pairs bs).length = bs.length - 1 := by rw [pairs_at]; simp
/-- no tree makes more than a few parties -/
theorem made_len {t : PT} (w : PT.Wf t) : (PT.made t).length ≤ 3 * (PT.gs t).length := by
  have key : (PT.made t).length + 3 ≤ 3 * (PT.gs t).length := by
    induction t using PT.ind with
    | hl g => simp
    | hn r bs ih =>
      have h2 := w.two
      have wb := w.br
      rw [PT.made_node, PT.gs_node, List.length_cons, List.length_append]
      have hp : (if r = true then PT.pairs bs else []).length ≤ bs.length - 1 := by
        split
        · rw [pairs_len]; omega
        · simp
      have hm : ∀ cs : List PT, (∀ c ∈ cs, c ∈ bs) → (PT.madeL cs).length + 3 * cs.length ≤ 3 * (PT.gsL cs).length := by
        intro cs
        induction cs with
        | nil => intro _; simp
        | cons c cs ihc =>
          intro hc
          have h1 := ih c (hc c (by simp)) (wb c (hc c (by simp)))
          have h3 := ihc fun d hd => hc d (by simp [hd])
          rw [PT.madeL_cons, PT.gsL_cons, List.length_append, List.length_append, List.length_cons]
          omega
      have := hm bs fun _ h => h
      omega
  omega
section
variable {P : Program} {w : World} {K : PySem.W.Frag} {mg : Str → Option Value} {base : Heap}
theorem sc53 : FnScope ["tree", "found", "branch", "pair"] ["tree"] (defScope (topS 53)) := ⟨rfl, rfl, rfl, by decide +kernel, rfl, by decide +kernel, by decide +kernel⟩
def spMade (d : Nat) : Sp := fun vs H Q _ => ∃ (v : V) (t : PT), vs = [v] ∧ Tr H v t ∧ Tg t ∧ t.dp < d ∧ ∀ p H', Same H H' → H p = none → Ls H' p ((PT.made t).map eP) → Q (.ref p) H'
theorem madeL_snoc {bs : List PT} {i : Nat} {b : PT} (h : bs[i]? = some b) : PT.madeL (bs.take (i + 1)) = PT.madeL (bs.take i) ++ PT.made b := by
  have app : ∀ as cs : List PT, PT.madeL (as ++ cs) = PT.madeL as ++ PT.madeL cs := by
    intro as cs
    induction as with
    | nil => simp
    | cons a as ih => rw [List.cons_append, PT.madeL_cons, PT.madeL_cons, ih, List.append_assoc]
  rw [take_snoc h, app]; simp
theorem madeL_take_le (bs : List PT) (i : Nat) : (PT.madeL (bs.take i)).length ≤ (PT.madeL bs).length := by
  have app : ∀ as cs : List PT, (PT.madeL (as ++ cs)).length = (PT.madeL as).length + (PT.madeL cs).length := by
    intro as cs
    induction as with
    | nil => simp
    | cons a as ih => rw [List.cons_append, PT.madeL_cons, PT.madeL_cons, List.length_append, List.length_append, ih]; omega
  have := app (bs.take i) (bs.drop i)
  rw [List.take_append_drop] at this
  omega
theorem cl_made (D : Dfn K mg 53 "made_by") (B : Bt mg) (cL : Cl P w K mg base 1 "is_leaf" ["tree"] spLeaf) (cP : Cl P w K mg base 9 "party_of" ["trees"] spPartyOf) : ∀ d, Cl P w K mg base (d + 10) "made_by" ["tree"] (spMade d)
  | 0 => D.void (fun _ _ _ _ _ _ us hl => match us, hl with | [_], _ => rfl) fun vs H Q E ⟨_, _, _, _, _, h, _⟩ => absurd h (Nat.not_lt_zero _)
  | d + 1 => by
    have cM := cl_made D B cL cP d
    refine D.cl sc53 (fun _ _ _ _ _ _ us hl => match us, hl with | [_], _ => rfl) (fun vs H Q E h => ?_) (fun f cdv A outer s H vs Q E hr h => ?_)
    · obtain ⟨_, _, rfl, _⟩ := h; rfl
    obtain ⟨v, t, rfl, ht, tg, hd, q⟩ := h
    -- the branches' own
    have rest : ∃ tr : TS, PSs (cxOf CX0 P w K mg base ["tree", "found", "branch", "pair"] "made_by" (defScope (topS 53)) f cdv A outer s H E).nox ((defBody (topS 53)).drop 3) tr ∧
        ∀ (r : Bool) (bs : List PT) (a l : Addr) (H1 : Hp) (y2 y3 : Option V), t = .node r bs → v = .ref a → Same H H1 → H l = none → Ls H1 l ((srt (PT.gsL bs) :: (if r then PT.pairs bs else [])).map eP) →
          tr { nx := fun _ H' => Q .non H', rt := Q } [some v, some (.ref l), y2, y3] H1 := by
      refine ⟨_, (pss_cons (ps_for PassesOwn.never rfl (pi_tup (pe_ix ix_tup (pv 0) pe_int (fun _ _ => rfl))) (pg_name (i := 2) sc53.nd rfl (.inl rfl))
          (pss_one (ps_expr (pe_bm PySem.F.plainAttrs_list PySem.F.slot_list_extend PySem.F.type_list_extend mt_extend (pv 1) (pa_cons (pe_cl cM hr (Nat.le_refl _) rfl (pa_cons (pv 2) pa_nil)) pa_nil)))))
        (pss_one (ps_ret (pv 1)))), ?_⟩
      intro r bs a l H1 y2 y3 et ev g1 nl hl
      subst ev et
      obtain ⟨_, b, e, ha, hb⟩ := tr_kids.mp ht
      cases e
      obtain ⟨_, xs, e, hbr, hx⟩ := fz_tup.mp hb
      cases e
      have hlen : xs.length = bs.length := by rw [hx.len, List.length_map]
      have tot : (PT.made (.node r bs)).length ≤ 21 := Nat.le_trans (made_len tg.wf) (by have := tg.z; omega)
      rw [PT.made_node, List.length_cons, List.length_append] at tot
      refine ⟨_, rfl, a, _, _, _, rfl, rfl, .inl (g1.rd ha), rfl, b, rfl, ⟨_, g1.sqT hbr⟩, ?_⟩
      refine for_tup (K := K) (xs := xs) (fun i σ H' => Same H H' ∧ Ls H' l (((srt (PT.gsL bs) :: (if r then PT.pairs bs else [])) ++ PT.madeL (bs.take i)).map eP) ∧ ∃ y2, σ = [some (.ref a), some (.ref l), y2, y3]) ⟨g1, by simpa using hl, _, rfl⟩ (fun j σ H' _ h => h.1.sqT hbr) (fun i x σ H2 hi h => ?_) (fun σ H2 h => ?_)
      · obtain ⟨g2, hl2, y2', rfl⟩ := h
        obtain ⟨c, hci, hxc⟩ := encs_at (hx.same g2) hi
        have hcm := List.mem_of_getElem? hci
        obtain ⟨zs, ez, kz⟩ := hl2
        refine ⟨_, rfl, .inl ⟨rfl, _, SqL.of ez⟩, _, rfl, x, c, rfl, hxc, tg.br c hcm, by have := PT.dp_br (r := r) hcm; omega, fun p H3 g3 np hp => ?_⟩
        delta tNil
        have hle := madeL_take_le bs (i + 1)
        rw [madeL_snoc hci, List.length_append] at hle
        refine ext_fz (Ls.same g3 ⟨zs, ez, kz⟩) hp (by rw [List.length_map, List.length_map, List.length_append, List.length_cons]; omega) fun H' hl' ho => ?_
        refine ⟨same_off (g2.trans g3) nl ho, ?_, _, rfl⟩
        rw [madeL_snoc hci, ← List.append_assoc, List.map_append]
        exact hl'
      · obtain ⟨g2, hl2, y2', rfl⟩ := h
        rw [hlen, List.take_length] at hl2
        refine ⟨_, rfl, q l H2 g2 nl ?_⟩
        rw [PT.made_node]
        exact hl2
    obtain ⟨tr, hrest, hR⟩ := rest
    refine ⟨_, pss_cons (ps_if (pt_val (pe_cl cL hr (by omega) rfl (pa_cons (pv 0) pa_nil))) (pss_one (ps_ret (pe_lst pa_nil))) pss_nil)
      (pss_cons (ps_set (i := 1) sc53.nd rfl (.inl rfl) (pe_lst (pa_cons (pe_cl cP hr (by omega) rfl (pa_cons (pe_lst (pa_cons (pv 0) pa_nil)) pa_nil)) pa_nil)))
      (pss_cons (ps_if (pt_cmpR op_eq (pe_ix ix_tup (pv 0) pe_int (fun _ _ => rfl)) (pe_gs rfl B.ROW) (nomark _))
        (pss_one (ps_expr (pe_bm PySem.F.plainAttrs_list PySem.F.slot_list_extend PySem.F.type_list_extend mt_extend (pv 1) (pa_cons
          (pe_lc (own := [("pair", 3)]) (g := gName 3) (tt := tYes) rfl sc53.nd (pi_zipN rfl B.zip (pa_cons (pe_ix ix_tup (pv 0) pe_int (fun _ _ => rfl)) (pa_cons (pe_slice sl_tupA (pe_ix ix_tup (pv 0) pe_int (fun _ _ => rfl)) (po_some pe_int) po_none) pa_nil))) (blkOk_by (N := ["tree", "found", "branch", "pair"]) (sc := defScope (topS 53)) (by decide +kernel))
            (fun _ _ _ _ _ => pg_name (i := 3) sc53.nd rfl (Or.inl rfl)) (fun _ _ _ _ _ => pts_nil) (fun _ _ _ _ _ => pe_cl cP hr (by omega) rfl (pa_cons (pv 3) pa_nil))) pa_nil)))) pss_nil) hrest)), ?_⟩
    refine ⟨_, rfl, _, t, rfl, ht, _, rfl, ?_⟩
    cases t with
    | leaf g =>
      refine iteT ⟨Nat.zero_le _, fun l nl => q l _ (same_new nl) nl ?_⟩
      rw [PT.made_leaf]
      exact Ls.nil
    | node r bs =>
      refine iteF ?_
      obtain ⟨a, b, rfl, ha, hb⟩ := tr_kids.mp ht
      obtain ⟨_, xs, e', hbr, hx⟩ := fz_tup.mp hb
      cases e'
      have hlen : xs.length = bs.length := by rw [hx.len, List.length_map]
      have hb7 := tg.len
      refine ⟨_, rfl, (by show 1 ≤ sizeLine; decide), fun m nm => ?_⟩
      have gm := same_new (o := .lst [.ref a]) nm
      refine ⟨m, _, [.node r bs], rfl, .inl upd_same, .one (Fz.same gm ht), fun t' ht' => ?_, ?_, fun u H1 g1 hu => ?_⟩
      · simp at ht'; subst ht'; exact tg.dp
      · simp only [PT.gsL_cons, PT.gsL_nil, List.append_nil]; have := tg.z; omega
      have eS : PT.gsL [PT.node r bs] = PT.gsL bs := by simp
      rw [eS] at hu
      refine ⟨(by show 1 ≤ sizeLine; decide), fun l nl => ?_⟩
      have gl := same_new (o := .lst [u]) nl
      have g2 := (gm.trans g1).trans gl
      have nlH : H l = none := none_back (gm.trans g1) nl
      have hl0 : Ls (upd H1 l (.lst [u])) l [eP (srt (PT.gsL bs))] := ⟨_, upd_same, .one (ro_fz.mpr (hu.same gl).ro)⟩
      generalize hH2 : upd H1 l (.lst [u]) = H2 at *
      refine ⟨_, rfl, a, _, _, _, rfl, rfl, .inl (g2.rd ha), rfl, rfl, _, rfl, ?_⟩
      rw [kS_row]
      cases r with
      | false =>
        refine iteF ?_
        exact hR false bs a l H2 _ _ rfl rfl g2 nlH hl0
      | true =>
        refine iteT ?_
        obtain ⟨zs, ez, kz⟩ := id hl0
        refine ⟨_, rfl, .inl ⟨rfl, _, SqL.of ez⟩, ?_⟩
        refine ⟨_, rfl, a, _, _, _, rfl, rfl, .inl (g2.rd ha), rfl, _, rfl, a, _, _, _, rfl, rfl, .inl (g2.rd ha), rfl, 1, rfl, ?_⟩
        delta tNoPart
        refine sl_from_fz (k := 1) (hb.same g2) fun v1 H3 g3 hv1 => ?_
        obtain ⟨b2, ys, rfl, hb2, hy⟩ := fz_tup.mp hv1
        have hyl : ys.length = bs.length - 1 := by rw [hy.len, List.length_drop, List.length_map]
        have g23 := g2.trans g3
        refine ⟨b, b2, xs, ys, rfl, g23.sqT hbr, .inl hb2, fun D nD => ?_⟩
        refine lc_fz1 (walk_zipT (K := K) (a := b) (b := b2) (xs := xs) (ys := ys) (n := bs.length - 1) (by omega)) nD (fun H4 g4 => ⟨(g23.trans g4).sqT hbr, g4.sqT hb2⟩) ypair_same (fun _ => rfl) (fun i => eP (srt (PT.gs (bs.getD i PT.dft) ++ PT.gs (bs.getD (i + 1) PT.dft)))) (by omega) (fun i z H4 H5 H6 hi g4 y' g6 Ky hk => ?_) (fun H4 g4 hL => ?_)
        · obtain ⟨T, x1, x2, rfl, nT, rfl, hx1, hx2⟩ := y'
          have gT := same_new (o := .tup [x1, x2]) nT
          have hx1 : xs[i]? = some x1 := hx1
          have hx2 : ys[i]? = some x2 := hx2
          obtain ⟨c1, hc1, k1⟩ := encs_at hx hx1
          obtain ⟨d2, hd2, k2⟩ := hy.get hx2
          rw [List.getElem?_drop, List.getElem?_map, Nat.add_comm] at hd2
          obtain ⟨c2, hc2, rfl⟩ := Option.map_eq_some_iff.mp hd2
          have gall := (g4.trans gT).trans g6
          have e1 : bs.getD i PT.dft = c1 := by rw [List.getD_eq_getElem?_getD, hc1]; rfl
          have e2 : bs.getD (i + 1) PT.dft = c2 := by rw [List.getD_eq_getElem?_getD, hc2]; rfl
          have m1 := tg.br c1 (List.mem_of_getElem? hc1)
          have m2 := tg.br c2 (List.mem_of_getElem? hc2)
          refine ⟨_, rfl, T, [x1, x2], [c1, c2], rfl, .inr (g6 _ _ upd_same), .cons (k1.same (g23.trans gall)) (.one (k2.same gall)), fun t' ht' => ?_, ?_, fun u' H7 g7 hu' => hk _ _ g7 ?_⟩
          · simp at ht'
            rcases ht' with rfl | rfl
            · exact m1.dp
            · exact m2.dp
          · simp only [PT.gsL_cons, PT.gsL_nil, List.append_nil, List.length_append]; have := m1.z; have := m2.z; omega
          · rw [e1, e2]
            have : PT.gsL [c1, c2] = PT.gs c1 ++ PT.gs c2 := by simp
            rw [this] at hu'
            exact ro_fz.mpr hu'.ro
        rw [gvn_all] at hL
        have eM : (List.range (bs.length - 1)).map (fun i => eP (srt (PT.gs (bs.getD i PT.dft) ++ PT.gs (bs.getD (i + 1) PT.dft)))) = (PT.pairs bs).map eP := by rw [pairs_at, List.map_map]; rfl
        rw [eM] at hL
        delta tNil
        refine ext_fz (Ls.same (g3.trans g4) hl0) hL (by rw [List.length_map, pairs_len]; simp; omega) fun H' hl' ho => ?_
        exact hR true bs a l H' _ _ rfl rfl (same_off (g23.trans g4) nlH ho) nlH hl'
theorem sc54 : FnScope ["n", "tree"] ["n", "tree"] (defScope (topS 54)) := ⟨rfl, rfl, rfl, by decide +kernel, rfl, by decide +kernel, by decide +kernel⟩
def spPartiesBy : Sp := fun vs H Q _ => ∃ (n : Nat) (v : V) (t : PT), vs = [.int (n : Int), v] ∧ Tr H v t ∧ GoodN n t ∧ ∀ p H', Same H H' → Ls H' p ((PT.made t).map eP) → Q (.ref p) H'
theorem cl_partiesBy (D : Dfn K mg 54 "parties_by") (B : Bt mg) (cN : Cl P w K mg base 2 "need_guests" ["n"] spNeedG) (cM : Cl P w K mg base 17 "made_by" ["tree"] (spMade 7)) : Cl P w K mg base 18 "parties_by" ["n", "tree"] spPartiesBy := by
  refine D.cl sc54 (fun _ _ _ _ _ _ us hl => match us, hl with | [_, _], _ => rfl) (fun vs H Q E h => ?_) (fun f cdv A outer s H vs Q E hr h => ?_)
  · obtain ⟨_, _, _, rfl, _⟩ := h; rfl
  obtain ⟨n, v, t, rfl, ht, hg, q⟩ := h
  refine ⟨_, pss_cons (ps_expr (pe_cl cN hr (by omega) rfl (pa_cons (pv 0) pa_nil))) (pss_one (ps_ret (pe_cl cM hr (Nat.le_refl _) rfl (pa_cons (pv 1) pa_nil)))), ?_⟩
  exact ⟨_, rfl, n, rfl, by have := hg.1; omega, by have := hg.2.1; omega, _, rfl, v, t, rfl, ht, hg.tg, hg.dp, fun p H' g _ hp => q p H' g hp⟩
theorem sc55 : FnScope ["n", "one", "other"] ["n", "one", "other"] (defScope (topS 55)) := ⟨rfl, rfl, rfl, by decide +kernel, rfl, by decide +kernel, by decide +kernel⟩
def spBoth : Sp := fun vs H Q _ => ∃ (n : Nat) (v u : V) (t o : PT), vs = [.int (n : Int), v, u] ∧ Tr H v t ∧ Tr H u o ∧ GoodN n t ∧ GoodN n o ∧ ∀ u H', Same H H' → OptT H' u (PT.tightAll t (PT.made o ++ [Rg n])) → Q u H'
theorem cl_both (D : Dfn K mg 55 "both") (B : Bt mg) (cN : Cl P w K mg base 2 "need_guests" ["n"] spNeedG) (cM : Cl P w K mg base 17 "made_by" ["tree"] (spMade 7)) (cA : Cl P w K mg base 29 "tightened_all" ["n", "tree", "parties"] spTAll) : Cl P w K mg base 30 "both" ["n", "one", "other"] spBoth := by
  refine D.cl sc55 (fun _ _ _ _ _ _ us hl => match us, hl with | [_, _, _], _ => rfl) (fun vs H Q E h => ?_) (fun f cdv A outer s H vs Q E hr h => ?_)
  · obtain ⟨_, _, _, _, _, rfl, _⟩ := h; rfl
  obtain ⟨n, v, u, t, o, rfl, ht, ho, hg, hgo, q⟩ := h
  refine ⟨_, pss_cons (ps_expr (pe_cl cN hr (by omega) rfl (pa_cons (pv 0) pa_nil)))
    (pss_one (ps_ret (pe_cl cA hr (Nat.le_refl _) rfl (pa_cons (pv 0) (pa_cons (pv 1) (pa_cons (pe_op op_cat (pe_cl cM hr (by omega) rfl (pa_cons (pv 2) pa_nil)) (pe_lst (pa_cons (pe_tupRg rfl rfl B.tuple (prg_1 rfl B.range (pv 0))) pa_nil))) pa_nil)))))), ?_⟩
  refine ⟨_, rfl, n, rfl, by have := hg.1; omega, by have := hg.2.1; omega, ?_⟩
  have h7 := hg.2.1
  refine ⟨_, rfl, _, rfl, _, rfl, u, o, rfl, ho, hgo.tg, hgo.dp, fun p H1 g1 _ hp => ?_⟩
  refine ⟨_, rfl, _, rfl, RgOk.of_le (by omega) (by omega) (by omega) (by omega), fun l nl => ?_⟩
  rw [rgV_rg]
  have gl := same_new (o := .tup ((Rg n).map V.int)) nl
  refine ⟨(by show 1 ≤ sizeLine; decide), fun m nm => ?_⟩
  have gm := same_new (o := .lst [.ref l]) nm
  have hm : Ls (upd (upd H1 l (.tup ((Rg n).map V.int))) m (.lst [.ref l])) m [eP (Rg n)] := ⟨_, upd_same, .one (ro_fz.mpr ⟨l, rfl, .inl (gm _ _ upd_same)⟩)⟩
  have hlen := made_len hgo.2.2.wf
  have hz := hgo.tg.z
  refine cat_ls (hp.same (gl.trans gm)) hm (by rw [List.length_map]; simp; omega) fun c nc H2 g2 hc => ?_
  have gall := ((g1.trans gl).trans gm).trans g2
  refine ⟨n, v, c, t, PT.made o ++ [Rg n], rfl, ht.same gall, by rw [List.map_append]; exact hc, hg, fun p' hp' => ?_, fun u' H3 g3 hu' => q u' H3 (gall.trans g3) hu'⟩
  rcases List.mem_append.mp hp' with h | h
  · exact (PT.made_ok hgo.2.2.wf p' h).perm hgo.2.2.q
  · simp at h; subst h
    refine ⟨fun e => ?_, fun g hg' => hg'⟩
    have := rg_len n
    rw [e] at this
    have := hg.1
    simp at *; omega
end
end ST
namespace ST
open PySem PySem.Spec PyProof.Rows L2
/-! ### sorted of int tuples, the first of them empty -/
def IsIT (h : Heap) (v : Value) (ns : List Int) : Prop := ∃ a o its n, v = .ref a ∧ h.get? a = some o ∧ o.cls = .type "tuple" ∧ o.data = .seq (List.toArray its) n ∧ IntsAre its ns
theorem IsIT.keeps {h h' : Heap} {v : Value} {ns : List Int} (p : IsIT h v ns) (k : ∀ b o, h.get? b = some o → o.cls = .type "tuple" → h'.get? b = some o) : IsIT h' v ns := by
  obtain ⟨a, o, its, n, e, ho, hc, hd, hi⟩ := p
  exact ⟨a, o, its, n, e, k _ _ ho hc, hc, hd, hi⟩
section
variable {prog : Program} {w : World} {A : Around} {E : Value → Shared → Prop} {s : Shared}
theorem it_lt {v u : Value} {ns ms : List Int} {Q : Bool → Shared → Prop} (hu : A.units < cLine) (hv : IsIT s.heap v ns) (hw : IsIT s.heap u ms) (k : Q (HT.lexLt ns ms) s) : wpAny (model prog w) A (keyLt' oneType' v u) Q E s := by
  obtain ⟨a, o, its, n, rfl, ho, hc, hd, hi⟩ := hv
  obtain ⟨b, o', its', n', rfl, ho', hc', hd', hi'⟩ := hw
  obtain ⟨c1, d1, dat1, sl1⟩ := o
  obtain ⟨c2, d2, dat2, sl2⟩ := o'
  dsimp only at hc hd hc' hd'
  subst hc hd hc' hd'
  rw [keyLt'_oneType, oneLt'_eq]
  simp only [if_true]
  refine wpAny_bind (wpAny_cRoomFor hu ?_)
  have ta : s.TypeIs (.ref a) "tuple" := ⟨_, ho, rfl⟩
  refine wpAny_bind (wpAny_callSpecialIfBound?_slot (name := Str.ofString "__lt__") ta PySem.F.slot_tuple_lt ?_)
  refine call_meets PySem.F.slot_tuple_lt ta PySem.F.entry_tuple_lt (PySem.F.args_tuple_lt_2 _ _) (HT.tuple_lt_ints a b its.toArray its'.toArray n n' d1 d2 sl1 sl2 ns ms (by simpa using hi) (by simpa using hi')) ⟨ho, ho', ?_⟩
  exact wpAny_truthy_bool k
theorem it_cmp {vs : List Value} {k : Value → List Int} (hu : A.units < cLine) (hp : ∀ v ∈ vs, IsIT s.heap v (k v)) : SrtO.Cmp prog w A s oneType' (fun p => p.1 ∈ vs) (SrtO.lt2 fun v u => HT.lexLt (k v) (k u)) :=
  fun p q hm hm' => it_lt (Q := fun r s' => s' = s ∧ r = HT.lexLt (k p.1) (k q.1)) hu (hp _ hm) (hp _ hm') ⟨rfl, rfl⟩
theorem it_first {v : Value} {ns : List Int} {Q : Option Value → Shared → Prop} (hv : IsIT s.heap v ns) (k : ∀ r, (ns = [] → r = none) → Q r s) : wpAny (model prog w) A (firstOfTuple' v) Q E s := by
  obtain ⟨a, o, its, n, rfl, ho, hc, hd, hi⟩ := hv
  rw [PySem.W.kas_first_eq]
  refine wpAny_bind (wpAny_typeOf (T := "tuple") ⟨o, ho, hc⟩ ?_)
  rw [if_neg (by first | decide | simp)]
  refine wpAny_bind (listItems_at ho hd (wpAny_pure (k _ fun e => ?_)))
  subst e
  cases hi
  rfl
theorem it_firsts {k : Value → List Int} : ∀ {vs : List Value} {Q : List (Option Value) → Shared → Prop}, (∀ v ∈ vs, IsIT s.heap v (k v)) → (∀ rs : List (Option Value), (∀ v r, vs.head? = some v → rs.head? = some r → k v = [] → r = none) → rs.length = vs.length → Q rs s) → wpAny (model prog w) A (vs.mapM firstOfTuple') Q E s
  | [], _, _, q => by rw [List.mapM_nil]; exact wpAny_pure (q [] (fun v r h => by simp at h) rfl)
  | v :: vs, Q, hp, q => by
    rw [List.mapM_cons]
    refine wpAny_bind (it_first (hp v (by simp)) fun r hr => wpAny_bind (it_firsts (k := k) (vs := vs) (fun u hu => hp u (by simp [hu])) fun rs _ hl => wpAny_pure (q _ (fun v' r' h1 h2 h3 => ?_) (by simp [hl]))))
    simp at h1 h2
    subst h1 h2
    exact hr h3
theorem it_kind {k : Value → List Int} {v : Value} {vs : List Value} {Q : SortKind → Shared → Prop} (hp : ∀ u ∈ v :: vs, IsIT s.heap u (k u)) (h0 : k v = []) (q : Q oneType' s) : wpAny (model prog w) A (keyKind' (v :: vs).toArray) Q E s := by
  rw [keyKind'_eq, List.mapM_toArray, map_eq_pure_bind]
  refine wpAny_bind (wpAny_bind (it_firsts hp fun rs hr hl => wpAny_pure ?_))
  obtain ⟨r, rest, rfl⟩ : ∃ r rest, rs = r :: rest := by
    cases rs with
    | nil => simp at hl
    | cons r rest => exact ⟨r, rest, rfl⟩
  have : r = none := hr v r rfl rfl h0
  subst this
  rw [if_neg (by simp), if_neg (by simp)]
  rw [oneTypeOnly'_eq, List.mapM_toArray, map_eq_pure_bind]
  refine wpAny_bind (wpAny_bind (wpAny_bind (PySem.W.kas_mapM (r := Value.type "tuple") _ (fun u hu Q' hq => ?_) (wpAny_pure ?_))))
  · obtain ⟨a, o, its, n, rfl, ho, hc, hd, hi⟩ := hp u hu
    exact wpAny_typeOf (T := "tuple") ⟨o, ho, hc⟩ hq
  · have h2 : (List.map (fun _ => Value.type "tuple") (v :: vs)).toArray[0]? = some (Value.type "tuple") := by simp
    rw [h2]
    have h3 : ((List.map (fun _ => Value.type "tuple") (v :: vs)).toArray.all fun x => x == Value.type "tuple") = true := by
      simp only [List.all_toArray, List.all_map, List.all_eq_true]
      intro _ _
      show (Value.type "tuple" == Value.type "tuple") = true
      first | rfl | decide
    simp only [h3, if_true]
    exact wpAny_pure (wpAny_pure q)
theorem its_sortable {a : Addr} {v : Value} {vs : List Value} {k : Value → List Int} (hu : A.units < cLine) (hp : ∀ u ∈ v :: vs, IsIT s.heap u (k u)) (h0 : k v = []) (ha : ∀ o, s.heap.get? a = some o → o.cls ≠ .type "tuple") : SrtO.SortableO prog w A s a (v :: vs) fun v u => HT.lexLt (k v) (k u) := by
  intro h' keep
  have hp' : ∀ u ∈ v :: vs, IsIT h' u (k u) := fun u hm => (hp u hm).keeps fun b o e c => keep b o (fun z => by subst z; exact ha o e c) e
  exact ⟨oneType', fun Q E hq => it_kind (s := { s with heap := h' }) hp' h0 hq, it_cmp (s := { s with heap := h' }) hu hp'⟩
end
/-- the row at a value -/
def rOf (H : Hp) : V → List V
  | .ref a => match H a with
    | some (.tup xs) => xs
    | some (.frz _ (.tup xs)) => xs
    | _ => []
  | _ => []
def iOf : V → Int
  | .int i => i
  | _ => 0
theorem rOf_ro {H : Hp} {v : V} {p : List Int} (h : Ro H v p) : (rOf H v).map iOf = p := by
  obtain ⟨a, rfl, ha | ⟨o, ha⟩⟩ := h
  · simp only [rOf, ha, List.map_map]
    have : (iOf ∘ V.int) = id := rfl
    rw [this, List.map_id]
  · simp only [rOf, ha, List.map_map]
    have : (iOf ∘ V.int) = id := rfl
    rw [this, List.map_id]
def rSorted0 (K : PySem.W.Frag) : List V → Hp → VK → Prop := fun vs H Q => ∃ (a : Addr) (xs : List V) (ps : List (List Int)), vs = [.ref a] ∧ SqL K H a xs ∧ FzL H xs (([] :: ps).map eP) ∧ (∀ p ∈ ps, p ≠ []) ∧
  ∀ (ys : List V) (qs : List (List Int)) (p : Addr), FzL H ys (([] :: qs).map eP) → qs.Perm ps → H p = none → Q (.ref p) (upd H p (.lst ys))
theorem cr_sorted0 {X : Cx} (hu : X.A.units + 64 < cLine) : CallR X (.builtin "sorted") (rSorted0 X.K) := by
  intro pins s σ H vs us Q I rv ⟨a, xs, ps, ev, hs, kp, hne, q⟩
  subst ev
  obtain ⟨its, rx, hl, hz⟩ := I.list hs
  obtain ⟨u, rfl, ru⟩ := vals1 rv
  cases ru
  have hx : ∀ x ∈ xs, ∃ p ∈ ([] :: ps), Ro H x p := fun x hx => by
    obtain ⟨i, hi⟩ := List.mem_iff_getElem?.mp hx
    obtain ⟨p, hp, hf⟩ := rows_at kp hi
    exact ⟨p, List.mem_of_getElem? hp, hf⟩
  obtain ⟨e1, e2⟩ := refs_back rx fun x m => by
    obtain ⟨p, _, b, e, _⟩ := hx x m
    exact ⟨b, e⟩
  have hil := rx.length
  let k : Value → List Int := fun v => (rOf H (backV v)).map iOf
  have hp : ∀ v ∈ its, IsIT s.heap v (k v) := fun v hv => by
    obtain ⟨t, rfl⟩ := e2 v hv
    have hm : V.ref t ∈ xs := by rw [e1]; exact List.mem_map.mpr ⟨_, hv, rfl⟩
    obtain ⟨p, _, hf⟩ := hx _ hm
    have ek : k (.ref t) = p := rOf_ro hf
    rw [ek]
    obtain ⟨b, e, hb⟩ := hf
    cases e
    obtain ⟨its2, r2, ⟨o, ho, hc, n, hd⟩, _⟩ := I.tuple (X := X) (.inl hb)
    exact ⟨t, o, its2, n, rfl, ho, hc, hd, r2.ints⟩
  cases kp with
  | @cons x0 xs' _ _ k0 kr =>
    cases rx with
    | @cons _ v0 _ its' r0 rr =>
      have hk0 : k v0 = [] := by
        obtain ⟨b, rfl, _⟩ := ro_fz.mp k0
        have : v0 = .ref b := by cases r0; rfl
        subst this
        exact rOf_ro (ro_fz.mp k0)
      refine SrtO.sorted_ord (NtL.swo_lexL k) hl.isList (by rw [← hil]; exact hz) (fun h2 h₁ a' ha' kk => ?_) fun out h1 h2 => ?_
      · refine its_sortable (s := { s with heap := h₁ }) (by show X.A.units + 1 + 1 < _; omega) (fun v hm => (hp v hm).keeps fun b o e _ => (kk b o e).2) hk0 fun o e => ?_
        have e' : some o = some (seqObj "list" (v0 :: its').toArray 0) := e.symm.trans ha'
        cases e'
        intro c
        exact absurd (Value.type.inj c) (by decide)
      · have h3 : ∀ u ∈ out, ∃ a, u = Value.ref a := fun u hu => e2 u (h2.perm.mem_iff.mp hu)
        obtain ⟨ep, he'⟩ := PyProof.Rows.sortedAll_at s.heap (v0 :: its') out.toArray
        have hb : (out.map backV).Perm (x0 :: xs') := by rw [e1]; exact h2.perm.map _
        -- the rows of what came out
        have fz : ∀ y ∈ out.map backV, Fz H y (eP ((rOf H y).map iOf)) := fun y hy => by
          obtain ⟨p, _, hf⟩ := hx y (hb.mem_iff.mp hy)
          rw [rOf_ro hf]; exact ro_fz.mpr hf
        have fzl : ∀ l : List V, (∀ y ∈ l, Fz H y (eP ((rOf H y).map iOf))) → FzL H l ((l.map fun y => (rOf H y).map iOf).map eP) := by
          intro l
          induction l with
          | nil => intro _; exact .nil
          | cons y l ih => intro h; exact .cons (h y (by simp)) (ih fun z hz => h z (by simp [hz]))
        have eqs : (x0 :: xs').map (fun y => (rOf H y).map iOf) = [] :: ps := by
          have : ∀ (l : List V) (qs : List (List Int)), FzL H l (qs.map eP) → l.map (fun y => (rOf H y).map iOf) = qs := by
            intro l qs
            induction qs generalizing l with
            | nil => intro h; cases h; rfl
            | cons q qs ih => intro h; cases h with | cons a b => rw [List.map_cons, rOf_ro (ro_fz.mp a), ih _ b]
          exact this _ _ (.cons k0 kr)
        have hperm : ((out.map backV).map fun y => (rOf H y).map iOf).Perm ([] :: ps) := by rw [← eqs]; exact hb.map _
        have hsrt : ((out.map backV).map fun y => (rOf H y).map iOf).Pairwise fun p q => HT.lexLt q p = false := by
          rw [List.pairwise_map, List.pairwise_map]
          exact h1
        have hfz := fzl _ fz
        generalize ((out.map backV).map fun y => (rOf H y).map iOf) = rs at hperm hsrt hfz
        obtain ⟨qs, rfl⟩ : ∃ qs, rs = [] :: qs := by
          cases rs with
          | nil => have := hperm.length_eq; simp at this
          | cons r qs =>
            have hm : [] ∈ r :: qs := hperm.mem_iff.mpr (by simp)
            rcases List.mem_cons.mp hm with h | h
            · exact ⟨qs, by rw [← h]⟩
            · have := (List.pairwise_cons.mp hsrt).1 [] h
              cases r with
              | nil => exact ⟨qs, rfl⟩
              | cons x r => rw [HT.lexLt_nil_cons] at this; cases this
        exact ⟨.ref _, upd H (s.heap.objs.size + 1) (.lst (out.map backV)), I.laid (t' := s.toks) (fun _ _ => PyProof.Rows.sortedAll_old) (Nat.le_succ _) ⟨by rw [hb.length_eq]; exact hz, out, ep, vals_back h3, he'⟩, rfl, q _ qs _ hfz (List.perm_cons [] |>.mp hperm) (I.hok.fresh (Nat.le_succ _))⟩
end ST
namespace ST
open PySem PySem.Spec PyProof.Rows L2
open Classical
/-! ### all parties of n guests -/
def subs : Nat → List (List Int)
  | 0 => [[]]
  | n + 1 => subs n ++ (subs n).map fun p => p ++ [(n : Int)]
theorem subs_head : ∀ n, ∃ r, subs n = [] :: r ∧ ∀ p ∈ r, p ≠ []
  | 0 => ⟨[], rfl, fun p h => by simp at h⟩
  | n + 1 => by
    obtain ⟨r, e, h⟩ := subs_head n
    refine ⟨r ++ (subs n).map fun p => p ++ [(n : Int)], by rw [subs, e]; rfl, fun p hp => ?_⟩
    rcases List.mem_append.mp hp with hp | hp
    · exact h p hp
    · obtain ⟨q, _, rfl⟩ := List.mem_map.mp hp
      simp
theorem subs_rg : ∀ n, ∀ p ∈ subs n, p.Pairwise (· < ·) ∧ (∀ g ∈ p, g ∈ Rg n) ∧ p.length ≤ n
  | 0 => fun p h => by simp [subs] at h; subst h; exact ⟨.nil, fun g h => by simp at h, by simp⟩
  | n + 1 => fun p h => by
    rw [subs] at h
    rcases List.mem_append.mp h with h | h
    · obtain ⟨h1, h2, h3⟩ := subs_rg n p h
      exact ⟨h1, fun g hg => by have := mem_rg.mp (h2 g hg); exact mem_rg.mpr (by omega), by omega⟩
    · obtain ⟨q, hq, rfl⟩ := List.mem_map.mp h
      obtain ⟨h1, h2, h3⟩ := subs_rg n q hq
      refine ⟨List.pairwise_append.mpr ⟨h1, by simp, fun a ha b hb => ?_⟩, fun g hg => ?_, by simp; omega⟩
      · simp at hb; subst hb; exact (mem_rg.mp (h2 a ha)).2
      · rcases List.mem_append.mp hg with hg | hg
        · have := mem_rg.mp (h2 g hg); exact mem_rg.mpr (by omega)
        · simp at hg; subst hg; exact mem_rg.mpr (by omega)
theorem subs_all : ∀ n (p : List Int), p.Pairwise (· < ·) → (∀ g ∈ p, g ∈ Rg n) → p ∈ subs n
  | 0, p, _, h => by
    cases p with
    | nil => simp [subs]
    | cons g p => have := mem_rg.mp (h g (by simp)); omega
  | n + 1, p, hp, h => by
    rw [subs]
    by_cases hn : (n : Int) ∈ p
    · refine List.mem_append_right _ ?_
      rcases List.eq_nil_or_concat p with rfl | ⟨q, z, rfl⟩
      · simp at hn
      rw [List.concat_eq_append] at *
      obtain ⟨h1, _, h3⟩ := List.pairwise_append.mp hp
      have hz := mem_rg.mp (h z (by simp))
      have ez : z = (n : Int) := by
        rcases List.mem_append.mp hn with hn | hn
        · have := h3 _ hn z (by simp); omega
        · simp at hn; exact hn.symm
      subst ez
      refine List.mem_map.mpr ⟨q, subs_all n q h1 fun g hg => ?_, rfl⟩
      have a1 := h3 g hg (n : Int) (by simp)
      have a2 := mem_rg.mp (h g (by simp [hg]))
      exact mem_rg.mpr ⟨a2.1, a1⟩
    · refine List.mem_append_left _ (subs_all n p hp fun g hg => ?_)
      have a := mem_rg.mp (h g hg)
      refine mem_rg.mpr ⟨a.1, ?_⟩
      have : g ≠ (n : Int) := fun e => hn (e ▸ hg)
      omega
theorem subs_len : ∀ n, (subs n).length = 2 ^ n
  | 0 => rfl
  | n + 1 => by rw [subs, List.length_append, List.length_map, subs_len n, Nat.pow_succ]; omega
section
variable {P : Program} {w : World} {K : PySem.W.Frag} {mg : Str → Option Value} {base : Heap}
theorem sc56 : FnScope ["n", "found", "guest", "party"] ["n"] (defScope (topS 56)) := ⟨rfl, rfl, rfl, by decide +kernel, rfl, by decide +kernel, by decide +kernel⟩
/-- the parties that are asked of n guests -/
def AllP (n : Nat) (qs : List (List Int)) : Prop := (∀ q ∈ qs, PT.POk (Rg n) q) ∧ (∀ p : List Int, p.Pairwise (· < ·) → PT.POk (Rg n) p → p ∈ qs) ∧ qs.length ≤ 128
def spAllP : Sp := fun vs H Q _ => ∃ (n : Nat), vs = [.int (n : Int)] ∧ n ≤ 7 ∧ ∀ p H' (qs : List (List Int)), Same H H' → Ls H' p (qs.map eP) → AllP n qs → Q (.ref p) H'
theorem cl_allP (D : Dfn K mg 56 "all_parties") (B : Bt mg) : Cl P w K mg base 1 "all_parties" ["n"] spAllP := by
  refine D.cl sc56 (fun _ _ _ _ _ _ us hl => match us, hl with | [_], _ => rfl) (fun vs H Q E h => ?_) (fun f cdv A outer s H vs Q E hr h => ?_)
  · obtain ⟨_, rfl, _⟩ := h; rfl
  obtain ⟨n, rfl, h7, q⟩ := h
  refine ⟨_, pss_cons (ps_set (i := 1) sc56.nd rfl (.inl rfl) (pe_lst (pa_cons (pe_tup pa_nil) pa_nil)))
    (pss_cons (ps_for PassesOwn.never rfl (pi_range1 rfl B.range (pa_cons (pv 0) pa_nil)) (pg_name (i := 2) sc56.nd rfl (.inr rfl))
      (pss_one (ps_set (i := 1) sc56.nd rfl (.inl rfl) (pe_op op_cat (pv 1) (pe_lc (own := [("party", 3)]) (g := gName 3) (tt := tYes) (te := tOp (rCatA K) (tVar 3) (tTup (tCons (tVar 2) tNil))) rfl sc56.nd (pi_list (pv 1)) (blkOk_by (N := ["n", "found", "guest", "party"]) (sc := defScope (topS 56)) (by decide +kernel))
          (fun _ _ _ _ _ => pg_name (i := 3) sc56.nd rfl (Or.inl rfl)) (fun _ _ _ _ _ => pts_nil) (fun _ _ _ _ _ => pe_op op_catA (pv 3) (pe_tup (pa_cons (pv 2) pa_nil))))))))
    (pss_one (ps_ret (pe_slice sl_list (pe_callB (cr_sorted0 hr.units) rfl B.sorted (by decide +kernel) (pa_cons (pv 1) pa_nil)) (po_some pe_int) po_none)))), ?_⟩
  refine ⟨Nat.zero_le _, fun t nt => ⟨(by show 1 ≤ sizeLine; decide), fun l nl => ?_⟩⟩
  have gt := same_new (o := .tup []) nt
  have gl := same_new (o := .lst [.ref t]) nl
  refine ⟨_, rfl, _, rfl, by omega, by omega, ?_⟩
  have en : ((n : Int)).toNat = n := by omega
  rw [en]
  refine for_range (lo := 0) (n := n) (fun i σ H' => Same H H' ∧ ∃ l' y, Ls H' l' ((subs i).map eP) ∧ σ = [some (.int (n : Int)), some (.ref l'), y, none]) ⟨gt.trans gl, l, _, ⟨_, upd_same, .one (.tup (gl.rd (.inl upd_same)) .nil)⟩, rfl⟩ (fun i σ H1 hi h => ?_) (fun σ H1 h => ?_)
  · obtain ⟨g1, l', y, hl, rfl⟩ := h
    have e0 : (0 : Int) + ((i : Nat) : Int) = (i : Int) := by omega
    rw [e0]
    obtain ⟨xs, ex, kx⟩ := id hl
    have hxl : xs.length = (subs i).length := by rw [kx.len, List.length_map]
    have hsl : (subs i).length ≤ 128 := by
      rw [subs_len]
      exact Nat.le_trans (Nat.pow_le_pow_right (by decide) (show i ≤ 7 by omega)) (by decide)
    refine ⟨_, rfl, _, rfl, l', rfl, ⟨_, SqL.of ex⟩, fun D nD => ?_⟩
    refine lc_fz1 (walk_list (K := K) (a := l') (xs := xs)) nD (fun H2 g2 => g2.sqL (SqL.of ex)) yat_same (fun _ => rfl) (fun j => ((subs i)[j]?.map fun p => eP (p ++ [(i : Int)])).getD .none) (by omega) (fun j z H2 H3 H4 hj g2 y' g3 Ky hk => ?_) (fun H2 g2 hD => ?_)
    · obtain ⟨rfl, hz⟩ := y'
      obtain ⟨d, hd, hf⟩ := kx.get hz
      rw [List.getElem?_map] at hd
      obtain ⟨p, hp, rfl⟩ := Option.map_eq_some_iff.mp hd
      have hpl := (subs_rg i p (List.mem_of_getElem? hp)).2.2
      refine ⟨_, rfl, _, rfl, (by show 1 ≤ sizeLine; decide), fun u nu => ?_⟩
      have gu := same_new (o := .tup [.int (i : Int)]) nu
      refine cat_fz ((hf.same (g2.trans g3)).same gu) (.tup (.inl upd_same) (.one (.int (i : Int)))) (by rw [List.length_map]; simp; omega) fun v H5 g5 hv => hk v H5 (gu.trans g5) ?_
      rw [hp]
      show Fz H5 v (eP (p ++ [(i : Int)]))
      unfold eP
      rw [List.map_append]; exact hv
    rw [hxl, gvn_list] at hD
    have eM : (subs i).map (fun p => eP (p ++ [(i : Int)])) = ((subs i).map fun p => p ++ [(i : Int)]).map eP := by rw [List.map_map]; rfl
    rw [eM] at hD
    refine cat_ls (hl.same g2) hD (by rw [List.length_map, List.length_map, List.length_map]; omega) fun c nc H3 g3 hc => ?_
    refine ⟨(g1.trans g2).trans g3, c, _, ?_, rfl⟩
    rw [subs, List.map_append]; exact hc
  · obtain ⟨g1, l', y, ⟨xs, ex, kx⟩, rfl⟩ := h
    obtain ⟨r, er, hr'⟩ := subs_head n
    have hsl : (subs n).length ≤ 128 := by
      rw [subs_len]
      exact Nat.le_trans (Nat.pow_le_pow_right (by decide) h7) (by decide)
    rw [er] at kx
    refine ⟨_, rfl, l', xs, r, rfl, SqL.of ex, kx, hr', fun ys qs p hys hq np => ?_⟩
    have gp := same_new (o := .lst ys) np
    refine ⟨1, rfl, ?_⟩
    delta tNoPart
    refine ⟨p, ys, rfl, SqL.of upd_same, fun c nc => ?_⟩
    have gc := same_new (o := .lst (cutV ys (some 1) none)) nc
    refine q c _ qs ((g1.trans gp).trans gc) ⟨_, upd_same, ?_⟩ ⟨fun z hz => ?_, fun z h1 h2 => ?_, ?_⟩
    · have k1 := (((hys.same gp).same gc).drop 1)
      rw [cut_from1] at k1 ⊢
      exact k1
    · have hm := hq.mem_iff.mp hz
      exact ⟨hr' z hm, (subs_rg n z (by rw [er]; simp [hm])).2.1⟩
    · have hm := subs_all n z h1 h2.2
      rw [er] at hm
      rcases List.mem_cons.mp hm with h | h
      · exact absurd h h2.1
      · exact hq.mem_iff.mpr h
    · rw [hq.length_eq]
      rw [er] at hsl
      simp at hsl; omega
theorem sc57 : FnScope ["n", "tree", "party"] ["n", "tree"] (defScope (topS 57)) := ⟨rfl, rfl, rfl, by decide +kernel, rfl, by decide +kernel, by decide +kernel⟩
noncomputable def holdsB (t : PT) (p : List Int) : Bool := decide (PT.tight p t = some (PT.least t).2)
def spKept : Sp := fun vs H Q _ => ∃ (n : Nat) (v : V) (t : PT), vs = [.int (n : Int), v] ∧ Tr H v t ∧ GoodN n t ∧ ∀ p H' (qs : List (List Int)), Same H H' → Ls H' p ((qs.filter (holdsB t)).map eP) → AllP n qs → Q (.ref p) H'
theorem cl_kept (D : Dfn K mg 57 "kept_parties") (B : Bt mg) (cN : Cl P w K mg base 2 "need_guests" ["n"] spNeedG) (cA : Cl P w K mg base 1 "all_parties" ["n"] spAllP) (cH : Cl P w K mg base 29 "holds_in" ["n", "tree", "party"] spHolds) : Cl P w K mg base 30 "kept_parties" ["n", "tree"] spKept := by
  refine D.cl sc57 (fun _ _ _ _ _ _ us hl => match us, hl with | [_, _], _ => rfl) (fun vs H Q E h => ?_) (fun f cdv A outer s H vs Q E hr h => ?_)
  · obtain ⟨_, _, _, rfl, _⟩ := h; rfl
  obtain ⟨n, v, t, rfl, ht, hg, q⟩ := h
  refine ⟨_, pss_cons (ps_expr (pe_cl cN hr (by omega) rfl (pa_cons (pv 0) pa_nil)))
    (pss_one (ps_ret (pe_lc (own := [("party", 2)]) (g := gName 2) (te := tVar 2) rfl sc57.nd (pi_list (pe_cl cA hr (by omega) rfl (pa_cons (pv 0) pa_nil))) (blkOk_by (N := ["n", "tree", "party"]) (sc := defScope (topS 57)) (by decide +kernel))
          (fun _ _ _ _ _ => pg_name (i := 2) sc57.nd rfl (Or.inl rfl)) (fun _ _ _ _ _ => pts_one (pt_val (pe_cl cH hr (Nat.le_refl _) rfl (pa_cons (pv 0) (pa_cons (pv 1) (pa_cons (pv 2) pa_nil)))))) (fun _ _ _ _ _ => pv 2)))), ?_⟩
  refine ⟨_, rfl, n, rfl, by have := hg.1; omega, by have := hg.2.1; omega, _, rfl, n, rfl, hg.2.1, fun a H1 qs g1 ha hA => ?_⟩
  obtain ⟨xs, ea, kx⟩ := ha
  have hxl : xs.length = qs.length := by rw [kx.len, List.length_map]
  refine ⟨a, rfl, ⟨_, SqL.of ea⟩, fun D nD => ?_⟩
  refine lc_fz (walk_list (K := K) (a := a) (xs := xs)) nD (fun H2 g2 => g2.sqL (SqL.of ea)) yat_same (fun _ => rfl) (fun i => (qs[i]?.map (holdsB t)).getD false) (fun i => (qs[i]?.map eP).getD .none) (by have := hA.2.2; omega) (fun i z H2 H3 hi g2 y' Kb hk => ?_) (fun i z H2 H3 H4 hi hf g2 y' g3 Ky hk => ?_) (fun H2 g2 hD => ?_)
  · obtain ⟨rfl, hz⟩ := y'
    obtain ⟨p, hp, hzp⟩ := rows_at (kx.same g2) hz
    refine ⟨_, rfl, _, rfl, _, rfl, n, v, z, t, p, rfl, ht.same (g1.trans g2), hzp, hg, hA.1 p (List.mem_of_getElem? hp), fun H4 g4 => ?_⟩
    refine ⟨_, rfl, ?_⟩
    have : decide (PT.tight p t = some (PT.least t).2) = (qs[i]?.map (holdsB t)).getD false := by rw [hp]; rfl
    rw [this]
    exact hk _ g4
  · obtain ⟨rfl, hz⟩ := y'
    obtain ⟨p, hp, hzp⟩ := rows_at (kx.same (g2.trans g3)) hz
    refine ⟨_, rfl, hk _ _ (Same.refl _) ?_⟩
    rw [hp]; exact ro_fz.mpr hzp
  · rw [hxl, gvn_filter] at hD
    exact q D H2 qs (g1.trans g2) hD hA
end
end ST
namespace ST
open PySem PySem.Spec PyProof.Rows L2
/-! ### the drawn numbers -/
def St (H : Hp) (st : Addr) : Prop := ∃ (c : Int) (b : Bool), H st = some (.lst [.int c, .bl b]) ∧ (b = false → 0 ≤ c ∧ c < 2147483647)
structure Md (st : Addr) (H H' : Hp) : Prop where
  old : ∀ b u, b ≠ st → H b = some u → H' b = some u
  stt : St H' st
theorem Md.refl {st : Addr} {H : Hp} (h : St H st) : Md st H H := ⟨fun _ _ _ e => e, h⟩
theorem Md.trans {st : Addr} {H H1 H' : Hp} (a : Md st H H1) (b : Md st H1 H') : Md st H H' := ⟨fun x u n e => b.old x u n (a.old x u n e), b.stt⟩
theorem St.same {st : Addr} {H H' : Hp} (g : Same H H') (h : St H st) : St H' st := by
  obtain ⟨c, b, e, k⟩ := h; exact ⟨c, b, g _ _ e, k⟩
theorem Md.of {st : Addr} {H H' : Hp} (h : St H st) (g : Same H H') : Md st H H' := ⟨fun b u _ e => g b u e, h.same g⟩
theorem Md.then {st : Addr} {H H1 H' : Hp} (a : Md st H H1) (g : Same H1 H') : Md st H H' := a.trans (.of a.stt g)
theorem St.ne {st a : Addr} {H : Hp} {u : HO} (h : St H st) (e : H a = some u) (n : ∀ xs, u ≠ .lst xs) : a ≠ st := by
  obtain ⟨c, b, e', _⟩ := h
  exact fun z => by subst z; rw [e] at e'; cases e'; exact n _ rfl
theorem Md.rd {st a : Addr} {H H' : Hp} {xs : List V} (m : Md st H H') (h : St H st) (k : Rd H a (.tup xs)) : Rd H' a (.tup xs) := by
  rcases k with k | ⟨o, k⟩
  · exact .inl (m.old _ _ (h.ne k fun _ z => by cases z) k)
  · exact .inr ⟨o, m.old _ _ (h.ne k fun _ z => by cases z) k⟩
theorem Md.tu {st : Addr} {H H' : Hp} (m : Md st H H') (h : St H st) : Tu H H' := fun a xs k => m.rd h k
theorem Md.ls {st a : Addr} {H H' : Hp} {ds : List PyData} (m : Md st H H') (h : St H st) (n : a ≠ st) (k : Ls H a ds) : Ls H' a ds := by
  obtain ⟨xs, e, k⟩ := k
  exact ⟨xs, m.old _ _ n e, k.tu (m.tu h)⟩
theorem Md.rod {st : Addr} {H H' : Hp} {v : V} {r : List Int} (m : Md st H H') (h : St H st) (k : RoD H v r) : RoD H' v r := by
  obtain ⟨a, o, e, d, k⟩ := k
  exact ⟨a, o, e, d, m.old _ _ (h.ne k fun _ z => by cases z) k⟩
theorem Md.same0 {st : Addr} {H0 H H' : Hp} (g : Same H0 H) (n : H0 st = none) (m : Md st H H') : Same H0 H' := fun b u e => m.old b u (ne_of_none e n) (g b u e)
theorem St.none {st p : Addr} {H : Hp} (h : St H st) (n : H p = Option.none) : p ≠ st := by
  obtain ⟨c, b, e, _⟩ := h
  exact fun z => by subst z; rw [n] at e; cases e
section
variable {P : Program} {w : World} {K : PySem.W.Frag} {mg : Str → Option Value} {base : Heap}
theorem sc59 : FnScope ["script", "k"] ["script", "k"] (defScope (topS 59)) := ⟨rfl, rfl, rfl, by decide +kernel, rfl, by decide +kernel, by decide +kernel⟩
def spCell (K : PySem.W.Frag) : Sp := fun vs H Q _ => ∃ (a : Addr) (ns : List Int) (k : Nat), vs = [.ref a, .int (k : Int)] ∧ SqL K H a (ns.map V.int) ∧ ∀ c : Int, Q (.int c) H
theorem cl_cell (D : Dfn K mg 59 "_law_cell_at") (B : Bt mg) : Cl P w K mg base 1 "_law_cell_at" ["script", "k"] (spCell K) := by
  refine D.cl sc59 (fun _ _ _ _ _ _ us hl => match us, hl with | [_, _], _ => rfl) (fun vs H Q E h => ?_) (fun f cdv A outer s H vs Q E hr h => ?_)
  · obtain ⟨_, _, _, rfl, _⟩ := h; rfl
  obtain ⟨a, ns, k, rfl, hs, q⟩ := h
  refine ⟨_, pss_cons (ps_if (pt_cmpR op_lt (pv 1) (pe_callB call_len_seq rfl B.len PySem.boot_len (pa_cons (pv 0) pa_nil)) (nomark _)) (pss_one (ps_ret (pe_ix ix_list (pv 0) (pv 1) (fun _ _ => rfl)))) pss_nil) (pss_one (ps_ret pe_int)), ?_⟩
  refine ⟨_, rfl, _, rfl, a, _, rfl, .inl hs, _, _, rfl, rfl, _, rfl, ?_⟩
  by_cases h : k < (ns.map V.int).length
  · rw [decide_eq_true (by omega)]
    have hk : k < ns.length := by rwa [List.length_map] at h
    exact iteT ⟨_, rfl, _, rfl, a, _, _, _, rfl, rfl, hs, atI_nat (by rw [List.getElem?_map, List.getElem?_eq_getElem hk]; rfl), q _⟩
  · rw [decide_eq_false (by omega)]
    exact iteF (q 0)
theorem sc60 : FnScope ["script", "k", "cell"] ["script", "k"] (defScope (topS 60)) := ⟨rfl, rfl, rfl, by decide +kernel, rfl, by decide +kernel, by decide +kernel⟩
def spState (K : PySem.W.Frag) : Sp := fun vs H Q _ => ∃ (a : Addr) (ns : List Int) (k : Nat), vs = [.ref a, .int (k : Int)] ∧ SqL K H a (ns.map V.int) ∧ ∀ p H', Same H H' → H p = none → St H' p → Q (.ref p) H'
theorem cl_state (D : Dfn K mg 60 "_law_state") (B : Bt mg) (cC : Cl P w K mg base 1 "_law_cell_at" ["script", "k"] (spCell K)) : Cl P w K mg base 2 "_law_state" ["script", "k"] (spState K) := by
  refine D.cl sc60 (fun _ _ _ _ _ _ us hl => match us, hl with | [_, _], _ => rfl) (fun vs H Q E h => ?_) (fun f cdv A outer s H vs Q E hr h => ?_)
  · obtain ⟨_, _, _, rfl, _⟩ := h; rfl
  obtain ⟨a, ns, k, rfl, hs, q⟩ := h
  refine ⟨_, pss_cons (ps_set (i := 2) sc60.nd rfl (.inl rfl) (pe_cl cC hr (Nat.le_refl _) rfl (pa_cons (pv 0) (pa_cons (pv 1) pa_nil))))
    (pss_cons (ps_if (pt_cmpR op_ge (pv 2) (pe_op op_pow pe_int pe_int) (nomark _)) (pss_one (ps_ret (pe_lst (pa_cons (pe_op op_sub (pv 2) (pe_op op_pow pe_int pe_int)) (pa_cons pe_bl pa_nil))))) pss_nil)
    (pss_one (ps_ret (pe_lst (pa_cons (pe_op op_mod (pv 2) pe_int) (pa_cons pe_bl pa_nil)))))), ?_⟩
  refine ⟨_, rfl, _, rfl, a, ns, k, rfl, hs, fun c => ?_⟩
  have cp : CPow 10 18 := ⟨by decide, by decide, by decide⟩
  refine ⟨_, rfl, _, _, rfl, rfl, cp, _, _, rfl, rfl, _, rfl, ?_⟩
  by_cases hc : (10 : Int) ^ (18 : Int).toNat ≤ c
  · rw [decide_eq_true hc]
    refine iteT ⟨_, rfl, _, _, rfl, rfl, cp, _, _, rfl, rfl, (by show 2 ≤ sizeLine; decide), fun p np => ?_⟩
    exact q p _ (same_new np) np ⟨_, true, upd_same, fun e => by cases e⟩
  · rw [decide_eq_false hc]
    refine iteF ⟨_, rfl, _, _, rfl, rfl, (by decide : (0 : Int) < 2147483647), (by show 2 ≤ sizeLine; decide), fun p np => ?_⟩
    exact q p _ (same_new np) np ⟨_, false, upd_same, fun _ => ⟨Int.emod_nonneg _ (by decide), Int.emod_lt_of_pos _ (by decide)⟩⟩
theorem sc61 : FnScope ["state", "many", "found", "stirred"] ["state", "many"] (defScope (topS 61)) := ⟨rfl, rfl, rfl, by decide +kernel, rfl, by decide +kernel, by decide +kernel⟩
def spTake : Sp := fun vs H Q _ => ∃ (st : Addr) (m : Nat), vs = [.ref st, .int (m : Int)] ∧ St H st ∧ 0 < m ∧ m < 1000000 ∧ ∀ (k : Nat) (H' : Hp), k < m → Md st H H' → Q (.int (k : Int)) H'
theorem cl_take (D : Dfn K mg 61 "_law_take") (B : Bt mg) : Cl P w K mg base 1 "_law_take" ["state", "many"] spTake := by
  refine D.cl sc61 (fun _ _ _ _ _ _ us hl => match us, hl with | [_, _], _ => rfl) (fun vs H Q E h => ?_) (fun f cdv A outer s H vs Q E hr h => ?_)
  · obtain ⟨_, _, rfl, _⟩ := h; rfl
  obtain ⟨st, m, rfl, ⟨c, b, e, hb⟩, h0, h1, q⟩ := h
  refine ⟨_, pss_cons (ps_if (pt_val (pe_ix ix_list (pv 0) pe_int (fun _ _ => rfl)))
      (pss_cons (ps_set (i := 2) sc61.nd rfl (.inl rfl) (pe_op op_mod (pe_ix ix_list (pv 0) pe_int (fun _ _ => rfl)) (pv 1)))
      (pss_cons (ps_asg (pe_op op_fdiv (pe_ix ix_list (pv 0) pe_int (fun _ _ => rfl)) (pv 1)) (pg_sub (pv 0) pe_int set_list (fun _ => rfl)))
      (pss_one (ps_ret (pv 2))))) pss_nil)
    (pss_cons (ps_asg (pe_op op_mod (pe_op op_add (pe_op op_mul (pe_ix ix_list (pv 0) pe_int (fun _ _ => rfl)) pe_int) pe_int) pe_int) (pg_sub (pv 0) pe_int set_list (fun _ => rfl)))
    (pss_cons (ps_set (i := 3) sc61.nd rfl (.inl rfl) (pe_op op_mod (pe_op op_add (pe_op op_add (pe_op op_mul (pe_ix ix_list (pv 0) pe_int (fun _ _ => rfl)) (pe_ix ix_list (pv 0) pe_int (fun _ _ => rfl))) (pe_op op_mul pe_int (pe_ix ix_list (pv 0) pe_int (fun _ _ => rfl)))) pe_int) pe_int))
    (pss_cons (ps_set (i := 3) sc61.nd rfl (.inl rfl) (pe_op op_mod (pe_op op_add (pe_op op_mul (pv 3) (pv 3)) (pe_op op_mul pe_int (pv 3))) pe_int))
    (pss_one (ps_ret (pe_op op_mod (pe_op op_fdiv (pv 3) pe_int) (pv 1))))))), ?_⟩
  have hat0 : ∀ x : V, atI [x, .bl b] 0 = some x := fun x => atI_nat (j := 0) rfl
  have hat1 : atI [V.int c, V.bl b] 1 = some (.bl b) := atI_nat (j := 1) rfl
  have fin : ∀ (z : Int) (H' : Hp), Md st H H' → Q (.int (z % (m : Int))) H' := fun z H' g => by
    have hz0 := Int.emod_nonneg z (show (m : Int) ≠ 0 by omega)
    have hz1 := Int.emod_lt_of_pos z (show (0 : Int) < (m : Int) by omega)
    have : z % (m : Int) = (((z % (m : Int)).toNat : Nat) : Int) := by omega
    rw [this]
    exact q _ H' (by omega) g
  refine ⟨_, rfl, st, _, _, _, rfl, rfl, SqL.of e, hat1, _, rfl, ?_⟩
  have put : ∀ (y : Int), (b = false → 0 ≤ y ∧ y < 2147483647) → Md st H (upd H st (.lst [.int y, .bl b])) := fun y hy => ⟨fun x u n k => by rw [upd_ne n]; exact k, y, b, upd_same, hy⟩
  cases b with
  | true =>
    refine iteT ⟨_, rfl, st, _, _, _, rfl, rfl, SqL.of e, hat0 _, _, rfl, _, _, rfl, rfl, (by omega : (0 : Int) < (m : Int)), ?_⟩
    refine ⟨_, rfl, st, _, _, _, rfl, rfl, SqL.of e, hat0 _, _, rfl, _, _, rfl, rfl, ⟨by omega, by omega⟩, ?_⟩
    refine ⟨_, rfl, st, _, 0, 0, rfl, rfl, e, rfl, ?_⟩
    exact ⟨_, rfl, fin c _ (put _ fun z => by cases z)⟩
  | false =>
    refine iteF ?_
    obtain ⟨b0, b1⟩ := hb rfl
    refine ⟨_, rfl, st, _, _, _, rfl, rfl, SqL.of e, hat0 _, _, _, rfl, rfl, .inr ⟨by decide, by decide⟩, _, _, rfl, rfl, _, _, rfl, rfl, (by decide : (0 : Int) < 2147483647), ?_⟩
    refine ⟨_, rfl, st, _, 0, 0, rfl, rfl, e, rfl, ?_⟩
    have s0 := Int.emod_nonneg (c * 48271 + 29) (show (2147483647 : Int) ≠ 0 by decide)
    have s1 := Int.emod_lt_of_pos (c * 48271 + 29) (show (0 : Int) < 2147483647 by decide)
    have g := put ((c * 48271 + 29) % 2147483647) fun _ => ⟨s0, s1⟩
    let s := (c * 48271 + 29) % 2147483647
    have s0 : 0 ≤ s := s0
    have s1 : s < 2147483647 := s1
    have e2 : (upd H st (.lst [.int s, .bl false])) st = some (.lst [.int s, .bl false]) := upd_same
    refine ⟨_, rfl, st, _, _, _, rfl, rfl, SqL.of e2, hat0 _, _, rfl, st, _, _, _, rfl, rfl, SqL.of e2, hat0 _, s, s, rfl, rfl, .inl ⟨by omega, by omega⟩, _, rfl, st, _, _, _, rfl, rfl, SqL.of e2, hat0 _, _, _, rfl, rfl, .inl ⟨by decide, by decide⟩, _, _, rfl, rfl, _, _, rfl, rfl, _, _, rfl, rfl, (by decide : (0 : Int) < 2147483629), ?_⟩
    have t0 := Int.emod_nonneg (s * s + 39373 * s + 7) (show (2147483629 : Int) ≠ 0 by decide)
    have t1 := Int.emod_lt_of_pos (s * s + 39373 * s + 7) (show (0 : Int) < 2147483629 by decide)
    let t := (s * s + 39373 * s + 7) % 2147483629
    have t0 : 0 ≤ t := t0
    have t1 : t < 2147483629 := t1
    refine ⟨_, rfl, _, rfl, t, t, rfl, rfl, .inl ⟨by omega, by omega⟩, _, rfl, _, _, rfl, rfl, .inl ⟨by decide, by decide⟩, _, _, rfl, rfl, _, _, rfl, rfl, (by decide : (0 : Int) < 2147483587), ?_⟩
    exact ⟨_, rfl, _, _, rfl, rfl, ⟨by decide, by decide⟩, _, rfl, _, _, rfl, rfl, (by omega : (0 : Int) < (m : Int)), fin _ _ g⟩
end
end ST
namespace ST
open PySem PySem.Spec PyProof.Rows L2
theorem seq_at {k n : Nat} (h : k < n) : seqIndex? (k : Int) n = some k := by
  unfold seqIndex?
  simp only [show ¬ ((k : Int) < 0) by omega, if_false]
  first
    | (rw [if_pos (by omega)]; simp)
    | simp [h]
/-- data that are laid flat enough -/
def Sd (ds : List PyData) : Prop := ∀ d ∈ ds, d.canLay0 = true ∧ d.depth ≤ 5
theorem shaped_sd {ds : List PyData} (h : Sd ds) : SeqAt.shaped (.list ds) = true := by
  have all : PyData.canLayAll0 ds = true ∧ PyData.depthAll ds ≤ 5 := by
    induction ds with
    | nil => exact ⟨rfl, by simp [PyData.depthAll]⟩
    | cons d ds ih =>
      have h1 := h d (by simp)
      have h2 := ih fun e he => h e (by simp [he])
      simp only [PyData.canLayAll0, PyData.depthAll]
      exact ⟨by rw [h1.1, h2.1]; rfl, by omega⟩
  unfold SeqAt.shaped
  refine Bool.and_eq_true_iff.mpr ⟨by simp only [PyData.canLay0]; exact all.1, decide_eq_true ?_⟩
  simp only [PyData.depth]
  have := all.2
  omega
theorem eqv_nil (ds : List PyData) : PyData.eqv (.list ds) (.list []) = decide (ds.length = 0) := by
  simp only [PyData.eqv]
  cases ds with
  | nil => rfl
  | cons d ds => simp [PyData.eqvAll]
theorem sd_ints (ns : List Int) : Sd (ns.map .int) := fun d hd => by
  obtain ⟨n, _, rfl⟩ := List.mem_map.mp hd
  exact ⟨rfl, by simp [PyData.depth]⟩
theorem sd_rows (ps : List (List Int)) : Sd (ps.map eP) := fun d hd => by
  obtain ⟨p, _, rfl⟩ := List.mem_map.mp hd
  unfold eP
  refine ⟨?_, ?_⟩
  · simp only [PyData.canLay0]; exact (lay_ints p).1
  · simp only [PyData.depth, (lay_ints p).2]; decide
theorem erase_perm {α : Type} : ∀ {l : List α} {k : Nat} {d : α}, l[k]? = some d → (d :: l.eraseIdx k).Perm l
  | [], _, _, h => by simp at h
  | x :: l, 0, d, h => by simp at h; subst h; exact .refl _
  | x :: l, k + 1, d, h => by
    have ih := erase_perm (l := l) (k := k) (d := d) (by simpa using h)
    exact (List.Perm.swap x d _).trans (ih.cons x)
theorem FzL.erase {H : Hp} {xs : List V} {ds : List PyData} (k : FzL H xs ds) (i : Nat) : FzL H (xs.eraseIdx i) (ds.eraseIdx i) := by
  induction ds generalizing xs i with
  | nil => cases k; simpa using FzL.nil
  | cons d ds ih =>
    cases k with
    | cons a b =>
      cases i with
      | zero => exact b
      | succ i => exact .cons a (ih b i)
section
variable {P : Program} {w : World} {K : PySem.W.Frag} {mg : Str → Option Value} {base : Heap}
theorem sc62 : FnScope ["state", "things", "left", "found"] ["state", "things"] (defScope (topS 62)) := ⟨rfl, rfl, rfl, by decide +kernel, rfl, by decide +kernel, by decide +kernel⟩
def spMixed : Sp := fun vs H Q _ => ∃ (st a : Addr) (ds : List PyData), vs = [.ref st, .ref a] ∧ St H st ∧ Ls H a ds ∧ Sd ds ∧ ds.length ≤ 1000 ∧ ∀ p H' (es : List PyData), Md st H H' → H p = none → Ls H' p es → es.Perm ds → Q (.ref p) H'
theorem cl_mixed (D : Dfn K mg 62 "_law_mixed_row") (B : Bt mg) (cT : Cl P w K mg base 1 "_law_take" ["state", "many"] spTake) : Cl P w K mg base 2 "_law_mixed_row" ["state", "things"] spMixed := by
  refine D.cl sc62 (fun _ _ _ _ _ _ us hl => match us, hl with | [_, _], _ => rfl) (fun vs H Q E h => ?_) (fun f cdv A outer s H vs Q E hr h => ?_)
  · obtain ⟨_, _, _, rfl, _⟩ := h; rfl
  obtain ⟨st, a, ds, rfl, hst, ⟨xs, ea, kx⟩, hsd, hz, q⟩ := h
  refine ⟨_, pss_cons (ps_set (i := 2) sc62.nd rfl (.inl rfl) (pe_callTy call_list_of rfl B.list (by decide +kernel) (pa_cons (pv 1) pa_nil)))
    (pss_cons (ps_set (i := 3) sc62.nd rfl (.inl rfl) (pe_lst pa_nil))
    (pss_cons (ps_while PassesOwn.never (pt_cmpR (op_neD hr.units) (pv 2) (pe_lst pa_nil) (nomark _))
      (pss_one (ps_expr (pe_bm PySem.F.plainAttrs_list PySem.F.slot_list_append PySem.F.type_list_append mt_append (pv 3) (pa_cons
        (pe_bm PySem.F.plainAttrs_list PySem.F.slot_list_pop PySem.F.type_list_pop mt_popAt (pv 2) (pa_cons (pe_cl cT hr (Nat.le_refl _) rfl (pa_cons (pv 0) (pa_cons (pe_callB call_len_seq rfl B.len PySem.boot_len (pa_cons (pv 2) pa_nil)) pa_nil))) pa_nil)) pa_nil)))))
    (pss_one (ps_ret (pv 3))))), ?_⟩
  refine ⟨_, rfl, a, xs, rfl, .inl (SqL.of ea), fun l nl => ?_⟩
  have gl := same_new (o := .lst xs) nl
  refine ⟨Nat.zero_le _, fun f' nf => ?_⟩
  have gf := same_new (o := .lst []) nf
  have lst : l ≠ st := hst.none nl
  have fst : f' ≠ st := (hst.same gl).none nf
  have lf : f' ≠ l := (ne_of_none upd_same nf).symm
  have nfH : H f' = none := none_back gl nf
  refine ⟨fun m σ H' => Md st H H' ∧ (∃ ys dL zs dF, H' l = some (.lst ys) ∧ FzL H' ys dL ∧ H' f' = some (.lst zs) ∧ FzL H' zs dF ∧ (dF ++ dL).Perm ds ∧ ys.length = m) ∧ σ = [some (.ref st), some (.ref a), some (.ref l), some (.ref f')],
    ⟨xs.length, (Md.of hst gl).then gf, ⟨xs, ds, [], [], gf _ _ upd_same, (kx.same gl).same gf, upd_same, .nil, .refl _, rfl⟩, rfl⟩, fun m σ H1 h => ?_⟩
  obtain ⟨g1, ⟨ys, dL, zs, dF, el, kl, ef, kf, hp, hm⟩, rfl⟩ := h
  have hyl : ys.length = dL.length := kl.len
  have hzl : zs.length = dF.length := kf.len
  have htot : dF.length + dL.length = ds.length := by rw [← List.length_append, hp.length_eq]
  refine ⟨_, rfl, Nat.zero_le _, fun e ne => ?_⟩
  have ge := same_new (o := .lst []) ne
  have sdL : Sd dL := fun d hd => hsd d (hp.mem_iff.mp (List.mem_append_right _ hd))
  refine ⟨.list dL, .list [], .lst (SqL.of (ge _ _ el)) (FzL.dp K _ _ (kl.same ge)), .lst (SqL.of upd_same) .nil, shaped_sd sdL, rfl, _, rfl, ?_⟩
  rw [eqv_nil]
  have g2 := g1.then ge
  by_cases h0 : dL.length = 0
  · rw [decide_eq_true h0]
    refine iteF ⟨_, rfl, q f' _ dF g2 nfH ⟨zs, ge _ _ ef, kf.same ge⟩ ?_⟩
    have : dL = [] := List.eq_nil_of_length_eq_zero h0
    subst this
    simpa using hp
  · rw [decide_eq_false h0]
    refine iteT ?_
    refine ⟨fun σ' H' => ∃ m', m' < m ∧ (Md st H H' ∧ (∃ ys dL zs dF, H' l = some (.lst ys) ∧ FzL H' ys dL ∧ H' f' = some (.lst zs) ∧ FzL H' zs dF ∧ (dF ++ dL).Perm ds ∧ ys.length = m') ∧ σ' = [some (.ref st), some (.ref a), some (.ref l), some (.ref f')]), fun σ' H' h => h, ?_⟩
    refine ⟨_, rfl, .inl ⟨rfl, _, SqL.of (ge _ _ ef)⟩, _, rfl, .inl ⟨rfl, _, SqL.of (ge _ _ el)⟩, _, rfl, _, rfl, l, _, rfl, .inl (SqL.of (ge _ _ el)), st, ys.length, rfl, g2.stt, by omega, by omega, fun k H3 hk g3 => ?_⟩
    have el3 := g3.old _ _ lst (ge _ _ el)
    have ef3 := g3.old _ _ fst (ge _ _ ef)
    have kl3 := (kl.same ge).tu (g3.tu g2.stt)
    have kf3 := (kf.same ge).tu (g3.tu g2.stt)
    obtain ⟨d, hd, hy⟩ := kl3.get (List.getElem?_eq_getElem hk)
    refine ⟨l, ys, (k : Int), k, ys[k], rfl, rfl, el3, by omega, by omega, seq_at hk, List.getElem?_eq_getElem hk, ?_⟩
    have ef4 : (upd H3 l (.lst (ys.eraseIdx k))) f' = some (.lst zs) := by rw [upd_ne lf]; exact ef3
    refine ⟨f', zs, ys[k], rfl, rfl, ef4, big_lt (by omega), ys.length - 1, by omega, ?_, ?_, rfl⟩
    · refine ⟨fun b u n h => ?_, ?_⟩
      · have bl : b ≠ l := ne_of_none h nl
        have bf : b ≠ f' := ne_of_none h nfH
        rw [upd_ne bf, upd_ne bl]; exact (g2.trans g3).old b u n h
      · obtain ⟨c, b, es, hs⟩ := g3.stt
        exact ⟨c, b, by rw [upd_ne fst.symm, upd_ne lst.symm]; exact es, hs⟩
    · have t4 : Tu H3 (upd H3 l (.lst (ys.eraseIdx k))) := tu_upd el3
      have t5 : Tu (upd H3 l (.lst (ys.eraseIdx k))) (upd (upd H3 l (.lst (ys.eraseIdx k))) f' (.lst (zs ++ [ys[k]]))) := tu_upd ef4
      have hkd : k < dL.length := by omega
      have hdk : dL[k] = d := by
        rw [List.getElem?_eq_getElem hkd] at hd
        exact Option.some.inj hd
      refine ⟨ys.eraseIdx k, dL.eraseIdx k, zs ++ [ys[k]], dF ++ [d], by rw [upd_ne lf.symm, upd_same], ((kl3.erase k).tu t4).tu t5, upd_same, ((kf3.snoc hy).tu t4).tu t5, ?_, ?_⟩
      · have h1 : (d :: dL.eraseIdx k).Perm dL := erase_perm hd
        rw [List.append_assoc]
        exact ((List.Perm.append_left dF h1).trans hp)
      · rw [List.length_eraseIdx_of_lt hk]
end
end ST
namespace ST
open PySem PySem.Spec PyProof.Rows L2
theorem St.off {st a : Addr} {H : Hp} {r : List Int} (h : St H st) (e : H a = some (.lst (r.map V.int))) : a ≠ st := by
  obtain ⟨c, b, e', _⟩ := h
  intro z; subst z
  rw [e] at e'
  injection e' with e'
  injection e' with e'
  match r, e' with
  | [], e' => simp at e'
  | [_], e' => simp at e'
  | _ :: _ :: _, e' => simp at e'
/-- a party cut out of a row -/
structure Side (r p : List Int) : Prop where
  ne : p ≠ []
  sub : ∀ g ∈ p, g ∈ r
  up : p.Pairwise (· < ·)
  cv : Cv (PT.In p) r
  le : p.length ≤ r.length
theorem side_of {r p : List Int} {f k : Nat} (nd : r.Nodup) (h : f + 1 + k ≤ r.length) (q : p.Perm ((r.drop f).take (k + 1))) (s : p.Pairwise (· ≤ ·)) : Side r p := by
  have hm : ∀ g, g ∈ p ↔ g ∈ (r.drop f).take (k + 1) := fun g => q.mem_iff
  have e : r = r.take f ++ ((r.drop f).take (k + 1) ++ (r.drop f).drop (k + 1)) := by rw [List.take_append_drop, List.take_append_drop]
  have nd2 := nd
  rw [e, List.nodup_append] at nd2
  obtain ⟨_, n2, n3⟩ := nd2
  have n4 := (List.nodup_append.mp n2)
  refine ⟨fun z => ?_, fun g hg => ?_, ?_, ?_, by rw [q.length_eq, List.length_take, List.length_drop]; omega⟩
  · subst z
    have := q.length_eq
    rw [List.length_take, List.length_drop, List.length_nil] at this
    omega
  · exact List.mem_of_mem_drop (List.mem_of_mem_take ((hm g).mp hg))
  · have hn : p.Nodup := q.nodup_iff.mpr n4.1
    exact s.imp₂ (fun a b h1 h2 => by omega) hn
  · refine ⟨_, _, _, e, fun g hg hp => ?_, fun g hg => (hm g).mpr hg, fun g hg hp => ?_⟩
    · exact n3 g hg g (List.mem_append_left _ ((hm g).mp hp)) rfl
    · exact n4.2.2 g ((hm g).mp hp) g hg rfl
section
variable {P : Program} {w : World} {K : PySem.W.Frag} {mg : Str → Option Value} {base : Heap}
theorem sc65 : FnScope ["state", "row", "first"] ["state", "row"] (defScope (topS 65)) := ⟨rfl, rfl, rfl, by decide +kernel, rfl, by decide +kernel, by decide +kernel⟩
def spSide : Sp := fun vs H Q _ => ∃ (st a : Addr) (r : List Int), vs = [.ref st, .ref a] ∧ St H st ∧ H a = some (.lst (r.map V.int)) ∧ r.Nodup ∧ r ≠ [] ∧ r.length ≤ 1000 ∧ ∀ u H' (p : List Int), Md st H H' → RoD H' u p → Side r p → Q u H'
theorem cl_side (D : Dfn K mg 65 "_law_side") (B : Bt mg) (cT : Cl P w K mg base 1 "_law_take" ["state", "many"] spTake) : Cl P w K mg base 2 "_law_side" ["state", "row"] spSide := by
  refine D.cl sc65 (fun _ _ _ _ _ _ us hl => match us, hl with | [_, _], _ => rfl) (fun vs H Q E h => ?_) (fun f cdv A outer s H vs Q E hr h => ?_)
  · obtain ⟨_, _, _, rfl, _⟩ := h; rfl
  obtain ⟨st, a, r, rfl, hst, ea, nd, hne, hz, q⟩ := h
  have hpos := List.length_pos_iff.mpr hne
  refine ⟨_, pss_cons (ps_set (i := 2) sc65.nd rfl (.inl rfl) (pe_cl cT hr (Nat.le_refl _) rfl (pa_cons (pv 0) (pa_cons (pe_callB call_len_seq rfl B.len PySem.boot_len (pa_cons (pv 1) pa_nil)) pa_nil))))
    (pss_one (ps_ret (pe_callTy call_tupD rfl B.tuple (by decide +kernel) (pa_cons (pe_callB cr_sortedI rfl B.sorted (by decide +kernel) (pa_cons
      (pe_slice sl_list (pv 1) (po_some (pv 2)) (po_some (pe_op op_add (pe_op op_add (pv 2) pe_int) (pe_cl cT hr (Nat.le_refl _) rfl (pa_cons (pv 0) (pa_cons (pe_op op_sub (pe_callB call_len_seq rfl B.len PySem.boot_len (pa_cons (pv 1) pa_nil)) (pv 2)) pa_nil)))))) pa_nil)) pa_nil)))), ?_⟩
  have ast := hst.off ea
  have hl : (r.map V.int).length = r.length := List.length_map _
  refine ⟨_, rfl, _, rfl, a, _, rfl, .inl (SqL.of ea), st, (r.map V.int).length, rfl, hst, by omega, by omega, fun k1 H1 hk1 g1 => ?_⟩
  have ea1 := g1.old _ _ ast ea
  have esub : V.int (((r.map V.int).length : Int) - (k1 : Int)) = V.int (((r.length - k1 : Nat) : Nat) : Int) := by congr 1; omega
  refine ⟨_, rfl, _, rfl, (k1 : Int), rfl, _, rfl, _, _, rfl, rfl, _, rfl, _, rfl, a, _, rfl, .inl (SqL.of ea1), _, rfl, _, _, rfl, rfl, st, r.length - k1, (by show [V.ref st, V.int (((r.map V.int).length : Int) - (k1 : Int))] = _; rw [esub]), g1.stt, by omega, by omega, fun k2 H2 hk2 g2 => ?_⟩
  have ea2 := g2.old _ _ ast ea1
  refine ⟨_, _, rfl, rfl, ((k1 + 1 + k2 : Nat) : Int), by congr 1, a, _, rfl, SqL.of ea2, fun c nc => ?_⟩
  have gc := same_new (o := .lst (cutV (r.map V.int) (some (k1 : Int)) (some ((k1 + 1 + k2 : Nat) : Int)))) nc
  have ecut : cutV (r.map V.int) (some (k1 : Int)) (some ((k1 + 1 + k2 : Nat) : Int)) = ((r.drop k1).take (k2 + 1)).map V.int := by
    rw [cut_mid _ (by omega) (by omega), List.map_take, List.map_drop]
    congr 1; omega
  have hc : (upd H2 c (.lst (cutV (r.map V.int) (some (k1 : Int)) (some ((k1 + 1 + k2 : Nat) : Int))))) c = some (.lst (((r.drop k1).take (k2 + 1)).map V.int)) := by rw [upd_same, ecut]
  refine ⟨c, _, rfl, SqL.of hc, fun p l hp hs nl => ?_⟩
  have gl := same_new (o := .lst (p.map V.int)) nl
  refine ⟨l, _, rfl, SqL.of upd_same, fun t o nt hdo => ?_⟩
  have gt := same_new (o := .frz o (.tup (p.map V.int))) nt
  exact q _ _ p ((((g1.trans g2).then gc).then gl).then gt) ⟨t, o, rfl, hdo, upd_same⟩ (side_of nd (by omega) hp hs)
/-! ### a party of one's own -/
theorem sc63 : FnScope ["state", "n", "found", "guest"] ["state", "n"] (defScope (topS 64)) := ⟨rfl, rfl, rfl, by decide +kernel, rfl, by decide +kernel, by decide +kernel⟩
def spLawParty : Sp := fun vs H Q _ => ∃ (st : Addr) (n : Nat), vs = [.ref st, .int (n : Int)] ∧ St H st ∧ 1 ≤ n ∧ n ≤ 7 ∧ ∀ u H' (p : List Int), Md st H H' → Ro H' u p → PT.POk (Rg n) p → p.Pairwise (· < ·) → Q u H'
theorem cl_lawParty (D : Dfn K mg 64 "_law_party") (B : Bt mg) (cT : Cl P w K mg base 1 "_law_take" ["state", "many"] spTake) : Cl P w K mg base 2 "_law_party" ["state", "n"] spLawParty := by
  refine D.cl sc63 (fun _ _ _ _ _ _ us hl => match us, hl with | [_, _], _ => rfl) (fun vs H Q E h => ?_) (fun f cdv A outer s H vs Q E hr h => ?_)
  · obtain ⟨_, _, rfl, _⟩ := h; rfl
  obtain ⟨st, n, rfl, hst, h1, h7, q⟩ := h
  refine ⟨_, pss_cons (ps_set (i := 2) sc63.nd rfl (.inl rfl) (pe_callTy call_tupD rfl B.tuple (by decide +kernel) (pa_cons
      (pe_lc (own := [("guest", 3)]) (g := gName 3) (te := tVar 3) rfl sc63.nd (pi_range1 rfl B.range (pa_cons (pv 1) pa_nil)) (blkOk_by (N := ["state", "n", "found", "guest"]) (sc := defScope (topS 64)) (by decide +kernel))
          (fun _ _ _ _ _ => pg_name (i := 3) sc63.nd rfl (Or.inl rfl)) (fun _ _ _ _ _ => pts_one (pt_cmpR op_eq (pe_cl cT hr (Nat.le_refl _) rfl (pa_cons (pv 0) (pa_cons pe_int pa_nil))) pe_int (nomark _))) (fun _ _ _ _ _ => pv 3)) pa_nil)))
    (pss_cons (ps_if (pt_cmpR (op_eqD hr.units) (pv 2) (pe_tup pa_nil) (nomark _)) (pss_one (ps_ret (pe_tup (pa_cons (pe_cl cT hr (Nat.le_refl _) rfl (pa_cons (pv 0) (pa_cons (pv 1) pa_nil))) pa_nil)))) pss_nil)
    (pss_one (ps_ret (pv 2)))), ?_⟩
  refine ⟨_, rfl, _, rfl, by omega, by omega, fun D nD => ?_⟩
  have en : ((n : Int)).toNat = n := by omega
  rw [en]
  have Dst : D ≠ st := hst.none nD
  refine lc_it walk_range (g := gName 3) (fun i H' => Md st H H' ∧ ∃ p : List Int, H' D = some (.lst (p.map V.int)) ∧ p.Pairwise (· < ·) ∧ (∀ g ∈ p, 0 ≤ g ∧ g < (i : Int)) ∧ p.length ≤ i) ⟨.of hst (same_new nD), [], upd_same, .nil, fun g h => by simp at h, by simp⟩ (fun _ _ _ _ => trivial) (fun i x H1 H2 hi h y => ?_) (fun H1 h => ?_)
  · obtain ⟨g1, p, eD, hp, hr', hl⟩ := h
    obtain ⟨rfl, rfl⟩ := y
    refine ⟨rfl, _, rfl, st, 2, rfl, g1.stt, by decide, by decide, fun k H3 hk g3 => ?_⟩
    have eD3 := g3.old _ _ Dst eD
    refine ⟨rfl, _, rfl, ?_⟩
    rw [dec_int]
    by_cases hk1 : k = 1
    · rw [show (((k : Nat) : Int) == 1) = true from beq_iff_eq.mpr (by omega)]
      refine iteT ⟨_, rfl, _, eD3, by rw [List.length_map]; exact big_lt (by omega), ⟨fun b u nb e => ?_, ?_⟩, p ++ [(i : Int)], ?_, ?_, ?_, ?_⟩
      · rw [upd_ne (ne_of_none e nD)]; exact (g1.trans g3).old b u nb e
      · obtain ⟨c, b, es, hs⟩ := g3.stt
        exact ⟨c, b, by rw [upd_ne Dst.symm]; exact es, hs⟩
      · rw [upd_same, List.map_append]
        show some (HO.lst (p.map V.int ++ [V.int (0 + (i : Int))])) = _
        rw [Int.zero_add]; rfl
      · exact List.pairwise_append.mpr ⟨hp, by simp, fun a ha b hb => by simp at hb; subst hb; exact (hr' a ha).2⟩
      · intro g hg
        rcases List.mem_append.mp hg with hg | hg
        · have := hr' g hg; omega
        · simp at hg; subst hg; omega
      · simp; omega
    · rw [show (((k : Nat) : Int) == 1) = false from beq_eq_false_iff_ne.mpr (by omega)]
      exact iteF ⟨g1.trans g3, p, eD3, hp, fun g hg => by have := hr' g hg; omega, by omega⟩
  · obtain ⟨g1, p, eD, hp, hr', hl⟩ := h
    refine ⟨D, _, rfl, SqL.of eD, fun t o nt hdo => ?_⟩
    have gt := same_new (o := .frz o (.tup (p.map V.int))) nt
    refine ⟨_, rfl, Nat.zero_le _, fun e ne => ?_⟩
    have ge := same_new (o := .tup []) ne
    have ht := ge _ _ (upd_same (H := H1) (a := t) (o := .frz o (.tup (p.map V.int))))
    have g2 := (g1.then gt).then ge
    have hro : Ro _ (.ref t) p := ⟨t, rfl, .inr ⟨o, ht⟩⟩
    refine ⟨eP p, .tuple [], hro.dp, .tup (SqT.of upd_same) .nil, shaped_p, rfl, _, rfl, ?_⟩
    cases p with
    | nil =>
      refine iteT ⟨_, rfl, _, rfl, st, n, rfl, g2.stt, by omega, by omega, fun k H3 hk g3 => ⟨(by show 1 ≤ sizeLine; decide), fun z nz => ?_⟩⟩
      have gz := same_new (o := .tup [.int (k : Int)]) nz
      exact q _ _ [(k : Int)] ((g2.trans g3).then gz) ⟨z, rfl, .inl upd_same⟩ ⟨by simp, fun g hg => by simp at hg; subst hg; exact mem_rg.mpr (by omega)⟩ (by simp)
    | cons a p =>
      have : PyData.eqv (eP (a :: p)) (.tuple []) = false := by simp [eP, PyData.eqv, PyData.eqvAll]
      rw [this]
      exact iteF ⟨_, rfl, q _ _ (a :: p) g2 hro ⟨by simp, fun g hg => mem_rg.mpr (hr' g hg)⟩ hp⟩
/-! ### a row and its parties -/
theorem sc66 : FnScope ["state", "n", "row", "turn"] ["state", "n"] (defScope (topS 66)) := ⟨rfl, rfl, rfl, by decide +kernel, rfl, by decide +kernel, by decide +kernel⟩
def spLawTog : Sp := fun vs H Q _ => ∃ (st : Addr) (n : Nat), vs = [.ref st, .int (n : Int)] ∧ St H st ∧ 1 ≤ n ∧ n ≤ 7 ∧ ∀ (T D : Addr) (x : V) H' (r : List Int) (ps : List (List Int)), Md st H H' → H' T = some (.tup [x, .ref D]) → RoD H' x r → r.Perm (Rg n) → D ≠ st → H D = none → Ls H' D (ps.map eP) → ps.length ≤ 8 → (∀ p ∈ ps, Side r p) → Q (.ref T) H'
theorem ints_of_perm {es : List PyData} {ns : List Int} (h : es.Perm (ns.map .int)) : ∃ ms : List Int, es = ms.map .int ∧ ms.Perm ns := by
  let back : PyData → Int := fun d => match d with | .int i => i | _ => 0
  have hb : ∀ l : List Int, (l.map PyData.int).map back = l := fun l => by
    rw [List.map_map]
    have : (back ∘ PyData.int) = id := rfl
    rw [this, List.map_id]
  refine ⟨es.map back, ?_, by have := h.map back; rwa [hb] at this⟩
  have : ∀ d ∈ es, PyData.int (back d) = d := fun d hd => by
    obtain ⟨n, _, rfl⟩ := List.mem_map.mp (h.mem_iff.mp hd)
    rfl
  rw [List.map_map]
  exact (List.map_congr_left this |>.trans (List.map_id _)).symm
theorem cl_lawTog (D : Dfn K mg 66 "_law_together") (B : Bt mg) (cT : Cl P w K mg base 1 "_law_take" ["state", "many"] spTake) (cM : Cl P w K mg base 2 "_law_mixed_row" ["state", "things"] spMixed) (cS : Cl P w K mg base 2 "_law_side" ["state", "row"] spSide) : Cl P w K mg base 3 "_law_together" ["state", "n"] spLawTog := by
  refine D.cl sc66 (fun _ _ _ _ _ _ us hl => match us, hl with | [_, _], _ => rfl) (fun vs H Q E h => ?_) (fun f cdv A outer s H vs Q E hr h => ?_)
  · obtain ⟨_, _, rfl, _⟩ := h; rfl
  obtain ⟨st, n, rfl, hst, h1, h7, q⟩ := h
  refine ⟨_, pss_cons (ps_set (i := 2) sc66.nd rfl (.inr rfl) (pe_cl cM hr (Nat.le_refl _) rfl (pa_cons (pv 0) (pa_cons (pe_listRg rfl rfl B.list (prg_1 rfl B.range (pv 1))) pa_nil))))
    (pss_one (ps_ret (pe_tup (pa_cons (pe_callTy call_tupD rfl B.tuple (by decide +kernel) (pa_cons (pv 2) pa_nil)) (pa_cons
      (pe_lc (own := [("turn", 3)]) (g := gName 3) (tt := tYes) rfl sc66.nd (pi_range1 rfl B.range (pa_cons (pe_cl cT hr (by omega) rfl (pa_cons (pv 0) (pa_cons pe_int pa_nil))) pa_nil)) (blkOk_by (N := ["state", "n", "row", "turn"]) (sc := defScope (topS 66)) (by decide +kernel))
          (fun _ _ _ _ _ => pg_name (i := 3) sc66.nd rfl (Or.inl rfl)) (fun _ _ _ _ _ => pts_nil) (fun _ _ _ _ _ => pe_cl cS hr (Nat.le_refl _) rfl (pa_cons (pv 0) (pa_cons (pv 2) pa_nil)))) pa_nil))))), ?_⟩
  refine ⟨_, rfl, _, rfl, _, rfl, RgOk.of_le (by omega) (by omega) (by omega) (by omega), fun l nl => ?_⟩
  rw [rgV_rg]
  have gl := same_new (o := .lst ((Rg n).map V.int)) nl
  refine ⟨st, l, (Rg n).map .int, rfl, hst.same gl, Ls.ints.mpr upd_same, sd_ints _, by rw [List.length_map, rg_len]; omega, fun R H1 es g1 nR hR hp => ?_⟩
  obtain ⟨r, rfl, hrp⟩ := ints_of_perm hp
  have eR := Ls.ints.mp hR
  have hrl : r.length = n := by rw [hrp.length_eq, rg_len]
  have hnd : r.Nodup := hrp.nodup_iff.mpr (rg_nd n)
  have Rst : R ≠ st := (g1.stt).off eR
  have gm1 : Md st H H1 := (Md.of hst gl).trans g1
  refine ⟨_, rfl, R, _, rfl, SqL.of eR, fun t o nt hdo => ?_⟩
  have gt := same_new (o := .frz o (.tup (r.map V.int))) nt
  have gm2 := gm1.then gt
  have ht : RoD (upd H1 t (.frz o (.tup (r.map V.int)))) (.ref t) r := ⟨t, o, rfl, hdo, upd_same⟩
  refine ⟨_, rfl, st, 9, rfl, gm2.stt, by decide, by decide, fun k H2 hk g2 => ?_⟩
  have gm3 := gm2.trans g2
  have ht2 := g2.rod gm2.stt ht
  have eR2 := g2.old _ _ Rst (gt _ _ eR)
  refine ⟨_, rfl, by omega, by omega, fun D nD => ?_⟩
  have ek : ((k : Int)).toNat = k := by omega
  rw [ek]
  have Dst : D ≠ st := g2.stt.none nD
  have DR : R ≠ D := ne_of_none eR2 nD
  refine lc_it walk_range (g := gName 3) (fun i H' => Md st H2 H' ∧ ∃ ps : List (List Int), Ls H' D (ps.map eP) ∧ ps.length = i ∧ ∀ p ∈ ps, Side r p) ⟨.of g2.stt (same_new nD), [], Ls.nil, rfl, fun p h => by simp at h⟩ (fun _ _ _ _ => trivial) (fun i x H3 H4 hi h y => ?_) (fun H3 h => ?_)
  · obtain ⟨g3, ps, ⟨zs, eD, kz⟩, hl, hps⟩ := h
    obtain ⟨rfl, rfl⟩ := y
    refine ⟨rfl, _, rfl, _, rfl, st, R, r, rfl, g3.stt, g3.old _ _ Rst eR2, hnd, fun e => by subst e; simp at hrl; omega, by omega, fun u H5 p g5 hu hsd => ?_⟩
    have eD5 := g5.old _ _ Dst eD
    have hzl : zs.length = ps.length := by rw [kz.len, List.length_map]
    refine ⟨zs, eD5, big_lt (by omega), ⟨fun b v nb e => ?_, ?_⟩, ps ++ [p], ⟨_, upd_same, ?_⟩, by simp [hl], fun p' hp' => ?_⟩
    · rw [upd_ne (ne_of_none e nD)]; exact (g3.trans g5).old b v nb e
    · obtain ⟨c, b, es, hs⟩ := g5.stt
      exact ⟨c, b, by rw [upd_ne Dst.symm]; exact es, hs⟩
    · rw [List.map_append]
      exact (((kz.tu (g5.tu g3.stt)).snoc (ro_fz.mpr hu.ro)).tu (tu_upd eD5))
    · rcases List.mem_append.mp hp' with h | h
      · exact hps p' h
      · simp at h; subst h; exact hsd
  · obtain ⟨g3, ps, hL, hl, hps⟩ := h
    refine ⟨(by show 2 ≤ sizeLine; decide), fun T nT => ?_⟩
    have gT := same_new (o := .tup [.ref t, .ref D]) nT
    have nDH : H D = none := by
      cases e : H D with
      | none => rfl
      | some u => have := gm3.old D u Dst e; rw [nD] at this; cases this
    exact q T D (.ref t) _ r ps ((gm3.trans g3).then gT) upd_same ((g3.rod g2.stt ht2).same gT) hrp Dst nDH (hL.same gT) (by omega) hps
end
end ST
namespace ST
open PySem PySem.Spec PyProof.Rows L2
/-- lists of numbers at the places as, these in a list at Pz -/
structure PL (H : Hp) (Pz : Addr) (as : List Addr) (gss : List (List Int)) : Prop where
  at0 : H Pz = some (.lst (as.map V.ref))
  len : as.length = gss.length
  nd : as.Nodup
  out : Pz ∉ as
  each : ∀ (i : Nat) (x : Addr) (gs : List Int), as[i]? = some x → gss[i]? = some gs → H x = some (.lst (gs.map V.int))
theorem PL.get {H : Hp} {Pz : Addr} {as : List Addr} {gss : List (List Int)} (h : PL H Pz as gss) {i : Nat} (hi : i < gss.length) : ∃ x gs, as[i]? = some x ∧ gss[i]? = some gs ∧ H x = some (.lst (gs.map V.int)) := by
  have h1 : i < as.length := by rw [h.len]; exact hi
  exact ⟨as[i], gss[i], List.getElem?_eq_getElem h1, List.getElem?_eq_getElem hi, h.each i _ _ (List.getElem?_eq_getElem h1) (List.getElem?_eq_getElem hi)⟩
theorem PL.keep {H H' : Hp} {Pz : Addr} {as : List Addr} {gss : List (List Int)} (h : PL H Pz as gss) (k : ∀ b u, (b = Pz ∨ b ∈ as) → H b = some u → H' b = some u) : PL H' Pz as gss :=
  ⟨k _ _ (.inl rfl) h.at0, h.len, h.nd, h.out, fun i x gs h1 h2 => k _ _ (.inr (List.mem_of_getElem? h1)) (h.each i x gs h1 h2)⟩
theorem PL.put {H : Hp} {Pz : Addr} {as : List Addr} {gss : List (List Int)} (h : PL H Pz as gss) {k : Nat} {x : Addr} {gs : List Int} {g : Int} (h1 : as[k]? = some x) (h2 : gss[k]? = some gs) :
    PL (upd H x (.lst ((gs ++ [g]).map V.int))) Pz as (gss.set k (gs ++ [g])) := by
  have hx : x ∈ as := List.mem_of_getElem? h1
  refine ⟨by rw [upd_ne (fun e : Pz = x => h.out (by rw [e]; exact hx))]; exact h.at0, by rw [List.length_set]; exact h.len, h.nd, h.out, fun i y gs' e1 e2 => ?_⟩
  by_cases hik : i = k
  · subst hik
    rw [h1] at e1
    cases e1
    have : i < gss.length := (List.getElem?_eq_some_iff.mp h2).1
    rw [List.getElem?_set_self this] at e2
    cases e2
    exact upd_same
  · rw [List.getElem?_set_ne (fun e => hik e.symm)] at e2
    have hne : y ≠ x := fun e => by
      subst e
      have hi := (List.getElem?_eq_some_iff.mp e1).1
      exact hik ((List.getElem?_inj hi h.nd).mp (e1.trans h1.symm))
    rw [upd_ne hne]
    exact h.each i y gs' e1 e2
theorem flat_put {gss : List (List Int)} {k : Nat} {gs : List Int} {g : Int} (h : gss[k]? = some gs) : ((gss.set k (gs ++ [g])).flatten).Perm (gss.flatten ++ [g]) := by
  induction gss generalizing k with
  | nil => simp at h
  | cons a gss ih =>
    cases k with
    | zero =>
      simp at h; subst h
      simp only [List.set_cons_zero, List.flatten_cons, List.append_assoc]
      exact List.Perm.append_left _ List.perm_append_comm
    | succ k =>
      simp only [List.set_cons_succ, List.flatten_cons, List.append_assoc]
      exact List.Perm.append_left _ (ih (by simpa using h))
theorem flat_len {gss : List (List Int)} (h : ∀ gs ∈ gss, gs ≠ []) : gss.length ≤ gss.flatten.length := by
  induction gss with
  | nil => simp
  | cons a gss ih =>
    have := ih fun gs hg => h gs (by simp [hg])
    have := List.length_pos_iff.mpr (h a (by simp))
    simp only [List.length_cons, List.flatten_cons, List.length_append]; omega
theorem piece_le {gss : List (List Int)} (h : ∀ gs ∈ gss, gs ≠ []) {i : Nat} {gs : List Int} (hi : gss[i]? = some gs) : gs.length + gss.length ≤ gss.flatten.length + 1 := by
  induction gss generalizing i with
  | nil => simp at hi
  | cons a gss ih =>
    have hl := flat_len (gss := gss) fun gs hg => h gs (by simp [hg])
    have ha := List.length_pos_iff.mpr (h a (by simp))
    cases i with
    | zero => simp at hi; subst hi; simp only [List.length_cons, List.flatten_cons, List.length_append]; omega
    | succ i =>
      have := ih (fun gs hg => h gs (by simp [hg])) (by simpa using hi)
      simp only [List.length_cons, List.flatten_cons, List.length_append]; omega
section
variable {P : Program} {w : World} {K : PySem.W.Frag} {mg : Str → Option Value} {base : Heap}
theorem sc67 : FnScope ["state", "guests", "row", "many", "pieces", "branches", "guest", "piece"] ["state", "guests"] (defScope (topS 63)) := ⟨rfl, rfl, rfl, by decide +kernel, rfl, by decide +kernel, by decide +kernel⟩
def spLawTree (d : Nat) : Sp := fun vs H Q _ => ∃ (st a : Addr) (gs : List Int), vs = [.ref st, .ref a] ∧ St H st ∧ H a = some (.lst (gs.map V.int)) ∧ gs ≠ [] ∧ gs.Nodup ∧ gs.length ≤ d ∧ gs.length ≤ 7 ∧ ∀ u H' (t : PT), Md st H H' → Tr H' u t → PT.Wf t → (PT.gs t).Perm gs → Q u H'
theorem cl_lawTree (D : Dfn K mg 63 "_law_tree") (B : Bt mg) (cT : Cl P w K mg base 1 "_law_take" ["state", "many"] spTake) (cM : Cl P w K mg base 2 "_law_mixed_row" ["state", "things"] spMixed) : ∀ d, Cl P w K mg base (d + 3) "_law_tree" ["state", "guests"] (spLawTree d)
  | 0 => D.void (fun _ _ _ _ _ _ us hl => match us, hl with | [_, _], _ => rfl) fun vs H Q E ⟨_, _, gs, _, _, _, hne, _, h, _⟩ => hne (List.eq_nil_of_length_eq_zero (Nat.le_zero.mp h))
  | d + 1 => by
    have cS := cl_lawTree D B cT cM d
    refine D.cl sc67 (fun _ _ _ _ _ _ us hl => match us, hl with | [_, _], _ => rfl) (fun vs H Q E h => ?_) (fun f cdv A outer s H vs Q E hr h => ?_)
    · obtain ⟨_, _, _, rfl, _⟩ := h; rfl
    obtain ⟨st, a, gs, rfl, hst, ea, hne, nd, hd, h7, q⟩ := h
    have hl : (gs.map V.int).length = gs.length := List.length_map _
    have hpos := List.length_pos_iff.mpr hne
    refine ⟨_, pss_cons (ps_if (pt_cmpR op_eq (pe_callB call_len_seq rfl B.len PySem.boot_len (pa_cons (pv 1) pa_nil)) pe_int (nomark _)) (pss_one (ps_ret (pe_ix ix_list (pv 1) pe_int (fun _ _ => rfl)))) pss_nil)
      (pss_cons (ps_set (i := 2) sc67.nd rfl (.inl rfl) (pe_cl cM hr (by omega) rfl (pa_cons (pv 0) (pa_cons (pv 1) pa_nil))))
      (pss_cons (ps_set (i := 3) sc67.nd rfl (.inl rfl) (pe_op op_add pe_int (pe_cl cT hr (by omega) rfl (pa_cons (pv 0) (pa_cons (pe_op op_sub (pe_callB call_len_seq rfl B.len PySem.boot_len (pa_cons (pv 2) pa_nil)) pe_int) pa_nil)))))
      (pss_cons (ps_setLc (i := 4) (own := [("guest", 6)]) (g := gName 6) (tt := tYes) (te := tLst (tCons (tVar 6) tNil)) rfl sc67.nd rfl rfl (sw_true rfl rfl rfl rfl) (pi_list (pe_slice sl_list (pv 2) po_none (po_some (pv 3)))) (blkOk_by (N := ["state", "guests", "row", "many", "pieces", "branches", "guest", "piece"]) (sc := defScope (topS 63)) (by decide +kernel))
          (fun _ _ _ _ _ => pg_name (i := 6) sc67.nd rfl (Or.inl rfl)) (fun _ _ _ _ _ => pts_nil) (fun _ _ _ _ _ => pe_lst (pa_cons (pv 6) pa_nil)))
      (pss_cons (ps_for PassesOwn.never rfl (pi_list (pe_slice sl_list (pv 2) (po_some (pv 3)) po_none)) (pg_name (i := 6) sc67.nd rfl (.inl rfl))
        (pss_one (ps_expr (pe_bm PySem.F.plainAttrs_list PySem.F.slot_list_append PySem.F.type_list_append mt_append (pe_ix ix_list (pv 4) (pe_cl cT hr (by omega) rfl (pa_cons (pv 0) (pa_cons (pv 3) pa_nil))) (fun _ _ => rfl)) (pa_cons (pv 6) pa_nil)))))
      (pss_cons (ps_set (i := 5) sc67.nd rfl (.inl rfl) (pe_callTy call_tupD rfl B.tuple (by decide +kernel) (pa_cons
          (pe_lc (own := [("piece", 7)]) (g := gName 7) (tt := tYes) rfl sc67.nd (pi_list (pv 4)) (blkOk_by (N := ["state", "guests", "row", "many", "pieces", "branches", "guest", "piece"]) (sc := defScope (topS 63)) (by decide +kernel))
          (fun _ _ _ _ _ => pg_name (i := 7) sc67.nd rfl (Or.inl rfl)) (fun _ _ _ _ _ => pts_nil) (fun _ _ _ _ _ => pe_cl cS hr (Nat.le_refl _) rfl (pa_cons (pv 0) (pa_cons (pv 7) pa_nil)))) pa_nil)))
      (pss_cons (ps_if (PW.pt (pw_and (pt_cmpR op_gt (pv 3) pe_int (nomark _)) (pw_and1 (pt_cmpR op_eq (pe_cl cT hr (by omega) rfl (pa_cons (pv 0) (pa_cons pe_int pa_nil))) pe_int (nomark _))))) (pss_one (ps_ret (pe_tup (pa_cons pe_str (pa_cons (pv 5) pa_nil))))) pss_nil)
      (pss_one (ps_ret (pe_tup (pa_cons pe_str (pa_cons (pv 5) pa_nil))))))))))), ?_⟩
    refine ⟨_, rfl, a, _, rfl, .inl (SqL.of ea), rfl, _, rfl, ?_⟩
    rw [dec_int]
    by_cases h1 : gs.length = 1
    · rw [show (((gs.map V.int).length : Int) == 1) = true from beq_iff_eq.mpr (by omega)]
      obtain ⟨g, rfl⟩ : ∃ g, gs = [g] := by
        match gs, h1 with
        | [g], _ => exact ⟨g, rfl⟩
      exact iteT ⟨_, rfl, a, _, _, _, rfl, rfl, SqL.of ea, atI_nat (j := 0) rfl, q _ _ (.leaf g) (.refl hst) (tr_leaf.mpr rfl) (.leaf g) (by simp)⟩
    rw [show (((gs.map V.int).length : Int) == 1) = false from beq_eq_false_iff_ne.mpr (by omega)]
    refine iteF ?_
    refine ⟨_, rfl, _, rfl, st, a, gs.map .int, rfl, hst, Ls.ints.mpr ea, sd_ints _, by rw [List.length_map]; omega, fun R H1 es g1 nR hR hp => ?_⟩
    obtain ⟨r, rfl, hrp⟩ := ints_of_perm hp
    have eR := Ls.ints.mp hR
    have hrl : r.length = gs.length := hrp.length_eq
    have hrl' : (r.map V.int).length = r.length := List.length_map _
    have Rst : R ≠ st := (g1.stt).off eR
    have esub : V.int (((r.map V.int).length : Int) - 1) = V.int (((r.length - 1 : Nat) : Nat) : Int) := by congr 1; omega
    refine ⟨_, rfl, _, rfl, R, _, rfl, .inl (SqL.of eR), _, _, rfl, rfl, st, r.length - 1, (by show [V.ref st, V.int (((r.map V.int).length : Int) - 1)] = _; rw [esub]), g1.stt, by omega, by omega, fun k H2 hk g2 => ?_⟩
    have m2 := g1.trans g2
    have eR2 := g2.old _ _ Rst eR
    refine ⟨_, _, rfl, rfl, ?_⟩
    -- many
    have eM : (2 : Int) + (k : Int) = ((2 + k : Nat) : Int) := by omega
    have hM : 2 + k ≤ r.length := by omega
    have e2 : V.int ((2 : Int) + (k : Int)) = V.int ((2 + k : Nat) : Int) := congrArg V.int eM
    obtain ⟨m, hm⟩ : ∃ m, m = 2 + k := ⟨_, rfl⟩
    rw [← hm] at e2 hM
    have hm2 : 2 ≤ m := by omega
    have hm7 : m ≤ 7 := by omega
    refine ⟨_, rfl, _, rfl, (m : Int), e2, R, _, rfl, SqL.of eR2, fun c nc => ?_⟩
    rw [cut_to, ← List.map_take]
    have gc := same_new (o := .lst ((r.take m).map V.int)) nc
    refine ⟨c, rfl, ⟨_, SqL.of upd_same⟩, fun Pz nP => ?_⟩
    have m3 := m2.then gc
    have Pst : Pz ≠ st := m3.stt.none nP
    have htl : ((r.take m).map V.int).length = m := by rw [List.length_map, List.length_take]; omega
    refine lc_it (walk_list (K := K) (a := c) (xs := (r.take m).map V.int)) (g := gName 6) (fun i H' => Same (upd H2 c (.lst ((r.take m).map V.int))) H' ∧ ∃ as, PL H' Pz as (((r.take m).take i).map fun g => [g]) ∧ ∀ x ∈ as, (upd H2 c (.lst ((r.take m).map V.int))) x = none)
      ⟨same_new nP, [], ⟨upd_same, rfl, List.nodup_nil, List.not_mem_nil, fun i x gs h => by simp at h⟩, fun x h => by simp at h⟩ (fun i H' _ h => h.1.sqL (SqL.of upd_same)) (fun i x H3 H4 hi h y => ?_) (fun H4 h => ?_)
    · obtain ⟨g3, as, pl, hn⟩ := h
      obtain ⟨rfl, hx⟩ := y
      rw [List.getElem?_map] at hx
      obtain ⟨g, hg, rfl⟩ := Option.map_eq_some_iff.mp hx
      refine ⟨rfl, _, rfl, (by show 1 ≤ sizeLine; decide), fun y ny => ?_⟩
      have gy := same_new (o := .lst [.int g]) ny
      have yP : Pz ≠ y := ne_of_none pl.at0 ny
      refine ⟨as.map V.ref, gy _ _ pl.at0, ?_, same_mut (g3.trans gy) nP, as ++ [y], ⟨?_, ?_, ?_, ?_, ?_⟩, ?_⟩
      · rw [List.length_map, pl.len, List.length_map, List.length_take, List.length_take]; exact big_lt (by omega)
      · rw [upd_same, List.map_append]; rfl
      · rw [take_snoc hg]
        simp only [List.length_append, List.map_append, pl.len]; rfl
      · refine List.nodup_append.mpr ⟨pl.nd, by simp, fun u hu v hv e => ?_⟩
        simp at hv; subst hv; subst e
        obtain ⟨j, hj⟩ := List.mem_iff_getElem?.mp hu
        have hjl : j < (((r.take m).take i).map fun g => [g]).length := by rw [← pl.len]; exact (List.getElem?_eq_some_iff.mp hj).1
        have := pl.each j u _ hj (List.getElem?_eq_getElem hjl)
        rw [ny] at this; cases this
      · intro hmem
        rcases List.mem_append.mp hmem with h | h
        · exact pl.out h
        · simp at h; exact yP h
      · intro j u gs' hu hgs
        have hju : u ∈ as ++ [y] := List.mem_of_getElem? hu
        have uP : u ≠ Pz := fun e => by
          subst e
          rcases List.mem_append.mp hju with h | h
          · exact pl.out h
          · simp at h; exact yP h
        rw [upd_ne uP]
        rw [take_snoc hg, List.map_append] at hgs
        have hil : (((r.take m).take i).map fun g => [g]).length = as.length := pl.len.symm
        by_cases hj : j < as.length
        · rw [List.getElem?_append_left hj] at hu
          rw [List.getElem?_append_left (by rw [hil]; exact hj)] at hgs
          have := pl.each j u gs' hu hgs
          exact gy _ _ this
        · have hjl := (List.getElem?_eq_some_iff.mp hu).1
          rw [List.length_append, List.length_singleton] at hjl
          have hj' : j = as.length := by omega
          rw [hj', List.getElem?_append_right (Nat.le_refl _), Nat.sub_self] at hu
          rw [hj', ← hil, List.getElem?_append_right (Nat.le_refl _), Nat.sub_self] at hgs
          simp at hu hgs
          subst hu hgs
          exact upd_same
      · intro u hu
        rcases List.mem_append.mp hu with h | h
        · exact hn u h
        · simp at h; subst h; exact none_back g3 ny
    obtain ⟨g4, as, pl, hn⟩ := h
    have etk : (r.take m).take ((r.take m).map V.int).length = r.take m := by
      rw [htl, List.take_take, Nat.min_self]
    rw [etk] at pl
    have m4 : Md st H H4 := m3.then g4
    have Rc : (upd H2 c (.lst ((r.take m).map V.int))) R = some (.lst (r.map V.int)) := gc _ _ eR2
    have nH : ∀ x ∈ as, H x = none := fun x hx => by
      cases e : H x with
      | none => rfl
      | some u =>
        have h3 := hn x hx
        have xst : x ≠ st := m3.stt.none h3
        rw [m3.old x u xst e] at h3; cases h3
    have nPH : H Pz = none := by
      cases e : H Pz with
      | none => rfl
      | some u => have := m3.old Pz u Pst e; rw [nP] at this; cases this
    have sta : st ∉ as := fun h => by
      have := nH st h
      obtain ⟨_, _, e, _⟩ := hst
      rw [e] at this; cases this
    refine ⟨_, rfl, _, rfl, (m : Int), e2, ?_⟩
    delta tNoPart
    refine ⟨R, _, rfl, SqL.of (g4 _ _ Rc), fun c2 nc2 => ?_⟩
    rw [cut_from, ← List.map_drop]
    have gc2 := same_new (o := .lst ((r.drop m).map V.int)) nc2
    refine ⟨c2, rfl, ⟨_, SqL.of upd_same⟩, ?_⟩
    generalize hH5 : upd H4 c2 (.lst ((r.drop m).map V.int)) = H5 at *
    have m5 : Md st H H5 := m4.then gc2
    have ec2 : H5 c2 = some (.lst ((r.drop m).map V.int)) := by rw [← hH5]; exact upd_same
    have c2st : c2 ≠ st := m4.stt.none nc2
    have c2as : c2 ∉ as := fun h => by
      obtain ⟨j, hj⟩ := List.mem_iff_getElem?.mp h
      have hjl := (List.getElem?_eq_some_iff.mp hj).1
      rw [pl.len] at hjl
      have := pl.each j c2 _ hj (List.getElem?_eq_getElem hjl)
      rw [nc2] at this; cases this
    have pl5 : PL H5 Pz as ((r.take m).map fun g => [g]) := pl.keep fun b u _ e => gc2 b u e
    have fl1 : ∀ l : List Int, (l.map fun g => [g]).flatten = l := fun l => by
      induction l with
      | nil => rfl
      | cons g l ih => rw [List.map_cons, List.flatten_cons, ih]; rfl
    have hasl : as.length = m := by rw [pl.len, List.length_map, List.length_take]; omega
    refine for_list (K := K) (xs := (r.drop m).map V.int) (fun i σ H' => ((∀ b u, b ≠ st → b ∉ as → H5 b = some u → H' b = some u) ∧ St H' st ∧ ∃ gss : List (List Int), PL H' Pz as gss ∧ (∀ gs ∈ gss, gs ≠ []) ∧ (gss.flatten).Perm (r.take (m + i))) ∧ ∃ y6, σ = [some (.ref st), some (.ref a), some (.ref R), some (.int ((2 : Int) + (k : Int))), some (.ref Pz), none, y6, none])
      ⟨⟨fun b u _ _ e => e, m5.stt, _, pl5, fun gs h => by obtain ⟨g, _, rfl⟩ := List.mem_map.mp h; simp, by rw [fl1]; exact .refl _⟩, _, rfl⟩ (fun i σ H' _ h => SqL.of (h.1.1 _ _ c2st c2as ec2)) (fun i x σ H6 hi h => ?_) (fun σ H6 h => ?_)
    · obtain ⟨⟨old6, st6, gss, pl6, ne6, fp6⟩, y6, rfl⟩ := h
      rw [List.getElem?_map] at hi
      obtain ⟨g, hg, rfl⟩ := Option.map_eq_some_iff.mp hi
      refine ⟨_, rfl, _, rfl, _, rfl, st, m, (by show [V.ref st, V.int ((2 : Int) + (k : Int))] = _; rw [e2]), st6, by omega, by omega, fun j H7 hj g7 => ?_⟩
      have pl7 : PL H7 Pz as gss := pl6.keep fun b u hb e => g7.old b u (fun z => by subst z; rcases hb with hb | hb; exact Pst hb.symm; exact sta hb) e
      obtain ⟨x, gs1, hx, hgs, ex⟩ := pl7.get (i := j) (by rw [← pl7.len, hasl]; exact hj)
      have xas : x ∈ as := List.mem_of_getElem? hx
      have hgl : gs1.length ≤ 7 := by
        have := piece_le ne6 hgs
        have h2 := fp6.length_eq
        rw [List.length_take] at h2
        have h3 : gss.length = m := by rw [← pl6.len, hasl]
        omega
      refine ⟨Pz, _, _, V.ref x, rfl, rfl, SqL.of pl7.at0, atI_nat (j := j) (v := V.ref x) (by rw [List.getElem?_map, hx]; rfl), .inl ⟨rfl, _, SqL.of ex⟩, _, rfl, x, _, _, rfl, rfl, ex, by rw [List.length_map]; exact big_lt (by omega), ?_⟩
      have em : (gs1.map V.int ++ [V.int g]) = ((gs1 ++ [g]).map V.int) := by rw [List.map_append]; rfl
      rw [em]
      have xst : x ≠ st := fun z => sta (by rw [← z]; exact xas)
      refine ⟨⟨fun b u b1 b2 e => ?_, ?_, gss.set j (gs1 ++ [g]), pl7.put hx hgs, fun gs' hgs' => ?_, ?_⟩, _, rfl⟩
      · rw [upd_ne (fun z : b = x => b2 (by rw [z]; exact xas))]
        exact g7.old b u b1 (old6 b u b1 b2 e)
      · obtain ⟨cc, bb, es, hs⟩ := g7.stt
        exact ⟨cc, bb, by rw [upd_ne xst.symm]; exact es, hs⟩
      · rcases List.mem_or_eq_of_mem_set hgs' with h | h
        · exact ne6 gs' h
        · subst h; simp
      · refine (flat_put hgs).trans ?_
        have : r.take (m + (i + 1)) = r.take (m + i) ++ [g] := by
          rw [← Nat.add_assoc]
          exact take_snoc (by rw [← hg, List.getElem?_drop])
        rw [this]
        exact fp6.append_right _
    obtain ⟨⟨old6, st6, gss, pl6, ne6, fp6⟩, y6, rfl⟩ := h
    have efull : r.take (m + ((r.drop m).map V.int).length) = r := by
      rw [List.length_map, List.length_drop, List.take_of_length_le (by omega)]
    rw [efull] at fp6
    have m6 : Md st H H6 := ⟨fun b u b1 e => old6 b u b1 (fun z => by have := nH b z; rw [e] at this; cases this) (m5.old b u b1 e), st6⟩
    have hgm : gss.length = m := by rw [← pl6.len, hasl]
    have rnd : r.Nodup := hrp.nodup_iff.mpr nd
    have fnd : gss.flatten.Nodup := fp6.nodup_iff.mpr rnd
    have gnd : ∀ gs' ∈ gss, gs'.Nodup := fun gs' h => by
      obtain ⟨A, B, rfl⟩ := List.append_of_mem h
      rw [List.flatten_append, List.flatten_cons, List.nodup_append] at fnd
      exact (List.nodup_append.mp fnd.2.1).1
    refine ⟨_, rfl, Pz, rfl, ⟨_, SqL.of pl6.at0⟩, fun D nD => ?_⟩
    have Dst : D ≠ st := st6.none nD
    have DP : Pz ≠ D := ne_of_none pl6.at0 nD
    have asl : (as.map V.ref).length = m := by rw [List.length_map, hasl]
    refine lc_it (walk_list (K := K) (a := Pz) (xs := as.map V.ref)) (g := gName 7) (fun i H' => Md st H6 H' ∧ ∃ ts : List PT, Ls H' D (ts.map PT.enc) ∧ ts.length = i ∧ (∀ t ∈ ts, PT.Wf t) ∧ (PT.gsL ts).Perm ((gss.take i).flatten))
      ⟨.of st6 (same_new nD), [], Ls.nil, rfl, fun t h => by simp at h, by simp⟩ (fun i H' _ h => SqL.of (h.1.old _ _ Pst pl6.at0)) (fun i x H7 H8 hi h y => ?_) (fun H7 h => ?_)
    · obtain ⟨g7, ts, ⟨zs, eD, kz⟩, hl7, hw7, hp7⟩ := h
      obtain ⟨rfl, hx⟩ := y
      rw [asl] at hi
      obtain ⟨u, gs1, hu, hgs, eu⟩ := pl6.get (i := i) (by omega)
      rw [List.getElem?_map, hu] at hx
      have hx : some (V.ref u) = some x := hx
      cases hx
      have uas : u ∈ as := List.mem_of_getElem? hu
      have ust : u ≠ st := fun z => sta (by rw [← z]; exact uas)
      have hpc := piece_le ne6 hgs
      have hfl := fp6.length_eq
      refine ⟨rfl, _, rfl, _, rfl, st, u, gs1, rfl, g7.stt, g7.old _ _ ust eu, ne6 _ (List.mem_of_getElem? hgs), gnd _ (List.mem_of_getElem? hgs), by omega, by omega, fun v H9 t g9 ht wt hpt => ?_⟩
      have eD9 := g9.old _ _ Dst eD
      have hzl : zs.length = ts.length := by rw [kz.len, List.length_map]
      refine ⟨zs, eD9, big_lt (by omega), ⟨fun b w nb e => ?_, ?_⟩, ts ++ [t], ⟨_, upd_same, ?_⟩, by simp [hl7], fun t' ht' => ?_, ?_⟩
      · rw [upd_ne (ne_of_none e nD)]; exact (g7.trans g9).old b w nb e
      · obtain ⟨cc, bb, es, hs⟩ := g9.stt
        exact ⟨cc, bb, by rw [upd_ne Dst.symm]; exact es, hs⟩
      · rw [List.map_append]
        exact (((kz.tu (g9.tu g7.stt)).snoc ht).tu (tu_upd eD9))
      · rcases List.mem_append.mp ht' with h | h
        · exact hw7 t' h
        · simp at h; subst h; exact wt
      · rw [take_snoc hgs, PT.gsL_append, List.flatten_append]
        simp only [PT.gsL_cons, PT.gsL_nil, List.append_nil, List.flatten_cons, List.flatten_nil]
        exact hp7.append hpt
    obtain ⟨g7, ts, ⟨zs, eD, kz⟩, hl7, hw7, hp7⟩ := h
    rw [asl] at hl7 hp7
    rw [← hgm, List.take_length] at hp7
    have m7 := m6.trans g7
    refine ⟨D, zs, rfl, SqL.of eD, fun b o nb hdo => ?_⟩
    have gb := same_new (o := .frz o (.tup zs)) nb
    have m8 := m7.then gb
    have hpf : (PT.gsL ts).Perm gs := (hp7.trans fp6).trans hrp
    have fin : ∀ (rr : Bool) (H9 : Hp), (if rr then 3 else 2) ≤ m → Md st (upd H7 b (.frz o (.tup zs))) H9 → ∀ t1, H9 t1 = none → Q (.ref t1) (upd H9 t1 (.tup [.str (kS rr), .ref b])) := fun rr H9 hrr g9 t1 n1 => by
      have gt := same_new (o := .tup [.str (kS rr), .ref b]) n1
      have hb9 : Rd H9 b (.tup zs) := g9.rd m8.stt (.inr ⟨o, upd_same⟩)
      refine q _ _ (.node rr ts) ((m8.trans g9).then gt) (tr_node.mpr ⟨t1, b, zs, rfl, .inl upd_same, gt.rd hb9, ?_⟩) (.node hw7 (by rw [hl7]; exact hrr)) (by rw [PT.gs_node]; exact hpf)
      exact (((kz.same gb).tu (g9.tu m8.stt)).same gt)
    refine ⟨_, rfl, (m : Int), _, e2, rfl, _, rfl, ?_⟩
    by_cases h3 : 2 < m
    · rw [decide_eq_true (by omega)]
      refine iteT ⟨_, rfl, st, 2, rfl, m8.stt, by decide, by decide, fun k2 H9 hk2 g9 => ⟨rfl, _, rfl, ?_⟩⟩
      rw [dec_int]
      by_cases hk1 : k2 = 1
      · rw [show (((k2 : Nat) : Int) == 1) = true from beq_iff_eq.mpr (by omega)]
        exact iteT ⟨_, rfl, (by show 2 ≤ sizeLine; decide), fun t1 n1 => fin true H9 (by simp; omega) g9 t1 n1⟩
      · rw [show (((k2 : Nat) : Int) == 1) = false from beq_eq_false_iff_ne.mpr (by omega)]
        exact iteF ⟨_, rfl, (by show 2 ≤ sizeLine; decide), fun t1 n1 => fin false H9 (by simp; omega) g9 t1 n1⟩
    · rw [decide_eq_false (by omega)]
      exact iteF ⟨_, rfl, (by show 2 ≤ sizeLine; decide), fun t1 n1 => fin false _ (by simp; omega) (.refl m8.stt) t1 n1⟩
end
end ST
namespace ST
open PySem PySem.Spec PyProof.Rows L2
open Classical
theorem rows_of_perm {es : List PyData} {ps : List (List Int)} (h : es.Perm (ps.map eP)) : ∃ qs : List (List Int), es = qs.map eP ∧ qs.Perm ps := by
  let b1 : PyData → Int := fun d => match d with | .int i => i | _ => 0
  let back : PyData → List Int := fun d => match d with | .tuple ds => ds.map b1 | _ => []
  have hb : ∀ p : List Int, back (eP p) = p := fun p => by
    show (p.map PyData.int).map b1 = p
    rw [List.map_map]
    have : (b1 ∘ PyData.int) = id := rfl
    rw [this, List.map_id]
  have hbl : ∀ l : List (List Int), (l.map eP).map back = l := fun l => by
    rw [List.map_map]
    have : (back ∘ eP) = id := funext hb
    rw [this, List.map_id]
  refine ⟨es.map back, ?_, by have := h.map back; rwa [hbl] at this⟩
  have : ∀ d ∈ es, eP (back d) = d := fun d hd => by
    obtain ⟨p, _, rfl⟩ := List.mem_map.mp (h.mem_iff.mp hd)
    rw [hb]
  rw [List.map_map]
  exact (List.map_congr_left this |>.trans (List.map_id _)).symm
theorem srt_up {l : List Int} (nd : l.Nodup) : (srt l).Pairwise (· < ·) := (srt_le l).imp₂ (fun a b h1 h2 => by omega) ((srt_perm l).nodup_iff.mpr nd)
/-- the parties of a tree go up -/
theorem made_up {t : PT} : (PT.gs t).Nodup → ∀ p ∈ PT.made t, p.Pairwise (· < ·) ∧ p.length ≤ (PT.gs t).length := by
  induction t using PT.ind with
  | hl g => intro _ p h; simp at h
  | hn r bs ih =>
    intro nd p h
    rw [PT.gs_node] at nd ⊢
    rw [PT.made_node] at h
    rcases List.mem_cons.mp h with rfl | h
    · exact ⟨srt_up nd, by rw [(srt_perm _).length_eq]; exact Nat.le_refl _⟩
    rcases List.mem_append.mp h with h | h
    · cases r with
      | false => simp at h
      | true =>
        obtain ⟨A, u, v, B, rfl, rfl⟩ := PT.mem_pairs.mp (by simpa using h)
        have e : PT.gsL (A ++ (u :: v :: B)) = PT.gsL A ++ ((PT.gs u ++ PT.gs v) ++ PT.gsL B) := by simp
        rw [e] at nd ⊢
        have n1 := (List.nodup_append.mp (List.nodup_append.mp nd).2.1).1
        refine ⟨srt_up n1, ?_⟩
        rw [(srt_perm _).length_eq]
        simp only [List.length_append]; omega
    · obtain ⟨b, hb, hp⟩ := PT.mem_madeL.mp h
      obtain ⟨h1, h2⟩ := ih b hb (PT.nd_of nd hb) p hp
      exact ⟨h1, Nat.le_trans h2 (gs_mem_le hb)⟩
theorem made_pgd {n : Nat} {t : PT} (g : GoodN n t) : ∀ p ∈ PT.made t, PGd (n : Int) p := fun p hp => by
  obtain ⟨h1, h2⟩ := made_up g.nd p hp
  have h3 := (PT.made_ok g.2.2.wf p hp).perm g.2.2.q
  refine ⟨h3.1, fun x hx => mem_rg.mp (h3.2 x hx), h1, ?_⟩
  rw [g.len] at h2
  have := g.2.1
  omega
theorem Side.pgd {n : Nat} {r p : List Int} (q : r.Perm (Rg n)) (h7 : n ≤ 7) (h : Side r p) : PGd (n : Int) p :=
  ⟨h.ne, fun g hg => mem_rg.mp (q.mem_iff.mp (h.sub g hg)), h.up, by have := h.le; rw [q.length_eq, rg_len] at this; omega⟩
theorem any_row (p : List Int) (qs : List (List Int)) : ((qs.map eP).any fun z => PyData.eqv z (eP p)) = decide (p ∈ qs) := by
  have e1 : ∀ q : List Int, PyData.eqv (eP q) (eP p) = decide (q = p) := fun q => by
    unfold eP
    simp only [PyData.eqv]
    induction q generalizing p with
    | nil => cases p <;> simp [PyData.eqvAll]
    | cons x q ih =>
      cases p with
      | nil => simp [PyData.eqvAll]
      | cons y p =>
        simp only [List.map_cons, PyData.eqvAll, PyData.eqv, ih]
        by_cases h : x = y
        · by_cases h2 : q = p
          · subst h h2; simp
          · simp [h2]
        · simp [h]
  induction qs with
  | nil => simp
  | cons q qs ih =>
    rw [List.map_cons, List.any_cons, ih, e1]
    by_cases h : q = p
    · subst h; simp
    · have : ¬ p = q := fun e => h e.symm
      simp [h, this]
section
variable {P : Program} {w : World} {K : PySem.W.Frag} {mg : Str → Option Value} {base : Heap}
def lawFor : List Stmt := match defBody (topS 67) with
  | .For _ _ b _ _ :: _ => b
  | _ => []
def lawN : List Str := ["script", "k", "state", "n", "row", "parties", "found", "party", "number", "tree", "some", "least", "every", "held"]
theorem scL : FnScope lawN ["script"] (defScope (topS 67)) := ⟨rfl, rfl, rfl, by decide +kernel, rfl, by decide +kernel, by decide +kernel⟩
def spLaw (K : PySem.W.Frag) : Sp := fun vs H Q _ => ∃ (a : Addr) (ns : List Int), vs = [.ref a] ∧ SqL K H a (ns.map V.int) ∧ ns.length ≤ 63 ∧ ∀ H', Q (.bl true) H'
end
end ST
namespace ST
open PySem PySem.Spec PyProof.Rows L2
open Classical
theorem none_md {st p : Addr} {H H' : Hp} (m : Md st H H') (n : H' p = none) : H p = none := by
  cases e : H p with
  | none => rfl
  | some u =>
    have h := m.stt.none n
    rw [m.old p u h e] at n; cases n
theorem Md.ro {st : Addr} {H H' : Hp} {v : V} {r : List Int} (m : Md st H H') (h : St H st) (k : Ro H v r) : Ro H' v r := by
  obtain ⟨a, e, k⟩ := k
  exact ⟨a, e, m.rd h k⟩
theorem Md.tr {st : Addr} {H H' : Hp} {v : V} {t : PT} (m : Md st H H') (h : St H st) (k : Tr H v t) : Tr H' v t := Fz.tu (m.tu h) k
theorem rows_ne {st p : Addr} {H : Hp} {ps : List (List Int)} (h : St H st) (k : Ls H p (ps.map eP)) : p ≠ st := by
  intro e; subst e
  obtain ⟨xs, ex, kx⟩ := k
  obtain ⟨c, b, es, _⟩ := h
  rw [ex] at es
  injection es with es
  injection es with es
  subst es
  obtain ⟨_, _, a, ea, _⟩ := rows_at kx (i := 0) (x := .int c) rfl
  cases ea
/-- x != y of an answer and a tree that it is -/
theorem ne_same {K : PySem.W.Frag} {H : Hp} {u v : V} {o : Option PT} {t : PT} {Q : V → Hp → Prop} (hu : OptT H u o) (ho : o = some t) (hv : Tr H v t) (hd : t.dp ≤ 30) (q : Q (.bl false) H) : rNeD K u v H Q := by
  subst ho
  refine ⟨_, _, hu.dp, Fz.dp K _ _ hv, shaped_dT fun T e => by cases e; exact hd, PT.shaped_enc hd, ?_⟩
  rw [eqv_dT, decide_eq_true rfl]; exact q
section
variable {P : Program} {w : World} {K : PySem.W.Frag} {mg : Str → Option Value} {base : Heap}
/-- the slots of the law's def -/
def lawS (a st D : Addr) (n : Int) (y1 y4 y6 y7 y8 v9 y10 v11 y12 y13 : Option V) : L2.St :=
  [some (.ref a), y1, some (.ref st), some (.int n), y4, some (.ref D), y6, y7, y8, v9, y10, v11, y12, y13]
theorem law_rest (B : Bt mg) (cTk : Cl P w K mg base 1 "_law_take" ["state", "many"] spTake) (cLP : Cl P w K mg base 2 "_law_party" ["state", "n"] spLawParty) (cK : Cl P w K mg base 30 "kept_parties" ["n", "tree"] spKept) (cH : Cl P w K mg base 29 "holds_in" ["n", "tree", "party"] spHolds)
    (cT : Cl P w K mg base 28 "tightened" ["n", "tree", "party"] spTight) (cB : Cl P w K mg base 30 "both" ["n", "one", "other"] spBoth) (cO : Cl P w K mg base 30 "tree_of" ["n", "parties"] spTreeOf)
    {f : Addr} {cdv : Value} {A : Around} {outer : List PySem.Env} {s : Shared} {H : Hp} {E : XK} (hr : Room 30 (A.deeper (envOfC "law" (defScope (topS 67)) s.heap.objs.size f cdv))) :
    ∃ tr : TS, PSs (cxOf CX0 P w K mg base lawN "law" (defScope (topS 67)) f cdv A outer s H E).nox (lawFor.drop 12) tr ∧
      ∀ (a st D : Addr) (n : Nat) (y1 y4 y6 y7 y8 y10 y12 y13 : Option V) (v9 v11 : V) (t : PT) (H1 : Hp) (Dz : Ends), St H1 st → GoodN n t → Tr H1 v9 t → Tr H1 v11 (PT.least t).2 →
        (∀ (H' : Hp) (z7 z12 z13 : Option V), Md st H1 H' → Dz.nx (lawS a st D n y1 y4 y6 z7 y8 (some v9) y10 (some v11) z12 z13) H') →
        tr Dz (lawS a st D n y1 y4 y6 y7 y8 (some v9) y10 (some v11) y12 y13) H1 := by
  refine ⟨_, (pss_cons (ps_set (i := 12) scL.nd rfl (.inl rfl) (pe_cl cK hr (by omega) rfl (pa_cons (pv 3) (pa_cons (pv 9) pa_nil))))
    (pss_cons (ps_for PassesOwn.never rfl (pi_list (pe_lst (pa_cons (pe_cl cLP hr (by omega) rfl (pa_cons (pv 2) (pa_cons (pv 3) pa_nil))) (pa_cons (pe_tup (pa_cons (pe_op op_sub (pv 3) pe_int) pa_nil)) (pa_cons (pe_tupRg rfl rfl B.tuple (prg_1 rfl B.range (pv 3))) pa_nil))))) (pg_name (i := 7) scL.nd rfl (.inl rfl))
      (pss_cons (ps_set (i := 13) scL.nd rfl (.inl rfl) (pe_cl cH hr (by omega) rfl (pa_cons (pv 3) (pa_cons (pv 9) (pa_cons (pv 7) pa_nil)))))
      (pss_one (ps_if (PW.pt (pw_or (pt_cmpR op_ne (pv 13) (pe_cmpR (op_inD (room65 hr)) (pv 7) (pv 12) rfl) (nomark _)) (pw_or1 (PW.pt (pw_and (pt_val (pv 13)) (pw_and1 (pt_cmpR (op_neD hr.units) (pe_cl cT hr (by omega) rfl (pa_cons (pv 3) (pa_cons (pv 9) (pa_cons (pv 7) pa_nil)))) (pv 11) (nomark _)))))))) (pss_one (ps_ret pe_bl)) pss_nil))))
    (pss_one (ps_if (PW.pt (pw_or (pt_cmpR (op_neD hr.units) (pe_cl cB hr (by omega) rfl (pa_cons (pv 3) (pa_cons (pv 9) (pa_cons (pv 9) pa_nil)))) (pv 11) (nomark _)) (pw_or1 (pt_cmpR (op_neD hr.units) (pe_cl cB hr (by omega) rfl (pa_cons (pv 3) (pa_cons (pv 9) (pa_cons (pe_cl cO hr (by omega) rfl (pa_cons (pv 3) (pa_cons (pe_lst pa_nil) pa_nil))) pa_nil)))) (pv 11) (nomark _))))) (pss_one (ps_ret pe_bl)) pss_nil)))), ?_⟩
  intro a st D n y1 y4 y6 y7 y8 y10 y12 y13 v9 v11 t H1 Dz hst hg ht hle q
  have h1 := hg.1
  have h7 := hg.2.1
  have dl : (PT.least t).2.dp ≤ 30 := by have := (least_goodN hg).dp; omega
  refine ⟨_, rfl, _, rfl, n, v9, t, rfl, ht, hg, fun p14 H2 qs g2 hK hA => ?_⟩
  have m2 : Md st H1 H2 := .of hst g2
  have p14st : p14 ≠ st := rows_ne m2.stt hK
  have ht2 := m2.tr hst ht
  have hl2 := m2.tr hst hle
  refine ⟨_, rfl, _, rfl, st, n, rfl, m2.stt, h1, h7, fun u1 H3 p1 g3 hu1 hok1 hup1 => ?_⟩
  have m3 := m2.trans g3
  refine ⟨_, rfl, _, _, rfl, rfl, (by show 1 ≤ sizeLine; decide), fun t2 n2 => ?_⟩
  have eN : ((n : Int) - 1) = ((n - 1 : Nat) : Int) := by omega
  have gt2 := same_new (o := .tup [.int ((n : Int) - 1)]) n2
  refine ⟨_, rfl, _, rfl, RgOk.of_le (by omega) (by omega) (by omega) (by omega), fun t3 n3 => ?_⟩
  rw [rgV_rg]
  have gt3 := same_new (o := .tup ((Rg n).map V.int)) n3
  refine ⟨(by show 3 ≤ sizeLine; decide), fun L nL => ?_⟩
  have gL := same_new (o := .lst [u1, .ref t2, .ref t3]) nL
  have g35 := (gt2.trans gt3).trans gL
  have m6 := m3.then g35
  have hu6 : Ro _ u1 p1 := hu1.same g35
  have ht2r : Ro (upd (upd (upd H3 t2 (.tup [.int ((n : Int) - 1)])) t3 (.tup ((Rg n).map V.int))) L (.lst [u1, .ref t2, .ref t3])) (.ref t2) [(n : Int) - 1] := ⟨t2, rfl, .inl (gL _ _ (gt3 _ _ upd_same))⟩
  have ht3r : Ro (upd (upd (upd H3 t2 (.tup [.int ((n : Int) - 1)])) t3 (.tup ((Rg n).map V.int))) L (.lst [u1, .ref t2, .ref t3])) (.ref t3) (Rg n) := ⟨t3, rfl, .inl (gL _ _ upd_same)⟩
  generalize hH6 : upd (upd (upd H3 t2 (.tup [.int ((n : Int) - 1)])) t3 (.tup ((Rg n).map V.int))) L (.lst [u1, .ref t2, .ref t3]) = H6 at *
  have eL : H6 L = some (.lst [u1, .ref t2, .ref t3]) := by rw [← hH6]; exact upd_same
  have hK6 : Ls H6 p14 ((qs.filter (holdsB t)).map eP) := (g3.then g35).ls m2.stt p14st hK
  have ht6 := m6.tr hst ht
  have hl6 := m6.tr hst hle
  have hpar : ∀ (i : Nat) (x : V), [u1, V.ref t2, V.ref t3][i]? = some x → ∃ p, Ro H6 x p ∧ PT.POk (Rg n) p ∧ p.Pairwise (· < ·) := fun i x hi => by
    match i, hi with
    | 0, hi => cases hi; exact ⟨p1, hu6, hok1, hup1⟩
    | 1, hi => cases hi; exact ⟨_, ht2r, ⟨by simp, fun g hg' => by simp at hg'; subst hg'; exact mem_rg.mpr (by omega)⟩, by simp⟩
    | 2, hi =>
      cases hi
      refine ⟨_, ht3r, ⟨fun e => ?_, fun g hg' => hg'⟩, ?_⟩
      · have := rg_len n
        rw [e] at this
        simp at this; omega
      · unfold Rg
        rw [List.pairwise_map]
        exact List.pairwise_lt_range.imp fun h => by omega
    | i + 3, hi => simp at hi
  refine ⟨L, rfl, ⟨_, SqL.of eL⟩, ?_⟩
  refine for_list (K := K) (xs := [u1, V.ref t2, V.ref t3]) (fun i σ H' => Same H6 H' ∧ ∃ z7 z13, σ = lawS a st D n y1 y4 y6 z7 y8 (some v9) y10 (some v11) (some (.ref p14)) z13) ⟨Same.refl _, _, _, rfl⟩ (fun j σ H' _ h => h.1.sqL (SqL.of eL)) (fun i x σ H7 hi h => ?_) (fun σ H7 h => ?_)
  · obtain ⟨g7, z7, z13, rfl⟩ := h
    obtain ⟨p, hxp, hok, hup⟩ := hpar i x hi
    have hxp7 := hxp.same g7
    refine ⟨_, rfl, _, rfl, _, rfl, n, v9, x, t, p, rfl, ht6.same g7, hxp7, hg, hok, fun H8 g8 => ?_⟩
    have hxp8 := hxp7.same g8
    have hK8 := (hK6.same g7).same g8
    have hsd : SeqAt.shaped (.list ((qs.filter (holdsB t)).map eP)) = true := shaped_sd (sd_rows _)
    refine ⟨_, rfl, _, rfl, _, rfl, eP p, _, hxp8.dp, hK8.dp K, shaped_p, hsd, rfl, _, rfl, ?_⟩
    rw [any_row]
    have hin : decide (p ∈ qs.filter (holdsB t)) = decide (PT.tight p t = some (PT.least t).2) := by
      by_cases hT : PT.tight p t = some (PT.least t).2
      · rw [decide_eq_true hT]
        exact decide_eq_true (List.mem_filter.mpr ⟨hA.2.1 p hup hok, decide_eq_true hT⟩)
      · rw [decide_eq_false hT]
        exact decide_eq_false fun h => hT (of_decide_eq_true (List.mem_filter.mp h).2)
    rw [hin]
    have hbb : ∀ b : Bool, (!decide (V.bl b = V.bl b)) = false := fun b => by simp
    rw [hbb]
    refine iteF ⟨_, rfl, _, rfl, ?_⟩
    by_cases hT : PT.tight p t = some (PT.least t).2
    · rw [decide_eq_true hT]
      refine iteT ⟨_, rfl, _, rfl, _, rfl, n, v9, x, t, p, rfl, (ht6.same g7).same g8, hxp8, hg, hok, fun u9 H9 g9 hu9 => ⟨_, rfl, ?_⟩⟩
      refine ne_same (K := K) hu9 hT (((hl6.same g7).same g8).same g9) dl ⟨_, rfl, iteF ⟨(g7.trans g8).trans g9, _, _, rfl⟩⟩
    · rw [decide_eq_false hT]
      exact iteF (iteF ⟨g7.trans g8, _, _, rfl⟩)
  · obtain ⟨g7, z7, z13, rfl⟩ := h
    have m7 := m6.then g7
    refine ⟨_, rfl, _, rfl, _, rfl, n, v9, v9, t, t, rfl, ht6.same g7, ht6.same g7, hg, hg, fun u8 H8 g8 hu8 => ⟨_, rfl, ?_⟩⟩
    refine ne_same (K := K) hu8 (PT.both_self h1 hg.2.2) ((hl6.same g7).same g8) dl ⟨_, rfl, iteF ?_⟩
    refine ⟨_, rfl, _, rfl, _, rfl, Nat.zero_le _, fun e ne => ?_⟩
    have ge := same_new (o := .lst []) ne
    have hfree : GoodN n (PT.free n) := ⟨h1, h7, PT.free_good h1⟩
    refine ⟨n, e, [], rfl, Ls.nil, ⟨by simp, fun p h => by simp at h⟩, h1, h7, fun u9 H9 g9 hu9 => ?_⟩
    have hu9 : Tr H9 u9 (PT.free n) := hu9
    have g79 := ((g7.trans g8).trans ge).trans g9
    refine ⟨n, v9, u9, t, PT.free n, rfl, ht6.same g79, hu9, hg, hfree, fun u10 H10 g10 hu10 => ⟨_, rfl, ?_⟩⟩
    refine ne_same (K := K) hu10 (PT.both_free h1 hg.2.2) (hl6.same (g79.trans g10)) dl ⟨_, rfl, iteF ?_⟩
    exact q H10 _ _ _ (m6.then (g79.trans g10))
end
end ST
namespace ST
open PySem PySem.Spec PyProof.Rows L2
open Classical
/-- the defs that the law calls -/
structure Lc (P : Program) (w : World) (K : PySem.W.Frag) (mg : Str → Option Value) (base : Heap) : Prop where
  st : Cl P w K mg base 2 "_law_state" ["script", "k"] (spState K)
  tk : Cl P w K mg base 1 "_law_take" ["state", "many"] spTake
  mx : Cl P w K mg base 2 "_law_mixed_row" ["state", "things"] spMixed
  tr : Cl P w K mg base 10 "_law_tree" ["state", "guests"] (spLawTree 7)
  lp : Cl P w K mg base 2 "_law_party" ["state", "n"] spLawParty
  tg : Cl P w K mg base 3 "_law_together" ["state", "n"] spLawTog
  kp : Cl P w K mg base 30 "kept_parties" ["n", "tree"] spKept
  hi : Cl P w K mg base 29 "holds_in" ["n", "tree", "party"] spHolds
  ti : Cl P w K mg base 28 "tightened" ["n", "tree", "party"] spTight
  bo : Cl P w K mg base 30 "both" ["n", "one", "other"] spBoth
  tf : Cl P w K mg base 30 "tree_of" ["n", "parties"] spTreeOf
  hr : Cl P w K mg base 18 "has_row" ["n", "tree", "seating"] spHasRow
  rm : Cl P w K mg base 9 "rows_many" ["n", "tree"] spRowsMany
  ra : Cl P w K mg base 12 "row_at" ["n", "tree", "number"] spRowAt
  fb : Cl P w K mg base 6 "first_broken" ["n", "parties", "seating"] spBroken
  pb : Cl P w K mg base 18 "parties_by" ["n", "tree"] spPartiesBy
  lf : Cl P w K mg base 9 "least_form" ["n", "tree"] spForm
section
variable {P : Program} {w : World} {K : PySem.W.Frag} {mg : Str → Option Value} {base : Heap}
theorem max_ok {l : Nat} (h : l ≤ 63) : ∀ z : Int, z = (if (if (4 : Int) < (l : Int) then 4 else (l : Int)) > 1 then (if (4 : Int) < (l : Int) then 4 else (l : Int)) else 1) → -(2 ^ 62) ≤ z ∧ z < 2 ^ 62 := by
  intro z hz
  split at hz
  · split at hz <;> (subst hz; constructor <;> omega)
  · subst hz; constructor <;> omega
theorem fn_law {f : Addr} {fd : FuncData} (F : Fun K "law" "law" (topS 67) f fd) (B : Bt mg) (C : Lc P w K mg base) : FnOk P w K mg base CX0 31 f fd ["script"] (spLaw K) := by
  refine F.ok scL (fun vs H Q E h => ?_) (fun cdv A outer s H vs Q E hr h => ?_)
  · obtain ⟨_, _, rfl, _⟩ := h; rfl
  obtain ⟨a, ns, rfl, hS, hz, q⟩ := h
  obtain ⟨tr, hrest, hR⟩ := law_rest B C.tk C.lp C.kp C.hi C.ti C.bo C.tf (f := f) (cdv := cdv) (A := A) (outer := outer) (s := s) (H := H) (E := E) hr
  refine ⟨_, pss_cons (ps_for PassesOwn.never rfl (pi_range1 rfl B.range (pa_cons (pe_callB (call_max2 rfl) rfl B.max (by decide +kernel) (pa_cons pe_int (pa_cons (pe_callB (call_min2 rfl) rfl B.min (by decide +kernel) (pa_cons (pe_callB call_len_seq rfl B.len PySem.boot_len (pa_cons (pv 0) pa_nil)) (pa_cons pe_int pa_nil))) pa_nil))) pa_nil)) (pg_name (i := 1) scL.nd rfl (.inl rfl))
      (pss_cons (ps_set (i := 2) scL.nd rfl (.inl rfl) (pe_cl C.st hr (by omega) rfl (pa_cons (pv 0) (pa_cons (pv 1) pa_nil))))
      (pss_cons (ps_set (i := 3) scL.nd rfl (.inr rfl) (pe_op op_add pe_int (pe_cl C.tk hr (by omega) rfl (pa_cons (pv 2) (pa_cons pe_int pa_nil)))))
      (pss_cons (ps_asg (pe_cl C.tg hr (by omega) rfl (pa_cons (pv 2) (pa_cons (pv 3) pa_nil))) (pg_tup rfl (pgs_cons (pg_name (i := 4) scL.nd rfl (.inl rfl)) (pgs_cons (pg_name (i := 5) scL.nd rfl (.inl rfl)) pgs_nil))))
      (pss_cons (ps_set (i := 6) scL.nd rfl (.inr rfl) (pe_cl C.tf hr (by omega) rfl (pa_cons (pv 3) (pa_cons (pv 5) pa_nil))))
      (pss_cons (ps_if (PW.pt (pw_or (pt_cmpR op_isN (pv 6) pe_non (nomark _)) (pw_or (pt_not (pt_val (pe_cl C.hr hr (by omega) rfl (pa_cons (pv 3) (pa_cons (pv 6) (pa_cons (pv 4) pa_nil))))))
          (pw_or1 (pt_cmpR (op_neD hr.units) (pv 6) (pe_cl C.tf hr (by omega) rfl (pa_cons (pv 3) (pa_cons (pe_cl C.mx hr (by omega) rfl (pa_cons (pv 2) (pa_cons (pv 5) pa_nil))) pa_nil))) (nomark _)))))) (pss_one (ps_ret pe_bl)) pss_nil)
      (pss_cons (ps_if (pt_cmpR (op_neD hr.units) (pe_lc (own := [("party", 7)]) (g := gName 7) (te := tVar 7) rfl scL.nd (pi_list (pv 5)) (blkOk_by (N := lawN) (sc := defScope (topS 67)) (by decide +kernel))
          (fun _ _ _ _ _ => pg_name (i := 7) scL.nd rfl (Or.inl rfl)) (fun _ _ _ _ _ => pts_one (pt_not (pt_val (pe_cl C.hi hr (by omega) rfl (pa_cons (pv 3) (pa_cons (pv 6) (pa_cons (pv 7) pa_nil))))))) (fun _ _ _ _ _ => pv 7)) (pe_lst pa_nil) (nomark _)) (pss_one (ps_ret pe_bl)) pss_nil)
      (pss_cons (ps_set (i := 8) scL.nd rfl (.inl rfl) (pe_cl C.tk hr (by omega) rfl (pa_cons (pv 2) (pa_cons (pe_cl C.rm hr (by omega) rfl (pa_cons (pv 3) (pa_cons (pv 6) pa_nil))) pa_nil))))
      (pss_cons (ps_if (pt_cmpR op_notN (pe_cl C.fb hr (by omega) rfl (pa_cons (pv 3) (pa_cons (pv 5) (pa_cons (pe_cl C.ra hr (by omega) rfl (pa_cons (pv 3) (pa_cons (pv 6) (pa_cons (pv 8) pa_nil)))) pa_nil)))) pe_non (nomark _)) (pss_one (ps_ret pe_bl)) pss_nil)
      (pss_cons (ps_set (i := 9) scL.nd rfl (.inl rfl) (pe_cl C.tr hr (by omega) rfl (pa_cons (pv 2) (pa_cons (pe_listRg rfl rfl B.list (prg_1 rfl B.range (pv 3))) pa_nil))))
      (pss_cons (ps_set (i := 10) scL.nd rfl (.inl rfl) (pe_cl C.pb hr (by omega) rfl (pa_cons (pv 3) (pa_cons (pv 9) pa_nil))))
      (pss_cons (ps_set (i := 11) scL.nd rfl (.inl rfl) (pe_cl C.lf hr (by omega) rfl (pa_cons (pv 3) (pa_cons (pv 9) pa_nil))))
      (pss_cons (ps_if (PW.pt (pw_and (pt_cmpR op_lt (pe_callB call_len_seq rfl B.len PySem.boot_len (pa_cons (pv 10) pa_nil)) pe_int (nomark _)) (pw_and1 (pt_cmpR (op_neD hr.units) (pe_cl C.tf hr (by omega) rfl (pa_cons (pv 3) (pa_cons (pv 10) pa_nil))) (pv 11) (nomark _))))) (pss_one (ps_ret pe_bl)) pss_nil)
      hrest)))))))))))))
    (pss_one (ps_ret pe_bl)), ?_⟩
  have hz' : (ns.map V.int).length ≤ 63 := by rw [List.length_map]; exact hz
  refine ⟨_, rfl, a, _, rfl, .inl hS, _, _, rfl, _, _, rfl, _, rfl, ?_, ?_, ?_⟩
  · (repeat' split) <;> omega
  · (repeat' split) <;> omega
  refine for_range (lo := 0) (fun i σ H' => Same H H' ∧ ∃ y1 y2 y3 y4 y5 y6 y7 y8 y9 y10 y11 y12 y13, σ = [some (.ref a), y1, y2, y3, y4, y5, y6, y7, y8, y9, y10, y11, y12, y13]) ⟨Same.refl _, _, _, _, _, _, _, _, _, _, _, _, _, _, rfl⟩ (fun i σ H1 hi h => ?_) (fun σ H1 h => ?_)
  case refine_2 => exact q H1
  obtain ⟨g1, y1, y2, y3, y4, y5, y6, y7, y8, y9, y10, y11, y12, y13, rfl⟩ := h
  have e0 : (0 : Int) + ((i : Nat) : Int) = (i : Int) := by omega
  rw [e0]
  refine ⟨_, rfl, _, rfl, a, ns, i, rfl, g1.sqL hS, fun st H2 g2 nst hst2 => ?_⟩
  have nstH : H st = none := none_back g1 nst
  have gH2 : Same H H2 := g1.trans g2
  refine ⟨_, rfl, st, 7, rfl, hst2, by decide, by decide, fun k1 H3 hk1 g3 => ⟨_, _, rfl, rfl, ?_⟩⟩
  obtain ⟨n, hn⟩ : ∃ n, n = 1 + k1 := ⟨_, rfl⟩
  have h1 : 1 ≤ n := by omega
  have h7 : n ≤ 7 := by omega
  have eN : (1 : Int) + (k1 : Int) = (n : Int) := by omega
  show gName 3 (V.int ((1 : Int) + (k1 : Int))) _ _ _
  rw [eN]
  have m3 : Md st H2 H3 := g3
  refine ⟨_, rfl, _, rfl, st, n, rfl, g3.stt, h1, h7, fun T D' x H4 r ps g4 eT hx hrp Dst nD hL hps8 hside => ⟨T, _, rfl, SqT.of eT, rfl, _, _, rfl, _, _, rfl, rfl, ?_⟩⟩
  have hpok : ∀ p ∈ ps, PT.POk (Rg n) p := fun p hp => pok_of ((hside p hp).pgd hrp h7)
  have hPs : PsGd (n : Int) ps := ⟨hps8, fun p hp => (hside p hp).pgd hrp h7⟩
  obtain ⟨TT, eTT, fTT, gTT, lTT⟩ := PT.treeOf_row h1 hpok hrp fun p hp => (hside p hp).cv
  have gT : GoodN n TT := ⟨h1, h7, gTT⟩
  -- found
  refine ⟨_, rfl, _, rfl, n, D', ps, rfl, hL, hPs, h1, h7, fun u H5 g5 hu => ?_⟩
  rw [eTT] at hu
  have hu : Tr H5 u TT := hu
  have m5 : Md st H2 H5 := (m3.trans g4).then g5
  refine ⟨_, rfl, rfl, _, rfl, ?_⟩
  rw [decide_eq_false (tr_ne hu)]
  refine iteF ?_
  refine ⟨_, rfl, _, rfl, _, rfl, n, u, x, TT, r, rfl, hu, hx.same g5, fTT, gT, fun H6 g6 => ⟨true, rfl, iteF ?_⟩⟩
  have m6 := m5.then g6
  have hL6 : Ls H6 D' (ps.map eP) := (hL.same g5).same g6
  refine ⟨_, rfl, _, rfl, _, rfl, _, rfl, st, D', ps.map eP, rfl, m6.stt, hL6, sd_rows _, by rw [List.length_map]; omega, fun p6 H7 es g7 np6 hL7 hperm => ?_⟩
  obtain ⟨qs, rfl, hq⟩ := rows_of_perm hperm
  have m7 := m6.trans g7
  refine ⟨n, p6, qs, rfl, hL7, ⟨by rw [hq.length_eq]; exact hps8, fun p hp => hPs.ok p (hq.mem_iff.mp hp)⟩, h1, h7, fun u8 H8 g8 hu8 => ?_⟩
  have m8 := m7.then g8
  have hu7 : Tr H8 u TT := (g7.tr m6.stt (hu.same g6)).same g8
  have eord : PT.treeOf n qs = some TT := by rw [PT.treeOf_order h1 hpok hq hrp fun p hp => (hside p hp).cv, eTT]
  have dT : TT.dp ≤ 30 := by have := gT.dp; omega
  rw [eord] at hu8
  have hu8 : Tr H8 u8 TT := hu8
  refine ⟨_, _, Fz.dp K _ _ hu7, Fz.dp K _ _ hu8, PT.shaped_enc dT, PT.shaped_enc dT, _, rfl, ?_⟩
  rw [PT.eqv_enc, decide_eq_true rfl]
  refine iteF ?_
  -- every party holds
  have hL8 : Ls H8 D' (ps.map eP) := (g7.ls m6.stt Dst hL6).same g8
  obtain ⟨xs, eD8, kx8⟩ := id hL8
  have hxl : xs.length = ps.length := by rw [kx8.len, List.length_map]
  refine ⟨_, rfl, D', rfl, ⟨_, SqL.of eD8⟩, fun D2 nD2 => ?_⟩
  refine lc_fz (walk_list (K := K) (a := D') (xs := xs)) nD2 (fun H9 g9 => g9.sqL (SqL.of eD8)) yat_same (fun _ => rfl) (fun _ => false) (fun _ => .none) (by omega) (fun i z H9 H10 hi g9 y' Kb hk => ?_) (fun i z H9 H10 H11 hi hf => by cases hf) (fun H9 g9 hD2 => ?_)
  · obtain ⟨rfl, hz⟩ := y'
    obtain ⟨p, hp, hzp⟩ := rows_at (kx8.same g9) hz
    have hpm := List.mem_of_getElem? hp
    refine ⟨_, rfl, _, rfl, _, rfl, n, u, z, TT, p, rfl, hu7.same g9, hzp, gT, hpok p hpm, fun H11 g11 => ⟨_, rfl, ?_⟩⟩
    rw [decide_eq_true (PT.treeOf_held h1 hpok eTT gTT hpm)]
    exact hk _ g11
  have eg : gvn xs.length (fun _ => false) (fun _ => PyData.none) = [] := by unfold gvn; simp
  rw [eg] at hD2
  refine ⟨Nat.zero_le _, fun e9 ne9 => ?_⟩
  have ge9 := same_new (o := .lst []) ne9
  refine ⟨.list [], .list [], (hD2.same ge9).dp K, (Ls.nil).dp K, rfl, rfl, _, rfl, iteF ?_⟩
  have m9 := (m8.then g9).then ge9
  have hu9 := (hu7.same g9).same ge9
  generalize upd H9 e9 (.lst []) = H10 at *
  -- a row of it
  have hL10 : Ls H10 D' (ps.map eP) := (hL8.same g9).same ge9
  have hMp := PT.many_pos TT
  have hM7 := many7 gT.2.2.wf gT.tg.z
  refine ⟨_, rfl, _, rfl, _, rfl, n, u, TT, rfl, hu9, gT, st, TT.many, rfl, m9.stt, by omega, by omega, fun k8 H11 hk8 g11 => ?_⟩
  have m11 := m9.trans g11
  have hu11 := g11.tr m9.stt hu9
  have hL11 := g11.ls m9.stt Dst hL10
  refine ⟨_, rfl, _, rfl, _, rfl, _, rfl, _, rfl, n, u, TT, k8, rfl, hu11, gT, hk8, fun v12 H12 r12 g12 hr12 hf12 => ?_⟩
  have hrows := (PT.treeOf_rows h1 hpok eTT).mp hf12
  refine ⟨(n : Int), D', v12, ps, r12, rfl, by omega, by omega, hL11.same g12, hPs, hr12, hrows.1.nodup_iff.mpr (rg_nd n), fun p hp => ⟨fun g hg => hrows.1.mem_iff.mpr ((hpok p hp).2 g hg), hrows.2 p hp⟩, fun H13 g13 => ⟨rfl, _, rfl, iteF ?_⟩⟩
  have m13 := (m11.then g12).then g13
  -- the tree
  refine ⟨_, rfl, _, rfl, _, rfl, RgOk.of_le (by omega) (by omega) (by omega) (by omega), fun l nl => ?_⟩
  rw [rgV_rg]
  have gl := same_new (o := .lst ((Rg n).map V.int)) nl
  have m14 := m13.then gl
  refine ⟨st, l, Rg n, rfl, m14.stt, upd_same, fun e => by have := rg_len n; rw [e] at this; simp at this; omega, rg_nd n, by rw [rg_len]; exact h7, by rw [rg_len]; exact h7, fun v9 H15 t g15 ht wt hpt => ?_⟩
  have m15 := m14.trans g15
  have gt : GoodN n t := ⟨h1, h7, ⟨wt, hpt⟩⟩
  refine ⟨_, rfl, _, rfl, n, v9, t, rfl, ht, gt, fun p16 H16 g16 hp16 => ?_⟩
  refine ⟨_, rfl, _, rfl, n, v9, t, rfl, ht.same g16, gt, fun v17 H17 g17 hv17 => ?_⟩
  have m17 := (m15.then g16).then g17
  have hp17 := hp16.same g17
  obtain ⟨ws, ew, kw⟩ := id hp17
  have hwl : ws.length = (PT.made t).length := by rw [kw.len, List.length_map]
  have back : ∀ (H' : Hp), Md st H17 H' → Same H H' := fun H' g => (m17.trans g).same0 (H0 := H) gH2 nstH
  refine ⟨_, rfl, p16, ws, rfl, .inl (SqL.of ew), _, _, rfl, rfl, _, rfl, ?_⟩
  by_cases h9 : (PT.made t).length < 9
  · rw [decide_eq_true (by omega)]
    refine iteT ⟨_, rfl, _, rfl, n, p16, PT.made t, rfl, hp17, ⟨by omega, made_pgd gt⟩, h1, h7, fun u18 H18 g18 hu18 => ⟨_, rfl, ?_⟩⟩
    refine ne_same (K := K) hu18 (PT.treeOf_made h1 gt.2.2) (hv17.same g18) (by have := (least_goodN gt).dp; omega) ⟨_, rfl, iteF ?_⟩
    exact hR a st D' n _ _ _ _ _ _ _ _ v9 v17 t H18 _ (m17.stt.same g18) gt ((ht.same g16).same (g17.trans g18)) (hv17.same g18) fun H'' z7 z12 z13 g'' => ⟨back H'' ((Md.of m17.stt g18).trans g''), _, _, _, _, _, _, _, _, _, _, _, _, _, rfl⟩
  · rw [decide_eq_false (by omega)]
    exact iteF (hR a st D' n _ _ _ _ _ _ _ _ v9 v17 t H17 _ (m17.stt.same (Same.refl _)) gt ((ht.same g16).same (g17.trans (Same.refl _))) (hv17.same (Same.refl _)) fun H'' z7 z12 z13 g'' => ⟨back H'' ((Md.of m17.stt (Same.refl _)).trans g''), _, _, _, _, _, _, _, _, _, _, _, _, _, rfl⟩)
end
end ST
namespace ST
open PySem PySem.Spec PyProof.Rows L2
/-! ### the top -/
/-- the i-th statement's def stands at the top -/
structure Df (K : PySem.W.Frag) (i : Nat) (x : Str) : Prop where
  ex : ∃ (f : Addr) (od an : Option Addr) (sl : Array (Option Value)) (oc kV dc pm cd ct : Value), PySem.W.nsIn K mainGlobals x = some (some (.ref f)) ∧
    K.lookup f = some ⟨oc, od, .func (PySem.W.fnOf x x (defArgs (topS i)) (defBody (topS i)) (defScope (topS i)) .none kV dc pm an cd ct), sl⟩ ∧ PySem.W.codeIn K cd x = true ∧ PySem.W.keepIn K (.ref f) = true
theorem df_mk {K : PySem.W.Frag} {i : Nat} {x : Str} {f : Addr} {od an : Option Addr} {sl : Array (Option Value)} {oc kV dc pm cd ct : Value} (a : PySem.W.nsIn K mainGlobals x = some (some (.ref f)))
    (l : K.lookup f = some ⟨oc, od, .func (PySem.W.fnOf x x (defArgs (topS i)) (defBody (topS i)) (defScope (topS i)) .none kV dc pm an cd ct), sl⟩) (c : PySem.W.codeIn K cd x = true) (k : PySem.W.keepIn K (.ref f) = true) : Df K i x :=
  ⟨f, od, an, sl, oc, kV, dc, pm, cd, ct, a, l, c, k⟩
theorem Df.dfn {K : PySem.W.Frag} {h : Heap} {mg : Str → Option Value} {i : Nat} {x : Str} (X : K.In h) (G : h.Ns mainGlobals mg) (d : Df K i x) : Dfn K mg i x := by
  obtain ⟨f, od, an, sl, oc, kV, dc, pm, cd, ct, a, l, c, k⟩ := d.ex
  exact ⟨f, _, fun_mk (st := topS i) l c k, PySem.W.mg_of X G a⟩
structure Bs (K : PySem.W.Frag) : Prop where
  len : PySem.W.nsIn K mainGlobals "len" = some none
  isi : PySem.W.nsIn K mainGlobals "isinstance" = some none
  int : PySem.W.nsIn K mainGlobals "int" = some none
  bool : PySem.W.nsIn K mainGlobals "bool" = some none
  tuple : PySem.W.nsIn K mainGlobals "tuple" = some none
  list : PySem.W.nsIn K mainGlobals "list" = some none
  range : PySem.W.nsIn K mainGlobals "range" = some none
  sorted : PySem.W.nsIn K mainGlobals "sorted" = some none
  all : PySem.W.nsIn K mainGlobals "all" = some none
  any : PySem.W.nsIn K mainGlobals "any" = some none
  min : PySem.W.nsIn K mainGlobals "min" = some none
  max : PySem.W.nsIn K mainGlobals "max" = some none
  zip : PySem.W.nsIn K mainGlobals "zip" = some none
  enum : PySem.W.nsIn K mainGlobals "enumerate" = some none
structure Cs (K : PySem.W.Frag) : Prop where
  ANY : ∃ t, PySem.W.nsIn K mainGlobals "ANY" = some (some (.str "any" t))
  ROW : ∃ t, PySem.W.nsIn K mainGlobals "ROW" = some (some (.str "row" t))
  NONE : ∃ t, PySem.W.nsIn K mainGlobals "NONE" = some (some (.str "none" t))
  ALL : ∃ t, PySem.W.nsIn K mainGlobals "ALL" = some (some (.str "all" t))
  SOME : ∃ t, PySem.W.nsIn K mainGlobals "SOME" = some (some (.str "some" t))
  MG : ∃ t, PySem.W.nsIn K mainGlobals "MOST_GUESTS" = some (some (.int 7 t))
  MP : ∃ t, PySem.W.nsIn K mainGlobals "MOST_PARTIES" = some (some (.int 8 t))
theorem bt_of {K : PySem.W.Frag} {h : Heap} {mg : Str → Option Value} (X : K.In h) (G : h.Ns mainGlobals mg) (b : Bs K) (c : Cs K) : Bt mg := by
  obtain ⟨t1, c1⟩ := c.ANY
  obtain ⟨t2, c2⟩ := c.ROW
  obtain ⟨t3, c3⟩ := c.NONE
  obtain ⟨t4, c4⟩ := c.ALL
  obtain ⟨t5, c5⟩ := c.SOME
  obtain ⟨t6, c6⟩ := c.MG
  obtain ⟨t7, c7⟩ := c.MP
  exact { len := PySem.W.mg_none_of X G b.len, isi := PySem.W.mg_none_of X G b.isi, int := PySem.W.mg_none_of X G b.int, bool := PySem.W.mg_none_of X G b.bool, tuple := PySem.W.mg_none_of X G b.tuple, list := PySem.W.mg_none_of X G b.list,
          range := PySem.W.mg_none_of X G b.range, sorted := PySem.W.mg_none_of X G b.sorted, all := PySem.W.mg_none_of X G b.all, any := PySem.W.mg_none_of X G b.any, min := PySem.W.mg_none_of X G b.min, max := PySem.W.mg_none_of X G b.max,
          zip := PySem.W.mg_none_of X G b.zip, enum := PySem.W.mg_none_of X G b.enum,
          ANY := ⟨t1, PySem.W.mg_of X G c1⟩, ROW := ⟨t2, PySem.W.mg_of X G c2⟩, NONE := ⟨t3, PySem.W.mg_of X G c3⟩, ALL := ⟨t4, PySem.W.mg_of X G c4⟩, SOME := ⟨t5, PySem.W.mg_of X G c5⟩, MG := ⟨t6, PySem.W.mg_of X G c6⟩, MP := ⟨t7, PySem.W.mg_of X G c7⟩ }
theorem cs_mk {K : PySem.W.Frag} {t1 t2 t3 t4 t5 t6 t7 : Tok} (h1 : PySem.W.nsIn K mainGlobals "ANY" = some (some (.str "any" t1))) (h2 : PySem.W.nsIn K mainGlobals "ROW" = some (some (.str "row" t2))) (h3 : PySem.W.nsIn K mainGlobals "NONE" = some (some (.str "none" t3)))
    (h4 : PySem.W.nsIn K mainGlobals "ALL" = some (some (.str "all" t4))) (h5 : PySem.W.nsIn K mainGlobals "SOME" = some (some (.str "some" t5))) (h6 : PySem.W.nsIn K mainGlobals "MOST_GUESTS" = some (some (.int 7 t6))) (h7 : PySem.W.nsIn K mainGlobals "MOST_PARTIES" = some (some (.int 8 t7))) : Cs K :=
  ⟨⟨_, h1⟩, ⟨_, h2⟩, ⟨_, h3⟩, ⟨_, h4⟩, ⟨_, h5⟩, ⟨_, h6⟩, ⟨_, h7⟩⟩
/-- every def but the law's -/
structure Ds (K : PySem.W.Frag) : Prop where
  d8 : Df K 8 "is_whole"
  d9 : Df K 9 "is_guest"
  d10 : Df K 10 "need_guests"
  d11 : Df K 11 "party_good"
  d12 : Df K 12 "parties_good"
  d13 : Df K 13 "need_parties"
  d14 : Df K 14 "sits"
  d15 : Df K 15 "first_broken"
  d19 : Df K 19 "is_leaf"
  d20 : Df K 20 "guests_of"
  d21 : Df K 21 "turns_of"
  d22 : Df K 22 "rows_many"
  d23 : Df K 23 "many_of"
  d24 : Df K 24 "orders"
  d25 : Df K 25 "standings"
  d26 : Df K 26 "put_behind"
  d27 : Df K 27 "all_rows"
  d28 : Df K 28 "rows_of"
  d29 : Df K 29 "has_row"
  d30 : Df K 30 "spans_of"
  d31 : Df K 31 "fits"
  d32 : Df K 32 "row_at"
  d33 : Df K 33 "least_of"
  d34 : Df K 34 "least_form"
  d39 : Df K 39 "share_of"
  d40 : Df K 40 "grouped"
  d41 : Df K 41 "parted"
  d42 : Df K 42 "led_right"
  d43 : Df K 43 "any_together"
  d44 : Df K 44 "row_together"
  d45 : Df K 45 "together"
  d46 : Df K 46 "tightened"
  d47 : Df K 47 "holds_in"
  d49 : Df K 49 "free_tree"
  d50 : Df K 50 "tightened_all"
  d51 : Df K 51 "tree_of"
  d52 : Df K 52 "party_of"
  d53 : Df K 53 "made_by"
  d54 : Df K 54 "parties_by"
  d55 : Df K 55 "both"
  d56 : Df K 56 "all_parties"
  d57 : Df K 57 "kept_parties"
  d59 : Df K 59 "_law_cell_at"
  d60 : Df K 60 "_law_state"
  d61 : Df K 61 "_law_take"
  d62 : Df K 62 "_law_mixed_row"
  d63 : Df K 63 "_law_tree"
  d64 : Df K 64 "_law_party"
  d65 : Df K 65 "_law_side"
  d66 : Df K 66 "_law_together"
theorem lc_of {P : Program} {w : World} {K : PySem.W.Frag} {mg : Str → Option Value} {base h : Heap} (X : K.In h) (G : h.Ns mainGlobals mg) (B : Bt mg) (d : Ds K) : Lc P w K mg base := by
  have F : ∀ {i : Nat} {x : Str}, Df K i x → Dfn K mg i x := fun d => d.dfn X G
  have cW := cl_whole (P := P) (w := w) (base := base) (F d.d8) B
  have cG := cl_guest (F d.d9) B cW
  have cN := cl_needG (F d.d10) B cW
  have cP := cl_party (F d.d11) B cG
  have cPs := cl_parties (F d.d12) B cP
  have cNP := cl_needP (F d.d13) B cN cPs
  have cSi := cl_sits (P := P) (w := w) (base := base) (F d.d14) B
  have cBr := cl_broken (F d.d15) B cNP cSi
  have cL := cl_leaf (P := P) (w := w) (base := base) (F d.d19) B
  have cGu := cl_guests (F d.d20) B cL 7
  have cTu := cl_turns (P := P) (w := w) (base := base) (F d.d21) B
  have cMa := cl_many (F d.d23) B cL cTu 7
  have cRM := cl_rowsMany (F d.d22) B cN cMa
  have cOr := cl_orders (P := P) (w := w) (base := base) (F d.d24) B
  have cSt := cl_stand (F d.d25) B cOr
  have cPu := cl_put (P := P) (w := w) (base := base) (F d.d26) B
  have cAl := cl_all (F d.d27) B cL cSt cPu 7
  have cRo := cl_rowsOf (F d.d28) B cN cAl
  have cSp := cl_spans (F d.d30) B cGu
  have cFi := cl_fits (F d.d31) B cL cSp 7
  have cHR := cl_hasRow (F d.d29) B cN cFi
  have cRA := cl_rowAt (F d.d32) B cN cW cMa cRo
  have cLe := cl_least (F d.d33) B cL 7
  have cFo := cl_form (F d.d34) B cN cLe
  have cSh := cl_share (F d.d39) B cGu
  have cGr := cl_grouped (P := P) (w := w) (base := base) (F d.d40) B
  have cPa := cl_parted (F d.d41) B cSh
  have cLd := cl_led (F d.d42) B cSh cGr cPa 7
  have cAT := cl_anyTog (F d.d43) B cGr cLd
  have cRT := cl_rowTog (F d.d44) B cSh cLd
  have cTo := cl_tog (F d.d45) B cSh cPa cAT cRT 7
  have cTi := cl_tight (F d.d46) B cN cTo cLe
  have cHo := cl_holds (F d.d47) B cTi cLe
  have cFr := cl_free (P := P) (w := w) (base := base) (F d.d49) B
  have cTA := cl_tAll (F d.d50) B cTi
  have cTO := cl_treeOf (F d.d51) B cNP cFr cTA
  have cPO := cl_partyOf (F d.d52) B cGu
  have cMd := cl_made (F d.d53) B cL cPO 7
  have cPB := cl_partiesBy (F d.d54) B cN cMd
  have cBo := cl_both (F d.d55) B cN cMd cTA
  have cAP := cl_allP (P := P) (w := w) (base := base) (F d.d56) B
  have cKe := cl_kept (F d.d57) B cN cAP cHo
  have cCe := cl_cell (P := P) (w := w) (base := base) (F d.d59) B
  have cSs := cl_state (F d.d60) B cCe
  have cTk := cl_take (P := P) (w := w) (base := base) (F d.d61) B
  have cMx := cl_mixed (F d.d62) B cTk
  have cTr := cl_lawTree (F d.d63) B cTk cMx 7
  have cLP := cl_lawParty (F d.d64) B cTk
  have cSd := cl_side (F d.d65) B cTk
  have cLT := cl_lawTog (F d.d66) B cTk cMx cSd
  exact ⟨cSs, cTk, cMx, cTr, cLP, cLT, cKe, cHo, cTi, cBo, cTO, cHR, cRM, cRA, cBr, cPB, cFo⟩
theorem all_mk {l : PySem.W.OpenLaw} {w : World} {K : PySem.W.Frag} {h : Heap} {mg : Str → Option Value} {fa f3 : Addr} (X : K.In h) (G : h.Ns mainGlobals mg) (hfa : mg "law" = some (.ref fa))
    {od3 an3 : Option Addr} {sl3 : Array (Option Value)} {oc3 kV3 dc3 pm3 cd3 ct3 : Value}
    (a3 : PySem.W.nsIn K mainGlobals "law" = some (some (.ref f3))) (l3 : K.lookup f3 = some ⟨oc3, od3, .func (PySem.W.fnOf "law" "law" (defArgs (topS 67)) (defBody (topS 67)) (defScope (topS 67)) .none kV3 dc3 pm3 an3 cd3 ct3), sl3⟩) (c3 : PySem.W.codeIn K cd3 "law" = true) (k3 : PySem.W.keepIn K (.ref f3) = true)
    (b : Bs K) (c : Cs K) (d : Ds K) :
    ∃ fd : FuncData, (∀ (s : Shared) (v : Value), BindsTo s fd ⟨[v], []⟩ [("script", v)]) ∧ ∀ base : Heap, K.In base → base.Ns mainGlobals mg → FnOk l.prog w K mg base CX0 31 fa fd ["script"] (spLaw K) := by
  have e := hfa.symm.trans (PySem.W.mg_of X G a3)
  cases e
  have F3 := fun_mk (st := topS 67) l3 c3 k3
  have B := bt_of X G b c
  exact ⟨PySem.W.fnOf "law" "law" (defArgs (topS 67)) (defBody (topS 67)) (defScope (topS 67)) .none kV3 dc3 pm3 an3 cd3 ct3, fun s v => .of_eq rfl, fun base _ _ => fn_law F3 B (lc_of X G B d)⟩
theorem walk {l : PySem.W.OpenLaw} {q : Program} {loose : List Str} {XP : (Str → Option Value) → Heap → Prop} {YP : World → Heap → Prop} {d : DefRec} {K : Params → PySem.W.Frag} (hn : l.most = some 63) (hdf : d.params.defaults = [])
    (hY : ∀ (w : World) (h : Heap), YP w h → (K w.params).In h)
    (F : ∀ (w : World) (mg : Str → Option Value) (fa : Addr) (h : Heap), (K w.params).In h → h.Ns mainGlobals mg → mg d.name = some (.ref fa) →
      ∃ fd : FuncData, (∀ (s : Shared) (u : Value), BindsTo s fd ⟨[u], []⟩ [("script", u)]) ∧ ∀ base : Heap, (K w.params).In base → base.Ns mainGlobals mg → FnOk l.prog w (K w.params) mg base CX0 31 fa fd ["script"] (spLaw (K w.params))) :
    PySem.W.WalkO q loose XP YP l.row.toRowW d [] (fun f vs => PySem.call f vs) :=
  L2.walk_of (n := 63) (k := 31) (x := "script") (CX := fun _ => CX0) (sp := fun w => spLaw (K w.params)) hn (by decide) hdf ⟨rfl, by decide, by decide⟩ hY F (fun _ _ a ns hl _ hS => ⟨a, ns, rfl, hS, hl, fun _ => rfl⟩) fun _ _ _ _ _ z => z
end ST
open PySem PySem.W PyProof.Rows
set_option maxRecDepth 100000 in
set_option maxHeartbeats 0 in
theorem PySem.Challenge.cw_standtogether_k14_whole_trees_and_partie_holds : PySem.Challenge.rw_standtogether_k14_whole_trees_and_partie.Holds := by
  w_on; o_law; k_head; (case hw => w_witness2)
  k_fill
  refine ST.walk (l := PySem.Challenge.rw_standtogether_k14_whole_trees_and_partie) rfl rfl (fun w h Y => PySem.W.kIn_of Y) ?F
  case F =>
    intro w mg fa h KX G hmg
    refine' ST.all_mk KX G hmg ?a3 ?l3 ?c3 ?k3 ?bs ?cs ?ds
    (case a3 => k_is); (case l3 => k_is); (case c3 => k_is); (case k3 => k_is)
    (case bs => refine' ⟨?_, ?_, ?_, ?_, ?_, ?_, ?_, ?_, ?_, ?_, ?_, ?_, ?_, ?_⟩ <;> k_is)
    (case cs =>
      refine' ST.cs_mk ?e1 ?e2 ?e3 ?e4 ?e5 ?e6 ?e7
      (case e1 => k_is); (case e2 => k_is); (case e3 => k_is); (case e4 => k_is); (case e5 => k_is); (case e6 => k_is); (case e7 => k_is))
    case ds =>
      refine' ⟨?d8, ?d9, ?d10, ?d11, ?d12, ?d13, ?d14, ?d15, ?d19, ?d20, ?d21, ?d22, ?d23, ?d24, ?d25, ?d26, ?d27, ?d28, ?d29, ?d30, ?d31, ?d32, ?d33, ?d34, ?d39, ?d40, ?d41, ?d42, ?d43, ?d44, ?d45, ?d46, ?d47, ?d49, ?d50, ?d51, ?d52, ?d53, ?d54, ?d55, ?d56, ?d57, ?d59, ?d60, ?d61, ?d62, ?d63, ?d64, ?d65, ?d66⟩
      (case d8 => (refine' ST.df_mk ?pa ?pl ?pc ?pk; (case pa => k_is); (case pl => k_is); (case pc => k_is); (case pk => k_is)))
      (case d9 => (refine' ST.df_mk ?pa ?pl ?pc ?pk; (case pa => k_is); (case pl => k_is); (case pc => k_is); (case pk => k_is)))
      (case d10 => (refine' ST.df_mk ?pa ?pl ?pc ?pk; (case pa => k_is); (case pl => k_is); (case pc => k_is); (case pk => k_is)))
      (case d11 => (refine' ST.df_mk ?pa ?pl ?pc ?pk; (case pa => k_is); (case pl => k_is); (case pc => k_is); (case pk => k_is)))
      (case d12 => (refine' ST.df_mk ?pa ?pl ?pc ?pk; (case pa => k_is); (case pl => k_is); (case pc => k_is); (case pk => k_is)))
      (case d13 => (refine' ST.df_mk ?pa ?pl ?pc ?pk; (case pa => k_is); (case pl => k_is); (case pc => k_is); (case pk => k_is)))
      (case d14 => (refine' ST.df_mk ?pa ?pl ?pc ?pk; (case pa => k_is); (case pl => k_is); (case pc => k_is); (case pk => k_is)))
      (case d15 => (refine' ST.df_mk ?pa ?pl ?pc ?pk; (case pa => k_is); (case pl => k_is); (case pc => k_is); (case pk => k_is)))
      (case d19 => (refine' ST.df_mk ?pa ?pl ?pc ?pk; (case pa => k_is); (case pl => k_is); (case pc => k_is); (case pk => k_is)))
      (case d20 => (refine' ST.df_mk ?pa ?pl ?pc ?pk; (case pa => k_is); (case pl => k_is); (case pc => k_is); (case pk => k_is)))
      (case d21 => (refine' ST.df_mk ?pa ?pl ?pc ?pk; (case pa => k_is); (case pl => k_is); (case pc => k_is); (case pk => k_is)))
      (case d22 => (refine' ST.df_mk ?pa ?pl ?pc ?pk; (case pa => k_is); (case pl => k_is); (case pc => k_is); (case pk => k_is)))
      (case d23 => (refine' ST.df_mk ?pa ?pl ?pc ?pk; (case pa => k_is); (case pl => k_is); (case pc => k_is); (case pk => k_is)))
      (case d24 => (refine' ST.df_mk ?pa ?pl ?pc ?pk; (case pa => k_is); (case pl => k_is); (case pc => k_is); (case pk => k_is)))
      (case d25 => (refine' ST.df_mk ?pa ?pl ?pc ?pk; (case pa => k_is); (case pl => k_is); (case pc => k_is); (case pk => k_is)))
      (case d26 => (refine' ST.df_mk ?pa ?pl ?pc ?pk; (case pa => k_is); (case pl => k_is); (case pc => k_is); (case pk => k_is)))
      (case d27 => (refine' ST.df_mk ?pa ?pl ?pc ?pk; (case pa => k_is); (case pl => k_is); (case pc => k_is); (case pk => k_is)))
      (case d28 => (refine' ST.df_mk ?pa ?pl ?pc ?pk; (case pa => k_is); (case pl => k_is); (case pc => k_is); (case pk => k_is)))
      (case d29 => (refine' ST.df_mk ?pa ?pl ?pc ?pk; (case pa => k_is); (case pl => k_is); (case pc => k_is); (case pk => k_is)))
      (case d30 => (refine' ST.df_mk ?pa ?pl ?pc ?pk; (case pa => k_is); (case pl => k_is); (case pc => k_is); (case pk => k_is)))
      (case d31 => (refine' ST.df_mk ?pa ?pl ?pc ?pk; (case pa => k_is); (case pl => k_is); (case pc => k_is); (case pk => k_is)))
      (case d32 => (refine' ST.df_mk ?pa ?pl ?pc ?pk; (case pa => k_is); (case pl => k_is); (case pc => k_is); (case pk => k_is)))
      (case d33 => (refine' ST.df_mk ?pa ?pl ?pc ?pk; (case pa => k_is); (case pl => k_is); (case pc => k_is); (case pk => k_is)))
      (case d34 => (refine' ST.df_mk ?pa ?pl ?pc ?pk; (case pa => k_is); (case pl => k_is); (case pc => k_is); (case pk => k_is)))
      (case d39 => (refine' ST.df_mk ?pa ?pl ?pc ?pk; (case pa => k_is); (case pl => k_is); (case pc => k_is); (case pk => k_is)))
      (case d40 => (refine' ST.df_mk ?pa ?pl ?pc ?pk; (case pa => k_is); (case pl => k_is); (case pc => k_is); (case pk => k_is)))
      (case d41 => (refine' ST.df_mk ?pa ?pl ?pc ?pk; (case pa => k_is); (case pl => k_is); (case pc => k_is); (case pk => k_is)))
      (case d42 => (refine' ST.df_mk ?pa ?pl ?pc ?pk; (case pa => k_is); (case pl => k_is); (case pc => k_is); (case pk => k_is)))
      (case d43 => (refine' ST.df_mk ?pa ?pl ?pc ?pk; (case pa => k_is); (case pl => k_is); (case pc => k_is); (case pk => k_is)))
      (case d44 => (refine' ST.df_mk ?pa ?pl ?pc ?pk; (case pa => k_is); (case pl => k_is); (case pc => k_is); (case pk => k_is)))
      (case d45 => (refine' ST.df_mk ?pa ?pl ?pc ?pk; (case pa => k_is); (case pl => k_is); (case pc => k_is); (case pk => k_is)))
      (case d46 => (refine' ST.df_mk ?pa ?pl ?pc ?pk; (case pa => k_is); (case pl => k_is); (case pc => k_is); (case pk => k_is)))
      (case d47 => (refine' ST.df_mk ?pa ?pl ?pc ?pk; (case pa => k_is); (case pl => k_is); (case pc => k_is); (case pk => k_is)))
      (case d49 => (refine' ST.df_mk ?pa ?pl ?pc ?pk; (case pa => k_is); (case pl => k_is); (case pc => k_is); (case pk => k_is)))
      (case d50 => (refine' ST.df_mk ?pa ?pl ?pc ?pk; (case pa => k_is); (case pl => k_is); (case pc => k_is); (case pk => k_is)))
      (case d51 => (refine' ST.df_mk ?pa ?pl ?pc ?pk; (case pa => k_is); (case pl => k_is); (case pc => k_is); (case pk => k_is)))
      (case d52 => (refine' ST.df_mk ?pa ?pl ?pc ?pk; (case pa => k_is); (case pl => k_is); (case pc => k_is); (case pk => k_is)))
      (case d53 => (refine' ST.df_mk ?pa ?pl ?pc ?pk; (case pa => k_is); (case pl => k_is); (case pc => k_is); (case pk => k_is)))
      (case d54 => (refine' ST.df_mk ?pa ?pl ?pc ?pk; (case pa => k_is); (case pl => k_is); (case pc => k_is); (case pk => k_is)))
      (case d55 => (refine' ST.df_mk ?pa ?pl ?pc ?pk; (case pa => k_is); (case pl => k_is); (case pc => k_is); (case pk => k_is)))
      (case d56 => (refine' ST.df_mk ?pa ?pl ?pc ?pk; (case pa => k_is); (case pl => k_is); (case pc => k_is); (case pk => k_is)))
      (case d57 => (refine' ST.df_mk ?pa ?pl ?pc ?pk; (case pa => k_is); (case pl => k_is); (case pc => k_is); (case pk => k_is)))
      (case d59 => (refine' ST.df_mk ?pa ?pl ?pc ?pk; (case pa => k_is); (case pl => k_is); (case pc => k_is); (case pk => k_is)))
      (case d60 => (refine' ST.df_mk ?pa ?pl ?pc ?pk; (case pa => k_is); (case pl => k_is); (case pc => k_is); (case pk => k_is)))
      (case d61 => (refine' ST.df_mk ?pa ?pl ?pc ?pk; (case pa => k_is); (case pl => k_is); (case pc => k_is); (case pk => k_is)))
      (case d62 => (refine' ST.df_mk ?pa ?pl ?pc ?pk; (case pa => k_is); (case pl => k_is); (case pc => k_is); (case pk => k_is)))
      (case d63 => (refine' ST.df_mk ?pa ?pl ?pc ?pk; (case pa => k_is); (case pl => k_is); (case pc => k_is); (case pk => k_is)))
      (case d64 => (refine' ST.df_mk ?pa ?pl ?pc ?pk; (case pa => k_is); (case pl => k_is); (case pc => k_is); (case pk => k_is)))
      (case d65 => (refine' ST.df_mk ?pa ?pl ?pc ?pk; (case pa => k_is); (case pl => k_is); (case pc => k_is); (case pk => k_is)))
      (case d66 => (refine' ST.df_mk ?pa ?pl ?pc ?pk; (case pa => k_is); (case pl => k_is); (case pc => k_is); (case pk => k_is)))

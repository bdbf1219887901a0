import PyProof.Rows.All
import Wide.All
import OpenK.AllK
import Wide.FinOn
import PySem.Challenge.RW_treewells_k51_whole_best_yards_and_price
import HandS.ForMost
import HandS.Zip
import HandS.NoneIn
import HandS.IsInst
import HandS.SortInts
import HandS.Style
import HandS.Wide
import HandS.More
import HandS.EndTab
import HandS.Codes
import KE.KMinKey
import KE.SortKeyHeap
import HandS.SortKw
import HandS.Conv
import KE.SortData
set_option Elab.async false
set_option linter.all false
set_option maxRecDepth 100000
set_option maxHeartbeats 4000000
/-! Plain mathematics of the tree, the yards and the prices: core Lean alone. -/
namespace Tw

abbrev Road := Int × Int × Int
def Adj (rs : List Road) (x y : Int) : Prop := ∃ l, (x, y, l) ∈ rs ∨ (y, x, l) ∈ rs
theorem Adj.symm {rs : List Road} {x y : Int} (h : Adj rs x y) : Adj rs y x := by
  obtain ⟨l, h | h⟩ := h
  · exact ⟨l, .inr h⟩
  · exact ⟨l, .inl h⟩
theorem Adj.mono {rs rs' : List Road} {x y : Int} (h : Adj rs x y) (k : ∀ r ∈ rs, r ∈ rs') : Adj rs' x y := by
  obtain ⟨l, h | h⟩ := h
  · exact ⟨l, .inl (k _ h)⟩
  · exact ⟨l, .inr (k _ h)⟩
inductive Grow : List Int → List Road → Prop
  | one (x : Int) : Grow [x] []
  | step {ps : List Int} {rs : List Road} {a b l : Int} {r : Road} : Grow ps rs → a ∈ ps → b ∉ ps → 1 ≤ l → (r = (a, b, l) ∨ r = (b, a, l)) → Grow (b :: ps) (r :: rs)
def inR (n : Nat) (x : Int) : Prop := 0 ≤ x ∧ x < n
def ran (n : Nat) : List Int := (List.range n).map Int.ofNat
theorem mem_ran {n : Nat} {x : Int} : x ∈ ran n ↔ inR n x := by
  unfold ran inR
  rw [List.mem_map]
  constructor
  · rintro ⟨k, hk, rfl⟩
    have := List.mem_range.mp hk
    exact ⟨Int.natCast_nonneg k, Int.ofNat_lt.mpr this⟩
  · rintro ⟨h1, h2⟩
    exact ⟨x.toNat, List.mem_range.mpr (by omega), Int.toNat_of_nonneg h1⟩
theorem nodup_ran (n : Nat) : (ran n).Nodup := by
  unfold ran
  rw [List.Nodup, List.pairwise_map]
  exact List.Pairwise.imp (fun h e => h (Int.ofNat.inj e)) (List.nodup_range (n := n))
theorem len_ran (n : Nat) : (ran n).length = n := by unfold ran; simp
theorem ran_get {n i : Nat} (h : i < n) : (ran n)[i]? = some (i : Int) := by
  unfold ran
  rw [List.getElem?_map, List.getElem?_range h]
  rfl

theorem Grow.ends {ps : List Int} {rs : List Road} (g : Grow ps rs) : ∀ r ∈ rs, r.1 ∈ ps ∧ r.2.1 ∈ ps ∧ r.1 ≠ r.2.1 ∧ 1 ≤ r.2.2 := by
  induction g with
  | one x => intro r h; cases h
  | @step ps rs a b l r g ha hb hl hr ih =>
    intro q hq
    rcases List.mem_cons.mp hq with rfl | hq
    · have nab : a ≠ b := fun e => hb (e ▸ ha)
      rcases hr with rfl | rfl
      · exact ⟨List.mem_cons_of_mem _ ha, List.mem_cons_self, nab, hl⟩
      · exact ⟨List.mem_cons_self, List.mem_cons_of_mem _ ha, nab.symm, hl⟩
    · obtain ⟨h1, h2, h3, h4⟩ := ih q hq
      exact ⟨List.mem_cons_of_mem _ h1, List.mem_cons_of_mem _ h2, h3, h4⟩
theorem Grow.len {ps : List Int} {rs : List Road} (g : Grow ps rs) : rs.length + 1 = ps.length := by
  induction g with
  | one x => rfl
  | step _ _ _ _ _ ih => simp [ih]
theorem Grow.adj {ps : List Int} {rs : List Road} (g : Grow ps rs) {x y : Int} (h : Adj rs x y) : x ∈ ps ∧ y ∈ ps := by
  obtain ⟨l, h | h⟩ := h
  · have := g.ends _ h; exact ⟨this.1, this.2.1⟩
  · have := g.ends _ h; exact ⟨this.2.1, this.1⟩
theorem Grow.conn {ps : List Int} {rs : List Road} (g : Grow ps rs) (S : Int → Prop) (hs : ∃ x ∈ ps, S x) (hc : ∀ x y, Adj rs x y → S x → S y) : ∀ x ∈ ps, S x := by
  induction g with
  | one x =>
    obtain ⟨y, hy, h⟩ := hs
    intro z hz
    have e1 : y = x := by simpa using hy
    have e2 : z = x := by simpa using hz
    rw [e2, ← e1]; exact h
  | @step ps rs a b l r g ha hb hl hr ih =>
    have hab : Adj (r :: rs) a b := by
      rcases hr with rfl | rfl
      · exact ⟨l, .inl List.mem_cons_self⟩
      · exact ⟨l, .inr List.mem_cons_self⟩
    have hc' : ∀ x y, Adj rs x y → S x → S y := fun x y h => hc x y (h.mono fun q hq => List.mem_cons_of_mem _ hq)
    have all : ∀ x ∈ ps, S x := by
      obtain ⟨y, hy, h⟩ := hs
      rcases List.mem_cons.mp hy with rfl | hy
      · exact ih ⟨a, ha, hc _ _ hab.symm h⟩ hc'
      · exact ih ⟨y, hy, h⟩ hc'
    intro x hx
    rcases List.mem_cons.mp hx with rfl | hx
    · exact hc _ _ hab (all a ha)
    · exact all x hx

/-! ### roads inside a set of places -/
def isIn (S : List Int) (r : Road) : Bool := decide (r.1 ∈ S) && decide (r.2.1 ∈ S)
def inside (S : List Int) (rs : List Road) : Nat := (rs.filter (isIn S)).length
theorem isIn_iff {S : List Int} {r : Road} : isIn S r = true ↔ r.1 ∈ S ∧ r.2.1 ∈ S := by unfold isIn; simp
theorem inside_perm {S : List Int} {rs rs' : List Road} (h : rs.Perm rs') : inside S rs = inside S rs' := (h.filter _).length_eq
theorem inside_congr {S S' : List Int} {rs : List Road} (h : ∀ r ∈ rs, isIn S r = isIn S' r) : inside S rs = inside S' rs := by
  unfold inside; rw [List.filter_congr h]
theorem inside_cons {S : List Int} {r : Road} {rs : List Road} : inside S (r :: rs) = (if isIn S r = true then 1 else 0) + inside S rs := by
  unfold inside
  rw [List.filter_cons]
  split
  · rw [List.length_cons]; omega
  · omega
theorem Grow.forest {ps : List Int} {rs : List Road} (g : Grow ps rs) : ∀ S : List Int, S.Nodup → inside S rs ≤ S.length - 1 := by
  induction g with
  | one x => intro S _; exact Nat.zero_le _
  | @step ps rs a b l r g ha hb hl hr ih =>
    intro S hS
    have hin : isIn S r = true ↔ a ∈ S ∧ b ∈ S := by
      rw [isIn_iff]
      rcases hr with rfl | rfl
      · exact Iff.rfl
      · exact ⟨fun h => ⟨h.2, h.1⟩, fun h => ⟨h.2, h.1⟩⟩
    rw [inside_cons]
    by_cases hbS : b ∈ S
    · have e : inside S rs = inside (S.erase b) rs := inside_congr fun q hq => by
        have en := g.ends q hq
        have n1 : q.1 ≠ b := fun z => hb (z ▸ en.1)
        have n2 : q.2.1 ≠ b := fun z => hb (z ▸ en.2.1)
        unfold isIn
        congr 1
        · exact decide_eq_decide.mpr (List.mem_erase_of_ne n1).symm
        · exact decide_eq_decide.mpr (List.mem_erase_of_ne n2).symm
      have hS' : (S.erase b).Nodup := hS.erase b
      have hl' : (S.erase b).length = S.length - 1 := List.length_erase_of_mem hbS
      have q := ih (S.erase b) hS'
      rw [e]
      by_cases haS : a ∈ S
      · rw [if_pos (hin.mpr ⟨haS, hbS⟩)]
        have nab : a ≠ b := fun z => hb (z ▸ ha)
        have : 0 < (S.erase b).length := List.length_pos_of_mem ((List.mem_erase_of_ne nab).mpr haS)
        omega
      · rw [if_neg fun z => haS (hin.mp z).1]
        omega
    · rw [if_neg fun z => hbS (hin.mp z).2]
      have := ih S hS
      omega

/-! ### trees -/
structure TreeOK (n : Nat) (rs : List Road) : Prop where
  g : ∃ ps rs0, Grow ps rs0 ∧ rs.Perm rs0 ∧ ps.Perm (ran n)
section
variable {n : Nat} {rs : List Road}
theorem TreeOK.pos (T : TreeOK n rs) : 0 < n := by
  obtain ⟨ps, rs0, g, h1, h2⟩ := T.g
  have := g.len
  have := h2.length_eq
  rw [len_ran] at this
  omega
theorem TreeOK.len (T : TreeOK n rs) : rs.length + 1 = n := by
  obtain ⟨ps, rs0, g, h1, h2⟩ := T.g
  have e1 := g.len
  have e2 := h2.length_eq
  have e3 := h1.length_eq
  rw [len_ran] at e2
  omega
theorem TreeOK.ends (T : TreeOK n rs) : ∀ r ∈ rs, inR n r.1 ∧ inR n r.2.1 ∧ r.1 ≠ r.2.1 ∧ 1 ≤ r.2.2 := by
  obtain ⟨ps, rs0, g, h1, h2⟩ := T.g
  intro r hr
  obtain ⟨a, b, c, d⟩ := g.ends r (h1.mem_iff.mp hr)
  exact ⟨mem_ran.mp (h2.mem_iff.mp a), mem_ran.mp (h2.mem_iff.mp b), c, d⟩
theorem TreeOK.adj (T : TreeOK n rs) {x y : Int} (h : Adj rs x y) : inR n x ∧ inR n y := by
  obtain ⟨l, h | h⟩ := h
  · have := T.ends _ h; exact ⟨this.1, this.2.1⟩
  · have := T.ends _ h; exact ⟨this.2.1, this.1⟩
theorem TreeOK.conn (T : TreeOK n rs) (S : Int → Prop) (hs : S 0) (hc : ∀ x y, Adj rs x y → S x → S y) : ∀ x, inR n x → S x := by
  have hp := T.pos
  obtain ⟨ps, rs0, g, h1, h2⟩ := T.g
  intro x hx
  refine g.conn S ⟨0, h2.mem_iff.mpr (mem_ran.mpr ⟨by omega, by omega⟩), hs⟩ (fun x y h => hc x y (h.mono fun r hr => h1.mem_iff.mpr hr)) x (h2.mem_iff.mpr (mem_ran.mpr hx))
theorem TreeOK.forest (T : TreeOK n rs) (S : List Int) (hS : S.Nodup) : inside S rs ≤ S.length - 1 := by
  obtain ⟨ps, rs0, g, h1, h2⟩ := T.g
  rw [inside_perm h1]
  exact g.forest S hS
end

/-! ### lumps -/
inductive Lump (n : Nat) (rs : List Road) : List Int → Prop
  | one {x : Int} : inR n x → Lump n rs [x]
  | grow {S S' : List Int} {u v : Int} : Lump n rs S → u ∈ S → v ∉ S → Adj rs u v → S'.Perm (v :: S) → Lump n rs S'
section
variable {n : Nat} {rs : List Road} {S : List Int}
theorem Lump.nodup (L : Lump n rs S) : S.Nodup := by
  induction L with
  | one h => simp
  | grow _ _ hv _ hp ih => exact hp.nodup_iff.mpr (List.nodup_cons.mpr ⟨hv, ih⟩)
theorem Lump.rng (T : TreeOK n rs) (L : Lump n rs S) : ∀ x ∈ S, inR n x := by
  induction L with
  | @one y h =>
    intro x hx
    have e : x = y := by simpa using hx
    rw [e]; exact h
  | grow _ _ _ ha hp ih =>
    intro x hx
    rcases List.mem_cons.mp (hp.mem_iff.mp hx) with rfl | hx
    · exact (T.adj ha).2
    · exact ih x hx
theorem Lump.ne (L : Lump n rs S) : S ≠ [] := by
  induction L with
  | one h => simp
  | grow _ _ _ _ hp _ =>
    intro e
    rw [e] at hp
    have := hp.length_eq
    simp at this
theorem filter_lt {α : Type} {p q : α → Bool} : ∀ {l : List α}, (∀ a ∈ l, p a = true → q a = true) → (∃ a ∈ l, q a = true ∧ p a = false) → (l.filter p).length + 1 ≤ (l.filter q).length
  | [], _, ⟨a, h, _⟩ => by cases h
  | x :: l, hi, ⟨a, ha, hq, hp⟩ => by
    have hi' : ∀ a ∈ l, p a = true → q a = true := fun a h => hi a (List.mem_cons_of_mem _ h)
    have le : (l.filter p).length ≤ (l.filter q).length := by
      clear ha hq hp hi
      induction l with
      | nil => simp
      | cons y l ih =>
        have := ih fun a h => hi' a (List.mem_cons_of_mem _ h)
        have hy := hi' y List.mem_cons_self
        rw [List.filter_cons, List.filter_cons]
        cases e : p y with
        | true => rw [hy e]; simpa using this
        | false =>
          cases e2 : q y with
          | true => simp; omega
          | false => simpa using this
    rw [List.filter_cons, List.filter_cons]
    rcases List.mem_cons.mp ha with rfl | ha
    · rw [hq, hp]
      simp
      omega
    · have := filter_lt hi' ⟨a, ha, hq, hp⟩
      have hx := hi x List.mem_cons_self
      cases e : p x with
      | true => rw [hx e]; simpa using this
      | false =>
        cases e2 : q x with
        | true => simp; omega
        | false => simpa using this
theorem Lump.ge (L : Lump n rs S) : S.length ≤ inside S rs + 1 := by
  induction L with
  | one h => simp
  | @grow S S' u v _ hu hv ha hp ih =>
    have e := hp.length_eq
    rw [List.length_cons] at e
    have : inside S rs + 1 ≤ inside S' rs := by
      refine filter_lt (fun r _ h => ?_) ?_
      · obtain ⟨h1, h2⟩ := isIn_iff.mp h
        exact isIn_iff.mpr ⟨hp.mem_iff.mpr (List.mem_cons_of_mem _ h1), hp.mem_iff.mpr (List.mem_cons_of_mem _ h2)⟩
      · have mu : u ∈ S' := hp.mem_iff.mpr (List.mem_cons_of_mem _ hu)
        have mv : v ∈ S' := hp.mem_iff.mpr List.mem_cons_self
        obtain ⟨l, h | h⟩ := ha
        · refine ⟨_, h, isIn_iff.mpr ⟨mu, mv⟩, ?_⟩
          rw [Bool.eq_false_iff]
          exact fun z => hv (isIn_iff.mp z).2
        · refine ⟨_, h, isIn_iff.mpr ⟨mv, mu⟩, ?_⟩
          rw [Bool.eq_false_iff]
          exact fun z => hv (isIn_iff.mp z).1
    omega
theorem Lump.count (T : TreeOK n rs) (L : Lump n rs S) : inside S rs + 1 = S.length := by
  have h1 := L.ge
  have h2 := T.forest S L.nodup
  have h3 : 0 < S.length := List.length_pos_iff.mpr L.ne
  omega
end

/-! ### parents and depths -/
structure Depth (n : Nat) (rs : List Road) (par d : Int → Int) : Prop where
  up : ∀ x, inR n x → x ≠ 0 → inR n (par x) ∧ Adj rs x (par x) ∧ d (par x) < d x
theorem least {d : Int → Int} : ∀ {l : List Int}, l ≠ [] → ∃ x ∈ l, ∀ y ∈ l, d x ≤ d y
  | [], h => absurd rfl h
  | [x], _ => ⟨x, by simp, by simp⟩
  | x :: y :: l, _ => by
    obtain ⟨z, hz, h⟩ := least (d := d) (l := y :: l) (by simp)
    by_cases e : d x ≤ d z
    · refine ⟨x, List.mem_cons_self, fun w hw => ?_⟩
      rcases List.mem_cons.mp hw with rfl | hw
      · exact Int.le_refl _
      · have := h w hw; omega
    · refine ⟨z, List.mem_cons_of_mem _ hz, fun w hw => ?_⟩
      rcases List.mem_cons.mp hw with rfl | hw
      · omega
      · exact h w hw
theorem Grow.edge {ps : List Int} {rs : List Road} (g : Grow ps rs) : ∀ (par d : Int → Int) (r0 : Int), r0 ∈ ps → (∀ x ∈ ps, x ≠ r0 → par x ∈ ps ∧ Adj rs x (par x) ∧ d (par x) < d x) →
    ∀ r ∈ rs, (r.1 ≠ r0 ∧ par r.1 = r.2.1) ∨ (r.2.1 ≠ r0 ∧ par r.2.1 = r.1) := by
  induction g with
  | one x => intro _ _ _ _ _ r hr; cases hr
  | @step ps rs a b l r g ha hb hl hr ih =>
    intro par d r0 h0 hp
    have nab : a ≠ b := fun e => hb (e ▸ ha)
    -- the new road's ends
    have adj_b : ∀ {x y}, Adj (r :: rs) x y → x = b → y = a := by
      intro x y h e
      subst e
      obtain ⟨l', h | h⟩ := h
      · rcases List.mem_cons.mp h with h | h
        · rcases hr with rfl | rfl
          · injection h with h1 h2; exact absurd h1.symm nab
          · injection h with h1 h2; injection h2 with h2 h3
        · exact absurd (g.ends _ h).1 hb
      · rcases List.mem_cons.mp h with h | h
        · rcases hr with rfl | rfl
          · injection h with h1 h2
          · injection h with h1 h2; injection h2 with h2 h3; exact absurd h2.symm nab
        · exact absurd (g.ends _ h).2.1 hb
    have adj_o : ∀ {x y}, Adj (r :: rs) x y → x ≠ b → y ≠ b → Adj rs x y := by
      intro x y h n1 n2
      obtain ⟨l', h | h⟩ := h
      · rcases List.mem_cons.mp h with h | h
        · rcases hr with rfl | rfl
          · injection h with h1 h2; injection h2 with h2 h3; exact absurd h2 n2
          · injection h with h1 h2; exact absurd h1 n1
        · exact ⟨l', .inl h⟩
      · rcases List.mem_cons.mp h with h | h
        · rcases hr with rfl | rfl
          · injection h with h1 h2; injection h2 with h2 h3; exact absurd h2 n1
          · injection h with h1 h2; exact absurd h1 n2
        · exact ⟨l', .inr h⟩
    rcases List.mem_cons.mp h0 with e0 | h0
    · -- the root is the new leaf
      subst e0
      have hx : ∀ x ∈ ps, x ≠ a → par x ∈ ps ∧ Adj rs x (par x) ∧ d (par x) < d x := by
        intro x hx nx
        have nxb : x ≠ r0 := fun e => hb (e ▸ hx)
        obtain ⟨h1, h2, h3⟩ := hp x (List.mem_cons_of_mem _ hx) nxb
        have np : par x ≠ r0 := fun e => nx (adj_b h2.symm e)
        rcases List.mem_cons.mp h1 with h1 | h1
        · exact absurd h1 np
        · exact ⟨h1, adj_o h2 nxb np, h3⟩
      have q := ih par d a ha hx
      have pa : par a = r0 := by
        obtain ⟨h1, h2, h3⟩ := hp a (List.mem_cons_of_mem _ ha) nab
        rcases List.mem_cons.mp h1 with h1 | h1
        · exact h1
        · exfalso
          obtain ⟨m, hm, hmin⟩ := least (d := d) (l := ps) (fun e => by rw [e] at ha; cases ha)
          by_cases e : m = a
          · subst e
            have := hmin _ h1
            omega
          · obtain ⟨k1, _, k3⟩ := hx m hm e
            have := hmin _ k1
            omega
      intro s hs
      rcases List.mem_cons.mp hs with rfl | hs
      · rcases hr with rfl | rfl
        · exact .inl ⟨nab, pa⟩
        · exact .inr ⟨nab, pa⟩
      · have en := g.ends s hs
        rcases q s hs with ⟨_, h2⟩ | ⟨_, h2⟩
        · exact .inl ⟨fun e => hb (e ▸ en.1), h2⟩
        · exact .inr ⟨fun e => hb (e ▸ en.2.1), h2⟩
    · have nr : b ≠ r0 := fun e => hb (e ▸ h0)
      obtain ⟨b1, b2, b3⟩ := hp b List.mem_cons_self nr
      have pb : par b = a := adj_b b2 rfl
      have hx : ∀ x ∈ ps, x ≠ r0 → par x ∈ ps ∧ Adj rs x (par x) ∧ d (par x) < d x := by
        intro x hx nx
        have nxb : x ≠ b := fun e => hb (e ▸ hx)
        obtain ⟨h1, h2, h3⟩ := hp x (List.mem_cons_of_mem _ hx) nx
        have np : par x ≠ b := fun e => by
          have ea : x = a := adj_b h2.symm e
          rw [e, ea] at h3
          rw [pb] at b3
          omega
        rcases List.mem_cons.mp h1 with h1 | h1
        · exact absurd h1 np
        · exact ⟨h1, adj_o h2 nxb np, h3⟩
      have q := ih par d r0 h0 hx
      intro s hs
      rcases List.mem_cons.mp hs with rfl | hs
      · rcases hr with rfl | rfl
        · exact .inr ⟨nr, pb⟩
        · exact .inl ⟨nr, pb⟩
      · exact q s hs
section
variable {n : Nat} {rs : List Road} {par d : Int → Int}
theorem Depth.edge (T : TreeOK n rs) (D : Depth n rs par d) {u v : Int} (h : Adj rs u v) : (u ≠ 0 ∧ par u = v) ∨ (v ≠ 0 ∧ par v = u) := by
  have hp := T.pos
  obtain ⟨ps, rs0, g, h1, h2⟩ := T.g
  have m : ∀ {x}, x ∈ ps ↔ inR n x := fun {x} => (h2.mem_iff).trans mem_ran
  have q := g.edge par d 0 (m.mpr ⟨by omega, by omega⟩) fun x hx nx => by
    obtain ⟨a, b, c⟩ := D.up x (m.mp hx) nx
    exact ⟨m.mpr a, b.mono fun r hr => h1.mem_iff.mp hr, c⟩
  obtain ⟨l, h | h⟩ := h
  · exact q _ (h1.mem_iff.mp h)
  · exact (q _ (h1.mem_iff.mp h)).symm
theorem Lump.top {S : List Int} (T : TreeOK n rs) (D : Depth n rs par d) (L : Lump n rs S) : ∃ t ∈ S, ∀ z ∈ S, z ≠ t → z ≠ 0 ∧ par z ∈ S := by
  induction L with
  | @one x h => exact ⟨x, by simp, fun z hz nz => absurd (by simpa using hz) nz⟩
  | @grow S S' u v _ hu hv ha hp ih =>
    obtain ⟨t, ht, h⟩ := ih
    have up : ∀ {z}, z ∈ S → z ∈ S' := fun hz => hp.mem_iff.mpr (List.mem_cons_of_mem _ hz)
    rcases D.edge T ha with ⟨h1, h2⟩ | ⟨h1, h2⟩
    · have e : u = t := by
        by_cases e : u = t
        · exact e
        · have := (h u hu e).2
          rw [h2] at this
          exact absurd this hv
      refine ⟨v, hp.mem_iff.mpr List.mem_cons_self, fun z hz nz => ?_⟩
      rcases List.mem_cons.mp (hp.mem_iff.mp hz) with hz | hz
      · exact absurd hz nz
      · by_cases ez : z = t
        · rw [ez, ← e]
          exact ⟨h1, by rw [h2]; exact hp.mem_iff.mpr List.mem_cons_self⟩
        · have := h z hz ez
          exact ⟨this.1, up this.2⟩
    · refine ⟨t, up ht, fun z hz nz => ?_⟩
      rcases List.mem_cons.mp (hp.mem_iff.mp hz) with ez | hz
      · rw [ez]
        exact ⟨h1, by rw [h2]; exact up hu⟩
      · have := h z hz nz
        exact ⟨this.1, up this.2⟩
theorem Lump.least_top {S : List Int} (T : TreeOK n rs) (D : Depth n rs par d) (L : Lump n rs S) {t : Int} (ht : t ∈ S) (hm : ∀ z ∈ S, d t ≤ d z) : ∀ z ∈ S, z ≠ t → z ≠ 0 ∧ par z ∈ S := by
  obtain ⟨t', ht', h⟩ := L.top T D
  have e : t = t' := by
    by_cases e : t = t'
    · exact e
    · have q := h t ht e
      have := (D.up t (L.rng T t ht) q.1).2.2
      have := hm _ q.2
      omega
  rw [e]
  exact h
/-- two yards that meet: the deeper one's top lies in the other -/
theorem tops_meet (T : TreeOK n rs) (D : Depth n rs par d) {Y Z : List Int} (LY : Lump n rs Y) (LZ : Lump n rs Z) {tY tZ : Int} (hY : tY ∈ Y) (mY : ∀ z ∈ Y, d tY ≤ d z) (hZ : tZ ∈ Z) (mZ : ∀ z ∈ Z, d tZ ≤ d z) (hd : d tY ≤ d tZ) :
    ∀ (k : Nat) (c : Int), (d c - d tZ).toNat ≤ k → c ∈ Y → c ∈ Z → tZ ∈ Y := by
  have pY := LY.least_top T D hY mY
  have pZ := LZ.least_top T D hZ mZ
  intro k
  induction k with
  | zero =>
    intro c hk cY cZ
    by_cases e : c = tZ
    · exact e ▸ cY
    · have q := pZ c cZ e
      have := (D.up c (LZ.rng T c cZ) q.1).2.2
      have := mZ _ q.2
      omega
  | succ k ih =>
    intro c hk cY cZ
    by_cases e : c = tZ
    · exact e ▸ cY
    · have q := pZ c cZ e
      have h3 := (D.up c (LZ.rng T c cZ) q.1).2.2
      have h4 := mZ _ q.2
      have n2 : c ≠ tY := fun e2 => by
        subst e2
        omega
      have q2 := pY c cY n2
      exact ih (par c) (by omega) q2.2 q.2
end
end Tw
/-! Plain mathematics: the spread from a start, depths, the loop that pays, the greedy choice. -/
namespace Tw

/-! ### neighbours -/
def nb1 (x : Int) (r : Road) : List (Int × Int) := (if r.1 = x then [(r.2.1, r.2.2)] else []) ++ (if r.2.1 = x then [(r.1, r.2.2)] else [])
def nbrs (rs : List Road) (x : Int) : List (Int × Int) := rs.flatMap (nb1 x)
theorem mem_nbrs {rs : List Road} {x y l : Int} : (y, l) ∈ nbrs rs x ↔ (x, y, l) ∈ rs ∨ (y, x, l) ∈ rs := by
  unfold nbrs nb1
  rw [List.mem_flatMap]
  constructor
  · rintro ⟨⟨a, b, m⟩, hr, h⟩
    rcases List.mem_append.mp h with h | h
    · split at h
      · rename_i e
        have e : a = x := e
        have h := List.mem_singleton.mp h
        injection h with h1 h2
        have h1 : y = b := h1
        have h2 : l = m := h2
        rw [h1, h2, ← e]
        exact .inl hr
      · cases h
    · split at h
      · rename_i e
        have e : b = x := e
        have h := List.mem_singleton.mp h
        injection h with h1 h2
        have h1 : y = a := h1
        have h2 : l = m := h2
        rw [h1, h2, ← e]
        exact .inr hr
      · cases h
  · rintro (h | h)
    · exact ⟨_, h, List.mem_append_left _ (by simp)⟩
    · exact ⟨_, h, List.mem_append_right _ (by simp)⟩
theorem adj_iff {rs : List Road} {x y : Int} : Adj rs x y ↔ ∃ l, (y, l) ∈ nbrs rs x := by
  constructor
  · rintro ⟨l, h⟩
    exact ⟨l, mem_nbrs.mpr h⟩
  · rintro ⟨l, h⟩
    exact ⟨l, mem_nbrs.mp h⟩
theorem nbrs_len (rs : List Road) (x : Int) : (nbrs rs x).length ≤ 2 * rs.length := by
  unfold nbrs
  induction rs with
  | nil => simp
  | cons r rs ih =>
    rw [List.flatMap_cons, List.length_append, List.length_cons]
    have : (nb1 x r).length ≤ 2 := by
      unfold nb1
      split <;> split <;> simp
    omega
theorem nbrs_take {rs : List Road} {x : Int} {i : Nat} {r : Road} (h : rs[i]? = some r) : nbrs (rs.take (i + 1)) x = nbrs (rs.take i) x ++ nb1 x r := by
  unfold nbrs
  rw [List.take_add_one, h, List.flatMap_append]
  simp

/-! ### the spread -/
def keys (al : List (Int × Int)) : List Int := al.map (·.1)
def visit1 (p : Int) (al : List (Int × Int)) (o : Int × Int) : List (Int × Int) := if o.1 ∈ keys al then al else al ++ [(o.1, p)]
/-- found so far: the start first, none twice, each behind the one ahead of it -/
structure Bfs (rs : List Road) (U : List Int) (st : Int) (al : List (Int × Int)) : Prop where
  first : al[0]? = some (st, st)
  nd : (keys al).Nodup
  sub : ∀ x ∈ keys al, x ∈ U
  par : ∀ i x p, 0 < i → al[i]? = some (x, p) → p ∈ keys (al.take i) ∧ Adj rs x p
theorem keys_append (a b : List (Int × Int)) : keys (a ++ b) = keys a ++ keys b := by unfold keys; rw [List.map_append]
theorem Bfs.one {rs : List Road} {U : List Int} {st : Int} (h : st ∈ U) : Bfs rs U st [(st, st)] := by
  refine ⟨rfl, by simp [keys], fun x hx => ?_, fun i x p hi e => ?_⟩
  · have : x = st := by simpa [keys] using hx
    rw [this]; exact h
  · rw [List.getElem?_eq_none (by simp; omega)] at e
    cases e
theorem Bfs.add {rs : List Road} {U : List Int} {st o p : Int} {al : List (Int × Int)} (B : Bfs rs U st al) (ho : o ∉ keys al) (hU : o ∈ U) (hp : p ∈ keys al) (ha : Adj rs o p) : Bfs rs U st (al ++ [(o, p)]) := by
  refine ⟨?_, ?_, fun x hx => ?_, fun i x q hi e => ?_⟩
  · have := B.first
    cases al with
    | nil => cases this
    | cons a r => exact this
  · rw [keys_append]
    refine List.nodup_append.mpr ⟨B.nd, by simp [keys], fun a ha b hb e => ?_⟩
    have : b = o := by simpa [keys] using hb
    exact ho (by rw [← this, ← e]; exact ha)
  · rw [keys_append] at hx
    rcases List.mem_append.mp hx with hx | hx
    · exact B.sub x hx
    · have : x = o := by simpa [keys] using hx
      rw [this]; exact hU
  · by_cases hl : i < al.length
    · rw [List.getElem?_append_left hl] at e
      rw [List.take_append_of_le_length (Nat.le_of_lt hl)]
      exact B.par i x q hi e
    · have hi2 : i = al.length := by
        have := (List.getElem?_eq_some_iff.mp e).1
        simp at this
        omega
      subst hi2
      rw [List.getElem?_append_right (Nat.le_refl _)] at e
      simp at e
      obtain ⟨rfl, rfl⟩ := e
      rw [List.take_append_of_le_length (Nat.le_refl _), List.take_of_length_le (Nat.le_refl _)]
      exact ⟨hp, ha⟩
theorem Bfs.visit1 {rs : List Road} {U : List Int} {st p : Int} {al : List (Int × Int)} {o : Int × Int} (B : Bfs rs U st al) (hU : o.1 ∈ U) (hp : p ∈ keys al) (ha : Adj rs o.1 p) :
    Bfs rs U st (visit1 p al o) ∧ (∀ x ∈ keys al, x ∈ keys (Tw.visit1 p al o)) ∧ o.1 ∈ keys (Tw.visit1 p al o) ∧ (∃ ext, Tw.visit1 p al o = al ++ ext) := by
  unfold Tw.visit1
  split
  · rename_i h
    exact ⟨B, fun _ h => h, h, [], by simp⟩
  · rename_i h
    refine ⟨B.add h hU hp ha, fun x hx => ?_, ?_, _, rfl⟩
    · rw [keys_append]; exact List.mem_append_left _ hx
    · rw [keys_append]; exact List.mem_append_right _ (by simp [keys])
def visitL (p : Int) (al : List (Int × Int)) (nb : List (Int × Int)) : List (Int × Int) := nb.foldl (visit1 p) al
theorem visitL_take {p : Int} {al nb : List (Int × Int)} {i : Nat} {o : Int × Int} (h : nb[i]? = some o) : visitL p al (nb.take (i + 1)) = visit1 p (visitL p al (nb.take i)) o := by
  unfold visitL
  rw [List.take_add_one, h, List.foldl_append]
  rfl
theorem Bfs.visitL {rs : List Road} {U : List Int} {st p : Int} : ∀ {nb al : List (Int × Int)}, Bfs rs U st al → (∀ o ∈ nb, o.1 ∈ U ∧ Adj rs o.1 p) → p ∈ keys al →
    Bfs rs U st (visitL p al nb) ∧ (∀ x, x ∈ keys al → x ∈ keys (Tw.visitL p al nb)) ∧ (∀ o, o ∈ nb → o.1 ∈ keys (Tw.visitL p al nb)) ∧ (∃ ext, Tw.visitL p al nb = al ++ ext)
  | [], al, B, _, _ => ⟨B, fun _ h => h, fun o h => absurd h (by simp), [], by simp [Tw.visitL]⟩
  | o :: nb, al, B, h, hp => by
    obtain ⟨h1, h2, h3, ext, h4⟩ := B.visit1 (h o List.mem_cons_self).1 hp (h o List.mem_cons_self).2
    obtain ⟨k1, k2, k3, ext', k4⟩ := Bfs.visitL (nb := nb) h1 (fun q hq => h q (List.mem_cons_of_mem _ hq)) (h2 _ hp)
    refine ⟨k1, fun x hx => k2 _ (h2 x hx), fun q hq => ?_, ext ++ ext', ?_⟩
    · rcases List.mem_cons.mp hq with rfl | hq
      · exact k2 _ h3
      · exact k3 q hq
    · show Tw.visitL p (Tw.visit1 p al o) nb = _
      rw [k4, h4, List.append_assoc]
/-- the first at of them have all their neighbours -/
structure BfsAt (rs : List Road) (U : List Int) (st : Int) (at_ : Nat) (al : List (Int × Int)) : Prop where
  b : Bfs rs U st al
  le : at_ ≤ al.length
  closed : ∀ j x p, j < at_ → al[j]? = some (x, p) → ∀ y, Adj rs x y → y ∈ keys al
theorem BfsAt.start {rs : List Road} {U : List Int} {st : Int} (h : st ∈ U) : BfsAt rs U st 0 [(st, st)] := ⟨.one h, Nat.zero_le _, fun j _ _ hj => absurd hj (Nat.not_lt_zero _)⟩
theorem BfsAt.next {rs : List Road} {U : List Int} {st x p : Int} {at_ : Nat} {al : List (Int × Int)} (B : BfsAt rs U st at_ al) (hU : ∀ x y, Adj rs x y → y ∈ U) (h : al[at_]? = some (x, p)) : BfsAt rs U st (at_ + 1) (visitL x al (nbrs rs x)) := by
  have hx : x ∈ keys al := List.mem_map.mpr ⟨_, List.mem_of_getElem? h, rfl⟩
  obtain ⟨h1, h2, h3, ext, h4⟩ := B.b.visitL (nb := nbrs rs x) (p := x) (fun o ho => by
    have a : Adj rs x o.1 := adj_iff.mpr ⟨o.2, ho⟩
    exact ⟨hU _ _ a, a.symm⟩) hx
  have hl := (List.getElem?_eq_some_iff.mp h).1
  refine ⟨h1, by rw [h4, List.length_append]; omega, fun j z q hj e y hy => ?_⟩
  rw [h4, List.getElem?_append_left (by omega)] at e
  by_cases ej : j = at_
  · subst ej
    rw [h] at e
    injection e with e
    injection e with e1 e2
    rw [← e1] at hy
    obtain ⟨l, hm⟩ := adj_iff.mp hy
    exact h3 _ hm
  · exact h2 _ (B.closed j z q (by omega) e y hy)
theorem keys_len (al : List (Int × Int)) : (keys al).length = al.length := List.length_map ..
theorem Nodup_le {l l' : List Int} : l.Nodup → (∀ x ∈ l, x ∈ l') → l.length ≤ l'.length := by
  induction l generalizing l' with
  | nil => intro _ _; exact Nat.zero_le _
  | cons x l ih =>
    intro hn hs
    obtain ⟨h1, h2⟩ := List.nodup_cons.mp hn
    have hx : x ∈ l' := hs x List.mem_cons_self
    have q := ih (l' := l'.erase x) h2 fun y hy => (List.mem_erase_of_ne (fun e => h1 (by rw [← e]; exact hy))).mpr (hs y (List.mem_cons_of_mem _ hy))
    rw [List.length_erase_of_mem hx] at q
    have := List.length_pos_of_mem hx
    rw [List.length_cons]
    omega
theorem Bfs.len_le {rs : List Road} {U : List Int} {st : Int} {al : List (Int × Int)} (B : Bfs rs U st al) : al.length ≤ U.length := by
  have := Nodup_le B.nd B.sub
  rw [keys_len] at this
  exact this
/-- a spread over a whole tree -/
structure Spread (n : Nat) (rs : List Road) (al : List (Int × Int)) : Prop where
  first : al[0]? = some (0, 0)
  nd : (keys al).Nodup
  all : ∀ x, x ∈ keys al ↔ inR n x
  par : ∀ i x p, 0 < i → al[i]? = some (x, p) → p ∈ keys (al.take i) ∧ Adj rs x p
theorem perm_of {l l' : List Int} (h : l.Nodup) (h' : l'.Nodup) (e : ∀ x, x ∈ l ↔ x ∈ l') : l.Perm l' := by
  have h1 := Nodup_le h fun x hx => (e x).mp hx
  have h2 := Nodup_le h' fun x hx => (e x).mpr hx
  clear h2
  induction l generalizing l' with
  | nil =>
    cases l' with
    | nil => exact .refl _
    | cons y r => exact absurd ((e y).mpr List.mem_cons_self) (by simp)
  | cons x l ih =>
    obtain ⟨n1, n2⟩ := List.nodup_cons.mp h
    have hx : x ∈ l' := (e x).mp List.mem_cons_self
    refine List.Perm.trans (.cons x (ih n2 (h'.erase x) (fun y => ?_) ?_)) (List.perm_cons_erase hx).symm
    · constructor
      · intro hy
        have ne : y ≠ x := fun z => n1 (z ▸ hy)
        exact (List.mem_erase_of_ne ne).mpr ((e y).mp (List.mem_cons_of_mem _ hy))
      · intro hy
        have hy' := List.mem_of_mem_erase hy
        have ne : y ≠ x := fun z => by
          rw [z] at hy
          exact (h'.mem_erase_iff.mp hy).1 rfl
        rcases List.mem_cons.mp ((e y).mpr hy') with z | z
        · exact absurd z ne
        · exact z
    · rw [List.length_erase_of_mem hx]
      rw [List.length_cons] at h1
      omega
theorem Spread.len {n : Nat} {rs : List Road} {al : List (Int × Int)} (S : Spread n rs al) : al.length = n := by
  have := (perm_of S.nd (nodup_ran n) fun x => (S.all x).trans mem_ran.symm).length_eq
  rw [keys_len, len_ran] at this
  exact this
theorem BfsAt.done {n : Nat} {rs : List Road} {al : List (Int × Int)} (T : TreeOK n rs) {at_ : Nat} (B : BfsAt rs (ran n) 0 at_ al) (h : al.length ≤ at_) : Spread n rs al := by
  have hl := B.le
  refine ⟨B.b.first, B.b.nd, fun x => ⟨fun hx => mem_ran.mp (B.b.sub x hx), fun hx => ?_⟩, B.b.par⟩
  refine T.conn (fun x => x ∈ keys al) (List.mem_map.mpr ⟨_, List.mem_of_getElem? B.b.first, rfl⟩) (fun y z hyz hy => ?_) x hx
  obtain ⟨⟨y', q⟩, hm, e⟩ := List.mem_map.mp hy
  have e : y' = y := e
  subst e
  obtain ⟨j, hj⟩ := List.getElem?_of_mem hm
  exact B.closed j _ q (by have := (List.getElem?_eq_some_iff.mp hj).1; omega) hj z hyz

/-! ### depths -/
def look (f : List (Int × Int)) (x : Int) : Int := (f.lookup x).getD 0
def rl (rs : List Road) (x p : Int) : Int := (((nbrs rs x).filter fun o => decide (o.1 = p)).map (·.2)).headD 0
theorem rl_ne {rs : List Road} {x p : Int} (h : Adj rs x p) : ∃ l r, ((nbrs rs x).filter fun o => decide (o.1 = p)).map (·.2) = l :: r ∧ rl rs x p = l ∧ ((x, p, l) ∈ rs ∨ (p, x, l) ∈ rs) := by
  obtain ⟨l, hl⟩ := adj_iff.mp h
  have hm : (p, l) ∈ (nbrs rs x).filter fun o => decide (o.1 = p) := List.mem_filter.mpr ⟨hl, by simp⟩
  unfold rl
  cases e : (nbrs rs x).filter fun o => decide (o.1 = p) with
  | nil => rw [e] at hm; cases hm
  | cons q r =>
    obtain ⟨a, m⟩ := q
    have hq : (a, m) ∈ (nbrs rs x).filter fun o => decide (o.1 = p) := by rw [e]; exact List.mem_cons_self
    obtain ⟨h1, h2⟩ := List.mem_filter.mp hq
    have h2 : a = p := of_decide_eq_true h2
    subst h2
    exact ⟨m, r.map (·.2), rfl, rfl, mem_nbrs.mp h1⟩
def farStep (rs : List Road) (f : List (Int × Int)) (e : Int × Int) : List (Int × Int) := f ++ [(e.1, if e.1 = 0 then 0 else look f e.2 + rl rs e.1 e.2)]
def farL (rs : List Road) (al : List (Int × Int)) : List (Int × Int) := al.foldl (farStep rs) []
theorem farL_take {rs : List Road} {al : List (Int × Int)} {i : Nat} {e : Int × Int} (h : al[i]? = some e) : farL rs (al.take (i + 1)) = farStep rs (farL rs (al.take i)) e := by
  unfold farL
  rw [List.take_add_one, h, List.foldl_append]
  rfl
theorem farL_keys (rs : List Road) : ∀ (al : List (Int × Int)) (f : List (Int × Int)), keys (al.foldl (farStep rs) f) = keys f ++ keys al
  | [], f => by simp [keys]
  | e :: al, f => by
    rw [List.foldl_cons, farL_keys rs al]
    unfold farStep
    rw [keys_append]
    simp [keys]
theorem farL_keys' (rs : List Road) (al : List (Int × Int)) : keys (farL rs al) = keys al := by
  unfold farL
  rw [farL_keys]
  simp [keys]
theorem lookup_app {f g : List (Int × Int)} {x : Int} (h : x ∈ keys f) : (f ++ g).lookup x = f.lookup x := by
  induction f with
  | nil => cases h
  | cons e f ih =>
    obtain ⟨a, b⟩ := e
    rw [List.cons_append, List.lookup_cons, List.lookup_cons]
    cases q : x == a with
    | true => rfl
    | false =>
      refine ih ?_
      rcases List.mem_cons.mp h with h | h
      · have h : x = a := h
        rw [h] at q
        simp at q
      · exact h
theorem lookup_new {f : List (Int × Int)} {x v : Int} (h : x ∉ keys f) : (f ++ [(x, v)]).lookup x = some v := by
  induction f with
  | nil => simp [List.lookup_cons]
  | cons e f ih =>
    obtain ⟨a, b⟩ := e
    rw [List.cons_append, List.lookup_cons]
    have ne : (x == a) = false := by
      rw [beq_eq_false_iff_ne]
      intro z
      exact h (by rw [z]; exact List.mem_cons_self)
    rw [ne]
    exact ih fun z => h (List.mem_cons_of_mem _ z)
theorem farL_ext {rs : List Road} {al : List (Int × Int)} {i : Nat} (hi : i ≤ al.length) : ∃ ext, farL rs al = farL rs (al.take i) ++ ext := by
  have go : ∀ (l : List (Int × Int)) (f : List (Int × Int)), ∃ ext, l.foldl (farStep rs) f = f ++ ext := by
    intro l
    induction l with
    | nil => intro f; exact ⟨[], by simp⟩
    | cons e l ih =>
      intro f
      obtain ⟨ext, h⟩ := ih (farStep rs f e)
      refine ⟨[(e.1, if e.1 = 0 then 0 else look f e.2 + rl rs e.1 e.2)] ++ ext, ?_⟩
      rw [List.foldl_cons, h]
      unfold farStep
      rw [List.append_assoc]
  obtain ⟨ext, h⟩ := go (al.drop i) (farL rs (al.take i))
  refine ⟨ext, ?_⟩
  rw [← h]
  unfold farL
  rw [← List.foldl_append, List.take_append_drop]
/-- what stands at each place -/
theorem farL_at {rs : List Road} {al : List (Int × Int)} (nd : (keys al).Nodup) {i : Nat} {x p : Int} (h : al[i]? = some (x, p)) :
    look (farL rs al) x = if x = 0 then 0 else look (farL rs (al.take i)) p + rl rs x p := by
  have hi := (List.getElem?_eq_some_iff.mp h).1
  obtain ⟨ext, e⟩ := farL_ext (rs := rs) (al := al) (i := i + 1) hi
  have kx : x ∉ keys (farL rs (al.take i)) := by
    rw [farL_keys']
    intro hx
    have hk : (keys al)[i]? = some x := by unfold keys; rw [List.getElem?_map, h]; rfl
    unfold keys at hx
    rw [List.map_take] at hx
    obtain ⟨j, hj⟩ := List.getElem?_of_mem hx
    have hji : j < i := by
      have := (List.getElem?_eq_some_iff.mp hj).1
      simp at this
      omega
    rw [List.getElem?_take_of_lt hji] at hj
    have e1 := (List.getElem?_eq_some_iff.mp hk)
    have e2 := (List.getElem?_eq_some_iff.mp (show (keys al)[j]? = some x from hj))
    have := (List.getElem_inj nd).mp (e1.2.trans e2.2.symm)
    omega
  unfold look
  rw [e, farL_take h]
  unfold farStep
  rw [lookup_app, lookup_new kx]
  · rfl
  · rw [keys_append]
    exact List.mem_append_right _ (by simp [keys])
theorem farL_prefix {rs : List Road} {al : List (Int × Int)} {i : Nat} {p : Int} (hp : p ∈ keys (al.take i)) : look (farL rs (al.take i)) p = look (farL rs al) p := by
  by_cases hi : i ≤ al.length
  · obtain ⟨ext, e⟩ := farL_ext (rs := rs) (al := al) (i := i) hi
    unfold look
    rw [e, lookup_app]
    rw [farL_keys']
    exact hp
  · rw [List.take_of_length_le (by omega)]
theorem Spread.depth {n : Nat} {rs : List Road} {al : List (Int × Int)} (T : TreeOK n rs) (S : Spread n rs al) : Depth n rs (look al) (look (farL rs al)) := by
  refine ⟨fun x hx nx => ?_⟩
  have hm := (S.all x).mpr hx
  obtain ⟨⟨x', p⟩, hm', e⟩ := List.mem_map.mp hm
  have e : x' = x := e
  subst e
  obtain ⟨i, hi⟩ := List.getElem?_of_mem hm'
  have i0 : 0 < i := by
    rcases Nat.eq_zero_or_pos i with z | z
    · rw [z, S.first] at hi
      injection hi with hi
      injection hi with h1 h2
      exact absurd h1.symm nx
    · exact z
  obtain ⟨hp, ha⟩ := S.par i x' p i0 hi
  have lk : look al x' = p := by
    have hsplit : al = al.take i ++ (x', p) :: al.drop (i + 1) := by
      have h1 := (List.getElem?_eq_some_iff.mp hi)
      rw [← h1.2, List.getElem_cons_drop, List.take_append_drop]
    have hn : x' ∉ keys (al.take i) := by
      have nd := S.nd
      rw [hsplit, keys_append] at nd
      have := (List.nodup_append.mp nd).2.2
      intro z
      exact this _ z x' (by simp [keys]) rfl
    unfold look
    rw [hsplit, show al.take i ++ (x', p) :: al.drop (i + 1) = (al.take i ++ [(x', p)]) ++ al.drop (i + 1) by simp, lookup_app, lookup_new hn]
    · rfl
    · rw [keys_append]; exact List.mem_append_right _ (by simp [keys])
  rw [lk]
  refine ⟨(T.adj ha).2, ha, ?_⟩
  rw [farL_at S.nd hi, if_neg nx, farL_prefix hp]
  obtain ⟨l, r, _, h2, h3⟩ := rl_ne ha
  have hl : 1 ≤ l := by
    rcases h3 with h3 | h3
    · exact (T.ends _ h3).2.2.2
    · exact (T.ends _ h3).2.2.2
  omega
end Tw
/-! Plain mathematics: the loop that pays, the greedy choice, and that the two come to the same. -/
namespace Tw
def ysum (g : Int → Int) (Y : List Int) : Int := (Y.map g).sum
def gsum (n : Nat) (g : Int → Int) : Int := ysum g (ran n)
def addAt (g : Int → Int) (t l : Int) : Int → Int := fun x => if x = t then g x + l else g x
theorem ysum_nil (g : Int → Int) : ysum g [] = 0 := rfl
theorem ysum_cons (g : Int → Int) (x : Int) (Y : List Int) : ysum g (x :: Y) = g x + ysum g Y := by unfold ysum; rw [List.map_cons, List.sum_cons]
theorem ysum_append (g : Int → Int) (X Y : List Int) : ysum g (X ++ Y) = ysum g X + ysum g Y := by unfold ysum; rw [List.map_append, List.sum_append_int]
theorem ysum_perm {g : Int → Int} {X Y : List Int} (h : X.Perm Y) : ysum g X = ysum g Y := by
  induction h with
  | nil => rfl
  | cons x _ ih => rw [ysum_cons, ysum_cons, ih]
  | swap x y l => rw [ysum_cons, ysum_cons, ysum_cons, ysum_cons]; omega
  | trans _ _ h1 h2 => rw [h1, h2]
theorem ysum_addAt {g : Int → Int} {t l : Int} : ∀ {Y : List Int}, Y.Nodup → ysum (addAt g t l) Y = ysum g Y + if t ∈ Y then l else 0
  | [], _ => by simp [ysum]
  | x :: Y, h => by
    obtain ⟨h1, h2⟩ := List.nodup_cons.mp h
    rw [ysum_cons, ysum_cons, ysum_addAt h2]
    unfold addAt
    by_cases e : x = t
    · subst e
      rw [if_pos rfl, if_neg h1, if_pos List.mem_cons_self]
      omega
    · rw [if_neg e]
      by_cases m : t ∈ Y
      · rw [if_pos m, if_pos (List.mem_cons_of_mem _ m)]; omega
      · rw [if_neg m, if_neg fun z => (List.mem_cons.mp z).elim (fun z => e z.symm) m]; omega
theorem ysum_mono {g g' : Int → Int} : ∀ {Y : List Int}, (∀ x ∈ Y, g x ≤ g' x) → ysum g Y ≤ ysum g' Y
  | [], _ => Int.le_refl _
  | x :: Y, h => by
    rw [ysum_cons, ysum_cons]
    have := h x List.mem_cons_self
    have := ysum_mono (Y := Y) fun y hy => h y (List.mem_cons_of_mem _ hy)
    omega
theorem ysum_nonneg {g : Int → Int} : ∀ {Y : List Int}, (∀ x ∈ Y, 0 ≤ g x) → 0 ≤ ysum g Y
  | [], _ => Int.le_refl _
  | x :: Y, h => by
    rw [ysum_cons]
    have := h x List.mem_cons_self
    have := ysum_nonneg (Y := Y) fun y hy => h y (List.mem_cons_of_mem _ hy)
    omega
theorem ysum_sub {g : Int → Int} (h0 : ∀ x, 0 ≤ g x) : ∀ {l l' : List Int}, l.Nodup → (∀ x ∈ l, x ∈ l') → ysum g l ≤ ysum g l'
  | [], l', _, _ => by rw [ysum_nil]; exact ysum_nonneg fun x _ => h0 x
  | x :: l, l', hn, hs => by
    obtain ⟨h1, h2⟩ := List.nodup_cons.mp hn
    have hx : x ∈ l' := hs x List.mem_cons_self
    have q := ysum_sub h0 (l := l) (l' := l'.erase x) h2 fun y hy => (List.mem_erase_of_ne (fun e => h1 (by rw [← e]; exact hy))).mpr (hs y (List.mem_cons_of_mem _ hy))
    rw [ysum_perm (List.perm_cons_erase hx), ysum_cons, ysum_cons]
    omega

section
variable (w : Nat → Int) (Y : Nat → List Int) (t : Nat → Int)
def run : (Int → Int) → List Nat → (Int → Int) × List Nat
  | g, [] => (g, [])
  | g, k :: ks => if 0 < w k - ysum g (Y k) then let r := run (addAt g (t k) (w k - ysum g (Y k))) ks; (r.1, k :: r.2) else run g ks
def disj (A B : List Int) : Bool := A.all fun x => !decide (x ∈ B)
def greedy1 (T : List Nat) (k : Nat) : List Nat := if (T.all fun m => disj (Y k) (Y m)) = true then T ++ [k] else T
def greedy (p : List Nat) : List Nat := p.reverse.foldl (greedy1 Y) []
/-- what the chosen yards are worth -/
def wsum (T : List Nat) : Int := (T.map w).sum
def psum (g : Int → Int) (T : List Nat) : Int := (T.map fun k => ysum g (Y k)).sum
end
theorem disj_iff {A B : List Int} : disj A B = true ↔ ∀ x ∈ A, x ∉ B := by unfold disj; simp
section
variable {w : Nat → Int} {Y : Nat → List Int} {t : Nat → Int} {n : Nat}
theorem greedy_cons (k : Nat) (p : List Nat) : greedy Y (k :: p) = greedy1 Y (greedy Y p) k := by
  unfold greedy
  rw [List.reverse_cons, List.foldl_append]
  rfl
theorem greedy_sub : ∀ {p : List Nat}, ∀ k ∈ greedy Y p, k ∈ p
  | [], k, h => by cases h
  | j :: p, k, h => by
    rw [greedy_cons] at h
    unfold greedy1 at h
    split at h
    · rcases List.mem_append.mp h with h | h
      · exact List.mem_cons_of_mem _ (greedy_sub k h)
      · rw [List.mem_singleton.mp h]; exact List.mem_cons_self
    · exact List.mem_cons_of_mem _ (greedy_sub k h)
/-- each two apart -/
def Apart (Y : Nat → List Int) (T : List Nat) : Prop := T.Pairwise fun j k => ∀ x ∈ Y j, x ∉ Y k
theorem greedy_apart : ∀ {p : List Nat}, Apart Y (greedy Y p)
  | [] => .nil
  | j :: p => by
    rw [greedy_cons]
    unfold greedy1
    split
    · rename_i h
      refine List.pairwise_append.mpr ⟨greedy_apart, by simp, fun a ha b hb x hx hy => ?_⟩
      rw [List.mem_singleton.mp hb] at hy
      exact disj_iff.mp (List.all_eq_true.mp h a ha) x hy hx
    · exact greedy_apart
theorem wsum_append (T T' : List Nat) : wsum w (T ++ T') = wsum w T + wsum w T' := by unfold wsum; rw [List.map_append, List.sum_append_int]
theorem wsum_one (k : Nat) : wsum w [k] = w k := by unfold wsum; simp
theorem psum_append (g : Int → Int) (T T' : List Nat) : psum Y g (T ++ T') = psum Y g T + psum Y g T' := by unfold psum; rw [List.map_append, List.sum_append_int]
theorem psum_one (g : Int → Int) (k : Nat) : psum Y g [k] = ysum g (Y k) := by unfold psum; simp
theorem psum_cons (g : Int → Int) (k : Nat) (T : List Nat) : psum Y g (k :: T) = ysum g (Y k) + psum Y g T := by unfold psum; rw [List.map_cons, List.sum_cons]
/-- a place that lies in none, or in one, of yards apart -/
theorem psum_none {g : Int → Int} {a l : Int} : ∀ {T : List Nat}, (∀ k ∈ T, (Y k).Nodup ∧ a ∉ Y k) → psum Y (addAt g a l) T = psum Y g T
  | [], _ => rfl
  | k :: T, h => by
    have hk := h k List.mem_cons_self
    rw [psum_cons, psum_cons, psum_none (T := T) fun m hm => h m (List.mem_cons_of_mem _ hm), ysum_addAt hk.1, if_neg hk.2]
    omega
theorem psum_some {g : Int → Int} {a l : Int} : ∀ {T : List Nat}, Apart Y T → (∀ k ∈ T, (Y k).Nodup) → (∃ m ∈ T, a ∈ Y m) → psum Y (addAt g a l) T = psum Y g T + l
  | [], _, _, ⟨m, hm, _⟩ => by cases hm
  | k :: T, hA, h, ⟨m, hm, ha⟩ => by
    obtain ⟨h1, h2⟩ := List.pairwise_cons.mp hA
    have hk := h k List.mem_cons_self
    have hT : ∀ j ∈ T, (Y j).Nodup := fun j hj => h j (List.mem_cons_of_mem _ hj)
    rw [psum_cons, psum_cons, ysum_addAt hk]
    by_cases e : a ∈ Y k
    · rw [if_pos e, psum_none fun j hj => ⟨hT j hj, h1 j hj a e⟩]
      omega
    · have hm' : m ∈ T := by
        rcases List.mem_cons.mp hm with z | z
        · rw [z] at ha; exact absurd ha e
        · exact z
      rw [if_neg e, psum_some h2 hT ⟨m, hm', ha⟩]
      omega
theorem run_cons_pos {g : Int → Int} {k : Nat} {ks : List Nat} (h : 0 < w k - ysum g (Y k)) : run w Y t g (k :: ks) = ((run w Y t (addAt g (t k) (w k - ysum g (Y k))) ks).1, k :: (run w Y t (addAt g (t k) (w k - ysum g (Y k))) ks).2) := by
  rw [run, if_pos h]
theorem run_cons_neg {g : Int → Int} {k : Nat} {ks : List Nat} (h : ¬ 0 < w k - ysum g (Y k)) : run w Y t g (k :: ks) = run w Y t g ks := by
  rw [run, if_neg h]
theorem run_sub : ∀ {ks : List Nat} {g : Int → Int}, (run w Y t g ks).2.Sublist ks
  | [], g => by rw [run]; exact .slnil
  | k :: ks, g => by
    by_cases h : 0 < w k - ysum g (Y k)
    · rw [run_cons_pos h]; exact .cons_cons _ run_sub
    · rw [run_cons_neg h]; exact .cons _ run_sub
theorem run_mono : ∀ {ks : List Nat} {g : Int → Int} (x : Int), g x ≤ (run w Y t g ks).1 x
  | [], g, x => by rw [run]; exact Int.le_refl _
  | k :: ks, g, x => by
    by_cases h : 0 < w k - ysum g (Y k)
    · rw [run_cons_pos h]
      refine Int.le_trans ?_ (run_mono (ks := ks) x)
      unfold addAt
      split <;> omega
    · rw [run_cons_neg h]; exact run_mono x
theorem run_feas : ∀ {ks : List Nat} {g : Int → Int}, (∀ k ∈ ks, (Y k).Nodup ∧ t k ∈ Y k) → ∀ k ∈ ks, w k ≤ ysum (run w Y t g ks).1 (Y k)
  | [], g, _, k, hk => by cases hk
  | j :: ks, g, hY, k, hk => by
    have hY' : ∀ k ∈ ks, (Y k).Nodup ∧ t k ∈ Y k := fun k hk => hY k (List.mem_cons_of_mem _ hk)
    have hj := hY j List.mem_cons_self
    by_cases h : 0 < w j - ysum g (Y j)
    · rw [run_cons_pos h]
      rcases List.mem_cons.mp hk with rfl | hk
      · have e : ysum (addAt g (t k) (w k - ysum g (Y k))) (Y k) = w k := by
          rw [ysum_addAt hj.1, if_pos hj.2]; omega
        have := ysum_mono (g := addAt g (t k) (w k - ysum g (Y k))) (g' := (run w Y t (addAt g (t k) (w k - ysum g (Y k))) ks).1) (Y := Y k) fun x _ => run_mono x
        show w k ≤ ysum (run w Y t (addAt g (t k) (w k - ysum g (Y k))) ks).1 (Y k)
        omega
      · exact run_feas hY' k hk
    · rw [run_cons_neg h]
      rcases List.mem_cons.mp hk with rfl | hk
      · have := ysum_mono (g := g) (g' := (run w Y t g ks).1) (Y := Y k) fun x _ => run_mono x
        omega
      · exact run_feas hY' k hk
theorem run_total : ∀ {ks : List Nat} {g : Int → Int}, (∀ k ∈ ks, (Y k).Nodup ∧ t k ∈ Y k ∧ inR n (t k)) → ks.Pairwise (fun j k => ∀ c, c ∈ Y j → c ∈ Y k → t j ∈ Y k) →
    wsum w (greedy Y (run w Y t g ks).2) = psum Y g (greedy Y (run w Y t g ks).2) + (gsum n (run w Y t g ks).1 - gsum n g)
  | [], g, _, _ => by
    rw [run]
    show (0 : Int) = 0 + (gsum n g - gsum n g)
    omega
  | j :: ks, g, hY, hP => by
    obtain ⟨hP1, hP2⟩ := List.pairwise_cons.mp hP
    have hY' : ∀ k ∈ ks, (Y k).Nodup ∧ t k ∈ Y k ∧ inR n (t k) := fun k hk => hY k (List.mem_cons_of_mem _ hk)
    obtain ⟨j1, j2, j3⟩ := hY j List.mem_cons_self
    by_cases h : 0 < w j - ysum g (Y j)
    · rw [run_cons_pos h]
      have ih := run_total (ks := ks) (g := addAt g (t j) (w j - ysum g (Y j))) hY' hP2
      generalize hg : addAt g (t j) (w j - ysum g (Y j)) = g' at ih
      have eg : gsum n g' = gsum n g + (w j - ysum g (Y j)) := by
        rw [← hg]; unfold gsum
        rw [ysum_addAt (nodup_ran n), if_pos (mem_ran.mpr j3)]
      show wsum w (greedy Y (j :: (run w Y t g' ks).2)) = psum Y g (greedy Y (j :: (run w Y t g' ks).2)) + (gsum n (run w Y t g' ks).1 - gsum n g)
      have hs : ∀ k ∈ (run w Y t g' ks).2, k ∈ ks := fun k hk => run_sub.subset hk
      generalize run w Y t g' ks = r at ih hs
      have hnd : ∀ k ∈ greedy Y r.2, (Y k).Nodup := fun k hk => (hY' k (hs k (greedy_sub k hk))).1
      have hap : Apart Y (greedy Y r.2) := greedy_apart
      have hmt : ∀ k ∈ greedy Y r.2, ∀ c, c ∈ Y j → c ∈ Y k → t j ∈ Y k := fun k hk => hP1 k (hs k (greedy_sub k hk))
      rw [greedy_cons]
      generalize greedy Y r.2 = T at ih hnd hap hmt
      rw [eg] at ih
      unfold greedy1
      by_cases hd : (T.all fun m => disj (Y j) (Y m)) = true
      · rw [if_pos hd, wsum_append, psum_append, wsum_one, psum_one]
        have e : psum Y g' T = psum Y g T := by
          rw [← hg]
          exact psum_none fun k hk => ⟨hnd k hk, disj_iff.mp (List.all_eq_true.mp hd k hk) _ j2⟩
        rw [e] at ih
        omega
      · rw [if_neg hd]
        have e : psum Y g' T = psum Y g T + (w j - ysum g (Y j)) := by
          rw [← hg]
          refine psum_some hap hnd ?_
          by_cases q : ∃ m ∈ T, ∃ c, c ∈ Y j ∧ c ∈ Y m
          · obtain ⟨m, hm, c, c1, c2⟩ := q
            exact ⟨m, hm, hmt m hm c c1 c2⟩
          · exact absurd (List.all_eq_true.mpr fun m hm => disj_iff.mpr fun c c1 c2 => q ⟨m, hm, c, c1, c2⟩) hd
        rw [e] at ih
        omega
    · rw [run_cons_neg h]
      exact run_total hY' hP2
theorem psum_flat (g : Int → Int) : ∀ T : List Nat, psum Y g T = ysum g (T.flatMap Y)
  | [] => rfl
  | k :: T => by rw [psum_cons, List.flatMap_cons, ysum_append, psum_flat g T]
theorem flat_nodup : ∀ {T : List Nat}, Apart Y T → (∀ k ∈ T, (Y k).Nodup) → (T.flatMap Y).Nodup
  | [], _, _ => by simp
  | k :: T, hA, h => by
    obtain ⟨h1, h2⟩ := List.pairwise_cons.mp hA
    rw [List.flatMap_cons]
    refine List.nodup_append.mpr ⟨h k List.mem_cons_self, flat_nodup h2 fun j hj => h j (List.mem_cons_of_mem _ hj), fun a ha b hb e => ?_⟩
    obtain ⟨j, hj, hbj⟩ := List.mem_flatMap.mp hb
    exact h1 j hj a ha (by rw [e]; exact hbj)
/-- yards apart are worth no more than prices that come to each yard's worth -/
theorem weak {g : Int → Int} {T : List Nat} (h0 : ∀ x, 0 ≤ g x) (hA : Apart Y T) (hY : ∀ k ∈ T, (Y k).Nodup ∧ (∀ x ∈ Y k, inR n x) ∧ w k ≤ ysum g (Y k)) : wsum w T ≤ gsum n g := by
  have h1 : wsum w T ≤ psum Y g T := by
    clear hA
    induction T with
    | nil => exact Int.le_refl _
    | cons k T ih =>
      have := (hY k List.mem_cons_self).2.2
      have := ih fun j hj => hY j (List.mem_cons_of_mem _ hj)
      rw [psum_cons]
      show wsum w ([k] ++ T) ≤ _
      rw [wsum_append, wsum_one]
      omega
  refine Int.le_trans h1 ?_
  rw [psum_flat]
  refine ysum_sub h0 (flat_nodup hA fun k hk => (hY k hk).1) fun x hx => ?_
  obtain ⟨j, hj, hxj⟩ := List.mem_flatMap.mp hx
  exact mem_ran.mpr ((hY j hj).2.1 x hxj)
/-- prices that come to each yard's worth, and yards apart that are worth them all -/
structure Fair (n m : Nat) (Y : Nat → List Int) (w : Nat → Int) (g : Int → Int) : Prop where
  nn : ∀ x, 0 ≤ g x
  feas : ∀ k, k < m → w k ≤ ysum g (Y k)
structure Best (m : Nat) (Y : Nat → List Int) (T : List Nat) : Prop where
  apart : Apart Y T
  lt : ∀ k ∈ T, k < m
theorem best_fair {m : Nat} (hY : ∀ k, k < m → (Y k).Nodup ∧ ∀ x ∈ Y k, inR n x) {g1 g2 : Int → Int} {T1 T2 : List Nat} (B1 : Best m Y T1) (F1 : Fair n m Y w g1) (e1 : wsum w T1 = gsum n g1) (B2 : Best m Y T2) (F2 : Fair n m Y w g2) (e2 : wsum w T2 = gsum n g2) :
    gsum n g2 = wsum w T1 := by
  have a : wsum w T1 ≤ gsum n g2 := weak F2.nn B1.apart fun k hk => ⟨(hY k (B1.lt k hk)).1, (hY k (B1.lt k hk)).2, F2.feas k (B1.lt k hk)⟩
  have b : wsum w T2 ≤ gsum n g1 := weak F1.nn B2.apart fun k hk => ⟨(hY k (B2.lt k hk)).1, (hY k (B2.lt k hk)).2, F1.feas k (B2.lt k hk)⟩
  omega
theorem wsum_perm {T T' : List Nat} (h : T.Perm T') : wsum w T = wsum w T' := by
  unfold wsum
  induction h with
  | nil => rfl
  | cons x _ ih => rw [List.map_cons, List.map_cons, List.sum_cons, List.sum_cons, ih]
  | swap x y l => simp only [List.map_cons, List.sum_cons]; omega
  | trans _ _ h1 h2 => rw [h1, h2]
theorem Apart.perm {T T' : List Nat} (h : T.Perm T') (hA : Apart Y T) : Apart Y T' :=
  (h.pairwise_iff (R := fun j k => ∀ x ∈ Y j, x ∉ Y k) (fun {j k} h x hx hy => h x hy hx)).mp hA
end
/-- the loop over yards in an order, deepest top first -/
theorem run_best {n m : Nat} {rs : List Road} {par d : Int → Int} {Y : Nat → List Int} {w : Nat → Int} {t : Nat → Int} {ks : List Nat} (T : TreeOK n rs) (D : Depth n rs par d) (hY : ∀ k, k < m → Lump n rs (Y k)) (ht : ∀ k, k < m → t k ∈ Y k ∧ ∀ z ∈ Y k, d (t k) ≤ d z)
    (hks : ks.Perm (List.range m)) (ho : ks.Pairwise fun j k => d (t k) ≤ d (t j)) :
    Fair n m Y w (run w Y t (fun _ => 0) ks).1 ∧ Best m Y (greedy Y (run w Y t (fun _ => 0) ks).2) ∧ wsum w (greedy Y (run w Y t (fun _ => 0) ks).2) = gsum n (run w Y t (fun _ => 0) ks).1 := by
  have lt : ∀ k ∈ ks, k < m := fun k hk => List.mem_range.mp (hks.mem_iff.mp hk)
  have hT : ∀ k ∈ ks, (Y k).Nodup ∧ t k ∈ Y k ∧ inR n (t k) := fun k hk => ⟨(hY k (lt k hk)).nodup, (ht k (lt k hk)).1, (hY k (lt k hk)).rng T _ (ht k (lt k hk)).1⟩
  refine ⟨⟨fun x => run_mono (g := fun _ => 0) x, fun k hk => run_feas (fun k hk => ⟨(hT k hk).1, (hT k hk).2.1⟩) k (hks.mem_iff.mpr (List.mem_range.mpr hk))⟩, ⟨greedy_apart, fun k hk => lt k (run_sub.subset (greedy_sub k hk))⟩, ?_⟩
  rw [run_total (n := n) hT]
  · have e1 : ∀ T : List Nat, psum Y (fun _ => 0) T = 0 := by
      intro T
      rw [psum_flat]
      unfold ysum
      induction T.flatMap Y with
      | nil => rfl
      | cons x l ih => rw [List.map_cons, List.sum_cons, ih]; rfl
    have e2 : gsum n (fun _ => 0) = 0 := by
      unfold gsum ysum
      induction ran n with
      | nil => rfl
      | cons x l ih => rw [List.map_cons, List.sum_cons, ih]; rfl
    rw [e1, e2]
    omega
  · refine ho.imp_of_mem fun {j k} hj hk h c cj ck => ?_
    obtain ⟨j1, j2⟩ := ht j (lt j hj)
    obtain ⟨k1, k2⟩ := ht k (lt k hk)
    exact tops_meet T D (hY k (lt k hk)) (hY j (lt j hj)) k1 k2 j1 j2 h _ c (Nat.le_refl _) ck cj
end Tw
/-! The texts by places, their names by slots, words of our own. -/
namespace Tw
open PySem PySem.Spec PyProof.Rows L2
def topS (i : Nat) : Stmt := PySem.Challenge.pw_treewells_k51_whole_best_yards_and_price.main.body.getD i (.Pass ⟨0, 0, 0, 0⟩)
abbrev sUnlike : Stmt := topS 7
abbrev sSteps : Stmt := topS 8
abbrev sSpread : Stmt := topS 9
abbrev sIsTree : Stmt := topS 10
abbrev sMustTree : Stmt := topS 11
abbrev sRoadLen : Stmt := topS 12
abbrev sFars : Stmt := topS 13
abbrev sIsLump : Stmt := topS 14
abbrev sMustYards : Stmt := topS 16
abbrev sApart : Stmt := topS 17
abbrev sTops : Stmt := topS 18
abbrev sMustWorths : Stmt := topS 20
abbrev sPaid : Stmt := topS 21
abbrev sBest : Stmt := topS 22
abbrev sPrices : Stmt := topS 23
abbrev sWhole : Stmt := topS 25
abbrev sCellAt : Stmt := topS 26
abbrev sMixed : Stmt := topS 27
abbrev sNames : Stmt := topS 28
abbrev sNumbers : Stmt := topS 29
abbrev sTree : Stmt := topS 30
abbrev sYards : Stmt := topS 31
abbrev sWorths : Stmt := topS 32
abbrev sCopy : Stmt := topS 33
abbrev sRising : Stmt := topS 34
abbrev sOften : Stmt := topS 35
abbrev sLaw : Stmt := topS 36
theorem scUnlike : FnScope ["many", "some", "place"] ["many", "some"] (defScope sUnlike) := ⟨rfl, rfl, rfl, by decide +kernel, rfl, by decide +kernel, by decide +kernel⟩
theorem scSteps : FnScope ["roads", "place", "found", "a", "b", "length"] ["roads", "place"] (defScope sSteps) := ⟨rfl, rfl, rfl, by decide +kernel, rfl, by decide +kernel, by decide +kernel⟩
theorem scSpread : FnScope ["roads", "start", "barred", "ahead", "waiting", "at", "other", "length"] ["roads", "start", "barred"] (defScope sSpread) := ⟨rfl, rfl, rfl, by decide +kernel, rfl, by decide +kernel, by decide +kernel⟩
theorem scIsTree : FnScope ["many", "roads", "road"] ["many", "roads"] (defScope sIsTree) := ⟨rfl, rfl, rfl, by decide +kernel, rfl, by decide +kernel, by decide +kernel⟩
theorem scMustTree : FnScope ["many", "roads"] ["many", "roads"] (defScope sMustTree) := ⟨rfl, rfl, rfl, by decide +kernel, rfl, by decide +kernel, by decide +kernel⟩
theorem scRoadLen : FnScope ["roads", "a", "b", "other", "length"] ["roads", "a", "b"] (defScope sRoadLen) := ⟨rfl, rfl, rfl, by decide +kernel, rfl, by decide +kernel, by decide +kernel⟩
theorem scFars : FnScope ["roads", "start", "found", "ahead", "place"] ["roads", "start"] (defScope sFars) := ⟨rfl, rfl, rfl, by decide +kernel, rfl, by decide +kernel, by decide +kernel⟩
theorem scIsLump : FnScope ["many", "roads", "some", "road"] ["many", "roads", "some"] (defScope sIsLump) := ⟨rfl, rfl, rfl, by decide +kernel, rfl, by decide +kernel, by decide +kernel⟩
theorem scMustYards : FnScope ["many", "roads", "yards", "yard"] ["many", "roads", "yards"] (defScope sMustYards) := ⟨rfl, rfl, rfl, by decide +kernel, rfl, by decide +kernel, by decide +kernel⟩
theorem scApart : FnScope ["one", "other", "place"] ["one", "other"] (defScope sApart) := ⟨rfl, rfl, rfl, by decide +kernel, rfl, by decide +kernel, by decide +kernel⟩
theorem scTops : FnScope ["roads", "yards", "found", "yard", "top", "depth"] ["roads", "yards"] (defScope sTops) := ⟨rfl, rfl, rfl, by decide +kernel, rfl, by decide +kernel, by decide +kernel⟩
theorem scMustWorths : FnScope ["many", "roads", "yards", "worths"] ["many", "roads", "yards", "worths"] (defScope sMustWorths) := ⟨rfl, rfl, rfl, by decide +kernel, rfl, by decide +kernel, by decide +kernel⟩
theorem scPaid : FnScope ["many", "roads", "yards", "worths", "found", "payers", "k", "left", "top", "place"] ["many", "roads", "yards", "worths"] (defScope sPaid) := ⟨rfl, rfl, rfl, by decide +kernel, rfl, by decide +kernel, by decide +kernel⟩
theorem scBest : FnScope ["many", "roads", "yards", "worths", "taken", "k", "other"] ["many", "roads", "yards", "worths"] (defScope sBest) := ⟨rfl, rfl, rfl, by decide +kernel, rfl, by decide +kernel, by decide +kernel⟩
theorem scPrices : FnScope ["many", "roads", "yards", "worths"] ["many", "roads", "yards", "worths"] (defScope sPrices) := ⟨rfl, rfl, rfl, by decide +kernel, rfl, by decide +kernel, by decide +kernel⟩
theorem scWhole : FnScope ["_law_found"] ["_law_found"] (defScope sWhole) := ⟨rfl, rfl, rfl, by decide +kernel, rfl, by decide +kernel, by decide +kernel⟩
theorem scCellAt : FnScope ["_law_script", "_law_k"] ["_law_script", "_law_k"] (defScope sCellAt) := ⟨rfl, rfl, rfl, by decide +kernel, rfl, by decide +kernel, by decide +kernel⟩
theorem scMixed : FnScope ["_law_cell", "_law_k", "_law_number"] ["_law_cell", "_law_k"] (defScope sMixed) := ⟨rfl, rfl, rfl, by decide +kernel, rfl, by decide +kernel, by decide +kernel⟩
theorem scNames : FnScope ["_law_cell", "_law_many", "_law_points", "_law_k"] ["_law_cell", "_law_many"] (defScope sNames) := ⟨rfl, rfl, rfl, by decide +kernel, rfl, by decide +kernel, by decide +kernel⟩
theorem scNumbers : FnScope ["_law_script", "_law_k", "_law_numbers_here", "_law_left", "_law_base", "_law_at"] ["_law_script"] (defScope sNumbers) := ⟨rfl, rfl, rfl, by decide +kernel, rfl, by decide +kernel, by decide +kernel⟩
theorem scTree : FnScope ["_law_script", "_law_numbers_here", "_law_first", "_law_cell", "_law_many", "_law_span", "_law_names_here", "_law_roads", "_law_k", "_law_number", "_law_back", "_law_a", "_law_long", "_law_length", "_law_road"] ["_law_script"] (defScope sTree) := ⟨rfl, rfl, rfl, by decide +kernel, rfl, by decide +kernel, by decide +kernel⟩
theorem scYards : FnScope ["_law_many", "_law_roads", "_law_numbers_here", "_law_found", "_law_k", "_law_number", "_law_left", "_law_yard", "_law_j", "_law_more", "_law_a", "_law_b", "_law_length"] ["_law_many", "_law_roads", "_law_numbers_here"] (defScope sYards) := ⟨rfl, rfl, rfl, by decide +kernel, rfl, by decide +kernel, by decide +kernel⟩
theorem scWorths : FnScope ["_law_yards_here", "_law_numbers_here", "_law_found", "_law_k", "_law_number"] ["_law_yards_here", "_law_numbers_here"] (defScope sWorths) := ⟨rfl, rfl, rfl, by decide +kernel, rfl, by decide +kernel, by decide +kernel⟩
theorem scCopy : FnScope ["_law_rows", "_law_row"] ["_law_rows"] (defScope sCopy) := ⟨rfl, rfl, rfl, by decide +kernel, rfl, by decide +kernel, by decide +kernel⟩
theorem scRising : FnScope ["_law_found", "_law_most", "_law_k"] ["_law_found", "_law_most"] (defScope sRising) := ⟨rfl, rfl, rfl, by decide +kernel, rfl, by decide +kernel, by decide +kernel⟩
theorem scOften : FnScope ["_law_some", "_law_number"] ["_law_some", "_law_number"] (defScope sOften) := ⟨rfl, rfl, rfl, by decide +kernel, rfl, by decide +kernel, by decide +kernel⟩
theorem scLaw : FnScope ["_law_script", "_law_many", "_law_roads", "_law_numbers_here", "_law_yards_here", "_law_worths_here", "_law_handed", "_law_found", "_law_why", "_law_place", "_law_k", "_law_one"] ["_law_script"] (defScope sLaw) := ⟨rfl, rfl, rfl, by decide +kernel, rfl, by decide +kernel, by decide +kernel⟩

/-! ### lists of ints, rows -/
theorem same_upd {H : Hp} {p : Addr} {o : HO} (h : H p = none) : Same H (upd H p o) := fun b x e => by
  rw [upd_ne (ne_of_none e h)]
  exact e
/-- the list at a holds these ints -/
abbrev IL (H : Hp) (a : Addr) (ns : List Int) : Prop := H a = some (.lst (ns.map V.int))
theorem sqL {K : PySem.W.Frag} {H : Hp} {a : Addr} {xs : List V} (h : H a = some (.lst xs)) : SqL K H a xs := .inl (.inl h)
theorem sqT {K : PySem.W.Frag} {H : Hp} {a : Addr} {xs : List V} (h : H a = some (.tup xs)) : SqT K H a xs := .inl (.inl h)
/-- the list at a holds lists of these ints -/
def Rows (H : Hp) (a : Addr) (rows : List (List Int)) : Prop :=
  ∃ ps : List Addr, H a = some (.lst (ps.map V.ref)) ∧ ps.length = rows.length ∧ ∀ (i : Nat) (p : Addr) (r : List Int), ps[i]? = some p → rows[i]? = some r → IL H p r
theorem Rows.same {H H' : Hp} {a : Addr} {rows : List (List Int)} (s : Same H H') (h : Rows H a rows) : Rows H' a rows := by
  obtain ⟨ps, h1, h2, h3⟩ := h
  exact ⟨ps, s _ _ h1, h2, fun i p r e1 e2 => s _ _ (h3 i p r e1 e2)⟩
def rowOf (r : Road) : List Int := [r.1, r.2.1, r.2.2]
abbrev Roads (H : Hp) (a : Addr) (rs : List Road) : Prop := Rows H a (rs.map rowOf)
theorem small_of {n m : Nat} (h : n ≤ m) (hm : m < 16777216 := by decide) : n < sizeLine := by rw [sizeLine_eq]; omega
theorem get_int {ns : List Int} {i : Nat} {x : Int} (h : ns[i]? = some x) : (ns.map V.int)[i]? = some (.int x) := by rw [List.getElem?_map, h]; rfl
theorem get_ref {ns : List Addr} {i : Nat} {x : Addr} (h : ns[i]? = some x) : (ns.map V.ref)[i]? = some (.ref x) := by rw [List.getElem?_map, h]; rfl
theorem of_get_int {ns : List Int} {i : Nat} {v : V} (h : (ns.map V.int)[i]? = some v) : ∃ x, ns[i]? = some x ∧ v = .int x := by
  rw [List.getElem?_map] at h
  cases e : ns[i]? with
  | none => rw [e] at h; cases h
  | some x => rw [e] at h; exact ⟨x, rfl, (Option.some.inj h).symm⟩
theorem of_get_ref {ns : List Addr} {i : Nat} {v : V} (h : (ns.map V.ref)[i]? = some v) : ∃ x, ns[i]? = some x ∧ v = .ref x := by
  rw [List.getElem?_map] at h
  cases e : ns[i]? with
  | none => rw [e] at h; cases h
  | some x => rw [e] at h; exact ⟨x, rfl, (Option.some.inj h).symm⟩
end Tw
/-! Rules in our own short forms, and words about lists of pairs and dicts. -/
namespace Tw
open PySem PySem.Spec PyProof.Rows L2
section
variable {X : Cx}
theorem PE.to {e : Expr} {t t' : TE} (h : PE X e t) (k : ∀ σ H Q, t' σ H Q → t σ H Q) : PE X e t' := ⟨fun pins s σ H Q I q => h.run pins s σ H Q I (k σ H Q q)⟩
theorem PS.to {st : Stmt} {t t' : TS} (h : PS X st t) (k : ∀ D σ H, t' D σ H → t D σ H) : PS X st t' := ⟨fun pins s σ H D I q => h.run pins s σ H D I (k D σ H q)⟩
end
/-! ### lists of pairs -/
/-- tuples of two ints stand at ts -/
def TL (H : Hp) (ts : List Addr) (ps : List (Int × Int)) : Prop := ts.length = ps.length ∧ ∀ (i : Nat) (t : Addr) (o : Int × Int), ts[i]? = some t → ps[i]? = some o → H t = some (.tup [.int o.1, .int o.2])
theorem TL.nil {H : Hp} : TL H [] [] := ⟨rfl, fun i t o h => by simp at h⟩
theorem TL.mem {H : Hp} {ts : List Addr} {ps : List (Int × Int)} (h : TL H ts ps) {i : Nat} {t : Addr} (e : ts[i]? = some t) : ∃ o, ps[i]? = some o ∧ H t = some (.tup [.int o.1, .int o.2]) := by
  have hi := (List.getElem?_eq_some_iff.mp e).1
  exact ⟨ps[i]'(by have := h.1; omega), List.getElem?_eq_getElem _, h.2 i t _ e (List.getElem?_eq_getElem _)⟩
theorem TL.same {H H' : Hp} {ts : List Addr} {ps : List (Int × Int)} (s : Same H H') (h : TL H ts ps) : TL H' ts ps := ⟨h.1, fun i t o e1 e2 => s _ _ (h.2 i t o e1 e2)⟩
/-- a list that grows is none of them -/
theorem TL.upd {H : Hp} {ts : List Addr} {ps : List (Int × Int)} {a : Addr} {xs : List V} {o : HO} (ha : H a = some (.lst xs)) (h : TL H ts ps) : TL (L2.upd H a o) ts ps :=
  ⟨h.1, fun i t o' e1 e2 => by
    have := h.2 i t o' e1 e2
    rw [upd_ne (ne_of this ha (by intro z; cases z))]
    exact this⟩
theorem TL.snoc {H : Hp} {ts : List Addr} {ps : List (Int × Int)} {t : Addr} {o : Int × Int} (h : TL H ts ps) (ht : H t = some (.tup [.int o.1, .int o.2])) : TL H (ts ++ [t]) (ps ++ [o]) := by
  refine ⟨by simp [h.1], fun i t' o' e1 e2 => ?_⟩
  by_cases hi : i < ts.length
  · rw [List.getElem?_append_left hi] at e1
    rw [List.getElem?_append_left (by have := h.1; omega)] at e2
    exact h.2 i t' o' e1 e2
  · rw [List.getElem?_append_right (by omega)] at e1
    rw [List.getElem?_append_right (by have := h.1; omega)] at e2
    have h0 := h.1
    have : i - ts.length = 0 := by
      have := (List.getElem?_eq_some_iff.mp e1).1
      simp at this
      omega
    rw [this] at e1
    rw [← h0, this] at e2
    have e1 : t = t' := Option.some.inj e1
    have e2 : o = o' := Option.some.inj e2
    rw [← e1, ← e2]
    exact ht
theorem same_at {H H' : Hp} {a : Addr} {o : HO} (s : Same H H') (h : H a = none) : Same H (L2.upd H' a o) := fun b x e => by
  rw [upd_ne (ne_of_none e h)]
  exact s b x e
theorem same_new {H H' : Hp} {a : Addr} {o : HO} (s : Same H H') (h : H' a = none) : Same H (L2.upd H' a o) := s.trans (same_upd h)
theorem two_line : (2 : Nat) ≤ sizeLine := by rw [sizeLine_eq]; decide
/-! ### dicts of ints -/
def kd (al : List (Int × Int)) : List (Key × V) := al.map fun e => (Sum.inl e.1, V.int e.2)
theorem kd_len (al : List (Int × Int)) : (kd al).length = al.length := List.length_map ..
theorem kd_append (a b : List (Int × Int)) : kd (a ++ b) = kd a ++ kd b := List.map_append
theorem kd_val (x : Int) : ∀ al : List (Int × Int), valV (kd al) (Sum.inl x : Key) = (al.lookup x).map V.int
  | [] => rfl
  | (a, b) :: al => by
    rw [List.lookup_cons]
    by_cases e : x = a
    · subst e
      rw [beq_self_eq_true]
      exact valV_pos (p := ((Sum.inl x : Key), V.int b)) rfl
    · rw [beq_eq_false_iff_ne.mpr e]
      rw [show kd ((a, b) :: al) = ((Sum.inl a : Key), V.int b) :: kd al from rfl, valV_neg (p := ((Sum.inl a : Key), V.int b)) (fun z => e (Sum.inl.inj z).symm)]
      exact kd_val x al
theorem look_some {al : List (Int × Int)} {x : Int} (h : x ∈ keys al) : al.lookup x = some (look al x) := by
  unfold look
  induction al with
  | nil => cases h
  | cons e al ih =>
    obtain ⟨a, b⟩ := e
    rw [List.lookup_cons]
    cases q : x == a with
    | true => rfl
    | false =>
      refine ih ?_
      rcases List.mem_cons.mp h with h | h
      · have h : x = a := h
        rw [h] at q
        simp at q
      · exact h
theorem look_none {al : List (Int × Int)} {x : Int} (h : x ∉ keys al) : al.lookup x = none := by
  induction al with
  | nil => rfl
  | cons e al ih =>
    obtain ⟨a, b⟩ := e
    rw [List.lookup_cons]
    have ne : (x == a) = false := by
      rw [beq_eq_false_iff_ne]
      intro z
      exact h (by rw [z]; exact List.mem_cons_self)
    rw [ne]
    exact ih fun z => h (List.mem_cons_of_mem _ z)
theorem kd_some {al : List (Int × Int)} {x : Int} (h : x ∈ keys al) : valV (kd al) (Sum.inl x : Key) = some (.int (look al x)) := by rw [kd_val, look_some h]; rfl
theorem kd_none {al : List (Int × Int)} {x : Int} (h : x ∉ keys al) : valV (kd al) (Sum.inl x : Key) = none := by rw [kd_val, look_none h]; rfl
end Tw
/-! are_unlike_places -/
namespace Tw
open PySem PySem.Spec PyProof.Rows L2
section
variable {P : Program} {w : World} {K : PySem.W.Frag} {mg : Str → Option Value} {base : Heap}
def spUnlike (K : PySem.W.Frag) : Sp := fun vs H Q _ => ∃ (n : Int) (a : Addr) (ns : List Int), vs = [.int n, .ref a] ∧ IL H a ns ∧ ns.length < 64 ∧ ns.Nodup ∧ (∀ x ∈ ns, 0 ≤ x ∧ x < n) ∧ Q (.bl true) H
theorem ok_unlike {f : Addr} {fd : FuncData} {k : Nat} (F : Fun K "are_unlike_places" "are_unlike_places" sUnlike f fd) (ml : mg "len" = none) (ms : mg "set" = none) : FnOk P w K mg base CX0 (k + 1) f fd ["many", "some"] (spUnlike K) := by
  refine F.ok scUnlike (fun vs H Q E h => ?_) (fun cdv A outer s H vs Q E hr h => ?_)
  · obtain ⟨n, a, ns, rfl, _⟩ := h
    rfl
  · obtain ⟨n, a, ns, rfl, hS, hlen, hnd, hin, q⟩ := h
    refine ⟨_, pss_cons (ps_for PassesOwn.never rfl (pi_list (pv 1)) (pg_name (i := 2) scUnlike.nd rfl (.inl rfl))
        (pss_one (ps_if (PW.pt (pw_or (pt_cmpR op_lt (pv 2) pe_int (nomark _)) (pw_or1 (pt_cmpR op_ge (pv 2) (pv 0) (nomark _))))) (pss_one ps_never) pss_nil)))
      (pss_one (ps_ret (pe_cmpR op_eq (RZ.pe_lenSetI (by rfl) ml (by rfl) ms (pv 1)) (pe_callB call_len_seq (by rfl) ml PySem.boot_len (pa_cons (pv 1) pa_nil)) (nomark _)))), ?_⟩
    refine ⟨.ref a, rfl, a, rfl, ⟨_, sqL hS⟩, for_list (xs := ns.map V.int) (fun i σ H' => H' = H ∧ ∃ y, σ = [some (.int n), some (.ref a), y]) ⟨rfl, none, rfl⟩ (fun i σ H' _ h => by rw [h.1]; exact sqL hS) (fun i x σ H' e h => ?_) (fun σ H' h => ?_)⟩
    · obtain ⟨rfl, y, rfl⟩ := h
      obtain ⟨z, ez, rfl⟩ := of_get_int e
      have hz := hin z (List.mem_of_getElem? ez)
      refine ⟨_, rfl, _, _, rfl, rfl, _, rfl, ?_⟩
      rw [decide_eq_false (by omega)]
      refine iteF ⟨_, rfl, _, rfl, _, _, rfl, rfl, _, rfl, ?_⟩
      rw [decide_eq_false (by omega)]
      exact iteF ⟨rfl, _, rfl⟩
    · obtain ⟨rfl, y, rfl⟩ := h
      refine ⟨_, rfl, a, ns, rfl, sqL hS, hnd, Nat.le_trans (Nat.le_of_lt hlen) (by decide), _, rfl, a, _, rfl, .inl (sqL hS), rfl, ?_⟩
      rw [List.length_map, decide_eq_true rfl]
      exact q
end
end Tw
/-! steps_from -/
namespace Tw
open PySem PySem.Spec PyProof.Rows L2
section
variable {P : Program} {w : World} {K : PySem.W.Frag} {mg : Str → Option Value} {base : Heap}
def spSteps (K : PySem.W.Frag) : Sp := fun vs H Q _ => ∃ (a : Addr) (rs : List Road) (x : Int), vs = [.ref a, .int x] ∧ Roads H a rs ∧ rs.length ≤ 1000 ∧
  ∀ H' p ts, Same H H' → H p = none → H' p = some (.lst (ts.map V.ref)) → TL H' ts (nbrs rs x) → Q (.ref p) H'
theorem ok_steps {f : Addr} {fd : FuncData} {k : Nat} (F : Fun K "steps_from" "steps_from" sSteps f fd) : FnOk P w K mg base CX0 (k + 1) f fd ["roads", "place"] (spSteps K) := by
  refine F.ok scSteps (fun vs H Q E h => ?_) (fun cdv A outer s H vs Q E hr h => ?_)
  · obtain ⟨a, rs, x, rfl, _⟩ := h
    rfl
  · obtain ⟨a, rs, x, rfl, ⟨ps, hA, hl, hR⟩, hlen, q⟩ := h
    refine ⟨_, pss_cons (ps_set (i := 2) scSteps.nd rfl (.inl rfl) (pe_lst pa_nil))
      (pss_cons (ps_for PassesOwn.never rfl (pi_list (pv 0)) (pg_unl rfl (pgs_cons (pg_name (i := 3) scSteps.nd rfl (.inl rfl)) (pgs_cons (pg_name (i := 4) scSteps.nd rfl (.inl rfl)) (pgs_cons (pg_name (i := 5) scSteps.nd rfl (.inl rfl)) pgs_nil))))
        (C8.pss_cut (ps_if (pt_cmpR op_eq (pv 3) (pv 1) (nomark _))
            (pss_one (ps_expr (pe_bm PySem.F.plainAttrs_list PySem.F.slot_list_append PySem.F.type_list_append mt_append (pv 2) (pa_cons (pe_tup (pa_cons (pv 4) (pa_cons (pv 5) pa_nil))) pa_nil)))) pss_nil)
          (pss_one (ps_if (pt_cmpR op_eq (pv 4) (pv 1) (nomark _))
            (pss_one (ps_expr (pe_bm PySem.F.plainAttrs_list PySem.F.slot_list_append PySem.F.type_list_append mt_append (pv 2) (pa_cons (pe_tup (pa_cons (pv 3) (pa_cons (pv 5) pa_nil))) pa_nil)))) pss_nil))))
      (pss_one (ps_ret (pv 2)))), ?_⟩
    refine ⟨Nat.zero_le _, fun o no => ?_⟩
    have s1 : Same H (upd H o (.lst [])) := same_upd no
    refine ⟨.ref a, rfl, a, rfl, ⟨_, sqL (s1 _ _ hA)⟩, for_list (xs := ps.map V.ref)
      (fun i σ H' => Same H H' ∧ (∃ ts, H' o = some (.lst (ts.map V.ref)) ∧ TL H' ts (nbrs (rs.take i) x)) ∧ ∃ y3 y4 y5, σ = [some (.ref a), some (.int x), some (.ref o), y3, y4, y5])
      ⟨s1, ⟨[], upd_same, .nil⟩, none, none, none, rfl⟩ (fun i σ H' _ h => sqL (h.1 _ _ hA)) (fun i v σ H' e h => ?_) (fun σ H' h => ?_)⟩
    · obtain ⟨sm, ⟨ts, eo, hT⟩, y3, y4, y5, rfl⟩ := h
      obtain ⟨p, ep, rfl⟩ := of_get_ref e
      have hi := (List.getElem?_eq_some_iff.mp ep).1
      have hi2 : i < rs.length := by
        rw [List.length_map] at hl
        omega
      obtain ⟨⟨ra, rb, rl⟩, er⟩ : ∃ r, rs[i]? = some r := ⟨_, List.getElem?_eq_getElem hi2⟩
      have hp : IL H p [ra, rb, rl] := hR i p _ ep (by rw [List.getElem?_map, er]; rfl)
      have hlenT := hT.1
      have hnl := nbrs_len (rs.take i) x
      rw [List.length_take] at hnl
      -- a, b, length = the road
      refine ⟨p, _, rfl, sqL (sm _ _ hp), rfl, _, _, rfl, _, _, rfl, _, _, rfl, rfl, ?_⟩
      -- if a == place
      refine ⟨fun σ' H1 => σ' = [some (.ref a), some (.int x), some (.ref o), some (.int ra), some (.int rb), some (.int rl)] ∧ Same H H1 ∧ ∃ ts, H1 o = some (.lst (ts.map V.ref)) ∧ TL H1 ts (nbrs (rs.take i) x ++ if ra = x then [(rb, rl)] else []), ?_, ?_⟩
      · refine ⟨_, rfl, _, rfl, rfl, _, rfl, ite2 (fun e => ?_) (fun e => ?_)⟩
        · have e := V.int.inj (of_decide_eq_true e)
          refine ⟨_, rfl, .inl ⟨rfl, _, sqL eo⟩, _, rfl, _, rfl, two_line, fun t nt => ?_⟩
          have sT : Same H' (upd H' t (.tup [.int rb, .int rl])) := same_upd nt
          refine ⟨o, _, _, rfl, rfl, sT _ _ eo, small_of (m := 5000) (by rw [List.length_map]; omega), rfl, ?_, ts ++ [t], ?_, ?_⟩
          · exact same_at (sm.trans sT) no
          · rw [upd_same, List.map_append]; rfl
          · rw [if_pos e]
            exact TL.upd (sT _ _ eo) ((hT.same sT).snoc upd_same)
        · have e : ¬ ra = x := fun z => e (decide_eq_true (congrArg V.int z))
          refine ⟨rfl, sm, ts, eo, ?_⟩
          rw [if_neg e, List.append_nil]
          exact hT
      · rintro σ' H1 ⟨rfl, sm1, ts1, eo1, hT1⟩
        have hl1 : ts1.length ≤ 2 * rs.length + 1 := by
          rw [hT1.1, List.length_append]
          split <;> simp <;> omega
        have en : nbrs (rs.take (i + 1)) x = (nbrs (rs.take i) x ++ if ra = x then [(rb, rl)] else []) ++ if rb = x then [(ra, rl)] else [] := by
          rw [nbrs_take er, List.append_assoc]
          rfl
        refine ⟨_, rfl, _, rfl, rfl, _, rfl, ite2 (fun e => ?_) (fun e => ?_)⟩
        · have e := V.int.inj (of_decide_eq_true e)
          refine ⟨_, rfl, .inl ⟨rfl, _, sqL eo1⟩, _, rfl, _, rfl, two_line, fun t nt => ?_⟩
          have sT : Same H1 (upd H1 t (.tup [.int ra, .int rl])) := same_upd nt
          refine ⟨o, _, _, rfl, rfl, sT _ _ eo1, small_of (m := 5000) (by rw [List.length_map]; omega), ?_, ⟨ts1 ++ [t], ?_, ?_⟩, _, _, _, rfl⟩
          · exact same_at (sm1.trans sT) no
          · rw [upd_same, List.map_append]; rfl
          · rw [en, if_pos e]
            exact TL.upd (sT _ _ eo1) ((hT1.same sT).snoc upd_same)
        · have e : ¬ rb = x := fun z => e (decide_eq_true (congrArg V.int z))
          refine ⟨sm1, ⟨ts1, eo1, ?_⟩, _, _, _, rfl⟩
          rw [en, if_neg e, List.append_nil]
          exact hT1
    · obtain ⟨sm, ⟨ts, eo, hT⟩, y3, y4, y5, rfl⟩ := h
      refine ⟨_, rfl, q H' o ts sm no eo ?_⟩
      rw [List.length_map, List.take_of_length_le (by rw [List.length_map] at hl; omega)] at hT
      exact hT
end
end Tw
/-! spread -/
namespace Tw
open PySem PySem.Spec PyProof.Rows L2
theorem mem_keys {al : List (Int × Int)} {i : Nat} {x p : Int} (h : al[i]? = some (x, p)) : x ∈ keys al := List.mem_map.mpr ⟨_, List.mem_of_getElem? h, rfl⟩
/-- what the body of the inner loop does to the dict and the list -/
theorem visit1_in {p : Int} {al : List (Int × Int)} {o : Int × Int} (h : o.1 ∈ keys al) : visit1 p al o = al := by unfold visit1; rw [if_pos h]
theorem visit1_new {p : Int} {al : List (Int × Int)} {o : Int × Int} (h : o.1 ∉ keys al) : visit1 p al o = al ++ [(o.1, p)] := by unfold visit1; rw [if_neg h]
section
variable {P : Program} {w : World} {K : PySem.W.Frag} {mg : Str → Option Value} {base : Heap}
def spSpread (K : PySem.W.Frag) : Sp := fun vs H Q _ => ∃ (a b : Addr) (n : Nat) (rs : List Road), vs = [.ref a, .int 0, .ref b] ∧ Roads H a rs ∧ TreeOK n rs ∧ n ≤ 12 ∧ IL H b [] ∧
  ∀ H' d al, Same H H' → H d = none → H' d = some (.dK (kd al)) → Spread n rs al → Q (.ref d) H'
theorem ok_spread {f fS : Addr} {fd fdS : FuncData} {k : Nat} (F : Fun K "spread" "spread" sSpread f fd) (FS : Fun K "steps_from" "steps_from" sSteps fS fdS) (bS : Binds K fdS ["roads", "place"] []) (gS : mg "steps_from" = some (.ref fS)) (ml : mg "len" = none) :
    FnOk P w K mg base CX0 (k + 2) f fd ["roads", "start", "barred"] (spSpread K) := by
  have GS : FnOk P w K mg base CX0 (k + 1) fS fdS ["roads", "place"] (spSteps K) := ok_steps FS
  refine F.ok scSpread (fun vs H Q E h => ?_) (fun cdv A outer s H vs Q E hr h => ?_)
  · obtain ⟨a, b, n, rs, rfl, _⟩ := h
    rfl
  · obtain ⟨a, b, n, rs, rfl, hR, T, h12, hB, q⟩ := h
    have hu := hu_of hr
    refine ⟨_, pss_cons (ps_set (i := 3) scSpread.nd rfl (.inl rfl) (pe_disp (pps_cons (pv 1) (pv 1) pps_nil) (by rfl) (by rfl) (fun z => by cases z) (by decide)))
      (pss_cons (ps_set (i := 4) scSpread.nd rfl (.inl rfl) (pe_lst (pa_cons (pv 1) pa_nil)))
      (pss_cons (ps_set (i := 5) scSpread.nd rfl (.inl rfl) pe_int)
      (pss_cons (ps_while PassesOwn.never (pt_cmpR op_lt (pv 5) (pe_callB call_len_seq (by rfl) ml PySem.boot_len (pa_cons (pv 4) pa_nil)) (nomark _))
        (pss_cons (ps_for PassesOwn.never rfl (pi_list (pe_call GS hr (by rfl) gS FS.kp bS .nil pass0 (pa_cons (pv 0) (pa_cons (pe_ix ix_list (pv 4) (pv 5) (fun _ _ => rfl)) pa_nil))))
            (pg_tup rfl (pgs_cons (pg_name (i := 6) scSpread.nd rfl (.inl rfl)) (pgs_cons (pg_name (i := 7) scSpread.nd rfl (.inl rfl)) pgs_nil)))
            (pss_one (ps_if (PW.pt (pw_and (pt_cmp (pc_dnotin hu (pv 6) (pv 3)) (by rfl)) (pw_and1 (pt_cmpR op_notIn_seq (pv 6) (pv 2) (by rfl)))))
              (pss_cons (ps_dput hu (pv 3) (pv 6) (pe_ix ix_list (pv 4) (pv 5) (fun _ _ => rfl)) rfl)
                (pss_one (ps_expr (pe_bm PySem.F.plainAttrs_list PySem.F.slot_list_append PySem.F.type_list_append mt_append (pv 4) (pa_cons (pv 6) pa_nil))))) pss_nil)))
          (pss_one (ps_aug (i := 5) scSpread.nd rfl (.inl rfl) pe_int ip_add))))
      (pss_one (ps_ret (pv 3)))))), ?_⟩
    -- ahead = {start: start}
    refine fun d nd => ⟨_, rfl, _, rfl, upd_same, [(Sum.inl 0, .int 0)], rfl, by decide, ?_⟩
    rw [upd_upd]
    have s1 : Same H (upd H d (.dK (kd [(0, 0)]))) := same_upd nd
    show (tSeq _ _ : TS) _ _ (upd H d (.dK (kd [(0, 0)])))
    -- waiting = [start]
    refine ⟨_, rfl, (by show 1 ≤ sizeLine; exact Nat.le_trans (by decide) two_line), fun o no => ?_⟩
    have s2 : Same H (upd (upd H d (.dK (kd [(0, 0)]))) o (.lst ((keys [(0, 0)]).map V.int))) := s1.trans (same_upd no)
    have ndo : d ≠ o := ne_of_none upd_same no
    have no' : H o = none := s1.free no
    -- the loop
    refine ⟨fun m σ H' => ∃ (at_ : Nat) (al : List (Int × Int)) (y6 y7 : Option V), σ = [some (.ref a), some (.int 0), some (.ref b), some (.ref d), some (.ref o), some (.int (at_ : Nat)), y6, y7] ∧ m = n - at_ ∧ BfsAt rs (ran n) 0 at_ al ∧ Same H H' ∧ H' d = some (.dK (kd al)) ∧ H' o = some (.lst ((keys al).map V.int)),
      ⟨_, 0, [(0, 0)], none, none, rfl, rfl, .start (mem_ran.mpr ⟨by decide, by have := T.pos; omega⟩), s2, ?_, upd_same⟩, ?_⟩
    · rw [upd_ne ndo, upd_same]
    rintro m σ H' ⟨at_, al, y6, y7, rfl, rfl, B, sm, ed, eo⟩
    have hlen := B.b.len_le
    rw [len_ran] at hlen
    refine ⟨_, rfl, _, rfl, o, _, rfl, .inl (sqL eo), _, _, rfl, rfl, _, rfl, ?_⟩
    rw [List.length_map, keys_len]
    refine ite2 (fun e => ?_) (fun e => ?_)
    · have hat : at_ < al.length := by have := of_decide_eq_true e; omega
      obtain ⟨⟨x, px⟩, ex⟩ : ∃ r, al[at_]? = some r := ⟨_, List.getElem?_eq_getElem hat⟩
      have exk : ((keys al).map V.int)[at_]? = some (.int x) := get_int (by unfold keys; rw [List.getElem?_map, ex]; rfl)
      have hxin : x ∈ keys al := mem_keys ex
      refine ⟨fun σ' H1 => ∃ (al' : List (Int × Int)) (y6 y7 : Option V), σ' = [some (.ref a), some (.int 0), some (.ref b), some (.ref d), some (.ref o), some (.int ((at_ + 1 : Nat) : Int)), y6, y7] ∧ BfsAt rs (ran n) 0 (at_ + 1) al' ∧ Same H H1 ∧ H1 d = some (.dK (kd al')) ∧ H1 o = some (.lst ((keys al').map V.int)), ?_, ?_⟩
      · rintro σ' H1 ⟨al', z6, z7, rfl, B', sm', ed', eo'⟩
        exact ⟨n - (at_ + 1), by omega, at_ + 1, al', z6, z7, rfl, rfl, B', sm', ed', eo'⟩
      -- for other, length in steps_from(roads, waiting[at])
      refine ⟨_, rfl, _, rfl, _, rfl, o, _, _, _, rfl, rfl, sqL eo, at_of rfl exk, a, rs, x, rfl, hR.same sm, by have := T.len; omega, fun H1 t ts s1 nt et hT => ?_⟩
      have hU : ∀ x y, Adj rs x y → y ∈ ran n := fun x y h => mem_ran.mpr (T.adj h).2
      have Bn := B.next hU ex
      -- the loop over the neighbours
      refine ⟨t, rfl, ⟨_, sqL et⟩, for_list (xs := ts.map V.ref) (fun i σ H2 => ∃ (y6 y7 : Option V), σ = [some (.ref a), some (.int 0), some (.ref b), some (.ref d), some (.ref o), some (.int (at_ : Nat)), y6, y7] ∧ Same H H2 ∧ H2 d = some (.dK (kd (visitL x al ((nbrs rs x).take i)))) ∧ H2 o = some (.lst ((keys (visitL x al ((nbrs rs x).take i))).map V.int)) ∧
          H2 t = some (.lst (ts.map V.ref)) ∧ TL H2 ts (nbrs rs x) ∧ ∃ ext, visitL x al ((nbrs rs x).take i) = al ++ ext) ⟨_, _, rfl, sm.trans s1, s1 _ _ ed, s1 _ _ eo, et, hT, [], by simp [visitL]⟩ (fun i σ H' _ h => ?_) (fun i v σ H2 e h => ?_) (fun σ H2 h => ?_)⟩
      · obtain ⟨_, _, _, _, _, _, et, _, _⟩ := h
        exact sqL et
      · obtain ⟨z6, z7, rfl, sm2, ed2, eo2, et2, hT2, ext, hext⟩ := h
        obtain ⟨tt, ett, rfl⟩ := of_get_ref e
        obtain ⟨⟨oth, ln⟩, eq1, htt⟩ := hT2.mem ett
        have hnb := List.mem_of_getElem? eq1
        have hadj : Adj rs x oth := adj_iff.mpr ⟨ln, hnb⟩
        have hlen2 : (visitL x al ((nbrs rs x).take i)).length ≤ n := by
          have B2 := (B.b.visitL (nb := (nbrs rs x).take i) (p := x) (fun o ho => by
            have a : Adj rs x o.1 := adj_iff.mpr ⟨o.2, List.mem_of_mem_take ho⟩
            exact ⟨hU _ _ a, a.symm⟩) hxin).1
          have := B2.len_le
          rw [len_ran] at this
          exact this
        have xk2 : ((keys (visitL x al ((nbrs rs x).take i))).map V.int)[at_]? = some (.int x) := by
          rw [hext, keys_append, List.map_append, List.getElem?_append_left (by rw [List.length_map, keys_len]; exact hat)]
          exact exk
        -- other, length = the pair
        refine ⟨tt, _, rfl, sqT htt, rfl, _, _, rfl, _, _, rfl, rfl, ?_⟩
        refine ⟨_, rfl, _, rfl, d, _, rfl, DGet.k (k := Sum.inl oth) ed2, _, rfl, ?_⟩
        rw [visitL_take eq1]
        generalize visitL x al ((nbrs rs x).take i) = al2 at *
        by_cases hin : oth ∈ keys al2
        · rw [kd_some hin]
          refine iteF (iteF ⟨_, _, rfl, sm2, ?_, ?_, et2, hT2, ext, ?_⟩)
          · rw [visit1_in hin]; exact ed2
          · rw [visit1_in hin]; exact eo2
          · rw [visit1_in hin]; exact hext
        · rw [kd_none hin]
          refine iteT ⟨_, rfl, _, rfl, b, [], rfl, .inl (sqL (sm2 _ _ hB)), rfl, rfl, _, rfl, iteT ?_⟩
          -- ahead[other] = waiting[at]
          refine ⟨_, rfl, _, rfl, o, _, _, _, rfl, rfl, sqL eo2, at_of rfl xk2, _, rfl, _, rfl, d, _, rfl, DPut.k (k := Sum.inl oth) ed2 (small_of (m := 100) (by rw [kd_len]; omega)), ?_⟩
          have dne : o ≠ d := ndo.symm
          have tne : t ≠ d := ne_of et2 ed2 (by intro z; cases z)
          have tno : t ≠ o := fun z => by rw [z] at nt; rw [nt] at eo; cases eo
          rw [putK_new _ (kd_none hin)]
          have e1 : (upd H2 d (.dK (kd al2 ++ [(Sum.inl oth, V.int x)]))) o = some (.lst ((keys al2).map V.int)) := by rw [upd_ne dne]; exact eo2
          -- waiting.append(other)
          refine ⟨_, rfl, .inl ⟨rfl, _, sqL e1⟩, _, rfl, o, _, _, rfl, rfl, e1, small_of (m := 100) (by rw [List.length_map, keys_len]; omega), _, _, rfl, same_at (same_at sm2 nd) no', ?_, ?_, ?_, ?_, ext ++ [(oth, x)], ?_⟩
          · rw [upd_ne ndo, upd_same, visit1_new hin, kd_append]
            rfl
          · rw [upd_same, visit1_new hin, keys_append, List.map_append]
            rfl
          · rw [upd_ne tno, upd_ne tne]; exact et2
          · refine TL.upd e1 ⟨hT2.1, fun j u o' e1 e2 => ?_⟩
            have hh := hT2.2 j u o' e1 e2
            rw [upd_ne (ne_of hh ed2 (by intro z; cases z))]
            exact hh
          · rw [visit1_new hin, hext, List.append_assoc]
      · obtain ⟨z6, z7, rfl, sm2, ed2, eo2, et2, hT2, _⟩ := h
        rw [List.length_map, hT2.1, List.take_of_length_le (Nat.le_refl _)] at ed2 eo2
        -- at += 1
        refine ⟨_, rfl, _, _, rfl, rfl, _, z6, z7, ?_, Bn, sm2, ed2, eo2⟩
        rfl
    · have hat : al.length ≤ at_ := by
        rcases Nat.lt_or_ge at_ al.length with z | z
        · exact absurd (decide_eq_true (by omega)) e
        · exact z
      exact ⟨_, rfl, q H' d al sm nd ed (B.done T hat)⟩
end
end Tw
/-! is_tree, must_be_tree -/
namespace Tw
open PySem PySem.Spec PyProof.Rows L2
section
variable {P : Program} {w : World} {K : PySem.W.Frag} {mg : Str → Option Value} {base : Heap}
def spIsTree (K : PySem.W.Frag) : Sp := fun vs H Q _ => ∃ (a : Addr) (n : Nat) (rs : List Road), vs = [.int n, .ref a] ∧ Roads H a rs ∧ TreeOK n rs ∧ n ≤ 12 ∧ ∀ H', Same H H' → Q (.bl true) H'
theorem cut2 (r : Road) : cutV ((rowOf r).map V.int) none (some 2) = [r.1, r.2.1].map V.int := rfl
theorem ok_isTree {f fU fS : Addr} {fd fdU fdS : FuncData} {k : Nat} {tM : Tok} (F : Fun K "is_tree" "is_tree" sIsTree f fd) (GU : FnOk P w K mg base CX0 (k + 2) fU fdU ["many", "some"] (spUnlike K)) (kU : PySem.W.keepIn K (.ref fU) = true) (bU : Binds K fdU ["many", "some"] []) (gU : mg "are_unlike_places" = some (.ref fU))
    (GS : FnOk P w K mg base CX0 (k + 2) fS fdS ["roads", "start", "barred"] (spSpread K)) (kS : PySem.W.keepIn K (.ref fS) = true) (bS : Binds K fdS ["roads", "start", "barred"] []) (gS : mg "spread" = some (.ref fS)) (gM : mg "MOST" = some (.int 12 tM)) (ml : mg "len" = none) :
    FnOk P w K mg base CX0 (k + 3) f fd ["many", "roads"] (spIsTree K) := by
  refine F.ok scIsTree (fun vs H Q E h => ?_) (fun cdv A outer s H vs Q E hr h => ?_)
  · obtain ⟨a, n, rs, rfl, _⟩ := h
    rfl
  · obtain ⟨a, n, rs, rfl, hR, T, h12, q⟩ := h
    refine ⟨_, pss_cons (ps_if (PW.pt (pw_or (pt_cmpR op_lt (pv 0) pe_int (nomark _)) (pw_or (pt_cmpR op_gt (pv 0) (pe_glob (v := .int 12) (by rfl) gM ⟨_, rfl⟩) (nomark _)) (pw_or1 (pt_cmpR op_ne (pe_callB call_len_seq (by rfl) ml PySem.boot_len (pa_cons (pv 1) pa_nil)) (pe_op op_sub (pv 0) pe_int) (nomark _))))))
        (pss_one ps_never) pss_nil)
      (pss_cons (ps_for PassesOwn.never rfl (pi_list (pv 1)) (pg_name (i := 2) scIsTree.nd rfl (.inl rfl))
        (pss_one (ps_if (PW.pt (pw_or (pt_cmpR op_ne (pe_callB call_len_seq (by rfl) ml PySem.boot_len (pa_cons (pv 2) pa_nil)) pe_int (nomark _)) (pw_or (pt_cmpR op_lt (pe_ix ix_list (pv 2) pe_int (fun _ _ => rfl)) pe_int (nomark _))
            (pw_or1 (pt_not (pt_val (pe_call GU hr (by rfl) gU kU bU .nil pass0 (pa_cons (pv 0) (pa_cons (pe_slice sl_list (pv 2) po_none (po_some pe_int)) pa_nil)))))))))
          (pss_one ps_never) pss_nil)))
      (pss_one (ps_ret (pe_cmpR op_eq (pe_callB call_lenD (by rfl) ml PySem.boot_len (pa_cons (pe_call GS hr (by rfl) gS kS bS .nil pass0 (pa_cons (pv 1) (pa_cons pe_int (pa_cons (pe_lst pa_nil) pa_nil)))) pa_nil)) (pv 0) (nomark _))))), ?_⟩
    have hp := T.pos
    have hl := T.len
    obtain ⟨ps, hA, hpl, hP⟩ := id hR
    rw [List.length_map] at hpl
    refine ⟨_, rfl, _, _, rfl, rfl, _, rfl, ?_⟩
    rw [decide_eq_false (by omega)]
    refine iteF ⟨_, rfl, _, _, rfl, rfl, _, rfl, ?_⟩
    rw [decide_eq_false (by omega)]
    refine iteF ⟨_, rfl, a, _, rfl, .inl (sqL hA), _, rfl, _, _, rfl, rfl, rfl, _, rfl, ?_⟩
    rw [List.length_map, decide_eq_true (show V.int (ps.length : Nat) = V.int ((n : Int) - 1) by congr 1; omega)]
    refine iteF ?_
    -- for road in roads
    refine ⟨_, rfl, a, rfl, ⟨_, sqL hA⟩, for_list (xs := ps.map V.ref) (fun i σ H' => Same H H' ∧ ∃ y, σ = [some (.int (n : Int)), some (.ref a), y]) ⟨Same.refl _, none, rfl⟩ (fun i σ H' _ h => sqL (h.1 _ _ hA)) (fun i v σ H' e h => ?_) (fun σ H' h => ?_)⟩
    · obtain ⟨sm, y, rfl⟩ := h
      obtain ⟨p, ep, rfl⟩ := of_get_ref e
      have hi := (List.getElem?_eq_some_iff.mp ep).1
      obtain ⟨r, er⟩ : ∃ r, rs[i]? = some r := ⟨_, List.getElem?_eq_getElem (by omega)⟩
      have hp : IL H' p (rowOf r) := sm _ _ (hP i p _ ep (by rw [List.getElem?_map, er]; rfl))
      obtain ⟨r1, r2, r3, r4⟩ := T.ends r (List.mem_of_getElem? er)
      refine ⟨_, rfl, p, _, rfl, .inl (sqL hp), rfl, _, rfl, ?_⟩
      refine iteF ⟨_, rfl, p, _, 2, .int r.2.2, rfl, rfl, sqL hp, atI_nat (j := 2) rfl, _, _, rfl, rfl, _, rfl, ?_⟩
      rw [decide_eq_false (by omega)]
      refine iteF ⟨_, rfl, _, rfl, _, rfl, p, _, rfl, sqL hp, fun c nc => ?_⟩
      rw [cut2]
      have sc : Same H' (upd H' c (.lst ([r.1, r.2.1].map V.int))) := same_upd nc
      refine ⟨n, c, _, rfl, upd_same, (by show 2 < 64; decide), ?_, ?_, true, rfl, iteF ⟨sm.trans sc, _, rfl⟩⟩
      · simpa using r3
      · intro x hx
        rcases List.mem_cons.mp hx with rfl | hx
        · exact r1
        · have : x = r.2.1 := by simpa using hx
          rw [this]; exact r2
    · obtain ⟨sm, y, rfl⟩ := h
      refine ⟨_, rfl, Nat.zero_le _, fun b nb => ⟨a, b, n, rs, rfl, (hR.same sm).same (same_upd nb), T, h12, upd_same, fun H1 d al s1 nd ed S => ?_⟩⟩
      refine ⟨d, _, rfl, ed, _, rfl, rfl, ?_⟩
      rw [kd_len, S.len, decide_eq_true rfl]
      exact q H1 ((sm.trans (same_upd nb)).trans s1)
def spMustTree (K : PySem.W.Frag) : Sp := fun vs H Q _ => ∃ (a : Addr) (n : Nat) (rs : List Road), vs = [.int n, .ref a] ∧ Roads H a rs ∧ TreeOK n rs ∧ n ≤ 12 ∧ ∀ H', Same H H' → Q .non H'
theorem ok_mustTree {f fT : Addr} {fd fdT : FuncData} {k : Nat} (F : Fun K "must_be_tree" "must_be_tree" sMustTree f fd) (GT : FnOk P w K mg base CX0 (k + 3) fT fdT ["many", "roads"] (spIsTree K)) (kT : PySem.W.keepIn K (.ref fT) = true) (bT : Binds K fdT ["many", "roads"] []) (gT : mg "is_tree" = some (.ref fT)) :
    FnOk P w K mg base CX0 (k + 4) f fd ["many", "roads"] (spMustTree K) := by
  refine F.ok scMustTree (fun vs H Q E h => ?_) (fun cdv A outer s H vs Q E hr h => ?_)
  · obtain ⟨a, n, rs, rfl, _⟩ := h
    rfl
  · obtain ⟨a, n, rs, rfl, hR, T, h12, q⟩ := h
    refine ⟨_, pss_one (ps_if (pt_not (pt_val (pe_call GT hr (by rfl) gT kT bT .nil pass0 (pa_cons (pv 0) (pa_cons (pv 1) pa_nil))))) (pss_one ps_never) pss_nil), ?_⟩
    refine ⟨_, rfl, _, rfl, a, n, rs, rfl, hR, T, h12, fun H' sm => ⟨true, rfl, iteF (q H' sm)⟩⟩
end
end Tw
/-! road_length, fars -/
namespace Tw
open PySem PySem.Spec PyProof.Rows L2
theorem inV_int (x : Int) (S : List Int) : inV (.int x) (S.map V.int) = decide (x ∈ S) := by
  unfold inV
  induction S with
  | nil => simp
  | cons y S ih =>
    rw [List.map_cons, List.any_cons, ih]
    show ((y == x) || decide (x ∈ S)) = decide (x ∈ y :: S)
    by_cases e : y = x
    · subst e; simp
    · have e2 : (y == x) = false := beq_eq_false_iff_ne.mpr e
      rw [e2, Bool.false_or]
      refine decide_eq_decide.mpr ⟨fun h => List.mem_cons_of_mem _ h, fun h => ?_⟩
      rcases List.mem_cons.mp h with h | h
      · exact absurd h.symm e
      · exact h
theorem flat_int (S : List Int) : (S.map V.int).all flatV = true := by
  rw [List.all_eq_true]
  intro v hv
  obtain ⟨x, _, rfl⟩ := List.mem_map.mp hv
  rfl
section
variable {P : Program} {w : World} {K : PySem.W.Frag} {mg : Str → Option Value} {base : Heap}
/-- the lengths told for one neighbour, among the first i -/
def lens (nb : List (Int × Int)) (y : Int) : List Int := (nb.filter fun o => decide (o.1 = y)).map (·.2)
theorem lens_take {nb : List (Int × Int)} {y : Int} {i : Nat} {o : Int × Int} (h : nb[i]? = some o) : lens (nb.take (i + 1)) y = lens (nb.take i) y ++ if o.1 = y then [o.2] else [] := by
  unfold lens
  rw [List.take_add_one, h, List.filter_append, List.map_append]
  congr 1
  by_cases e : o.1 = y
  · rw [if_pos e]; simp [e]
  · rw [if_neg e]; simp [e]
theorem lens_len (nb : List (Int × Int)) (y : Int) : (lens nb y).length ≤ nb.length := by
  unfold lens
  rw [List.length_map]
  exact List.length_filter_le _ _
def spRoadLen (K : PySem.W.Frag) : Sp := fun vs H Q _ => ∃ (a : Addr) (rs : List Road) (x y : Int), vs = [.ref a, .int x, .int y] ∧ Roads H a rs ∧ rs.length ≤ 1000 ∧ Adj rs x y ∧ ∀ H', Same H H' → Q (.int (rl rs x y)) H'
theorem ok_roadLen {f fS : Addr} {fd fdS : FuncData} {k : Nat} (F : Fun K "road_length" "road_length" sRoadLen f fd) (GS : FnOk P w K mg base CX0 (k + 1) fS fdS ["roads", "place"] (spSteps K)) (kS : PySem.W.keepIn K (.ref fS) = true) (bS : Binds K fdS ["roads", "place"] []) (gS : mg "steps_from" = some (.ref fS)) :
    FnOk P w K mg base CX0 (k + 2) f fd ["roads", "a", "b"] (spRoadLen K) := by
  refine F.ok scRoadLen (fun vs H Q E h => ?_) (fun cdv A outer s H vs Q E hr h => ?_)
  · obtain ⟨a, rs, x, y, rfl, _⟩ := h
    rfl
  · obtain ⟨a, rs, x, y, rfl, hR, hlen, hadj, q⟩ := h
    refine ⟨_, pss_one (ps_ret (pe_ix ix_list (pe_lc (own := [("other", 3), ("length", 4)]) (g := gTup K 2 (gCons (gName 3) (gCons (gName 4) gNil))) (by rfl) scRoadLen.nd
        (pi_list (pe_call GS hr (by rfl) gS kS bS .nil pass0 (pa_cons (pv 0) (pa_cons (pv 1) pa_nil))))
        (blkOk_by (own := [("other", 3), ("length", 4)]) (N := ["roads", "a", "b", "other", "length"]) (sc := defScope sRoadLen) (by decide +kernel))
        (fun _ _ _ _ _ => pg_tup rfl (pgs_cons (pg_name (i := 3) scRoadLen.nd rfl (Or.inl rfl)) (pgs_cons (pg_name (i := 4) scRoadLen.nd rfl (Or.inl rfl)) pgs_nil)))
        (fun _ _ _ _ _ => pts_one (pt_cmpR op_eq (pv 3) (pv 2) (nomark _))) (fun _ _ _ _ _ => pv 4)) pe_int (fun _ _ => rfl))), ?_⟩
    refine ⟨_, rfl, _, rfl, a, rs, x, rfl, hR, hlen, fun H1 t ts s1 nt et hT => ⟨t, rfl, ⟨_, sqL et⟩, fun D nD => ?_⟩⟩
    have nD' : H D = none := s1.free nD
    have tnD : t ≠ D := ne_of_none et nD
    refine lc_list (xs := ts.map V.ref) (fun i H' => Same H H' ∧ H' t = some (.lst (ts.map V.ref)) ∧ TL H' ts (nbrs rs x) ∧ H' D = some (.lst ((lens ((nbrs rs x).take i) y).map V.int))) ⟨same_at s1 nD', ?_, ?_, upd_same⟩ (fun i H' _ h => sqL h.2.1) (fun i v H' e h => ?_) (fun H' h => ?_)
    · rw [upd_ne tnD]; exact et
    · exact hT.same (same_upd nD)
    · obtain ⟨sm, et', hT', eD⟩ := h
      obtain ⟨tt, ett, rfl⟩ := of_get_ref e
      obtain ⟨⟨oth, ln⟩, eo, htt⟩ := hT'.mem ett
      refine ⟨tt, _, rfl, sqT htt, rfl, _, _, rfl, _, _, rfl, rfl, rfl, _, rfl, _, rfl, rfl, _, rfl, ?_⟩
      rw [lens_take eo]
      refine ite2 (fun e => ?_) (fun e => ?_)
      · have e := V.int.inj (of_decide_eq_true e)
        have hz := lens_len ((nbrs rs x).take i) y
        have hz2 := nbrs_len rs x
        rw [List.length_take] at hz
        refine ⟨_, rfl, _, eD, small_of (m := 5000) (by rw [List.length_map]; omega), same_at sm nD', ?_, TL.upd eD hT', ?_⟩
        · rw [upd_ne tnD]; exact et'
        · rw [upd_same, if_pos e, List.map_append]; rfl
      · have e : ¬ oth = y := fun z => e (decide_eq_true (congrArg V.int z))
        rw [if_neg e, List.append_nil]
        exact ⟨sm, et', hT', eD⟩
    · obtain ⟨sm, et', hT', eD⟩ := h
      rw [List.length_map, hT'.1, List.take_of_length_le (Nat.le_refl _)] at eD
      obtain ⟨l, r, e1, e2, _⟩ := rl_ne hadj
      rw [show lens (nbrs rs x) y = l :: r from e1] at eD
      refine ⟨D, _, 0, .int l, rfl, rfl, sqL eD, atI_nat (j := 0) rfl, ?_⟩
      rw [← e2]
      exact q H' sm
theorem put_old {f : List (Int × Int)} {x v u : Int} (h : x ∉ keys f) : putK (kd (f ++ [(x, u)])) (Sum.inl x : Key) (.int v) = kd (f ++ [(x, v)]) := by
  unfold putK
  have hany : ((kd (f ++ [(x, u)])).any fun kv => decide (kv.1 = (Sum.inl x : Key))) = true := by
    rw [List.any_eq_true]
    exact ⟨(Sum.inl x, .int u), by rw [kd_append]; exact List.mem_append_right _ (by simp [kd]), by simp⟩
  rw [if_pos hany, kd_append, kd_append, List.map_append]
  congr 1
  · conv => rhs; rw [← List.map_id (kd f)]
    refine List.map_congr_left fun kv hkv => ?_
    obtain ⟨e, he, rfl⟩ := List.mem_map.mp hkv
    have ne : ¬ (Sum.inl e.1 : Key) = Sum.inl x := fun z => h (by
      have : e.1 = x := Sum.inl.inj z
      rw [← this]
      exact List.mem_map.mpr ⟨e, he, rfl⟩)
    rw [if_neg ne]
    rfl
  · simp [kd]
def spFars (K : PySem.W.Frag) : Sp := fun vs H Q _ => ∃ (a : Addr) (n : Nat) (rs : List Road), vs = [.ref a, .int 0] ∧ Roads H a rs ∧ TreeOK n rs ∧ n ≤ 12 ∧
  ∀ H' e al, Same H H' → H e = none → H' e = some (.dK (kd (farL rs al))) → Spread n rs al → Q (.ref e) H'
theorem ok_fars {f fS fR : Addr} {fd fdS fdR : FuncData} {k : Nat} (F : Fun K "fars" "fars" sFars f fd) (GS : FnOk P w K mg base CX0 (k + 2) fS fdS ["roads", "start", "barred"] (spSpread K)) (kS : PySem.W.keepIn K (.ref fS) = true) (bS : Binds K fdS ["roads", "start", "barred"] []) (gS : mg "spread" = some (.ref fS))
    (GR : FnOk P w K mg base CX0 (k + 2) fR fdR ["roads", "a", "b"] (spRoadLen K)) (kR : PySem.W.keepIn K (.ref fR) = true) (bR : Binds K fdR ["roads", "a", "b"] []) (gR : mg "road_length" = some (.ref fR)) :
    FnOk P w K mg base CX0 (k + 3) f fd ["roads", "start"] (spFars K) := by
  refine F.ok scFars (fun vs H Q E h => ?_) (fun cdv A outer s H vs Q E hr h => ?_)
  · obtain ⟨a, n, rs, rfl, _⟩ := h
    rfl
  · obtain ⟨a, n, rs, rfl, hR, T, h12, q⟩ := h
    have hu := hu_of hr
    refine ⟨_, pss_cons (ps_set (i := 2) scFars.nd rfl (.inl rfl) pe_dnewK)
      (pss_cons (ps_set (i := 3) scFars.nd rfl (.inl rfl) (pe_call GS hr (by rfl) gS kS bS .nil pass0 (pa_cons (pv 0) (pa_cons (pv 1) (pa_cons (pe_lst pa_nil) pa_nil)))))
      (pss_cons (ps_lock (ps_for PassesOwn.never rfl (pi_keys (pv 3)) (pg_name (i := 4) scFars.nd rfl (.inl rfl))
        (pss_cons (ps_dput hu (pv 2) (pv 4) pe_int rfl)
          (pss_one (ps_if (pt_cmpR op_ne (pv 4) (pv 1) (nomark _))
            (pss_one (ps_dput hu (pv 2) (pv 4) (pe_op op_add (pe_dget hu (pv 2) (pe_dget hu (pv 3) (pv 4) (fun _ _ => rfl)) (fun _ _ => rfl))
              (pe_call GR hr (by rfl) gR kR bR .nil pass0 (pa_cons (pv 0) (pa_cons (pv 4) (pa_cons (pe_dget hu (pv 3) (pv 4) (fun _ _ => rfl)) pa_nil))))) rfl)) pss_nil)))))
      (pss_one (ps_ret (pv 2))))), ?_⟩
    refine fun e ne => ?_
    have s1 : Same H (upd H e (.dK [])) := same_upd ne
    -- ahead = spread(roads, start, [])
    refine ⟨_, rfl, _, rfl, Nat.zero_le _, fun b nb => ?_⟩
    have s2 : Same (upd H e (.dK [])) (upd (upd H e (.dK [])) b (.lst [])) := same_upd nb
    refine ⟨a, b, n, rs, rfl, (hR.same s1).same s2, T, h12, upd_same, fun H1 d al s3 nd ed S => ?_⟩
    have s4 : Same (upd H e (.dK [])) H1 := s2.trans s3
    have ee1 : H1 e = some (.dK []) := s4 _ _ upd_same
    have nd' : upd H e (.dK []) d = none := s2.free nd
    have ned : e ≠ d := ne_of_none upd_same nd'
    have nd0 : H d = none := s1.free nd'
    have sH : Same H H1 := s1.trans s4
    -- for place in ahead
    refine ⟨d, _, ed, trivial, fun od => ?_⟩
    refine ⟨_, rfl, d, od, rfl, .inl ⟨_, upd_same, ?_⟩⟩
    refine ⟨fun i m σ H' => i + m = al.length ∧ Same H H' ∧ H' d = some (.frz od (.dK (kd al))) ∧ H' e = some (.dK (kd (farL rs (al.take i)))) ∧ ∃ y, σ = [some (.ref a), some (.int 0), some (.ref e), some (.ref d), y], ⟨al.length, by omega, same_at sH nd0, upd_same, ?_, none, rfl⟩, ?_⟩
    · rw [upd_ne ned]; exact ee1
    rintro i m σ H' ⟨him, sm, ed', ee', y, rfl⟩
    by_cases hi : i < al.length
    · obtain ⟨⟨x, p⟩, ex⟩ : ∃ r, al[i]? = some r := ⟨_, List.getElem?_eq_getElem hi⟩
      have hxk : x ∉ keys (farL rs (al.take i)) := by
        rw [farL_keys']
        have hsplit : al = al.take i ++ (x, p) :: al.drop (i + 1) := by
          have h1 := (List.getElem?_eq_some_iff.mp ex)
          rw [← h1.2, List.getElem_cons_drop, List.take_append_drop]
        have nd := S.nd
        rw [hsplit, keys_append] at nd
        have := (List.nodup_append.mp nd).2.2
        intro z
        exact this _ z x (by simp [keys]) rfl
      have hflen : (kd (farL rs (al.take i))).length ≤ 12 := by
        have h1 := keys_len (farL rs (al.take i))
        rw [farL_keys', keys_len, List.length_take] at h1
        rw [kd_len]
        have := S.len
        omega
      refine .inr ⟨⟨ed', by rw [kd_len]; exact hi⟩, fun σ' H2 => Same H H2 ∧ H2 d = some (.frz od (.dK (kd al))) ∧ H2 e = some (.dK (kd (farL rs (al.take (i + 1))))) ∧ ∃ y, σ' = [some (.ref a), some (.int 0), some (.ref e), some (.ref d), y], fun σ' H2 h => ?_, fun v H2 hy => ?_⟩
      · obtain ⟨h1, h2, h3, h4⟩ := h
        exact ⟨m - 1, by omega, by omega, h1, h2, h3, h4⟩
      · obtain ⟨rfl, kk, vv, ek, rfl⟩ := hy
        have ek' : kk = Sum.inl x := by
          have h0 : (kd al)[i]? = some ((Sum.inl x : Key), V.int p) := by unfold kd; rw [List.getElem?_map, ex]; rfl
          rw [h0] at ek
          injection ek with ek
          injection ek with h1 h2
          exact h1.symm
        subst ek'
        rw [show kV (Sum.inl x : Key) = V.int x from rfl]
        -- found[place] = 0
        refine ⟨_, rfl, _, rfl, e, _, rfl, DPut.k (k := Sum.inl x) ee' (small_of (m := 100) (by omega)), ?_⟩
        rw [putK_new _ (kd_none hxk)]
        have e0 : kd (farL rs (al.take i)) ++ [((Sum.inl x : Key), V.int 0)] = kd (farL rs (al.take i) ++ [(x, 0)]) := by rw [kd_append]; rfl
        rw [e0]
        have sm2 : Same H (upd H2 e (.dK (kd (farL rs (al.take i) ++ [(x, 0)])))) := same_at sm ne
        have ed2 : (upd H2 e (.dK (kd (farL rs (al.take i) ++ [(x, 0)])))) d = some (.frz od (.dK (kd al))) := by rw [upd_ne ned.symm]; exact ed'
        rw [farL_take ex]
        unfold farStep
        refine ⟨_, rfl, _, rfl, rfl, _, rfl, ?_⟩
        by_cases x0 : x = 0
        · subst x0
          rw [decide_eq_true rfl]
          refine iteF ⟨sm2, ed2, ?_, _, rfl⟩
          rw [upd_same, if_pos rfl]
        · rw [decide_eq_false (fun z => x0 (V.int.inj z))]
          have i0 : 0 < i := by
            rcases Nat.eq_zero_or_pos i with z | z
            · rw [z, S.first] at ex
              injection ex with ex
              injection ex with h1 h2
              exact absurd h1.symm x0
            · exact z
          obtain ⟨hp, ha⟩ := S.par i x p i0 ex
          have lk : look al x = p := by
            have := look_some (mem_keys ex)
            unfold look
            have hsplit : al = al.take i ++ (x, p) :: al.drop (i + 1) := by
              have h1 := (List.getElem?_eq_some_iff.mp ex)
              rw [← h1.2, List.getElem_cons_drop, List.take_append_drop]
            rw [farL_keys'] at hxk
            rw [hsplit, show al.take i ++ (x, p) :: al.drop (i + 1) = (al.take i ++ [(x, p)]) ++ al.drop (i + 1) by simp, lookup_app, lookup_new hxk]
            · rfl
            · rw [keys_append]; exact List.mem_append_right _ (by simp [keys])
          have gA : ∀ {H' : Hp}, H' d = some (.frz od (.dK (kd al))) → DGet H' d (.int x) (some (.int p)) := fun {H'} h => .inl ⟨kd al, Sum.inl x, .inr ⟨od, h⟩, rfl, by rw [kd_some (mem_keys ex), lk]⟩
          have hpk : p ∈ keys (farL rs (al.take i)) := by rw [farL_keys']; exact hp
          have gF : DGet (upd H2 e (.dK (kd (farL rs (al.take i) ++ [(x, 0)])))) e (.int p) (some (.int (look (farL rs (al.take i)) p))) :=
            .inl ⟨_, Sum.inl p, .inl upd_same, rfl, by
              rw [kd_val, lookup_app hpk, look_some hpk]; rfl⟩
          refine iteT ⟨_, rfl, _, rfl, _, rfl, d, _, rfl, gA ed2, e, _, rfl, gF, _, rfl, _, rfl, _, rfl, _, rfl, d, _, rfl, gA ed2, a, rs, x, p, rfl, hR.same sm2, by have := T.len; omega, ha, fun H3 s5 => ⟨_, _, rfl, rfl, _, rfl, _, rfl, e, _, rfl, DPut.k (k := Sum.inl x) (s5 _ _ upd_same) (small_of (m := 100) (by rw [kd_len, List.length_append]; rw [kd_len] at hflen; simp; omega)), ?_⟩⟩
          rw [put_old hxk]
          refine ⟨same_at (sm2.trans s5) ne, ?_, ?_, _, rfl⟩
          · rw [upd_ne ned.symm]; exact s5 _ _ ed2
          · rw [upd_same, if_neg x0]
    · have e1 : i = al.length := by omega
      subst e1
      refine .inl ⟨⟨ed', by rw [kd_len]; exact Nat.le_refl _⟩, ed', _, rfl, ?_⟩
      rw [List.take_of_length_le (Nat.le_refl _)] at ee'
      refine q _ e al (same_at sm nd0) ne ?_ S
      rw [upd_ne ned]
      exact ee'
end
end Tw
/-! is_lump, must_be_yards, are_apart -/
namespace Tw
open PySem PySem.Spec PyProof.Rows L2
theorem inside_take {S : List Int} {rs : List Road} {i : Nat} {r : Road} (h : rs[i]? = some r) : inside S (rs.take (i + 1)) = inside S (rs.take i) + if isIn S r = true then 1 else 0 := by
  unfold inside
  rw [List.take_add_one, h, List.filter_append, List.length_append]
  congr 1
  by_cases e : isIn S r = true
  · rw [if_pos e]; simp [e]
  · rw [if_neg e]; simp [e]
theorem inside_le (S : List Int) (rs : List Road) : inside S rs ≤ rs.length := List.length_filter_le _ _
section
variable {P : Program} {w : World} {K : PySem.W.Frag} {mg : Str → Option Value} {base : Heap}
def spIsLump (K : PySem.W.Frag) : Sp := fun vs H Q _ => ∃ (a b : Addr) (n : Nat) (rs : List Road) (S : List Int), vs = [.int n, .ref a, .ref b] ∧ Roads H a rs ∧ TreeOK n rs ∧ n ≤ 12 ∧ IL H b S ∧ Lump n rs S ∧ ∀ H', Same H H' → Q (.bl true) H'
theorem ok_isLump {f fU fM : Addr} {fd fdU fdM : FuncData} {k : Nat} (F : Fun K "is_lump" "is_lump" sIsLump f fd) (GU : FnOk P w K mg base CX0 (k + 4) fU fdU ["many", "some"] (spUnlike K)) (kU : PySem.W.keepIn K (.ref fU) = true) (bU : Binds K fdU ["many", "some"] []) (gU : mg "are_unlike_places" = some (.ref fU))
    (GM : FnOk P w K mg base CX0 (k + 4) fM fdM ["many", "roads"] (spMustTree K)) (kM : PySem.W.keepIn K (.ref fM) = true) (bM : Binds K fdM ["many", "roads"] []) (gM : mg "must_be_tree" = some (.ref fM)) (ml : mg "len" = none) :
    FnOk P w K mg base CX0 (k + 5) f fd ["many", "roads", "some"] (spIsLump K) := by
  refine F.ok scIsLump (fun vs H Q E h => ?_) (fun cdv A outer s H vs Q E hr h => ?_)
  · obtain ⟨a, b, n, rs, S, rfl, _⟩ := h
    rfl
  · obtain ⟨a, b, n, rs, S, rfl, hR, T, h12, hB, L, q⟩ := h
    refine ⟨_, pss_cons (ps_expr (pe_call GM hr (by rfl) gM kM bM .nil pass0 (pa_cons (pv 0) (pa_cons (pv 1) pa_nil))))
      (pss_cons (ps_if (PW.pt (pw_or (pt_cmpR op_eq (pe_callB call_len_seq (by rfl) ml PySem.boot_len (pa_cons (pv 2) pa_nil)) pe_int (nomark _)) (pw_or1 (pt_not (pt_val (pe_call GU hr (by rfl) gU kU bU .nil pass0 (pa_cons (pv 0) (pa_cons (pv 2) pa_nil))))))))
        (pss_one ps_never) pss_nil)
      (pss_one (ps_ret (pe_cmpR op_eq (pe_callB call_len_seq (by rfl) ml PySem.boot_len (pa_cons
        (pe_lc (own := [("road", 3)]) (g := gName 3) (by rfl) scIsLump.nd (pi_list (pv 1)) (blkOk_by (own := [("road", 3)]) (N := ["many", "roads", "some", "road"]) (sc := defScope sIsLump) (by decide +kernel))
          (fun _ _ _ _ _ => pg_name (i := 3) scIsLump.nd rfl (Or.inl rfl))
          (fun _ _ _ _ _ => pts_one (PW.pt (pw_and (pt_cmpR (r := rIn K false) op_in_seq (pe_ix (r := rIxL K) ix_list (pv 3) pe_int (fun _ _ => rfl)) (pv 2) (by rfl)) (pw_and1 (pt_cmpR (r := rIn K false) op_in_seq (pe_ix (r := rIxL K) ix_list (pv 3) pe_int (fun _ _ => rfl)) (pv 2) (by rfl))))))
          (fun _ _ _ _ _ => pv 3)) pa_nil))
        (pe_op op_sub (pe_callB call_len_seq (by rfl) ml PySem.boot_len (pa_cons (pv 2) pa_nil)) pe_int) (nomark _))))), ?_⟩
    have hnd := L.nodup
    have hrng := L.rng T
    have hcount := L.count T
    have hSlen : S.length ≤ 12 := by
      have := Nodup_le (l' := ran n) hnd fun x hx => mem_ran.mpr (hrng x hx)
      rw [len_ran] at this
      omega
    have hS0 : 0 < S.length := List.length_pos_iff.mpr L.ne
    have hlen := T.len
    refine ⟨_, rfl, _, rfl, a, n, rs, rfl, hR, T, h12, fun H1 s1 => ?_⟩
    have hB1 : IL H1 b S := s1 _ _ hB
    refine ⟨_, rfl, b, _, rfl, .inl (sqL hB1), rfl, _, rfl, ?_⟩
    rw [List.length_map, decide_eq_false (fun z => by have := V.int.inj z; omega)]
    refine iteF ⟨_, rfl, _, rfl, n, b, S, rfl, hB1, by omega, hnd, fun x hx => hrng x hx, true, rfl, iteF ?_⟩
    obtain ⟨ps, hA, hpl, hP⟩ := hR.same s1
    rw [List.length_map] at hpl
    refine ⟨_, rfl, a, rfl, ⟨_, sqL hA⟩, fun D nD => lc_list (xs := ps.map V.ref) (fun i H' => Same H1 H' ∧ ∃ qs : List Addr, H' D = some (.lst (qs.map V.ref)) ∧ qs.length = inside S (rs.take i)) ⟨same_upd nD, [], upd_same, rfl⟩ (fun i H' _ h => sqL (h.1 _ _ hA)) (fun i v H' e h => ?_) (fun H' h => ?_)⟩
    · obtain ⟨sm, qs, eD, hq⟩ := h
      obtain ⟨p, ep, rfl⟩ := of_get_ref e
      have hi := (List.getElem?_eq_some_iff.mp ep).1
      obtain ⟨r, er⟩ : ∃ r, rs[i]? = some r := ⟨_, List.getElem?_eq_getElem (by omega)⟩
      have hp : IL H' p (rowOf r) := sm _ _ (hP i p _ ep (by rw [List.getElem?_map, er]; rfl))
      have hB' : IL H' b S := sm _ _ hB1
      have hle := inside_le S (rs.take i)
      rw [List.length_take] at hle
      rw [inside_take er]
      refine ⟨rfl, _, rfl, p, _, 0, .int r.1, rfl, rfl, sqL hp, atI_nat (j := 0) rfl, _, rfl, b, _, rfl, .inl (sqL hB'), rfl, flat_int S, _, rfl, ?_⟩
      rw [if_neg Bool.false_ne_true, inV_int]
      by_cases m1 : r.1 ∈ S
      · rw [decide_eq_true m1]
        refine iteT ⟨_, rfl, p, _, 1, .int r.2.1, rfl, rfl, sqL hp, atI_nat (j := 1) rfl, _, rfl, b, _, rfl, .inl (sqL hB'), rfl, flat_int S, _, rfl, ?_⟩
        rw [if_neg Bool.false_ne_true, inV_int]
        by_cases m2 : r.2.1 ∈ S
        · rw [decide_eq_true m2, if_pos (isIn_iff.mpr ⟨m1, m2⟩)]
          refine iteT ⟨_, rfl, _, eD, small_of (m := 100) (by rw [List.length_map]; omega), same_at sm nD, qs ++ [p], ?_, ?_⟩
          · rw [upd_same, List.map_append]; rfl
          · rw [List.length_append, hq]; rfl
        · rw [decide_eq_false m2, if_neg fun z => m2 (isIn_iff.mp z).2]
          exact iteF ⟨sm, qs, eD, hq⟩
      · rw [decide_eq_false m1, if_neg fun z => m1 (isIn_iff.mp z).1]
        exact iteF (iteF ⟨sm, qs, eD, hq⟩)
    · obtain ⟨sm, qs, eD, hq⟩ := h
      rw [List.length_map, List.take_of_length_le (by omega)] at hq
      refine ⟨D, _, rfl, .inl (sqL eD), _, rfl, b, _, rfl, .inl (sqL (sm _ _ hB1)), _, _, rfl, rfl, rfl, ?_⟩
      rw [List.length_map, List.length_map, decide_eq_true (show V.int (qs.length : Nat) = V.int ((S.length : Int) - 1) by congr 1; omega)]
      exact q H' (s1.trans sm)
def spMustYards (K : PySem.W.Frag) : Sp := fun vs H Q _ => ∃ (a y : Addr) (n : Nat) (rs : List Road) (Ys : List (List Int)), vs = [.int n, .ref a, .ref y] ∧ Roads H a rs ∧ TreeOK n rs ∧ n ≤ 12 ∧ Rows H y Ys ∧ (∀ Y ∈ Ys, Lump n rs Y) ∧ ∀ H', Same H H' → Q .non H'
theorem ok_mustYards {f fL fM : Addr} {fd fdL fdM : FuncData} {k : Nat} (F : Fun K "must_be_yards" "must_be_yards" sMustYards f fd) (GL : FnOk P w K mg base CX0 (k + 5) fL fdL ["many", "roads", "some"] (spIsLump K)) (kL : PySem.W.keepIn K (.ref fL) = true) (bL : Binds K fdL ["many", "roads", "some"] []) (gL : mg "is_lump" = some (.ref fL))
    (GM : FnOk P w K mg base CX0 (k + 5) fM fdM ["many", "roads"] (spMustTree K)) (kM : PySem.W.keepIn K (.ref fM) = true) (bM : Binds K fdM ["many", "roads"] []) (gM : mg "must_be_tree" = some (.ref fM)) :
    FnOk P w K mg base CX0 (k + 6) f fd ["many", "roads", "yards"] (spMustYards K) := by
  refine F.ok scMustYards (fun vs H Q E h => ?_) (fun cdv A outer s H vs Q E hr h => ?_)
  · obtain ⟨a, y, n, rs, Ys, rfl, _⟩ := h
    rfl
  · obtain ⟨a, y, n, rs, Ys, rfl, hR, T, h12, ⟨ps, hA, hpl, hP⟩, hL, q⟩ := h
    refine ⟨_, pss_cons (ps_expr (pe_call GM hr (by rfl) gM kM bM .nil pass0 (pa_cons (pv 0) (pa_cons (pv 1) pa_nil))))
      (pss_one (ps_for PassesOwn.never rfl (pi_list (pv 2)) (pg_name (i := 3) scMustYards.nd rfl (.inl rfl))
        (pss_one (ps_if (pt_not (pt_val (pe_call GL hr (by rfl) gL kL bL .nil pass0 (pa_cons (pv 0) (pa_cons (pv 1) (pa_cons (pv 3) pa_nil)))))) (pss_one ps_never) pss_nil)))), ?_⟩
    refine ⟨_, rfl, _, rfl, a, n, rs, rfl, hR, T, h12, fun H1 s1 => ?_⟩
    refine ⟨_, rfl, y, rfl, ⟨_, sqL (s1 _ _ hA)⟩, for_list (xs := ps.map V.ref) (fun i σ H' => Same H H' ∧ ∃ z, σ = [some (.int (n : Int)), some (.ref a), some (.ref y), z]) ⟨s1, none, rfl⟩ (fun i σ H' _ h => sqL (h.1 _ _ hA)) (fun i v σ H' e h => ?_) (fun σ H' h => ?_)⟩
    · obtain ⟨sm, z, rfl⟩ := h
      obtain ⟨p, ep, rfl⟩ := of_get_ref e
      have hi := (List.getElem?_eq_some_iff.mp ep).1
      obtain ⟨Y, eY⟩ : ∃ r, Ys[i]? = some r := ⟨_, List.getElem?_eq_getElem (by omega)⟩
      exact ⟨_, rfl, _, rfl, _, rfl, a, p, n, rs, Y, rfl, hR.same sm, T, h12, sm _ _ (hP i p _ ep eY), hL Y (List.mem_of_getElem? eY), fun H2 s2 => ⟨true, rfl, iteF ⟨sm.trans s2, _, rfl⟩⟩⟩
    · exact q H' h.1
def spApart (K : PySem.W.Frag) : Sp := fun vs H Q _ => ∃ (a b : Addr) (S S' : List Int), vs = [.ref a, .ref b] ∧ IL H a S ∧ IL H b S' ∧ S.length ≤ 1000 ∧ ∀ H', Same H H' → Q (.bl (disj S S')) H'
theorem meet_take {S S' : List Int} {i : Nat} {x : Int} (h : S[i]? = some x) : (S.take (i + 1)).filter (fun x => decide (x ∈ S')) = (S.take i).filter (fun x => decide (x ∈ S')) ++ if x ∈ S' then [x] else [] := by
  rw [List.take_add_one, h, List.filter_append]
  congr 1
  by_cases e : x ∈ S'
  · rw [if_pos e]; simp [e]
  · rw [if_neg e]; simp [e]
theorem meet_none {S S' : List Int} : disj S S' = decide ((S.filter fun x => decide (x ∈ S')).length = 0) := by
  by_cases h : disj S S' = true
  · rw [h, eq_comm, decide_eq_true_eq, List.length_eq_zero_iff, List.filter_eq_nil_iff]
    intro x hx
    simpa using disj_iff.mp h x hx
  · rw [Bool.eq_false_iff.mpr h, eq_comm, decide_eq_false_iff_not, List.length_eq_zero_iff, List.filter_eq_nil_iff]
    intro z
    exact h (disj_iff.mpr fun x hx => by simpa using z x hx)
theorem ok_apart {f : Addr} {fd : FuncData} {k : Nat} (F : Fun K "are_apart" "are_apart" sApart f fd) (ml : mg "len" = none) : FnOk P w K mg base CX0 (k + 1) f fd ["one", "other"] (spApart K) := by
  refine F.ok scApart (fun vs H Q E h => ?_) (fun cdv A outer s H vs Q E hr h => ?_)
  · obtain ⟨a, b, S, S', rfl, _⟩ := h
    rfl
  · obtain ⟨a, b, S, S', rfl, hA, hB, hlen, q⟩ := h
    refine ⟨_, pss_one (ps_ret (pe_cmpR op_eq (pe_callB call_len_seq (by rfl) ml PySem.boot_len (pa_cons
        (pe_lc (own := [("place", 2)]) (g := gName 2) (by rfl) scApart.nd (pi_list (pv 0)) (blkOk_by (own := [("place", 2)]) (N := ["one", "other", "place"]) (sc := defScope sApart) (by decide +kernel))
          (fun _ _ _ _ _ => pg_name (i := 2) scApart.nd rfl (Or.inl rfl))
          (fun _ _ _ _ _ => pts_one (pt_cmpR (r := rIn K false) op_in_seq (pv 2) (pv 1) (by rfl)))
          (fun _ _ _ _ _ => pv 2)) pa_nil)) pe_int (nomark _))), ?_⟩
    refine ⟨_, rfl, a, rfl, ⟨_, sqL hA⟩, fun D nD => lc_list (xs := S.map V.int) (fun i H' => Same H H' ∧ H' D = some (.lst (((S.take i).filter fun x => decide (x ∈ S')).map V.int))) ⟨same_upd nD, upd_same⟩ (fun i H' _ h => sqL (h.1 _ _ hA)) (fun i v H' e h => ?_) (fun H' h => ?_)⟩
    · obtain ⟨sm, eD⟩ := h
      obtain ⟨x, ex, rfl⟩ := of_get_int e
      rw [meet_take ex]
      refine ⟨rfl, _, rfl, _, rfl, b, _, rfl, .inl (sqL (sm _ _ hB)), rfl, flat_int S', _, rfl, ?_⟩
      rw [if_neg Bool.false_ne_true, inV_int]
      by_cases m : x ∈ S'
      · rw [decide_eq_true m, if_pos m]
        refine iteT ⟨_, rfl, _, eD, small_of (m := 1000) ?_, same_at sm nD, ?_⟩
        · rw [List.length_map]
          refine Nat.le_trans (List.length_filter_le _ _) ?_
          rw [List.length_take]; omega
        · rw [upd_same, List.map_append]; rfl
      · rw [decide_eq_false m, if_neg m, List.append_nil]
        exact iteF ⟨sm, eD⟩
    · obtain ⟨sm, eD⟩ := h
      rw [List.length_map, List.take_of_length_le (Nat.le_refl _)] at eD
      refine ⟨D, _, rfl, .inl (sqL eD), rfl, ?_⟩
      have e : decide (V.int ((((S.filter fun x => decide (x ∈ S')).map V.int).length : Nat) : Int) = V.int 0) = disj S S' := by
        rw [meet_none, List.length_map]
        refine decide_eq_decide.mpr ⟨fun z => by have := V.int.inj z; omega, fun z => by rw [z]; rfl⟩
      rw [e]
      exact q H' sm
end
end Tw
/-! Rules that the hand layer lacks: min and sorted by a lambda, min with a default, xs[i] += e. -/
namespace Tw
open PySem PySem.Spec PyProof.Rows L2
/-- nothing that stood is changed -/
def Kp (h h' : Heap) : Prop := ∀ b o, h.get? b = some o → h'.get? b = some o
theorem Kp.refl (h : Heap) : Kp h h := fun _ _ e => e
theorem Kp.trans {h h1 h2 : Heap} (a : Kp h h1) (b : Kp h1 h2) : Kp h h2 := fun c o e => b c o (a c o e)
theorem Kp.upd {h h1 : Heap} {S : Addr} {g : Obj → Obj} (a : Kp h h1) (n : h.get? S = none) : Kp h (h1.update S g) := fun b o e =>
  ((Heap.SameBut.update h1 S g).2 b (fun z => by rw [z, n] at e; cases e)).trans (a b o e)
theorem Kp.but {h h1 h2 : Heap} {I : Addr} (a : Kp h h1) (n : h.get? I = none) (k : ∀ b o, b ∉ [I] → h1.get? b = some o → h2.get? b = some o) : Kp h h2 := fun b o e =>
  k b o (fun z => by rw [List.mem_singleton.mp z, n] at e; cases e) (a b o e)
section
variable {prog : Program} {w : World} {A : Around} {E : Value → Shared → Prop} {s : Shared}
/-- a call of f at v gives the int k and keeps what stood -/
def Gives (prog : Program) (w : World) (A : Around) (s : Shared) (f v : Value) (k : Int) (h : Heap) (tk : Nat) : Prop :=
  wpAny (model prog w) A (call f [v]) (fun x s' => ∃ h' tk' t, x = .int k t ∧ s' = { s with heap := h', toks := tk' } ∧ Kp h h') (fun _ _ => False) { s with heap := h, toks := tk }
theorem minkey_loop {h0 : Heap} {l q I S : Addr} {vs : List Value} {R : Result → Shared → Prop} (kf : Nat → Int) (hh : A.handled = none) (hl : h0.IsList l vs.toArray) (nI : h0.get? I = none) (nS : h0.get? S = none) (hSI : S ≠ I)
    (turn : ∀ (i : Nat) (v : Value), vs[i]? = some v → ∀ (h : Heap) (tk : Nat), Kp h0 h → Gives prog w A.in1 s (.ref q) v (kf i) h tk)
    (hR : ∀ (i : Nat) (v : Value) (h' : Heap) (tk' : Nat), vs[i]? = some v → (∀ j, j < vs.length → kf i ≤ kf j) → Kp h0 h' → R (.ok (.ret v)) { s with heap := h', toks := tk' }) :
    ∀ (r j i : Nat) (h : Heap) (tk : Nat) (vb : Value) (tb : Tok) (c : Nat), vs.length - (j + 1) = r → j + 1 ≤ vs.length → Kp h0 h → h.get? S = some (seqObj "list" #[vb, .int (kf i) tb] c) → h.IsListIter I l (j + 1) → vs[i]? = some vb → i ≤ j → (∀ j', j' ≤ j → kf i ≤ kf j') →
      codeAny (model prog w) A (.builtin "min.loop" ⟨[.ref I, .ref q, .ref S], []⟩) R { s with heap := h, toks := tk } := by
  have hlI : l ≠ I := fun z => by
    obtain ⟨o, e, _⟩ := hl
    rw [z, nI] at e
    cases e
  have lst : ∀ {h : Heap}, Kp h0 h → h.IsList l vs.toArray := fun {h} k => by
    obtain ⟨o, e, r⟩ := hl
    exact ⟨o, k _ _ e, r⟩
  have W := Walks.list (prog := prog) (w := w) (A := A.in1) hh I l hlI vs.toArray
  have hsz : vs.toArray.size = vs.length := List.size_toArray ..
  intro r
  induction r with
  | zero =>
    intro j i h tk vb tb c hr hj K hS hit hvb hij hbest
    have hin : j + 1 = vs.length := by omega
    refine codeAny_builtin PySem.F.entry_min_loop ?_
    rw [Around.under_plainId PySem.F.plain_min_loop _]
    show wpAny _ A.in1 (seqItems? (.ref S) >>= _) _ _ _
    refine wpAny_bind (wpAny_seqItems hS rfl ?_)
    show wpAny _ A.in1 (tryCatch (pyNext (.ref I)) _ >>= _) _ _ _
    refine wpAny_bind (wpAny_tryCatch (W.done _ _ _ ⟨by rw [hsz, ← hin]; exact hit, lst K⟩ fun h' tk' hk' => ?_))
    have hS' := hk' S _ (by simpa using hSI) hS
    show wpAny _ A.in1 (updateSeq S (fun _ => #[]) >>= _) _ _ _
    refine wpAny_bind (wpAny_updateSeq hS' rfl (wpAny_bind (wpAny_letGo (wpAny_pure ?_))))
    exact hR i vb _ _ hvb (fun j' hj' => hbest j' (by omega)) ((K.but nI hk').upd nS)
  | succ r ih =>
    intro j i h tk vb tb c hr hj K hS hit hvb hij hbest
    have hlt : j + 1 < vs.length := by omega
    refine codeAny_builtin PySem.F.entry_min_loop ?_
    rw [Around.under_plainId PySem.F.plain_min_loop _]
    show wpAny _ A.in1 (seqItems? (.ref S) >>= _) _ _ _
    refine wpAny_bind (wpAny_seqItems hS rfl ?_)
    show wpAny _ A.in1 (tryCatch (pyNext (.ref I)) _ >>= _) _ _ _
    refine wpAny_bind (wpAny_tryCatch (W.item (j + 1) _ _ _ (by rw [hsz]; exact hlt) ⟨hit, lst K⟩ fun v h' tk' hP hst' hk' => ?_))
    have hv : vs[j + 1]? = some v := by simpa using hP
    have K1 := K.but nI hk'
    have hS1 := hk' S _ (by simpa using hSI) hS
    obtain ⟨oI, hoI, hoc, hod⟩ := id hst'.1
    show wpAny _ A.in1 (tryCatch (holding [v] (call (.ref q) [v])) _ >>= _) _ _ _
    refine wpAny_bind (wpAny_tryCatch (wpAny_holding (wpAny_mono (turn (j + 1) v hv h' tk' K1) (fun x s'' he => ?_) fun _ _ hF => hF.elim)))
    obtain ⟨h2, tk2, t2, rfl, rfl, K2⟩ := he
    have hS2 := K2 _ _ hS1
    have hit2 : h2.IsListIter I l (j + 1 + 1) := ⟨oI, K2 _ _ hoI, hoc, hod⟩
    show wpAny _ A.in1 (tryCatch (holding [v, .int (kf (j + 1)) t2] (richCompare .Lt (.int (kf (j + 1)) t2) (.int (kf i) tb) >>= _)) _ >>= _) _ _ _
    refine wpAny_bind (wpAny_tryCatch (wpAny_holding (wpAny_bind (CmpOf.ints_lt (prog := prog) (w := w) (A := A.in1) (P := fun i v => ∃ t, v = .int (kf i) t) kf (fun i v h => h) (j + 1) i _ _ _ _ _ ⟨t2, rfl⟩ ⟨tb, rfl⟩ ?_))))
    refine wpAny_bind (wpAny_holding (wpAny_truthy_bool ?_))
    refine wpAny_bind (wpAny_letGo (wpAny_pure ?_))
    have hname : (toString "min" ++ toString ".loop" : String) = "min.loop" := by decide
    by_cases hb' : kf (j + 1) < kf i
    · simp only [hb', decide_true, if_true]
      obtain ⟨c2, hc2⟩ : ∃ c2, (h2.update S (Obj.mapSeq fun _ => #[v, .int (kf (j + 1)) t2])).get? S = some (seqObj "list" #[v, .int (kf (j + 1)) t2] c2) := ⟨_, get?_update_seq hS2 fun _ => #[v, .int (kf (j + 1)) t2]⟩
      refine wpAny_bind (wpAny_updateSeq hS2 rfl (wpAny_bind (wpAny_letGo ?_)))
      rw [hname]
      refine wpAny_pure ⟨plainId_quiet PySem.F.plain_min_loop _, ih (j + 1) (j + 1) _ _ v t2 c2 (by omega) hlt ((K1.trans K2).upd nS) hc2 ⟨oI, ?_, hoc, hod⟩ hv (Nat.le_refl _) fun j' hj' => ?_⟩
      · exact ((Heap.SameBut.update h2 S _).2 I hSI.symm).trans (K2 _ _ hoI)
      · by_cases e : j' = j + 1
        · rw [e]; exact Int.le_refl _
        · have := hbest j' (by omega)
          omega
    · simp only [hb', decide_false, Bool.false_eq_true, if_false]
      refine wpAny_bind (wpAny_letGo ?_)
      rw [hname]
      refine wpAny_pure ⟨plainId_quiet PySem.F.plain_min_loop _, ih (j + 1) i _ _ vb tb c (by omega) hlt (K1.trans K2) hS2 hit2 hvb (by omega) fun j' hj' => ?_⟩
      by_cases e : j' = j + 1
      · rw [e]; omega
      · exact hbest j' (by omega)
/-- min(xs, key=f): one of the items, with the least key; what stood is kept -/
theorem minkey {l q : Addr} {vs : List Value} {Q : Value → Shared → Prop} (kf : Nat → Int) (hh : A.handled = none) (hl : s.heap.IsList l vs.toArray) (hne : 0 < vs.length)
    (turn : ∀ (i : Nat) (v : Value), vs[i]? = some v → ∀ (h : Heap) (tk : Nat), Kp s.heap h → Gives prog w A.in1 s (.ref q) v (kf i) h tk)
    (hQ : ∀ (i : Nat) (v : Value) (h' : Heap) (tk' : Nat), vs[i]? = some v → (∀ j, j < vs.length → kf i ≤ kf j) → Kp s.heap h' → Q v { s with heap := h', toks := tk' }) :
    wpAny (model prog w) A (call (.builtin "min") [.ref l] [(Str.ofString "key", .ref q)]) Q E s := by
  have hname : (toString "min" ++ toString ".loop" : String) = "min.loop" := by decide
  refine kmk_tree PySem.F.kind_min PySem.F.plain_min PySem.F.entry_min (kmk_min_key _ _) ?_
  show wpAny _ A.in1 (Builtin.Builtins.bindParams "min" ["key", "default"] 0 ⟨[], [(Str.ofString "key", .ref q)]⟩ >>= _) _ _ s
  refine wpAny_bind (wpAny_of_eq (show Builtin.Builtins.bindParams "min" ["key", "default"] 0 ⟨[], [(Str.ofString "key", .ref q)]⟩ = pure [some (.ref q), none] from rfl) ?_)
  refine wpAny_bind (wpAny_pure (wpAny_bind (wpAny_pyIter_list hl (wpAny_bind (wpAny_newList ?_ (Nat.zero_le _))))))
  rw [hname]
  have hS : (s.heap.push { cls := .type "list_iterator", data := .fields #[.ref l, .int 0 0] }).objs.size = s.heap.objs.size + 1 := size_push' ..
  have nI : s.heap.get? s.heap.objs.size = none := Heap.get?_none_of_le (Nat.le_refl _)
  have nS : s.heap.get? (s.heap.objs.size + 1) = none := Heap.get?_none_of_le (Nat.le_succ _)
  have hSI : s.heap.objs.size + 1 ≠ s.heap.objs.size := Nat.succ_ne_self _
  have hlI : l ≠ s.heap.objs.size := fun z => by
    obtain ⟨o, e, _⟩ := hl
    rw [z, nI] at e
    cases e
  have K0 : Kp s.heap ((s.heap.push { cls := .type "list_iterator", data := .fields #[.ref l, .int 0 0] }).push (seqObj "list" #[] 0)) := fun b o e => Heap.get?_push_of_some _ (Heap.get?_push_of_some _ e)
  have gI : ((s.heap.push { cls := .type "list_iterator", data := .fields #[.ref l, .int 0 0] }).push (seqObj "list" #[] 0)).get? s.heap.objs.size = some { cls := .type "list_iterator", data := .fields #[.ref l, .int 0 0] } :=
    Heap.get?_push_of_some _ (Heap.get?_push_size _ rfl)
  have gS : ((s.heap.push { cls := .type "list_iterator", data := .fields #[.ref l, .int 0 0] }).push (seqObj "list" #[] 0)).get? (s.heap.objs.size + 1) = some (seqObj "list" #[] 0) := by
    rw [← hS]; exact Heap.get?_push_size _ rfl
  refine wpAny_pure ⟨plainId_quiet PySem.F.plain_min_loop _, ?_⟩
  rw [hS]
  have W := Walks.list (prog := prog) (w := w) (A := A.in1) hh s.heap.objs.size l hlI vs.toArray
  have hsz : vs.toArray.size = vs.length := List.size_toArray ..
  refine codeAny_builtin PySem.F.entry_min_loop ?_
  rw [Around.under_plainId PySem.F.plain_min_loop _]
  show wpAny _ A.in1 (seqItems? (.ref _) >>= _) _ _ _
  refine wpAny_bind (wpAny_seqItems gS rfl ?_)
  show wpAny _ A.in1 (tryCatch (pyNext (.ref s.heap.objs.size)) _ >>= _) _ _ _
  have hl0 : ((s.heap.push { cls := .type "list_iterator", data := .fields #[.ref l, .int 0 0] }).push (seqObj "list" #[] 0)).IsList l vs.toArray := by
    obtain ⟨o, e, r⟩ := hl
    exact ⟨o, K0 _ _ e, r⟩
  refine wpAny_bind (wpAny_tryCatch (W.item 0 _ _ _ (by rw [hsz]; exact hne) ⟨⟨_, gI, rfl, rfl⟩, hl0⟩ fun v h' tk' hP hst' hk' => ?_))
  have hv : vs[0]? = some v := by simpa using hP
  have K1 : Kp s.heap h' := K0.but nI hk'
  have hS1 := hk' (s.heap.objs.size + 1) _ (by simpa using hSI) gS
  obtain ⟨oI, hoI, hoc, hod⟩ := id hst'.1
  show wpAny _ A.in1 (tryCatch (holding [v] (call (.ref q) [v])) _ >>= _) _ _ _
  refine wpAny_bind (wpAny_tryCatch (wpAny_holding (wpAny_mono (turn 0 v hv h' tk' K1) (fun x s'' he => ?_) fun _ _ hF => hF.elim)))
  obtain ⟨h2, tk2, t2, rfl, rfl, K2⟩ := he
  have hS2 := K2 _ _ hS1
  obtain ⟨c2, hc2⟩ : ∃ c2, (h2.update (s.heap.objs.size + 1) (Obj.mapSeq fun _ => #[v, .int (kf 0) t2])).get? (s.heap.objs.size + 1) = some (seqObj "list" #[v, .int (kf 0) t2] c2) := ⟨_, get?_update_seq hS2 fun _ => #[v, .int (kf 0) t2]⟩
  show wpAny _ A.in1 (updateSeq (s.heap.objs.size + 1) (fun _ => #[v, .int (kf 0) t2]) >>= _) _ _ _
  refine wpAny_bind (wpAny_updateSeq hS2 rfl ?_)
  rw [hname]
  refine wpAny_pure ⟨plainId_quiet PySem.F.plain_min_loop _, minkey_loop kf hh hl nI nS hSI turn hQ _ 0 0 _ _ v t2 c2 rfl hne ((K1.trans K2).upd nS) hc2 ⟨oI, ?_, hoc, hod⟩ hv (Nat.le_refl _) fun j' hj' => ?_⟩
  · exact ((Heap.SameBut.update h2 (s.heap.objs.size + 1) _).2 _ hSI.symm).trans (K2 _ _ hoI)
  · have e : j' = 0 := by omega
    rw [e]; exact Int.le_refl _
end
end Tw
/-! min(xs, default=d) of whole numbers -/
namespace Tw
open PySem PySem.Spec PyProof.Rows L2
theorem args_min_dflt (a v : Value) : argsOk "min" ⟨[a], [(Str.ofString "default", v)]⟩ := by unfold argsOk; kernel_rfl
section
variable {prog : Program} {w : World} {A : Around} {E : Value → Shared → Prop} {s : Shared}
theorem mindef_loop {h0 : Heap} {l I S : Addr} {vs : List Value} {d : Value} {R : Result → Shared → Prop} (kf : Nat → Int) (hh : A.handled = none) (hl : h0.IsList l vs.toArray) (hints : ∀ (i : Nat) (v : Value), vs[i]? = some v → ∃ t, v = Value.int (kf i) t) (nI : h0.get? I = none) (nS : h0.get? S = none) (hSI : S ≠ I)
    (hR : ∀ (i : Nat) (v : Value) (h' : Heap) (tk' : Nat), vs[i]? = some v → (∀ j, j < vs.length → kf i ≤ kf j) → Kp h0 h' → R (.ok (.ret v)) { s with heap := h', toks := tk' }) :
    ∀ (r j i : Nat) (h : Heap) (tk : Nat) (vb : Value) (tb : Tok) (c : Nat), vs.length - (j + 1) = r → j + 1 ≤ vs.length → Kp h0 h → h.get? S = some (seqObj "list" #[vb, .int (kf i) tb] c) → h.IsListIter I l (j + 1) → vs[i]? = some vb → i ≤ j → (∀ j', j' ≤ j → kf i ≤ kf j') →
      codeAny (model prog w) A (.builtin "min.loop" ⟨[.ref I, .none, .ref S], [(Str.ofString "default", d)]⟩) R { s with heap := h, toks := tk } := by
  have hlI : l ≠ I := fun z => by
    obtain ⟨o, e, _⟩ := hl
    rw [z, nI] at e
    cases e
  have lst : ∀ {h : Heap}, Kp h0 h → h.IsList l vs.toArray := fun {h} k => by
    obtain ⟨o, e, r⟩ := hl
    exact ⟨o, k _ _ e, r⟩
  have W := Walks.list (prog := prog) (w := w) (A := A.in1) hh I l hlI vs.toArray
  have hsz : vs.toArray.size = vs.length := List.size_toArray ..
  intro r
  induction r with
  | zero =>
    intro j i h tk vb tb c hr hj K hS hit hvb hij hbest
    have hin : j + 1 = vs.length := by omega
    refine codeAny_builtin PySem.F.entry_min_loop ?_
    rw [Around.under_plainId PySem.F.plain_min_loop _]
    show wpAny _ A.in1 (seqItems? (.ref S) >>= _) _ _ _
    refine wpAny_bind (wpAny_seqItems hS rfl ?_)
    show wpAny _ A.in1 (tryCatch (pyNext (.ref I)) _ >>= _) _ _ _
    refine wpAny_bind (wpAny_tryCatch (W.done _ _ _ ⟨by rw [hsz, ← hin]; exact hit, lst K⟩ fun h' tk' hk' => ?_))
    have hS' := hk' S _ (by simpa using hSI) hS
    show wpAny _ A.in1 (updateSeq S (fun _ => #[]) >>= _) _ _ _
    refine wpAny_bind (wpAny_updateSeq hS' rfl (wpAny_bind (wpAny_letGo (wpAny_pure ?_))))
    exact hR i vb _ _ hvb (fun j' hj' => hbest j' (by omega)) ((K.but nI hk').upd nS)
  | succ r ih =>
    intro j i h tk vb tb c hr hj K hS hit hvb hij hbest
    have hlt : j + 1 < vs.length := by omega
    refine codeAny_builtin PySem.F.entry_min_loop ?_
    rw [Around.under_plainId PySem.F.plain_min_loop _]
    show wpAny _ A.in1 (seqItems? (.ref S) >>= _) _ _ _
    refine wpAny_bind (wpAny_seqItems hS rfl ?_)
    show wpAny _ A.in1 (tryCatch (pyNext (.ref I)) _ >>= _) _ _ _
    refine wpAny_bind (wpAny_tryCatch (W.item (j + 1) _ _ _ (by rw [hsz]; exact hlt) ⟨hit, lst K⟩ fun v h' tk' hP hst' hk' => ?_))
    have hv : vs[j + 1]? = some v := by simpa using hP
    obtain ⟨t2, rfl⟩ := hints _ _ hv
    have K1 := K.but nI hk'
    have hS1 := hk' S _ (by simpa using hSI) hS
    obtain ⟨oI, hoI, hoc, hod⟩ := id hst'.1
    refine wpAny_bind (wpAny_pure ?_)
    show wpAny _ A.in1 (tryCatch (holding [.int (kf (j + 1)) t2, .int (kf (j + 1)) t2] (richCompare .Lt (.int (kf (j + 1)) t2) (.int (kf i) tb) >>= _)) _ >>= _) _ _ _
    refine wpAny_bind (wpAny_tryCatch (wpAny_holding (wpAny_bind (CmpOf.ints_lt (prog := prog) (w := w) (A := A.in1) (P := fun i v => ∃ t, v = .int (kf i) t) kf (fun i v h => h) (j + 1) i _ _ _ _ _ ⟨t2, rfl⟩ ⟨tb, rfl⟩ ?_))))
    refine wpAny_bind (wpAny_holding (wpAny_truthy_bool ?_))
    refine wpAny_bind (wpAny_letGo (wpAny_pure ?_))
    have hname : (toString "min" ++ toString ".loop" : String) = "min.loop" := by decide
    by_cases hb' : kf (j + 1) < kf i
    · simp only [hb', decide_true, if_true]
      obtain ⟨c2, hc2⟩ : ∃ c2, (h'.update S (Obj.mapSeq fun _ => #[Value.int (kf (j + 1)) t2, Value.int (kf (j + 1)) t2])).get? S = some (seqObj "list" #[Value.int (kf (j + 1)) t2, Value.int (kf (j + 1)) t2] c2) := ⟨_, get?_update_seq hS1 fun _ => #[Value.int (kf (j + 1)) t2, Value.int (kf (j + 1)) t2]⟩
      refine wpAny_bind (wpAny_updateSeq hS1 rfl (wpAny_bind (wpAny_letGo ?_)))
      rw [hname]
      refine wpAny_pure ⟨plainId_quiet PySem.F.plain_min_loop _, ih (j + 1) (j + 1) _ _ _ t2 c2 (by omega) hlt (K1.upd nS) hc2 ⟨oI, ?_, hoc, hod⟩ hv (Nat.le_refl _) fun j' hj' => ?_⟩
      · exact ((Heap.SameBut.update h' S _).2 I hSI.symm).trans hoI
      · by_cases e : j' = j + 1
        · rw [e]; exact Int.le_refl _
        · have := hbest j' (by omega)
          omega
    · simp only [hb', decide_false, Bool.false_eq_true, if_false]
      refine wpAny_bind (wpAny_letGo ?_)
      rw [hname]
      refine wpAny_pure ⟨plainId_quiet PySem.F.plain_min_loop _, ih (j + 1) i _ _ vb tb c (by omega) hlt K1 hS1 hst'.1 hvb (by omega) fun j' hj' => ?_⟩
      by_cases e : j' = j + 1
      · rw [e]; omega
      · exact hbest j' (by omega)
/-- min(xs, default=d): d of none, else the least -/
theorem mindef {l : Addr} {vs : List Value} {d : Value} {Q : Value → Shared → Prop} (kf : Nat → Int) (hh : A.handled = none) (hl : s.heap.IsList l vs.toArray) (hints : ∀ (i : Nat) (v : Value), vs[i]? = some v → ∃ t, v = Value.int (kf i) t)
    (h0 : vs = [] → ∀ h' tk', Kp s.heap h' → Q d { s with heap := h', toks := tk' })
    (hQ : ∀ (i : Nat) (v : Value) (h' : Heap) (tk' : Nat), vs[i]? = some v → (∀ j, j < vs.length → kf i ≤ kf j) → Kp s.heap h' → Q v { s with heap := h', toks := tk' }) :
    wpAny (model prog w) A (call (.builtin "min") [.ref l] [(Str.ofString "default", d)]) Q E s := by
  have hname : (toString "min" ++ toString ".loop" : String) = "min.loop" := by decide
  refine kmk_tree PySem.F.kind_min PySem.F.plain_min PySem.F.entry_min (args_min_dflt _ _) ?_
  show wpAny _ A.in1 (Builtin.Builtins.bindParams "min" ["key", "default"] 0 ⟨[], [(Str.ofString "default", d)]⟩ >>= _) _ _ s
  refine wpAny_bind (wpAny_of_eq (show Builtin.Builtins.bindParams "min" ["key", "default"] 0 ⟨[], [(Str.ofString "default", d)]⟩ = pure [none, some d] from rfl) ?_)
  refine wpAny_bind (wpAny_pure (wpAny_bind (wpAny_pyIter_list hl (wpAny_bind (wpAny_newList ?_ (Nat.zero_le _))))))
  rw [hname]
  have hS : (s.heap.push { cls := .type "list_iterator", data := .fields #[.ref l, .int 0 0] }).objs.size = s.heap.objs.size + 1 := size_push' ..
  have nI : s.heap.get? s.heap.objs.size = none := Heap.get?_none_of_le (Nat.le_refl _)
  have nS : s.heap.get? (s.heap.objs.size + 1) = none := Heap.get?_none_of_le (Nat.le_succ _)
  have hSI : s.heap.objs.size + 1 ≠ s.heap.objs.size := Nat.succ_ne_self _
  have hlI : l ≠ s.heap.objs.size := fun z => by
    obtain ⟨o, e, _⟩ := hl
    rw [z, nI] at e
    cases e
  have K0 : Kp s.heap ((s.heap.push { cls := .type "list_iterator", data := .fields #[.ref l, .int 0 0] }).push (seqObj "list" #[] 0)) := fun b o e => Heap.get?_push_of_some _ (Heap.get?_push_of_some _ e)
  have gI : ((s.heap.push { cls := .type "list_iterator", data := .fields #[.ref l, .int 0 0] }).push (seqObj "list" #[] 0)).get? s.heap.objs.size = some { cls := .type "list_iterator", data := .fields #[.ref l, .int 0 0] } :=
    Heap.get?_push_of_some _ (Heap.get?_push_size _ rfl)
  have gS : ((s.heap.push { cls := .type "list_iterator", data := .fields #[.ref l, .int 0 0] }).push (seqObj "list" #[] 0)).get? (s.heap.objs.size + 1) = some (seqObj "list" #[] 0) := by
    rw [← hS]; exact Heap.get?_push_size _ rfl
  refine wpAny_pure ⟨plainId_quiet PySem.F.plain_min_loop _, ?_⟩
  rw [hS]
  have W := Walks.list (prog := prog) (w := w) (A := A.in1) hh s.heap.objs.size l hlI vs.toArray
  have hsz : vs.toArray.size = vs.length := List.size_toArray ..
  refine codeAny_builtin PySem.F.entry_min_loop ?_
  rw [Around.under_plainId PySem.F.plain_min_loop _]
  show wpAny _ A.in1 (seqItems? (.ref _) >>= _) _ _ _
  refine wpAny_bind (wpAny_seqItems gS rfl ?_)
  show wpAny _ A.in1 (tryCatch (pyNext (.ref s.heap.objs.size)) _ >>= _) _ _ _
  have hl0 : ((s.heap.push { cls := .type "list_iterator", data := .fields #[.ref l, .int 0 0] }).push (seqObj "list" #[] 0)).IsList l vs.toArray := by
    obtain ⟨o, e, r⟩ := hl
    exact ⟨o, K0 _ _ e, r⟩
  by_cases hne : 0 < vs.length
  · refine wpAny_bind (wpAny_tryCatch (W.item 0 _ _ _ (by rw [hsz]; exact hne) ⟨⟨_, gI, rfl, rfl⟩, hl0⟩ fun v h' tk' hP hst' hk' => ?_))
    have hv : vs[0]? = some v := by simpa using hP
    obtain ⟨t2, rfl⟩ := hints _ _ hv
    have K1 : Kp s.heap h' := K0.but nI hk'
    have hS1 := hk' (s.heap.objs.size + 1) _ (by simpa using hSI) gS
    obtain ⟨oI, hoI, hoc, hod⟩ := id hst'.1
    refine wpAny_bind (wpAny_pure ?_)
    obtain ⟨c2, hc2⟩ : ∃ c2, (h'.update (s.heap.objs.size + 1) (Obj.mapSeq fun _ => #[Value.int (kf 0) t2, Value.int (kf 0) t2])).get? (s.heap.objs.size + 1) = some (seqObj "list" #[Value.int (kf 0) t2, Value.int (kf 0) t2] c2) := ⟨_, get?_update_seq hS1 fun _ => #[Value.int (kf 0) t2, Value.int (kf 0) t2]⟩
    show wpAny _ A.in1 (updateSeq (s.heap.objs.size + 1) (fun _ => #[Value.int (kf 0) t2, Value.int (kf 0) t2]) >>= _) _ _ _
    refine wpAny_bind (wpAny_updateSeq hS1 rfl ?_)
    rw [hname]
    refine wpAny_pure ⟨plainId_quiet PySem.F.plain_min_loop _, mindef_loop kf hh hl hints nI nS hSI hQ _ 0 0 _ _ _ t2 c2 rfl hne (K1.upd nS) hc2 ⟨oI, ?_, hoc, hod⟩ hv (Nat.le_refl _) fun j' hj' => ?_⟩
    · exact ((Heap.SameBut.update h' (s.heap.objs.size + 1) _).2 _ hSI.symm).trans hoI
    · have e : j' = 0 := by omega
      rw [e]; exact Int.le_refl _
  · have e : vs = [] := List.eq_nil_of_length_eq_zero (by omega)
    refine wpAny_bind (wpAny_tryCatch (W.done _ _ _ ⟨by rw [hsz, e]; exact ⟨_, gI, rfl, rfl⟩, hl0⟩ fun h' tk' hk' => ?_))
    refine wpAny_bind (wpAny_rule (wpAny_pure ?_))
    exact h0 e _ _ (K0.but nI hk')
end
/-- min(xs, default=d) of ints, by values -/
def rMinDef (K : PySem.W.Frag) : List V → List V → Hp → VK → Prop := fun vs zs H Q => ∃ (a : Addr) (ns : List Int) (d : Int), vs = [V.ref a] ∧ zs = [.int d] ∧ SqL K H a (ns.map V.int) ∧ (ns = [] → Q (.int d) H) ∧ ∀ m ∈ ns, (∀ y ∈ ns, m ≤ y) → Q (.int m) H
theorem cr_minDef {X : Cx} (hc : X.calm = true) : CallRK X (.builtin "min") [Str.ofString "default"] (rMinDef X.K) := by
  intro pins s σ H vs zs us ws Q I r rz h
  obtain ⟨a, ns, d, rfl, rfl, hs, q0, q⟩ := h
  obtain ⟨u, rfl, ru⟩ := vals1 r
  obtain rfl : u = Value.ref a := ru
  obtain ⟨w1, rfl, t, rfl⟩ := vals1 rz
  obtain ⟨its, rv, hl, hz⟩ := I.list hs
  have hint : ∀ (i : Nat) (v : Value), its[i]? = some v → ∃ t, v = Value.int (ns.getD i 0) t := fun i v hv => by
    have hi := (List.getElem?_eq_some_iff.mp hv).1
    have hl2 := rv.length
    rw [List.length_map] at hl2
    obtain ⟨u, e1, e2⟩ := rv.get (i := i) (x := .int (ns.getD i 0)) (by rw [List.getElem?_map, List.getD_eq_getElem?_getD, List.getElem?_eq_getElem (by omega)]; rfl)
    rw [hv] at e1
    cases e1
    exact e2
  refine mindef (fun i => ns.getD i 0) (I.ok.hd hc) hl.isList hint (fun e h' tk' k => ?_) (fun i v h' tk' hv hm k => ?_)
  · have e0 : ns = [] := by
      have hl2 := rv.length
      rw [e, List.length_map] at hl2
      exact List.eq_nil_of_length_eq_zero hl2
    exact ⟨.int d, H, I.kept k, ⟨t, rfl⟩, q0 e0⟩
  · obtain ⟨t', rfl⟩ := hint i v hv
    have hi := (List.getElem?_eq_some_iff.mp hv).1
    have hl2 := rv.length
    rw [List.length_map] at hl2
    have eg : ∀ j, j < ns.length → ∃ h, ns.getD j 0 = ns[j]'h := fun j hj => ⟨hj, by rw [List.getD_eq_getElem?_getD, List.getElem?_eq_getElem hj]; rfl⟩
    refine ⟨.int _, H, I.kept k, ⟨t', rfl⟩, q _ ?_ fun y hy => ?_⟩
    · obtain ⟨hj, e⟩ := eg i (by omega)
      rw [e]; exact List.getElem_mem hj
    · obtain ⟨j, hj, e⟩ := List.getElem_of_mem hy
      have := hm j (by omega)
      obtain ⟨_, e2⟩ := eg j hj
      simp only [e2, e] at this
      exact this
/-- xs[i] += e: the item read -/
def rGetL (K : PySem.W.Frag) : V → V → Hp → VK → Prop := fun x y H Q => ∃ (p : Addr) (xs : List V) (j : Nat) (v : V), x = .ref p ∧ y = .int (j : Nat) ∧ SqL K H p xs ∧ xs[j]? = some v ∧ Q v H
theorem get_list {X : Cx} : PGet X (rGetL X.K) := by
  intro pins s σ H o i ov iv Q I ro ri h
  obtain ⟨p, xs, j, v, rfl, rfl, hq, he, q⟩ := h
  cases ro
  obtain ⟨t, rfl⟩ := ri
  obtain ⟨its, r, pl, hz⟩ := I.list hq
  obtain ⟨u, eu, ru⟩ := r.get he
  have hj := (List.getElem?_eq_some_iff.mp he).1
  have hn := line63
  refine wpAny_getItem_list pl.isList (by omega) (by omega) (x := u) ?_ ⟨v, H, I, ru, q⟩
  simpa using eu
end Tw
/-! sorted(range(n), key=f); a lambda called -/
namespace Tw
open PySem PySem.Spec PyProof.Rows L2 PySem.W
theorem each_ints {R : Value → Nat → Prop} (hR : ∀ v k, R v k → ∃ t, v = Value.int (Int.ofNat k) t) {vs : List Value} {ks : List Nat} (e : EachIs R vs ks) : Vals (ks.map fun k => V.int (Int.ofNat k)) vs := by
  induction e with
  | nil => exact .nil
  | cons h _ ih => exact .cons (hR _ _ h) ih
theorem each_range {acc : Array Value} {n : Nat} (h : ItemsOf (fun i v => ∃ t, v = Value.int (0 + i * 1) t) acc n) : EachIs (fun v (k : Nat) => ∃ t, v = Value.int (Int.ofNat k) t) acc.toList (List.range n) := by
  obtain ⟨h1, h2⟩ := h
  have go : ∀ (l : List Value) (a : Nat), (∀ (j : Nat) (v : Value), l[j]? = some v → ∃ t, v = Value.int (Int.ofNat (a + j)) t) → EachIs (fun v (k : Nat) => ∃ t, v = Value.int (Int.ofNat k) t) l (List.range' a l.length) := by
    intro l
    induction l with
    | nil => intro a _; exact .nil
    | cons x l ih =>
      intro a hx
      rw [List.length_cons, List.range'_succ]
      refine .cons (hx 0 x rfl) (ih (a + 1) fun j v hv => ?_)
      have := hx (j + 1) v hv
      rw [show a + (j + 1) = a + 1 + j by omega] at this
      exact this
  have := go acc.toList 0 fun j v hv => by
    obtain ⟨t, ht⟩ := h2 j v (by simpa using hv)
    refine ⟨t, ?_⟩
    rw [ht, show (0 : Int) + (j : Int) * 1 = Int.ofNat (0 + j) by simp]
  rw [Array.length_toList, h1] at this
  rw [List.range_eq_range']
  exact this
theorem depth_of_int (i : Int) : PyData.depth (.int i) = 0 := rfl
section
variable {prog : Program} {w : World} {A : Around} {E : Value → Shared → Prop} {s : Shared}
theorem sortrange {r q : Addr} {n : Nat} {t u v : Tok} {Q : Value → Shared → Prop} (kf : Nat → Int) (hh : A.handled = none) (hr : IsRange s.heap r 0 n 1 t u v) (hn : n ≤ 1000) (hu : A.units + 8 < cLine)
    (turn : ∀ (i : Nat) (tt : Tok), i < n → ∀ (h : Heap) (tk : Nat), Kp s.heap h → Gives prog w A.in1.in1 s (.ref q) (.int (Int.ofNat i) tt) (kf i) h tk)
    (hQ : ∀ (ks : List Nat) (h1 h' : Heap) (tk' : Nat) (vs : List Value) (c : Nat), ks.Perm (List.range n) → ks.Pairwise (fun a b => kf a ≤ kf b) → Kp s.heap h1 → Kp h1 h' → h'.get? h1.objs.size = some (seqObj "list" vs.toArray c) → Vals (ks.map fun k => V.int (Int.ofNat k)) vs → Q (.ref h1.objs.size) { s with heap := h', toks := tk' }) :
    wpAny (model prog w) A (call (.builtin "sorted") [.ref r] [(Str.ofString "key", .ref q)]) Q E s := by
  have big : (2 : Nat) ^ 24 = 16777216 := by decide
  refine call_function_entry_kw kind_sorted plain_sorted entry_sorted (ksk_s1 _ _) ?_
  unfold Builtin.«sorted»
  refine wpAny_bind (m := checkCount "sorted" 1 1 _) (wpAny_pure ?_)
  refine wpAny_bind (collect_range (n := n) hh hr (small_one (by omega) (by omega) (by omega) (by omega)) (by rw [rangeSize_one]; split <;> omega) (by omega) fun h1 tk1 acc hk hacc => ?_)
  have hR := each_range hacc
  have hlen : acc.toList.length = n := by rw [Array.length_toList]; exact hacc.1
  refine wpAny_bind (wpAny_newList ?_ (by rw [hlen, sizeLine_eq]; omega))
  have hoL : (h1.push (seqObj "list" acc.toList.toArray 0)).get? h1.objs.size = some (seqObj "list" acc.toList.toArray 0) := Heap.get?_push_size _ rfl
  have K1 : Kp h1 (h1.push (seqObj "list" acc.toList.toArray 0)) := fun b o e => Heap.get?_push_of_some _ e
  have kb : ∀ {g : Heap}, KeepsBut h1.objs.size (h1.push (seqObj "list" acc.toList.toArray 0)) g → Kp h1 g := fun {g} k b o e => k b o (Nat.ne_of_lt (Heap.lt_size e)) (K1 b o e)
  refine wpAny_bind (wpAny_holding (wpAny_call_entry_kw slot_list_sort ⟨_, hoL, rfl⟩ entry_list_sort ?_ (ksk_l1 _ _)))
  rw [ksk_t1]
  refine keyH_tree (s := { s with heap := h1.push (seqObj "list" acc.toList.toArray 0), toks := tk1 }) (kz := (List.range n).map fun i => PyData.int (kf i)) hoL (by rw [List.length_map, List.length_range, hlen]) (by rw [hlen, sizeLine_eq]; omega)
    (fun d hd d' hd' => ?_) (.inr fun d hd => ?_) (fun d hd => ?_) (fun i v k hv hk' h tk kp => ?_) fun h' tk out c kp hD ko => ?_
  · obtain ⟨i, _, rfl⟩ := List.mem_map.mp hd
    obtain ⟨j, _, rfl⟩ := List.mem_map.mp hd'
    rfl
  · obtain ⟨i, _, rfl⟩ := List.mem_map.mp hd
    exact ⟨(fun z => by cases z), (fun xs z => by cases z)⟩
  · obtain ⟨i, _, rfl⟩ := List.mem_map.mp hd
    show A.in1.in1.units + 0 < cLine
    show A.units + 1 + 1 + 0 < cLine
    omega
  · have hi : i < n := by
      have := (List.getElem?_eq_some_iff.mp hv).1
      omega
    rw [List.getElem?_map, List.getElem?_range hi] at hk'
    cases hk'
    obtain ⟨tt, ett⟩ := hacc.2 i v (by simpa using hv)
    rw [show (0 : Int) + (i : Int) * 1 = Int.ofNat i by simp] at ett
    subst ett
    refine wpAny_mono (turn i tt hi h tk (fun b o e => kb kp b o (hk b o e))) (fun x s' hx => ?_) fun _ _ z => z
    obtain ⟨h2, tk2, t2, rfl, rfl, k2⟩ := hx
    exact ⟨h2, tk2, rfl, k2, Reads.int _ _⟩
  · refine ⟨_, rfl, wpAny_pure ⟨_, rfl, ?_⟩⟩
    have ke := keyedOut_each (fun i => PyData.int (kf i)) ko hR
    rw [dataLe_int] at ke
    have pw := List.pairwise_mergeSort (le := fun a b => decide (kf a ≤ kf b)) (fun a b c h1 h2 => decide_eq_true (Int.le_trans (of_decide_eq_true h1) (of_decide_eq_true h2))) (fun a b => by
      rcases Int.le_total (kf a) (kf b) with z | z
      · simp [z]
      · simp [z]) (List.range n)
    exact hQ _ h1 h' tk out c (List.mergeSort_perm _ _) (pw.imp fun h => of_decide_eq_true h) hk (kb kp) hD (each_ints (fun _ _ h => h) ke)
/-- a lambda of one name, called -/
theorem lam_call {f c' : Addr} {qual x : Str} {params : Arguments} {body : Expr} {scope : Scope} {cl : List (Str × Addr)} {pm ctv v : Value} {k : Int} {h : Heap} {tk : Nat} (hroom : A.depth < recursionLimit)
    (hf : h.get? f = some (kla_obj "<lambda>" qual params body scope cl pm c' ctv)) (hcd : h.CodeRec (.ref c') qual) (lim : h.NoLimit) (hco : scope.isCoroutine = false) (hgen : scope.isGenerator = false) (hk : scope.kind = .function) (hcell : ∀ y ∈ scope.names, y.2 ≠ .cell)
    (hbind : bindArgs (kla_fn "<lambda>" qual params body scope cl pm (.ref c') ctv) ⟨[v], []⟩ = pure [(x, v)]) (hx : scope.names.lookup x = some .local)
    (hbody : ∀ (h1 : Heap) (tk1 : Nat), Kp h h1 → h1.Ns h.objs.size (fun y => [(x, v)].reverse.lookup y) →
      wpAny (model prog w) (A.deeper (envX qual scope h.objs.size f (.ref c') cl)) (eval body (envX qual scope h.objs.size f (.ref c') cl)) (fun u s' => ∃ tk' t, u = .int k t ∧ s' = { s with heap := h1, toks := tk' }) (fun _ _ => False) { s with heap := h1, toks := tk1 }) :
    Gives prog w A s (.ref f) v k h tk := by
  unfold Gives
  refine wpAny_call (codeAny_mono (R := fun r s' => ∃ u, r = .ok (.ret u) ∧ ∃ h' tk' t, u = .int k t ∧ s' = { s with heap := h', toks := tk' } ∧ Kp h h') ?_ fun r s' hq => ?_)
  · refine kla_callFunE (s := { s with heap := h, toks := tk }) hroom hf rfl hco hgen rfl hcd ?_
    rw [hbind]
    refine wpAny_pure (wpAny_newFunctionEnv hcell (fun y hy => by
      have e : y = (x, v) := by simpa using hy
      rw [e]; exact hx) (fun h1 hns hsb => ⟨lim.fresh _ hsb, ?_⟩) hk)
    show codeAny _ _ (.expr body (envX qual scope h.objs.size f (.ref c') cl)) _ _
    have kp : Kp h h1 := fun b o e => hsb.extBut b o (Nat.ne_of_lt (Heap.lt_size e)) (Heap.get?_push_of_some _ e)
    refine kla_codeExpr (wpAny_mono (hbody h1 _ kp hns) (fun u s' hu => ?_) fun _ _ z => z.elim)
    obtain ⟨tk', t, rfl, rfl⟩ := hu
    exact ⟨_, rfl, _, _, t, rfl, rfl, kp⟩
  · obtain ⟨u, rfl, h', tk', t, rfl, rfl, kp⟩ := hq
    exact ⟨h', tk', t, rfl, rfl, kp⟩
end
/-- range(n), kept as an object -/
theorem cr_range1 {X : Cx} : CallR X (.type "range") (fun vs H Q => ∃ j, vs = [V.int j] ∧ ∀ p, H p = none → Q (.ref p) (L2.upd H p (.rng 0 j))) := by
  intro pins s σ H vs us Q I r h
  obtain ⟨j, rfl, q⟩ := h
  obtain ⟨u1, rfl, t, rfl⟩ := vals1 r
  refine call_range_1 ⟨.ref s.heap.objs.size, L2.upd H s.heap.objs.size (.rng 0 j), I.laid (fun b o e => Heap.get?_push_of_some _ e) (Nat.le_refl _) ?_, rfl, q _ (I.hok.fresh (Nat.le_refl _))⟩
  exact ⟨s.toks, t, s.toks + 1, Heap.get?_push_size _ rfl⟩
end Tw
/-! min(xs, key=lambda ..), sorted(range(n), key=lambda ..): the two lambdas of the program -/
namespace Tw
open PySem PySem.Spec PyProof.Rows L2 PySem.W LamX
/-- a lambda of one name x of its own, that reads one name y of the def around -/
structure LamOne (sc scope : Scope) (x y : Str) : Prop where
  kind : scope.kind = .function
  co : scope.isCoroutine = false
  gen : scope.isGenerator = false
  nocell : ∀ q ∈ scope.names, q.2 ≠ .cell
  own : scope.names.lookup x = some .local
  fr : scope.names.lookup y = some .free
  up : ∀ q ∈ scope.names, q.2 = .free → sc.names.lookup q.1 = some .cell
theorem LamOne.has {X : Cx} {scope : Scope} {x y : Str} (L : LamOne X.env.scope scope x y) (ok : X.Ok) : ∀ q ∈ scope.names, q.2 = .free → ∃ c, X.env.cells.lookup q.1 = some c := fun q hq e => ok.has _ (.inl (L.up q hq e))
section
variable {X : Cx} {pins : List (Addr × Obj)} {σ : L2.St} {H : Hp} {s : Shared}
/-- the lambda at f called at v: its body is read where x is v and y is what the slot iy holds -/
theorem lam_gives {A : Around} {f c' : Addr} {x y : Str} {params : Arguments} {body : Expr} {scope : Scope} {pm ctv v : Value} {k : Int} {h : Heap} {tk : Nat} {iy : Nat} {z : V} (I : Inv X pins σ H s) (hroom : A.depth < recursionLimit) (L : LamOne X.env.scope scope x y)
    (hf : s.heap.get? f = some (kla_obj "<lambda>" (X.env.qual ++ "<lambda>") params body scope (cloFrom X.env.cells scope.names []) pm c' ctv)) (hco : H c' = some (CodeO c' (X.env.qual ++ "<lambda>")))
    (hN : X.N[iy]? = some y) (hσ : σ[iy]? = some (some z)) (kp : Kp s.heap h) (hdx : (x == ("__debug__" : Str)) = false) (hdy : (y == ("__debug__" : Str)) = false) (hcy : (y == ("__classdict__" : Str)) = false)
    (hbind : bindArgs (kla_fn "<lambda>" (X.env.qual ++ "<lambda>") params body scope (cloFrom X.env.cells scope.names []) pm (.ref c') ctv) ⟨[v], []⟩ = pure [(x, v)])
    (hbody : ∀ (env : Env) (u : Value) (h1 : Heap) (tk1 : Nat) (B : Around), RelV z u → Kp s.heap h1 →
      (∀ (pos : Pos) (t2 : Nat) (Q : Value → Shared → Prop) (E : Value → Shared → Prop), Q v { s with heap := h1, toks := t2 } → wpAny (model X.prog X.w) B (eval (.Name x pos) env) Q E { s with heap := h1, toks := t2 }) →
      (∀ (pos : Pos) (t2 : Nat) (Q : Value → Shared → Prop) (E : Value → Shared → Prop), Q u { s with heap := h1, toks := t2 } → wpAny (model X.prog X.w) B (eval (.Name y pos) env) Q E { s with heap := h1, toks := t2 }) →
      wpAny (model X.prog X.w) B (eval body env) (fun r s' => ∃ tk' t, r = .int k t ∧ s' = { s with heap := h1, toks := tk' }) (fun _ _ => False) { s with heap := h1, toks := tk1 }) :
    Gives X.prog X.w A s (.ref f) v k h tk := by
  obtain ⟨⟨oc, vs, t, hoc, hdc, hvc⟩, _, _⟩ := I.hok c' _ hco
  have hyc : X.env.scope.names.lookup y = some .cell := L.up _ (PySem.mem_of_lookup L.fr) rfl
  obtain ⟨m, hn, hl⟩ := I.loc
  obtain ⟨u, ru, lk⟩ := hl iy y z hN hσ (.inr (.inl hyc))
  obtain ⟨c, hc, hcell⟩ : ∃ c, X.env.cells.lookup y = some c ∧ s.heap.IsCell c (some u) := by
    rcases lk with ⟨e, _⟩ | ⟨_, c, e1, e2⟩
    · have e : X.env.scope.names.lookup y = some .local := e
      rw [hyc] at e
      cases e
    · exact ⟨c, e1, e2⟩
  have hcl : (cloFrom X.env.cells scope.names []).lookup y = some c := by
    obtain ⟨c2, h2⟩ := mem_lookup (cloFrom_has (cells := X.env.cells) (acc := []) (PySem.mem_of_lookup L.fr))
    rcases cloFrom_mem (PySem.mem_of_lookup h2) with hm | ⟨_, e⟩
    · cases hm
    · rw [h2, e, hc]
      rfl
  refine lam_call (x := x) hroom (kp _ _ hf) ⟨c', oc, vs, t, rfl, kp _ _ hoc, hdc, hvc⟩ (I.nolimit.keeps kp) L.co L.gen L.kind L.nocell hbind L.own fun h1 tk1 k1 hns => ?_
  refine hbody _ u h1 tk1 _ ru (kp.trans k1) (fun pos t2 Q E hq => ?_) (fun pos t2 Q E hq => ?_)
  · exact wpAny_Name (wpAny_loadName_local L.kind L.own hns (by show List.lookup x [(x, v)] = some v; rw [List.lookup_cons, beq_self_eq_true]) hq) hdx
  · refine wpAny_Name (wpAny_loadName_free L.kind L.fr hcl (v := u) ?_ hq hcy) hdy
    obtain ⟨o, ho, hd⟩ := hcell
    exact ⟨o, k1 _ _ (kp _ _ ho), hd⟩
end
/-- a dict's item, the state kept but for the tokens -/
theorem dict_item {X : Cx} {pins : List (Addr × Obj)} {σ : L2.St} {H : Hp} {s : Shared} {A : Around} {E : Value → Shared → Prop} {d : Addr} {fl : List (Int × Int)} {x : Int} {t : Tok} {h1 : Heap} {t2 : Nat} (I : Inv X pins σ H s) (kp : Kp s.heap h1) (hd : H d = some (.dK (kd fl))) (hx : x ∈ keys fl) {Q : Value → Shared → Prop}
    (hQ : ∀ tk' t', Q (.int (look fl x) t') { s with heap := h1, toks := tk' }) : wpAny (model X.prog X.w) A (getItem (.ref d) (.int x t)) Q E { s with heap := h1, toks := t2 } := by
  have J : Inv X pins σ H { s with heap := h1, toks := t2 } := I.kept kp
  obtain ⟨z, hds, vs, rel, dd⟩ := J.hok d _ hd
  obtain ⟨w', hw, t', rfl⟩ := RelO.some_of (v := .int (look fl x)) (o := valueAt vs (Sum.inl x : Key)) (by rw [← kd_some hx]; exact rel.val _)
  exact wpAny_getItem_of (kV_is (k := Sum.inl x) ⟨t, rfl⟩) dd.mapOf hw (hQ _ t')
/-- depth[place], read in a lambda -/
theorem body_depth {X : Cx} {pins : List (Addr × Obj)} {σ : L2.St} {H : Hp} {s : Shared} {B : Around} {d : Addr} {fl : List (Int × Int)} {x y : Str} {n : Int} {t : Tok} {h1 : Heap} {tk1 : Nat} {env : Env} {p1 p2 p3 : Pos} (I : Inv X pins σ H s) (kp : Kp s.heap h1) (hd : H d = some (.dK (kd fl))) (hx : n ∈ keys fl)
    (ex : ∀ (pos : Pos) (t2 : Nat) (Q : Value → Shared → Prop) (E : Value → Shared → Prop), Q (.int n t) { s with heap := h1, toks := t2 } → wpAny (model X.prog X.w) B (eval (.Name x pos) env) Q E { s with heap := h1, toks := t2 })
    (ey : ∀ (pos : Pos) (t2 : Nat) (Q : Value → Shared → Prop) (E : Value → Shared → Prop), Q (.ref d) { s with heap := h1, toks := t2 } → wpAny (model X.prog X.w) B (eval (.Name y pos) env) Q E { s with heap := h1, toks := t2 }) :
    wpAny (model X.prog X.w) B (eval (.Subscript (.Name y p1) (.Name x p2) p3) env) (fun r s' => ∃ tk' t, r = .int (look fl n) t ∧ s' = { s with heap := h1, toks := tk' }) (fun _ _ => False) { s with heap := h1, toks := tk1 } := by
  have J : Inv X pins σ H { s with heap := h1, toks := tk1 } := I.kept kp
  refine subD_of PySem.F.slot_dict_getitem.lookup (fun _ _ => rfl) (ey p1 tk1 _ _ (ex p2 tk1 _ _ ⟨(isD_at J (.inl ⟨_, .inl hd⟩)).1, ?_⟩))
  exact dict_item I kp hd hx fun tk' t' => ⟨tk', t', rfl, rfl⟩
/-- 0 - top[k][1], read in a lambda -/
theorem body_top {X : Cx} {pins : List (Addr × Obj)} {σ : L2.St} {H : Hp} {s : Shared} {B : Around} {a : Addr} {ts : List Addr} {ps : List (Int × Int)} {x y : Str} {i : Nat} {o : Int × Int} {t : Tok} {h1 : Heap} {tk1 : Nat} {env : Env} {p0 p1 p2 p3 p4 p5 p6 : Pos} {k0 k1 : Nat} (I : Inv X pins σ H s) (kp : Kp s.heap h1)
    (ha : H a = some (.lst (ts.map V.ref))) (hT : TL H ts ps) (ho : ps[i]? = some o)
    (ex : ∀ (pos : Pos) (t2 : Nat) (Q : Value → Shared → Prop) (E : Value → Shared → Prop), Q (.int (Int.ofNat i) t) { s with heap := h1, toks := t2 } → wpAny (model X.prog X.w) B (eval (.Name x pos) env) Q E { s with heap := h1, toks := t2 })
    (ey : ∀ (pos : Pos) (t2 : Nat) (Q : Value → Shared → Prop) (E : Value → Shared → Prop), Q (.ref a) { s with heap := h1, toks := t2 } → wpAny (model X.prog X.w) B (eval (.Name y pos) env) Q E { s with heap := h1, toks := t2 }) :
    wpAny (model X.prog X.w) B (eval (.BinOp (.Constant (.int 0) k0 p0) .Sub (.Subscript (.Subscript (.Name y p1) (.Name x p2) p3) (.Constant (.int 1) k1 p4) p5) p6) env) (fun r s' => ∃ tk' t, r = .int (0 - o.2) t ∧ s' = { s with heap := h1, toks := tk' }) (fun _ _ => False) { s with heap := h1, toks := tk1 } := by
  have hn := line63
  have J : ∀ tk, Inv X pins σ H { s with heap := h1, toks := tk } := fun tk => I.kept kp
  have hi : i < ts.length := by
    have h2 := (List.getElem?_eq_some_iff.mp ho).1
    have h3 := hT.1
    omega
  obtain ⟨tt, ett⟩ : ∃ tt, ts[i]? = some tt := ⟨_, List.getElem?_eq_getElem hi⟩
  have htup := hT.2 i tt o ett ho
  refine wpAny_BinOp (wpAny_Constant_int ?_)
  refine Subscript_ (Subscript_ (ey p1 _ _ _ (ex p2 _ _ _ ?_)))
  obtain ⟨its, r, pl, hz⟩ := (J (tk1 + 1)).list (sqL ha)
  obtain ⟨u, eu, ru⟩ := r.get (get_ref ett)
  obtain rfl : u = Value.ref tt := ru
  have hlen := r.length
  rw [List.length_map] at hlen hz
  refine item_listR pl.isList (by show (0 : Int) ≤ (i : Int); omega) (by show (i : Int) < 2 ^ 63; omega) (x := .ref tt) (by show its.toArray[(i : Int).toNat]? = _; rw [Int.toNat_natCast]; simpa using eu) ?_ rfl
  refine wpAny_Constant_int ?_
  obtain ⟨its2, r2, pl2, hz2⟩ := (J (tk1 + 1 + 1)).tuple (sqT htup)
  obtain ⟨u1, u2, rfl, ⟨t1, rfl⟩, t2, rfl⟩ := vals2 r2
  refine subscriptTail_builtinR (x := .int o.2 t2) pl2.typeIs slot_tuple_getitem.lookup (getItem_tuple (j := 1) pl2 (by decide) (by decide) rfl rfl ⟨rfl, ?_⟩) rfl
  exact sub_int ⟨_, _, rfl, rfl⟩
end Tw
/-! min(xs, key=lambda x: y[x]), sorted(range, key=lambda x: 0 - y[x][1]), as rules -/
namespace Tw
open PySem PySem.Spec PyProof.Rows L2 PySem.W LamX
/-- a list of one value -/
def One (R : V → Hp → Prop) : List V → Hp → Prop := fun vs H => match vs with
  | [x] => R x H
  | _ => False
theorem One.out {R : V → Hp → Prop} : ∀ {vs : List V} {H : Hp}, One R vs H → ∃ x, vs = [x] ∧ R x H
  | [x], _, h => ⟨x, rfl, h⟩
  | [], _, h => False.elim h
  | _ :: _ :: _, _, h => False.elim h
def tMinLam (T : List (Addr × Str)) (iy : Nat) (te : TE) : TE := fun σ H Q => te σ H fun x H1 => ∃ (a d : Addr) (ns : List Int) (fl : List (Int × Int)), x = .ref a ∧ IL H1 a ns ∧ ns ≠ [] ∧ Tabs T H1 ∧ σ[iy]? = some (some (.ref d)) ∧ H1 d = some (.dK (kd fl)) ∧ (∀ n ∈ ns, n ∈ keys fl) ∧
  ∀ H2 m, ExtN H1 H2 → Tabs T H2 → m ∈ ns → (∀ y ∈ ns, look fl m ≤ look fl y) → Q (.int m) H2
def tSortLam (T : List (Addr × Str)) (iy : Nat) (te : TE) : TE := fun σ H Q => te σ H fun x H1 => ∃ (r a : Addr) (n : Nat) (ts : List Addr) (ps : List (Int × Int)), x = .ref r ∧ H1 r = some (.rng 0 n) ∧ n ≤ 1000 ∧ ps.length = n ∧ Tabs T H1 ∧ σ[iy]? = some (some (.ref a)) ∧ H1 a = some (.lst (ts.map V.ref)) ∧ TL H1 ts ps ∧
  ∀ (H2 : Hp) (ks : List Nat) (p : Addr), ExtN H1 H2 → Tabs T H2 → H2 p = none → ks.Perm (List.range n) → ks.Pairwise (fun i j => 0 - (ps.getD i (0, 0)).2 ≤ 0 - (ps.getD j (0, 0)).2) → Q (.ref p) (L2.upd H2 p (.lst (ks.map fun k => V.int (Int.ofNat k))))
theorem tl_ext {H H' : Hp} {ts : List Addr} {ps : List (Int × Int)} (e : ExtN H H') (h : TL H ts ps) : TL H' ts ps := ⟨h.1, fun i t o e1 e2 => e _ _ (h.2 i t o e1 e2) fun _ z => by cases z⟩
section
variable {X : Cx} {x y : Str} {T : List (Addr × Str)} {c P : Addr} {params : Arguments} {scope : Scope} {e : Expr} {te : TE} {k iy : Nat} {p pos lpos kpos p0 p1 p2 p3 p4 p5 p6 : Pos} {k0 k1 : Nat}
theorem pe_minLam (hc : X.calm = true) (hg : Gl X "min") (hm : X.mg "min" = none) (he : PE X e te) (TB : TabB X.base X.mg c P) (hcode : X.env.code = .ref c) (hmT : (P, X.env.qual ++ "<lambda>") ∈ T) (hu : ∀ q ∈ T, q.1 = P → q.2 = X.env.qual ++ "<lambda>") (hr : Room (k + 2) X.A)
    (L : LamOne X.env.scope scope x y) (hdef : defaultsOf params X.env = ([], [])) (hN : X.N[iy]? = some y) (hdx : (x == ("__debug__" : Str)) = false) (hdy : (y == ("__debug__" : Str)) = false) (hcy : (y == ("__classdict__" : Str)) = false)
    (hbind : ∀ (q : Str) (cl : List (Str × Addr)) (pm cv ctv v : Value), bindArgs (kla_fn "<lambda>" q params (.Subscript (.Name y p1) (.Name x p2) p3) scope cl pm cv ctv) ⟨[v], []⟩ = pure [(x, v)])
    (hst : starEach [e] X.env = (false, eval e X.env) :: starEach [] X.env := by rfl) :
    PE X (.Call (.Name "min" p) [e] [⟨some "key", .Lambda params (.Subscript (.Name y p1) (.Name x p2) p3) scope lpos, kpos⟩] pos) (tMinLam T iy te) := by
  refine ⟨fun pins s σ H Q I h => ?_⟩
  refine wpAny_Call_Name_kw (ld_blt I hg hm boot_min ?_ (by decide) (by decide))
  refine PyProof.Rows.callWith_kw (thn ((pa_cons he pa_nil hst).run pos pins s σ H (One _) I h) fun us s1 ⟨vs, H1, I1, r1, q1⟩ => ?_) (by rw [hst] <;> rfl) (by rw [hst] <;> rfl) (by rfl) (by rfl)
  obtain ⟨v, rfl, a, d, ns, fl, rfl, hA, hne, hT, hσ, hd, hk, q⟩ := q1.out
  obtain ⟨u, rfl, ru⟩ := vals1 r1
  obtain rfl : u = Value.ref a := ru
  show wpAny _ _ (evalAll [(do let v ← eval (.Lambda params (.Subscript (.Name y p1) (.Name x p2) p3) scope lpos) X.env; standAt pos; pure v)]) _ _ s1
  refine wpAny_evalAll_cons (wpAny_bind (lam_make2 I1 TB hcode hmT hu hT hdef (L.has I.ok) fun f c' pm ctv H2 s2 I2 eN T2 hf hfn hfr hco => wpAny_bind (wpAny_standAt (wpAny_pure (wpAny_evalAll_nil ?_)))))
  show wpAny _ _ (call (.builtin "min") [.ref a] [(Str.ofString "key", .ref f)]) _ _ _
  have hA2 : IL H2 a ns := eN _ _ hA fun _ z => by cases z
  have hd2 : H2 d = some (.dK (kd fl)) := eN _ _ hd fun _ z => by cases z
  obtain ⟨its, rv, hl, hz⟩ := I2.list (sqL hA2)
  have hl2 := rv.length
  rw [List.length_map] at hl2
  have hint : ∀ (i : Nat) (v : Value), its[i]? = some v → ∃ n t, ns[i]? = some n ∧ v = Value.int n t := fun i v hv => by
    have hi := (List.getElem?_eq_some_iff.mp hv).1
    obtain ⟨n, hn⟩ : ∃ n, ns[i]? = some n := ⟨_, List.getElem?_eq_getElem (by omega)⟩
    obtain ⟨u, e1, t, e2⟩ := rv.get (get_int hn)
    rw [hv] at e1
    cases e1
    exact ⟨n, t, hn, e2⟩
  refine minkey (fun i => look fl (ns.getD i 0)) (I2.ok.hd hc) hl.isList (by have := List.length_pos_iff.mpr hne; omega) (fun i v hv h tk kp => ?_) fun i v h' tk' hv hmin kp => ?_
  · obtain ⟨n, t, hn, rfl⟩ := hint i v hv
    have en : ns.getD i 0 = n := by rw [List.getD_eq_getElem?_getD, hn]; rfl
    show Gives _ _ _ _ _ _ (look fl (ns.getD i 0)) _ _
    rw [en]
    refine lam_gives I2 hr.in1.depth L hf hco hN hσ kp hdx hdy hcy (hbind _ _ _ _ _ _) fun env u h1 tk1 B ru k1 ex ey => ?_
    obtain rfl : u = Value.ref d := ru
    exact body_depth I2 k1 hd2 (hk n (List.mem_of_getElem? hn)) ex ey
  · obtain ⟨n, t, hn, rfl⟩ := hint i v hv
    have en : ns.getD i 0 = n := by rw [List.getD_eq_getElem?_getD, hn]; rfl
    refine ⟨.int n, H2, I2.kept kp, ⟨t, rfl⟩, q H2 n eN T2 (List.mem_of_getElem? hn) fun z hz2 => ?_⟩
    obtain ⟨j, hj, e⟩ := List.getElem_of_mem hz2
    have := hmin j (by omega)
    have ej : ns.getD j 0 = z := by rw [List.getD_eq_getElem?_getD, List.getElem?_eq_getElem hj, e]; rfl
    simp only [en, ej] at this
    exact this
theorem pe_sortLam (hc : X.calm = true) (hg : Gl X "sorted") (hm : X.mg "sorted" = none) (he : PE X e te) (TB : TabB X.base X.mg c P) (hcode : X.env.code = .ref c) (hmT : (P, X.env.qual ++ "<lambda>") ∈ T) (hu : ∀ q ∈ T, q.1 = P → q.2 = X.env.qual ++ "<lambda>") (hr : Room (k + 2) X.A)
    (L : LamOne X.env.scope scope x y) (hdef : defaultsOf params X.env = ([], [])) (hN : X.N[iy]? = some y) (hdx : (x == ("__debug__" : Str)) = false) (hdy : (y == ("__debug__" : Str)) = false) (hcy : (y == ("__classdict__" : Str)) = false)
    (hbind : ∀ (q : Str) (cl : List (Str × Addr)) (pm cv ctv v : Value), bindArgs (kla_fn "<lambda>" q params (.BinOp (.Constant (.int 0) k0 p0) .Sub (.Subscript (.Subscript (.Name y p1) (.Name x p2) p3) (.Constant (.int 1) k1 p4) p5) p6) scope cl pm cv ctv) ⟨[v], []⟩ = pure [(x, v)])
    (hst : starEach [e] X.env = (false, eval e X.env) :: starEach [] X.env := by rfl) :
    PE X (.Call (.Name "sorted" p) [e] [⟨some "key", .Lambda params (.BinOp (.Constant (.int 0) k0 p0) .Sub (.Subscript (.Subscript (.Name y p1) (.Name x p2) p3) (.Constant (.int 1) k1 p4) p5) p6) scope lpos, kpos⟩] pos) (tSortLam T iy te) := by
  refine ⟨fun pins s σ H Q I h => ?_⟩
  refine wpAny_Call_Name_kw (ld_blt I hg hm boot_sorted ?_ (by decide) (by decide))
  refine PyProof.Rows.callWith_kw (thn ((pa_cons he pa_nil hst).run pos pins s σ H (One _) I h) fun us s1 ⟨vs, H1, I1, r1, q1⟩ => ?_) (by rw [hst] <;> rfl) (by rw [hst] <;> rfl) (by rfl) (by rfl)
  obtain ⟨v, rfl, r, a, n, ts, ps, rfl, hR, hn, hpn, hT, hσ, ha, hTL, q⟩ := q1.out
  obtain ⟨u, rfl, ru⟩ := vals1 r1
  obtain rfl : u = Value.ref r := ru
  show wpAny _ _ (evalAll [(do let v ← eval (.Lambda params (.BinOp (.Constant (.int 0) k0 p0) .Sub (.Subscript (.Subscript (.Name y p1) (.Name x p2) p3) (.Constant (.int 1) k1 p4) p5) p6) scope lpos) X.env; standAt pos; pure v)]) _ _ s1
  refine wpAny_evalAll_cons (wpAny_bind (lam_make2 I1 TB hcode hmT hu hT hdef (L.has I.ok) fun f c' pm ctv H2 s2 I2 eN T2 hf hfn hfr hco => wpAny_bind (wpAny_standAt (wpAny_pure (wpAny_evalAll_nil ?_)))))
  show wpAny _ _ (call (.builtin "sorted") [.ref r] [(Str.ofString "key", .ref f)]) _ _ _
  have ha2 : H2 a = some (.lst (ts.map V.ref)) := eN _ _ ha fun _ z => by cases z
  have hR2 : H2 r = some (.rng 0 n) := eN _ _ hR fun _ z => by cases z
  have hTL2 := tl_ext eN hTL
  obtain ⟨t1, t2, t3, hro⟩ := I2.hok r _ hR2
  have hun := hr.un
  refine sortrange (fun i => 0 - (ps.getD i (0, 0)).2) (I2.ok.hd hc) hro hn (by omega) (fun i tt hi h tk kp => ?_) fun ks h1 h' tk' vs' c2 hperm hpw k1 k2 hget hvals => ?_
  · obtain ⟨o, ho⟩ : ∃ o, ps[i]? = some o := ⟨_, List.getElem?_eq_getElem (by omega)⟩
    have eo : ps.getD i (0, 0) = o := by rw [List.getD_eq_getElem?_getD, ho]; rfl
    show Gives _ _ _ _ _ _ (0 - (ps.getD i (0, 0)).2) _ _
    rw [eo]
    refine lam_gives I2 hr.in1.in1.depth L hf hco hN hσ kp hdx hdy hcy (hbind _ _ _ _ _ _) fun env u h1 tk1 B ru k1 ex ey => ?_
    obtain rfl : u = Value.ref a := ru
    exact body_top I2 k1 ha2 hTL2 ho ex ey
  · have I3 : Inv X pins σ H2 { s2 with heap := h1, toks := tk' } := I2.kept k1
    have hlen : ks.length ≤ 1000 := by rw [hperm.length_eq, List.length_range]; exact hn
    refine ⟨.ref h1.objs.size, L2.upd H2 h1.objs.size (.lst (ks.map fun k => V.int (Int.ofNat k))), I3.laid k2 (Nat.le_refl _) ⟨?_, vs', c2, hvals, hget⟩, rfl, q H2 ks _ eN T2 (I3.hok.fresh (Nat.le_refl _)) hperm hpw⟩
    rw [List.length_map, sizeLine_eq]
    omega
end
end Tw
/-! must_be_worths, tops -/
namespace Tw
open PySem PySem.Spec PyProof.Rows L2 LamX
theorem ext_same {H H' : Hp} (s : Same H H') : ExtN H H' := fun b o e _ => s b o e
theorem ext_at {H H' : Hp} {a : Addr} {o : HO} (s : ExtN H H') (h : H a = none) : ExtN H (L2.upd H' a o) := fun b x e n => by
  rw [upd_ne (ne_of_none e h)]
  exact s b x e n
theorem ext_lst {H H' : Hp} {a : Addr} {xs : List V} (e : ExtN H H') (h : H a = some (.lst xs)) : H' a = some (.lst xs) := e _ _ h fun _ z => by cases z
theorem ext_tup {H H' : Hp} {a : Addr} {xs : List V} (e : ExtN H H') (h : H a = some (.tup xs)) : H' a = some (.tup xs) := e _ _ h fun _ z => by cases z
theorem ext_dk {H H' : Hp} {a : Addr} {kvs : List (Key × V)} (e : ExtN H H') (h : H a = some (.dK kvs)) : H' a = some (.dK kvs) := e _ _ h fun _ z => by cases z
theorem ext_rows {H H' : Hp} {a : Addr} {rows : List (List Int)} (s : ExtN H H') (h : Rows H a rows) : Rows H' a rows := by
  obtain ⟨ps, h1, h2, h3⟩ := h
  exact ⟨ps, ext_lst s h1, h2, fun i p r e1 e2 => ext_lst s (h3 i p r e1 e2)⟩
theorem tabs_same {T : List (Addr × Str)} {H H' : Hp} (t : Tabs T H) (s : Same H H') : Tabs T H' := t.ext s
/-- a list is no table and no code object -/
theorem tabs_lst {T : List (Addr × Str)} {H : Hp} {a : Addr} {xs : List V} {o : HO} (t : Tabs T H) (ha : H a = some (.lst xs)) : Tabs T (L2.upd H a o) := fun p hp => by
  obtain ⟨ps, h1, h2, h3⟩ := t p hp
  refine ⟨ps, by rw [upd_ne (ne_of h1 ha (by intro z; cases z))]; exact h1, h2, fun pos cv hc => ?_⟩
  obtain ⟨c, e1, e2⟩ := h3 pos cv hc
  exact ⟨c, e1, by rw [upd_ne (ne_of e2 ha (by intro z; unfold CodeO at z; cases z))]; exact e2⟩
/-- a def of the text with its code object at c -/
structure FunC (K : PySem.W.Frag) (x qual : Str) (st : Stmt) (f : Addr) (fd : FuncData) (c : Addr) : Prop where
  ex : ∃ (oc : Value) (od : Option Addr) (kV doc pm : Value) (an : Option Addr) (ct : Value) (osl : Array (Option Value)),
    fd = PySem.W.fnOf x qual (defArgs st) (defBody st) (defScope st) .none kV doc pm an (.ref c) ct ∧ K.lookup f = some ⟨oc, od, .func fd, osl⟩ ∧ PySem.W.codeIn K (.ref c) qual = true
  kp : PySem.W.keepIn K (.ref f) = true
section
variable {P : Program} {w : World} {K : PySem.W.Frag} {mg : Str → Option Value} {base : Heap}
theorem FunC.ok {x qual : Str} {st : Stmt} {f c : Addr} {fd : FuncData} {N ps : List Str} {k : Nat} {sp : Sp} (F : FunC K x qual st f fd c) (S : FnScope N ps (defScope st)) (len : ∀ vs H Q E, sp vs H Q E → vs.length = ps.length)
    (hbody : ∀ (A : Around) (outer : List Env) (s : Shared) (H : Hp) (vs : List V) (Q : VK) (E : XK), Room k (A.deeper (envOfC qual (defScope st) s.heap.objs.size f (.ref c))) → sp vs H Q E →
      ∃ t, PSs (cxOf CX0 P w K mg base N qual (defScope st) f (.ref c) A outer s H E).nox (defBody st) t ∧ t { nx := fun _ H' => Q .non H', rt := Q } (start N vs) H) : FnOk P w K mg base CX0 (k + 1) f fd ps sp := by
  obtain ⟨oc, od, kV, doc, pm, an, ct, osl, rfl, lk, hcd⟩ := F.ex
  refine fn_of lk hcd S len fun A outer s H vs Q E hr hsp => ?_
  obtain ⟨t, h, q⟩ := hbody A outer s H vs Q E hr hsp
  exact ⟨t, h.nox, q⟩
def spMustWorths (K : PySem.W.Frag) : Sp := fun vs H Q _ => ∃ (a y b : Addr) (n : Nat) (rs : List Road) (Ys : List (List Int)) (W : List Int), vs = [.int n, .ref a, .ref y, .ref b] ∧ Roads H a rs ∧ TreeOK n rs ∧ n ≤ 12 ∧ Rows H y Ys ∧ (∀ Y ∈ Ys, Lump n rs Y) ∧ IL H b W ∧ W.length = Ys.length ∧ (∀ x ∈ W, 0 ≤ x) ∧ ∀ H', Same H H' → Q .non H'
theorem ok_mustWorths {f fY : Addr} {fd fdY : FuncData} {k : Nat} (F : Fun K "must_be_worths" "must_be_worths" sMustWorths f fd) (GY : FnOk P w K mg base CX0 (k + 6) fY fdY ["many", "roads", "yards"] (spMustYards K)) (kY : PySem.W.keepIn K (.ref fY) = true) (bY : Binds K fdY ["many", "roads", "yards"] []) (gY : mg "must_be_yards" = some (.ref fY)) (ml : mg "len" = none) (mm : mg "min" = none) :
    FnOk P w K mg base CX0 (k + 7) f fd ["many", "roads", "yards", "worths"] (spMustWorths K) := by
  refine F.ok scMustWorths (fun vs H Q E h => ?_) (fun cdv A outer s H vs Q E hr h => ?_)
  · obtain ⟨a, y, b, n, rs, Ys, W, rfl, _⟩ := h
    rfl
  · obtain ⟨a, y, b, n, rs, Ys, W, rfl, hR, T, h12, hYs, hL, hW, hWl, hW0, q⟩ := h
    refine ⟨_, pss_cons (ps_expr (pe_call GY hr (by rfl) gY kY bY .nil pass0 (pa_cons (pv 0) (pa_cons (pv 1) (pa_cons (pv 2) pa_nil)))))
      (pss_one (ps_if (PW.pt (pw_or (pt_cmpR op_ne (pe_callB call_len_seq (by rfl) ml PySem.boot_len (pa_cons (pv 3) pa_nil)) (pe_callB call_len_seq (by rfl) ml PySem.boot_len (pa_cons (pv 2) pa_nil)) (nomark _))
          (pw_or1 (pt_cmpR op_lt (pe_callBK (cr_minDef rfl) (by rfl) mm boot_min (pa_cons (pv 3) pa_nil) (pk_cons pe_int pk_nil)) pe_int (nomark _)))))
        (pss_one ps_never) pss_nil)), ?_⟩
    refine ⟨_, rfl, _, rfl, _, rfl, a, y, n, rs, Ys, rfl, hR, T, h12, hYs, hL, fun H1 s1 => ?_⟩
    obtain ⟨ps, hA, hpl, hP⟩ := hYs.same s1
    refine ⟨_, rfl, b, _, rfl, .inl (sqL (s1 _ _ hW)), _, rfl, y, _, rfl, .inl (sqL hA), rfl, _, rfl, ?_⟩
    rw [List.length_map, List.length_map, decide_eq_true (show V.int (W.length : Nat) = V.int (ps.length : Nat) by congr 1; omega)]
    refine iteF ⟨_, rfl, b, W, 0, rfl, rfl, sqL (s1 _ _ hW), fun e => ⟨_, _, rfl, rfl, _, rfl, iteF (q H1 s1)⟩, fun m hm hmin => ⟨_, _, rfl, rfl, _, rfl, ?_⟩⟩
    rw [decide_eq_false (by have := hW0 m hm; omega)]
    exact iteF (q H1 s1)
end
end Tw
/-! tops -/
namespace Tw
open PySem PySem.Spec PyProof.Rows L2 LamX
abbrev qTops : Str := ("tops" : Str) ++ (".<locals>." : Str) ++ ("<lambda>" : Str)
abbrev qPaid : Str := ("paid" : Str) ++ (".<locals>." : Str) ++ ("<lambda>" : Str)
/-- the tables of the two code objects that make lambdas -/
abbrev TT (P1 P2 : Addr) : List (Addr × Str) := [(P1, qTops), (P2, qPaid)]
/-- the tops told: each the nearest of its yard's places to the first place -/
structure TopsOK (n : Nat) (rs : List Road) (Ys : List (List Int)) (ps : List (Int × Int)) (par d : Int → Int) : Prop where
  dep : Depth n rs par d
  len : ps.length = Ys.length
  at_ : ∀ (i : Nat) (o : Int × Int) (Y : List Int), ps[i]? = some o → Ys[i]? = some Y → o.1 ∈ Y ∧ o.2 = d o.1 ∧ ∀ z ∈ Y, d o.1 ≤ d z
section
variable {P : Program} {w : World} {K : PySem.W.Frag} {mg : Str → Option Value} {base : Heap}
def spTops (T : List (Addr × Str)) (K : PySem.W.Frag) : Sp := fun vs H Q _ => ∃ (a y : Addr) (n : Nat) (rs : List Road) (Ys : List (List Int)), vs = [.ref a, .ref y] ∧ Roads H a rs ∧ TreeOK n rs ∧ n ≤ 12 ∧ Rows H y Ys ∧ (∀ Y ∈ Ys, Lump n rs Y) ∧ Ys.length ≤ 1000 ∧ Tabs T H ∧
  ∀ (H' : Hp) (p : Addr) (ts : List Addr) (ps : List (Int × Int)) (par d : Int → Int), ExtN H H' → Tabs T H' → H' p = some (.lst (ts.map V.ref)) → TL H' ts ps → TopsOK n rs Ys ps par d → Q (.ref p) H'
theorem ok_tops {f fF c P1 P2 : Addr} {fd fdF : FuncData} {k : Nat} (hP : P1 ≠ P2) (F : FunC K "tops" "tops" sTops f fd c) (TB : TabB base mg c P1) (GF : FnOk P w K mg base CX0 (k + 3) fF fdF ["roads", "start"] (spFars K)) (kF : PySem.W.keepIn K (.ref fF) = true) (bF : Binds K fdF ["roads", "start"] []) (gF : mg "fars" = some (.ref fF)) (mm : mg "min" = none) :
    FnOk P w K mg base CX0 (k + 4) f fd ["roads", "yards"] (spTops (TT P1 P2) K) := by
  refine F.ok scTops (fun vs H Q E h => ?_) (fun A outer s H vs Q E hr h => ?_)
  · obtain ⟨a, y, n, rs, Ys, rfl, _⟩ := h
    rfl
  · obtain ⟨a, y, n, rs, Ys, rfl, hR, T, h12, ⟨ys, hA, hyl, hY⟩, hL, hlen, hT, q⟩ := h
    have hu := hu_of hr
    refine ⟨_, pss_cons (ps_set (i := 5) scTops.nd rfl (.inr rfl) (pe_call GF hr (by rfl) gF kF bF .nil pass0 (pa_cons (pv 0) (pa_cons pe_int pa_nil))))
      (pss_cons (ps_set (i := 2) scTops.nd rfl (.inl rfl) (pe_lst pa_nil))
      (pss_cons (ps_for PassesOwn.never rfl (pi_list (pv 1)) (pg_name (i := 3) scTops.nd rfl (.inl rfl))
        (pss_cons (ps_set (i := 4) scTops.nd rfl (.inl rfl) (pe_minLam (T := TT P1 P2) (iy := 5) (k := k + 1) (x := "place") (y := "depth") rfl (by rfl) mm (pv 3) TB rfl (.head _)
            (fun q hq e => by
              rcases List.mem_cons.mp hq with rfl | hq
              · rfl
              · have e2 : q = (P2, qPaid) := by simpa using hq
                rw [e2] at e
                exact absurd e.symm hP)
            hr ⟨rfl, rfl, rfl, by decide +kernel, rfl, rfl, (show ∀ q ∈ [(("place" : Str), NameKind.local), ("depth", NameKind.free)], q.2 = .free → (defScope sTops).names.lookup q.1 = some .cell by decide +kernel)⟩ rfl rfl (by decide) (by decide) (by decide) (fun _ _ _ _ _ _ => rfl)))
          (pss_one (ps_expr (pe_bm PySem.F.plainAttrs_list PySem.F.slot_list_append PySem.F.type_list_append mt_append (pv 2) (pa_cons (pe_tup (pa_cons (pv 4) (pa_cons (pe_dget hu (pv 5) (pv 4) (fun _ _ => rfl)) pa_nil))) pa_nil))))))
      (pss_one (ps_ret (pv 2))))), ?_⟩
    -- depth = fars(roads, 0)
    refine ⟨_, rfl, a, n, rs, rfl, hR, T, h12, fun H1 e al s1 ne ee S => ?_⟩
    have D := S.depth T
    have kin : ∀ {x : Int}, inR n x → x ∈ keys (farL rs al) := fun {x} hx => by rw [farL_keys']; exact (S.all x).mpr hx
    -- found = []
    refine ⟨Nat.zero_le _, fun o no => ?_⟩
    have noH : H o = none := s1.free no
    have s2 : Same H1 (L2.upd H1 o (.lst [])) := same_upd no
    -- for yard in yards
    refine ⟨_, rfl, y, rfl, ⟨_, sqL (s2 _ _ (s1 _ _ hA))⟩, for_list (xs := ys.map V.ref) (fun i σ H' => ExtN H H' ∧ Tabs (TT P1 P2) H' ∧ H' e = some (.dK (kd (farL rs al))) ∧ (∃ (ts : List Addr) (ps : List (Int × Int)), H' o = some (.lst (ts.map V.ref)) ∧ TL H' ts ps ∧ ps.length = i ∧ ∀ (j : Nat) (q : Int × Int) (Y : List Int), ps[j]? = some q → Ys[j]? = some Y → q.1 ∈ Y ∧ q.2 = look (farL rs al) q.1 ∧ ∀ z ∈ Y, look (farL rs al) q.1 ≤ look (farL rs al) z) ∧
        ∃ y3 y4, σ = [some (.ref a), some (.ref y), some (.ref o), y3, y4, some (.ref e)])
      ⟨ext_same (s1.trans s2), tabs_same hT (s1.trans s2), s2 _ _ ee, ⟨[], [], upd_same, .nil, rfl, fun j q Y h => by simp at h⟩, none, none, rfl⟩ (fun i σ H' _ h => sqL (ext_lst h.1 hA)) (fun i v σ H' ev h => ?_) (fun σ H' h => ?_)⟩
    · obtain ⟨eN, hT', ee', ⟨ts, ps, eo, hTL, hpl, hps⟩, y3, y4, rfl⟩ := h
      obtain ⟨p, ep, rfl⟩ := of_get_ref ev
      have hi := (List.getElem?_eq_some_iff.mp ep).1
      obtain ⟨Y, eY⟩ : ∃ r, Ys[i]? = some r := ⟨_, List.getElem?_eq_getElem (by omega)⟩
      have hpY : IL H' p Y := ext_lst eN (hY i p Y ep eY)
      have hLY := hL Y (List.mem_of_getElem? eY)
      have hrY := hLY.rng T
      -- top = min(yard, key=lambda place: depth[place])
      refine ⟨_, rfl, p, e, Y, farL rs al, rfl, hpY, hLY.ne, hT', rfl, ee', fun z hz => kin (hrY z hz), fun H2 m e2 hT2 hm hmin => ?_⟩
      have eo2 := ext_lst e2 eo
      -- found.append((top, depth[top]))
      refine ⟨_, rfl, .inl ⟨rfl, _, sqL eo2⟩, _, rfl, _, rfl, _, rfl, e, .int (look (farL rs al) m), rfl, .inl ⟨_, Sum.inl m, .inl (ext_dk e2 ee'), rfl, (kd_some (kin (hrY m hm))).symm⟩, two_line, fun t nt => ?_⟩
      have sT : Same H2 (L2.upd H2 t (.tup [.int m, .int (look (farL rs al) m)])) := same_upd nt
      have hts := hTL.1
      refine ⟨o, _, _, rfl, rfl, sT _ _ eo2, small_of (m := 1000) (by rw [List.length_map]; omega), ext_at ((eN.trans e2).trans (ext_same sT)) noH, tabs_lst (tabs_same hT2 sT) (sT _ _ eo2), ?_, ⟨ts ++ [t], ps ++ [(m, look (farL rs al) m)], ?_, ?_, ?_, ?_⟩, _, _, rfl⟩
      · rw [upd_ne (ne_of (sT _ _ (ext_dk e2 ee')) (sT _ _ eo2) (by intro z; cases z))]
        exact sT _ _ (ext_dk e2 ee')
      · rw [upd_same, List.map_append]; rfl
      · exact TL.upd (sT _ _ eo2) (((tl_ext e2 hTL).same sT).snoc upd_same)
      · rw [List.length_append, hpl]; rfl
      · intro j q Y' e1 e3
        by_cases hj : j < ps.length
        · rw [List.getElem?_append_left hj] at e1
          exact hps j q Y' e1 e3
        · rw [List.getElem?_append_right (by omega)] at e1
          have hj0 : j - ps.length = 0 := by
            have := (List.getElem?_eq_some_iff.mp e1).1
            simp at this
            omega
          rw [hj0] at e1
          have e1 : (m, look (farL rs al) m) = q := Option.some.inj e1
          have ej : j = i := by omega
          rw [ej, eY] at e3
          cases e3
          rw [← e1]
          exact ⟨hm, rfl, hmin⟩
    · obtain ⟨eN, hT', ee', ⟨ts, ps, eo, hTL, hpl, hps⟩, y3, y4, rfl⟩ := h
      rw [List.length_map] at hpl
      exact ⟨_, rfl, q H' o ts ps _ _ eN hT' eo hTL ⟨D, by omega, hps⟩⟩
end
end Tw
/-! paid -/
namespace Tw
open PySem PySem.Spec PyProof.Rows L2 LamX
def yOf (Ys : List (List Int)) (k : Nat) : List Int := Ys.getD k []
def wOf (W : List Int) (k : Nat) : Int := W.getD k 0
def tOf (ps : List (Int × Int)) (k : Nat) : Int := (ps.getD k (0, 0)).1
theorem yOf_get {Ys : List (List Int)} {k : Nat} {Y : List Int} (h : Ys[k]? = some Y) : yOf Ys k = Y := by unfold yOf; rw [List.getD_eq_getElem?_getD, h]; rfl
theorem wOf_get {W : List Int} {k : Nat} {x : Int} (h : W[k]? = some x) : wOf W k = x := by unfold wOf; rw [List.getD_eq_getElem?_getD, h]; rfl
theorem tOf_get {ps : List (Int × Int)} {k : Nat} {o : Int × Int} (h : ps[k]? = some o) : tOf ps k = o.1 := by unfold tOf; rw [List.getD_eq_getElem?_getD, h]; rfl
/-- prices and payers as they come out -/
structure PaidOK (n : Nat) (Ys : List (List Int)) (W : List Int) (g : Int → Int) (pay : List Nat) : Prop where
  fair : Fair n Ys.length (yOf Ys) (wOf W) g
  best : Best Ys.length (yOf Ys) (greedy (yOf Ys) pay)
  same : wsum (wOf W) (greedy (yOf Ys) pay) = gsum n g
  lt : ∀ k ∈ pay, k < Ys.length
  few : pay.length ≤ Ys.length
theorem paid_ok {n : Nat} {rs : List Road} {Ys : List (List Int)} {W : List Int} {ps : List (Int × Int)} {par d : Int → Int} {ks : List Nat} (T : TreeOK n rs) (hL : ∀ Y ∈ Ys, Lump n rs Y) (O : TopsOK n rs Ys ps par d) (hp : ks.Perm (List.range Ys.length))
    (hw : ks.Pairwise (fun i j => 0 - (ps.getD i (0, 0)).2 ≤ 0 - (ps.getD j (0, 0)).2)) : PaidOK n Ys W (run (wOf W) (yOf Ys) (tOf ps) (fun _ => 0) ks).1 (run (wOf W) (yOf Ys) (tOf ps) (fun _ => 0) ks).2 := by
  have at_ : ∀ k, k < Ys.length → ∃ o Y, ps[k]? = some o ∧ Ys[k]? = some Y := fun k hk => ⟨_, _, List.getElem?_eq_getElem (by rw [O.len]; exact hk), List.getElem?_eq_getElem hk⟩
  have hY : ∀ k, k < Ys.length → Lump n rs (yOf Ys k) := fun k hk => by
    obtain ⟨o, Y, _, eY⟩ := at_ k hk
    rw [yOf_get eY]
    exact hL Y (List.mem_of_getElem? eY)
  have ht : ∀ k, k < Ys.length → tOf ps k ∈ yOf Ys k ∧ ∀ z ∈ yOf Ys k, d (tOf ps k) ≤ d z := fun k hk => by
    obtain ⟨o, Y, eo, eY⟩ := at_ k hk
    rw [yOf_get eY, tOf_get eo]
    obtain ⟨h1, _, h3⟩ := O.at_ k o Y eo eY
    exact ⟨h1, h3⟩
  have hd : ∀ k, k < Ys.length → (ps.getD k (0, 0)).2 = d (tOf ps k) := fun k hk => by
    obtain ⟨o, Y, eo, eY⟩ := at_ k hk
    rw [tOf_get eo, List.getD_eq_getElem?_getD, eo]
    exact (O.at_ k o Y eo eY).2.1
  have lt : ∀ k ∈ ks, k < Ys.length := fun k hk => List.mem_range.mp (hp.mem_iff.mp hk)
  obtain ⟨a, b, c⟩ := run_best (w := wOf W) T O.dep hY ht hp (hw.imp_of_mem fun {i j} hi hj h => by
    rw [hd i (lt i hi), hd j (lt j hj)] at h
    omega)
  refine ⟨a, b, c, fun k hk => lt k (run_sub.subset hk), ?_⟩
  have := (run_sub (w := wOf W) (Y := yOf Ys) (t := tOf ps) (ks := ks) (g := fun _ => 0)).length_le
  rw [hp.length_eq, List.length_range] at this
  exact this
theorem set_price {n : Nat} {g : Int → Int} {j : Nat} {l : Int} : (((ran n).map g).map V.int).set j (.int (g (j : Int) + l)) = ((ran n).map (addAt g (j : Int) l)).map V.int := by
  apply List.ext_getElem?
  intro i
  rw [List.getElem?_set]
  by_cases e : j = i
  · subst e
    rw [if_pos rfl]
    by_cases hj : j < n
    · rw [if_pos (by rw [List.length_map, List.length_map, len_ran]; exact hj), List.getElem?_map, List.getElem?_map, ran_get hj]
      show some (V.int (g j + l)) = some (V.int (addAt g j l j))
      unfold addAt
      rw [if_pos rfl]
    · rw [if_neg (by rw [List.length_map, List.length_map, len_ran]; exact hj), List.getElem?_eq_none (by rw [List.length_map, List.length_map, len_ran]; omega)]
  · rw [if_neg e]
    by_cases hi : i < n
    · rw [List.getElem?_map, List.getElem?_map, List.getElem?_map, List.getElem?_map, ran_get hi]
      show some (V.int (g i)) = some (V.int (addAt g j l i))
      unfold addAt
      rw [if_neg (by omega)]
    · rw [List.getElem?_eq_none (by rw [List.length_map, List.length_map, len_ran]; omega), List.getElem?_eq_none (by rw [List.length_map, List.length_map, len_ran]; omega)]
section
variable {P : Program} {w : World} {K : PySem.W.Frag} {mg : Str → Option Value} {base : Heap}
def nV (k : Nat) : V := V.int (Int.ofNat k)
def spPaid (T : List (Addr × Str)) (K : PySem.W.Frag) : Sp := fun vs H Q _ => ∃ (a y b : Addr) (n : Nat) (rs : List Road) (Ys : List (List Int)) (W : List Int), vs = [.int n, .ref a, .ref y, .ref b] ∧ Roads H a rs ∧ TreeOK n rs ∧ n ≤ 12 ∧ Rows H y Ys ∧ (∀ Y ∈ Ys, Lump n rs Y) ∧ Ys.length ≤ 1000 ∧ IL H b W ∧ W.length = Ys.length ∧ Tabs T H ∧
  ∀ (H' : Hp) (t fo pa : Addr) (g : Int → Int) (pay : List Nat), ExtN H H' → Tabs T H' → H' t = some (.tup [.ref fo, .ref pa]) → IL H' fo ((ran n).map g) → H' pa = some (.lst (pay.map nV)) → (∀ xs, H fo ≠ some (.lst xs)) → PaidOK n Ys W g pay → Q (.ref t) H'
theorem ok_paid {f fT c P1 P2 : Addr} {fd fdT : FuncData} {k : Nat} (hP : P1 ≠ P2) (F : FunC K "paid" "paid" sPaid f fd c) (TB : TabB base mg c P2) (GT : FnOk P w K mg base CX0 (k + 4) fT fdT ["roads", "yards"] (spTops (TT P1 P2) K)) (kT : PySem.W.keepIn K (.ref fT) = true) (bT : Binds K fdT ["roads", "yards"] []) (gT : mg "tops" = some (.ref fT))
    (ml : mg "len" = none) (mr : mg "range" = none) (ms : mg "sorted" = none) (mu : mg "sum" = none) :
    FnOk P w K mg base CX0 (k + 5) f fd ["many", "roads", "yards", "worths"] (spPaid (TT P1 P2) K) := by
  refine F.ok scPaid (fun vs H Q E h => ?_) (fun A outer s H vs Q E hr h => ?_)
  · obtain ⟨a, y, b, n, rs, Ys, W, rfl, _⟩ := h
    rfl
  · obtain ⟨a, y, b, n, rs, Ys, W, rfl, hR, T, h12, hYs, hL, hlen, hW, hWl, hT, q⟩ := h
    refine ⟨_, pss_cons (ps_set (i := 8) scPaid.nd rfl (.inr rfl) (pe_call GT hr (by rfl) gT kT bT .nil pass0 (pa_cons (pv 1) (pa_cons (pv 2) pa_nil))))
      (pss_cons (ps_set (i := 4) scPaid.nd rfl (.inr rfl) (pe_lc (own := [("place", 9)]) (g := gName 9) (by rfl) scPaid.nd (pi_range1 (by rfl) mr (pa_cons (pv 0) pa_nil))
          (blkOk_by (own := [("place", 9)]) (N := ["many", "roads", "yards", "worths", "found", "payers", "k", "left", "top", "place"]) (sc := defScope sPaid) (by decide +kernel)) (fun _ _ _ _ _ => pg_name (i := 9) scPaid.nd rfl (Or.inl rfl)) (fun _ _ _ _ _ => pts_nil) (fun _ _ _ _ _ => pe_int)))
      (pss_cons (ps_set (i := 5) scPaid.nd rfl (.inl rfl) (pe_lst pa_nil))
      (pss_cons (ps_for PassesOwn.never rfl (pi_list (pe_sortLam (T := TT P1 P2) (iy := 8) (k := k + 2) (x := "k") (y := "top") rfl (by rfl) ms
            (pe_callTy cr_range1 (by rfl) mr boot_range (pa_cons (pe_callB call_len_seq (by rfl) ml PySem.boot_len (pa_cons (pv 2) pa_nil)) pa_nil)) TB rfl (.tail _ (.head _))
            (fun q hq e => by
              rcases List.mem_cons.mp hq with rfl | hq
              · exact absurd e hP
              · have e2 : q = (P2, qPaid) := by simpa using hq
                rw [e2]
                rfl)
            hr ⟨rfl, rfl, rfl, by decide +kernel, rfl, rfl, (show ∀ q ∈ [(("k" : Str), NameKind.local), ("top", NameKind.free)], q.2 = .free → (defScope sPaid).names.lookup q.1 = some .cell by decide +kernel)⟩ rfl rfl (by decide) (by decide) (by decide) (fun _ _ _ _ _ _ => rfl)))
          (pg_name (i := 6) scPaid.nd rfl (.inl rfl))
        (pss_cons (ps_set (i := 7) scPaid.nd rfl (.inl rfl) (pe_op op_sub (pe_ix ix_list (pv 3) (pv 6) (fun _ _ => rfl))
            (pe_callB (cr_sum rfl) (by rfl) mu (by decide +kernel) (pa_cons (pe_lc (own := [("place", 9)]) (g := gName 9) (by rfl) scPaid.nd (pi_list (pe_ix ix_list (pv 2) (pv 6) (fun _ _ => rfl)))
              (blkOk_by (own := [("place", 9)]) (N := ["many", "roads", "yards", "worths", "found", "payers", "k", "left", "top", "place"]) (sc := defScope sPaid) (by decide +kernel)) (fun _ _ _ _ _ => pg_name (i := 9) scPaid.nd rfl (Or.inl rfl)) (fun _ _ _ _ _ => pts_nil)
              (fun _ _ _ _ _ => pe_ix (r := rIxL K) ix_list (pv 4) (pv 9) (fun _ _ => rfl))) pa_nil))))
          (pss_one (ps_if (pt_cmpR op_gt (pv 7) pe_int (nomark _))
            (pss_cons (ps_augS (pv 4) (pe_ix ix_tup (pe_ix ix_list (pv 8) (pv 6) (fun _ _ => rfl)) pe_int (fun _ _ => rfl)) get_list (pv 7) ip_add set_list)
              (pss_one (ps_expr (pe_bm PySem.F.plainAttrs_list PySem.F.slot_list_append PySem.F.type_list_append mt_append (pv 5) (pa_cons (pv 6) pa_nil))))) pss_nil))))
      (pss_one (ps_ret (pe_tup (pa_cons (pv 4) (pa_cons (pv 5) pa_nil)))))))), ?_⟩
    -- top = tops(roads, yards)
    refine ⟨_, rfl, _, rfl, a, y, n, rs, Ys, rfl, hR, T, h12, hYs, hL, hlen, hT, fun H1 tp ts ps par d e1 hT1 etp hTL O => ?_⟩
    -- found = [0 for place in range(many)]
    refine ⟨_, rfl, (n : Int), rfl, by omega, by omega, fun fo nfo => lc_range (lo := 0) (n := (n : Int).toNat) (fun i H' => Same H1 H' ∧ IL H' fo ((ran i).map fun _ => 0)) ⟨same_upd nfo, upd_same⟩ (fun i H' hi h => ?_) (fun H2 h => ?_)⟩
    · obtain ⟨sm, ef⟩ := h
      refine ⟨rfl, _, ef, small_of (m := 100) (by rw [List.length_map, List.length_map, len_ran]; omega), same_at sm nfo, ?_⟩
      show (L2.upd _ fo _) fo = _
      rw [upd_same]
      congr 2
      unfold ran
      rw [List.range_succ, List.map_append, List.map_append, List.map_append]
      rfl
    obtain ⟨s2, ef⟩ := h
    rw [Int.toNat_natCast] at ef
    -- payers = []
    refine ⟨Nat.zero_le _, fun pa npa => ?_⟩
    have s3 : Same H2 (L2.upd H2 pa (.lst [])) := same_upd npa
    have npa1 : H1 pa = none := s2.free npa
    have nfp : fo ≠ pa := ne_of_none ef npa
    have s4 := s2.trans s3
    obtain ⟨ys, hA, hyl, hY⟩ := ext_rows e1 hYs
    -- sorted(range(len(yards)), ..)
    refine ⟨_, rfl, y, _, rfl, .inl (sqL (s4 _ _ hA)), Ys.length, by rw [List.length_map, hyl], fun r nr => ?_⟩
    have s5 := same_upd (o := .rng 0 (Ys.length : Int)) nr
    refine ⟨r, tp, Ys.length, ts, ps, rfl, upd_same, hlen, O.len, tabs_same hT1 (s4.trans s5), rfl, (s4.trans s5) _ _ etp, hTL.same (s4.trans s5), fun H3 ks kp e3 hT3 nkp hperm hpw => ?_⟩
    have s6 : Same H3 (L2.upd H3 kp (.lst (ks.map fun k => V.int (Int.ofNat k)))) := same_upd nkp
    have e4 : ExtN H1 (L2.upd H3 kp (.lst (ks.map fun k => V.int (Int.ofNat k)))) := ((ext_same (s4.trans s5)).trans e3).trans (ext_same s6)
    have nkf : kp ≠ fo := fun z => by
      have := ext_lst e3 (s5 _ _ (s3 _ _ ef))
      rw [← z, nkp] at this
      cases this
    have nkpa : kp ≠ pa := fun z => by
      have := ext_lst e3 (s5 _ _ (upd_same (H := H2) (a := pa) (o := .lst [])))
      rw [← z, nkp] at this
      cases this
    have hfin := paid_ok (W := W) T hL O hperm hpw
    refine ⟨kp, rfl, ⟨_, sqL upd_same⟩, for_list (xs := ks.map fun k => V.int (Int.ofNat k)) (fun i σ H' => ExtN H1 H' ∧ Tabs (TT P1 P2) H' ∧ H' kp = some (.lst (ks.map fun k => V.int (Int.ofNat k))) ∧ (∃ (g : Int → Int) (pay : List Nat), IL H' fo ((ran n).map g) ∧ H' pa = some (.lst (pay.map nV)) ∧ pay.length ≤ i ∧
        run (wOf W) (yOf Ys) (tOf ps) (fun _ => 0) ks = ((run (wOf W) (yOf Ys) (tOf ps) g (ks.drop i)).1, pay ++ (run (wOf W) (yOf Ys) (tOf ps) g (ks.drop i)).2)) ∧
        ∃ y6 y7 y9, σ = [some (.int (n : Int)), some (.ref a), some (.ref y), some (.ref b), some (.ref fo), some (.ref pa), y6, y7, some (.ref tp), y9])
      ⟨e4, tabs_same hT3 s6, upd_same, ⟨fun _ => 0, [], s6 _ _ (ext_lst e3 (s5 _ _ (s3 _ _ ef))), s6 _ _ (ext_lst e3 (s5 _ _ upd_same)), Nat.le_refl _, rfl⟩, none, none, none, rfl⟩ (fun i σ H' _ h => sqL h.2.2.1) (fun i v σ H' ev h => ?_) (fun σ H' h => ?_)⟩
    · obtain ⟨eN, hT', ek', ⟨g, pay, ef', ep', hpl, hrun⟩, y6, y7, y9, rfl⟩ := h
      rw [List.getElem?_map] at ev
      obtain ⟨kk, ekk, rfl⟩ := Option.map_eq_some_iff.mp ev
      have hi := (List.getElem?_eq_some_iff.mp ekk).1
      have hkm : kk < Ys.length := List.mem_range.mp (hperm.mem_iff.mp (List.mem_of_getElem? ekk))
      have hksl : ks.length = Ys.length := by rw [hperm.length_eq, List.length_range]
      obtain ⟨Y, eY⟩ : ∃ Y, Ys[kk]? = some Y := ⟨_, List.getElem?_eq_getElem hkm⟩
      obtain ⟨wk, ewk⟩ : ∃ x, W[kk]? = some x := ⟨_, List.getElem?_eq_getElem (by omega)⟩
      obtain ⟨o, eo⟩ : ∃ o, ps[kk]? = some o := ⟨_, List.getElem?_eq_getElem (by rw [O.len]; exact hkm)⟩
      obtain ⟨py, epy⟩ : ∃ p, ys[kk]? = some p := ⟨_, List.getElem?_eq_getElem (by omega)⟩
      obtain ⟨tk, etk⟩ : ∃ p, ts[kk]? = some p := ⟨_, List.getElem?_eq_getElem (by rw [hTL.1, O.len]; exact hkm)⟩
      have hLY := hL Y (List.mem_of_getElem? eY)
      have hrY := hLY.rng T
      have hO := O.at_ kk o Y eo eY
      have hdrop : ks.drop i = kk :: ks.drop (i + 1) := by
        have h1 := (List.getElem?_eq_some_iff.mp ekk)
        rw [← h1.2, List.getElem_cons_drop]
      -- left = worths[k] - sum(..)
      have hWH : IL H' b W := ext_lst (e1.trans eN) hW
      have hAH : H' y = some (.lst (ys.map V.ref)) := ext_lst eN hA
      have hpY : IL H' py Y := ext_lst eN (hY kk py Y epy eY)
      refine ⟨_, rfl, _, rfl, b, _, _, _, rfl, rfl, sqL hWH, at_of rfl (get_int ewk), _, rfl, _, rfl, y, _, _, _, rfl, rfl, sqL hAH, at_of rfl (get_ref epy), py, rfl, ⟨_, sqL hpY⟩, fun D nD => lc_list (xs := Y.map V.int) (fun j H2 => Same H' H2 ∧ IL H2 D ((Y.take j).map g)) ⟨same_upd nD, upd_same⟩ (fun j H2 _ h => sqL (h.1 _ _ hpY)) (fun j v H2 ev h => ?_) (fun H2 h => ?_)⟩
      · obtain ⟨sm, eD⟩ := h
        obtain ⟨x, ex, rfl⟩ := of_get_int ev
        have hx := hrY x (List.mem_of_getElem? ex)
        have hxn : x.toNat < n := by have := hx.1; have := hx.2; omega
        have hjl := (List.getElem?_eq_some_iff.mp ex).1
        have hYl : Y.length ≤ 12 := by
          have := Nodup_le (l' := ran n) hLY.nodup fun x hx => mem_ran.mpr (hrY x hx)
          rw [len_ran] at this
          omega
        refine ⟨rfl, _, rfl, _, rfl, fo, _, x, .int (g x), rfl, rfl, sqL (sm _ _ ef'), at_of (j := x.toNat) (by have := hx.1; omega) (get_int ?_), _, eD, small_of (m := 100) (by rw [List.length_map, List.length_map, List.length_take]; omega), same_at sm nD, ?_⟩
        · rw [List.getElem?_map, ran_get hxn]
          show some (g _) = some (g x)
          congr 2
          have := hx.1
          omega
        · show (L2.upd _ D _) D = _
          rw [upd_same, List.take_add_one, ex, List.map_append, List.map_append]
          rfl
      obtain ⟨sm, eD⟩ := h
      rw [List.length_map, List.take_of_length_le (Nat.le_refl _)] at eD
      refine ⟨D, _, rfl, sqL eD, _, _, rfl, rfl, ?_⟩
      have els : wk - (Y.map g).sum = wOf W kk - ysum g (yOf Ys kk) := by rw [wOf_get ewk, yOf_get eY]; rfl
      have eN2 := eN.trans (ext_same sm)
      have hT2 := tabs_same hT' sm
      -- if left > 0
      refine ⟨_, rfl, _, _, rfl, rfl, _, rfl, ite2 (fun hlt => ?_) (fun hlt => ?_)⟩
      · have hlt := of_decide_eq_true hlt
        have hlt' : 0 < wOf W kk - ysum g (yOf Ys kk) := by rw [← els]; exact hlt
        have hto := hrY o.1 hO.1
        have hton : o.1.toNat < n := by have := hto.1; have := hto.2; omega
        have eto : (o.1.toNat : Int) = o.1 := by have := hto.1; omega
        -- found[top[k][0]] += left
        refine ⟨_, rfl, _, rfl, _, rfl, tp, _, _, _, rfl, rfl, sqL (ext_lst (eN2) etp), at_of rfl (get_ref etk), tk, _, 0, .int o.1, rfl, rfl, sqT (ext_tup eN2 (hTL.2 kk tk o etk eo)), atI_nat (j := 0) rfl, fo, _, o.1.toNat, .int (g o.1), rfl, by rw [eto], sqL (sm _ _ ef'), get_int ?_, _, rfl, _, _, rfl, rfl, fo, _, o.1, o.1.toNat, rfl, rfl, sm _ _ ef', ?_, ?_⟩
        · rw [List.getElem?_map, ran_get hton, eto]
          rfl
        · unfold ixN
          rw [if_pos hto.1, if_pos (by rw [List.length_map, List.length_map, len_ran]; exact hto.2)]
        have epa2 : (L2.upd H2 fo (.lst ((((ran n).map g).map V.int).set o.1.toNat (.int (g o.1 + (wk - (Y.map g).sum)))))) pa = some (.lst (pay.map nV)) := by
          rw [upd_ne nfp.symm]; exact sm _ _ ep'
        -- payers.append(k)
        refine ⟨_, rfl, .inl ⟨rfl, _, sqL epa2⟩, _, rfl, pa, _, _, rfl, rfl, epa2, small_of (m := 1000) (by rw [List.length_map]; omega), ext_at (ext_at eN2 nfo) npa1, tabs_lst (tabs_lst hT2 (sm _ _ ef')) epa2, ?_, ⟨addAt g o.1 (wk - (Y.map g).sum), pay ++ [kk], ?_, ?_, ?_, ?_⟩, _, _, _, rfl⟩
        · rw [upd_ne nkpa, upd_ne nkf]; exact sm _ _ ek'
        · show (L2.upd _ pa _) fo = _
          rw [upd_ne nfp, upd_same]
          congr 2
          have := set_price (n := n) (g := g) (j := o.1.toNat) (l := wk - (Y.map g).sum)
          rw [eto] at this
          exact this
        · rw [upd_same, List.map_append]; rfl
        · rw [List.length_append]; simp; omega
        · rw [hrun, hdrop, run_cons_pos hlt', tOf_get eo, els]
          show (_, _) = (_, _)
          rw [List.append_assoc]
          rfl
      · have hlt' : ¬ 0 < wOf W kk - ysum g (yOf Ys kk) := fun z => hlt (decide_eq_true (by rw [els]; exact z))
        refine ⟨eN2, hT2, sm _ _ ek', ⟨g, pay, sm _ _ ef', sm _ _ ep', by omega, ?_⟩, _, _, _, rfl⟩
        rw [hrun, hdrop, run_cons_neg hlt']
    · obtain ⟨eN, hT', ek', ⟨g, pay, ef', ep', hpl, hrun⟩, y6, y7, y9, rfl⟩ := h
      rw [List.length_map, List.drop_length, run, List.append_nil] at hrun
      rw [hrun] at hfin
      refine ⟨_, rfl, _, rfl, two_line, fun t nt => ?_⟩
      have sT : Same H' (L2.upd H' t (.tup [.ref fo, .ref pa])) := same_upd nt
      exact q _ t fo pa g pay ((e1.trans eN).trans (ext_same sT)) (tabs_same hT' sT) upd_same (sT _ _ ef') (sT _ _ ep') (fun xs z => by rw [ext_lst e1 z] at nfo; cases nfo) hfin
end
end Tw
/-! best_yards, prices -/
namespace Tw
open PySem PySem.Spec PyProof.Rows L2 LamX
/-- those of the taken that are not apart from one -/
def hits (Y : Nat → List Int) (k : Nat) (T : List Nat) : List Nat := T.filter fun m => !disj (Y k) (Y m)
theorem hits_take {Y : Nat → List Int} {k : Nat} {T : List Nat} {i m : Nat} (h : T[i]? = some m) : hits Y k (T.take (i + 1)) = hits Y k (T.take i) ++ if disj (Y k) (Y m) = true then [] else [m] := by
  unfold hits
  rw [List.take_add_one, h, List.filter_append]
  congr 1
  by_cases e : disj (Y k) (Y m) = true
  · rw [if_pos e]; simp [e]
  · rw [if_neg e]; simp [e]
theorem hits_none {Y : Nat → List Int} {k : Nat} {T : List Nat} : (hits Y k T).length = 0 ↔ (T.all fun m => disj (Y k) (Y m)) = true := by
  unfold hits
  rw [List.length_eq_zero_iff, List.filter_eq_nil_iff, List.all_eq_true]
  exact ⟨fun h m hm => by simpa using h m hm, fun h m hm => by simp [h m hm]⟩
theorem greedy_take {Y : Nat → List Int} {p : List Nat} {i k : Nat} (h : p[i]? = some k) : (p.take (i + 1)).foldl (greedy1 Y) [] = greedy1 Y ((p.take i).foldl (greedy1 Y) []) k := by
  rw [List.take_add_one, h, List.foldl_append]
  rfl
theorem greedy_le {Y : Nat → List Int} : ∀ (p T : List Nat), (p.foldl (greedy1 Y) T).length ≤ T.length + p.length
  | [], T => by simp
  | k :: p, T => by
    rw [List.foldl_cons, List.length_cons]
    refine Nat.le_trans (greedy_le p _) ?_
    unfold greedy1
    split <;> simp <;> omega
theorem greedy_in {Y : Nat → List Int} : ∀ (p T : List Nat) (k : Nat), k ∈ p.foldl (greedy1 Y) T → k ∈ T ∨ k ∈ p
  | [], T, k, h => .inl h
  | j :: p, T, k, h => by
    rw [List.foldl_cons] at h
    rcases greedy_in p _ k h with h | h
    · unfold greedy1 at h
      split at h
      · rcases List.mem_append.mp h with h | h
        · exact .inl h
        · exact .inr (by rw [List.mem_singleton.mp h]; exact List.mem_cons_self)
      · exact .inl h
    · exact .inr (List.mem_cons_of_mem _ h)
theorem rising {m : Nat} {Y : Nat → List Int} {T : List Nat} (B : Best m Y T) (hne : ∀ k, k < m → Y k ≠ []) (h : T.Pairwise (· ≤ ·)) : T.Pairwise (· < ·) := by
  have h2 := List.Pairwise.and h B.apart
  refine h2.imp_of_mem fun {a b} ha hb h => ?_
  obtain ⟨h1, h3⟩ := h
  rcases Nat.lt_or_ge a b with z | z
  · exact z
  · have e : a = b := Nat.le_antisymm h1 z
    subst e
    obtain ⟨x, hx⟩ := List.exists_mem_of_ne_nil _ (hne a (B.lt a ha))
    exact absurd hx (h3 x hx)
section
variable {P : Program} {w : World} {K : PySem.W.Frag} {mg : Str → Option Value} {base : Heap}
theorem mem_nV {T : List Nat} {i : Nat} {v : V} (h : (T.map nV)[i]? = some v) : ∃ k, T[i]? = some k ∧ v = nV k := by
  rw [List.getElem?_map] at h
  obtain ⟨k, e1, e2⟩ := Option.map_eq_some_iff.mp h
  exact ⟨k, e1, e2.symm⟩
theorem nV_ints (T : List Nat) : T.map nV = (T.map Int.ofNat).map V.int := by rw [List.map_map]; rfl
def spBest (T : List (Addr × Str)) (K : PySem.W.Frag) : Sp := fun vs H Q _ => ∃ (a y b : Addr) (n : Nat) (rs : List Road) (Ys : List (List Int)) (W : List Int), vs = [.int n, .ref a, .ref y, .ref b] ∧ Roads H a rs ∧ TreeOK n rs ∧ n ≤ 12 ∧ Rows H y Ys ∧ (∀ Y ∈ Ys, Lump n rs Y) ∧ Ys.length ≤ 1000 ∧ IL H b W ∧ W.length = Ys.length ∧ (∀ x ∈ W, 0 ≤ x) ∧ Tabs T H ∧
  ∀ (H' : Hp) (p : Addr) (g : Int → Int) (B : List Nat), ExtN H H' → Tabs T H' → H' p = some (.lst (B.map nV)) → (∀ xs, H p ≠ some (.lst xs)) → B.Pairwise (· < ·) → Fair n Ys.length (yOf Ys) (wOf W) g → Best Ys.length (yOf Ys) B → wsum (wOf W) B = gsum n g → Q (.ref p) H'
theorem ok_best {f fM fP fA P1 P2 : Addr} {fd fdM fdP fdA : FuncData} {k : Nat} (F : Fun K "best_yards" "best_yards" sBest f fd) (GM : FnOk P w K mg base CX0 (k + 7) fM fdM ["many", "roads", "yards", "worths"] (spMustWorths K)) (kM : PySem.W.keepIn K (.ref fM) = true) (bM : Binds K fdM ["many", "roads", "yards", "worths"] []) (gM : mg "must_be_worths" = some (.ref fM))
    (GP : FnOk P w K mg base CX0 (k + 7) fP fdP ["many", "roads", "yards", "worths"] (spPaid (TT P1 P2) K)) (kP : PySem.W.keepIn K (.ref fP) = true) (bP : Binds K fdP ["many", "roads", "yards", "worths"] []) (gP : mg "paid" = some (.ref fP))
    (GA : FnOk P w K mg base CX0 (k + 7) fA fdA ["one", "other"] (spApart K)) (kA : PySem.W.keepIn K (.ref fA) = true) (bA : Binds K fdA ["one", "other"] []) (gA : mg "are_apart" = some (.ref fA)) (ml : mg "len" = none) (ms : mg "sorted" = none) :
    FnOk P w K mg base CX0 (k + 8) f fd ["many", "roads", "yards", "worths"] (spBest (TT P1 P2) K) := by
  refine F.ok scBest (fun vs H Q E h => ?_) (fun cdv A outer s H vs Q E hr h => ?_)
  · obtain ⟨a, y, b, n, rs, Ys, W, rfl, _⟩ := h
    rfl
  · obtain ⟨a, y, b, n, rs, Ys, W, rfl, hR, T, h12, hYs, hL, hlen, hW, hWl, hW0, hT, q⟩ := h
    refine ⟨_, pss_cons (ps_expr (pe_call GM hr (by rfl) gM kM bM .nil pass0 (pa_cons (pv 0) (pa_cons (pv 1) (pa_cons (pv 2) (pa_cons (pv 3) pa_nil))))))
      (pss_cons (ps_set (i := 4) scBest.nd rfl (.inl rfl) (pe_lst pa_nil))
      (pss_cons (ps_for PassesOwn.never rfl (pi_list (pe_revL (pe_ix ix_tup (pe_call GP hr (by rfl) gP kP bP .nil pass0 (pa_cons (pv 0) (pa_cons (pv 1) (pa_cons (pv 2) (pa_cons (pv 3) pa_nil))))) pe_int (fun _ _ => rfl))))
          (pg_name (i := 5) scBest.nd rfl (.inr rfl))
        (pss_one (ps_if (pt_cmpR op_eq (pe_callB call_len_seq (by rfl) ml PySem.boot_len (pa_cons
            (pe_lc (own := [("other", 6)]) (g := gName 6) (by rfl) scBest.nd (pi_list (pv 4)) (blkOk_by (own := [("other", 6)]) (N := ["many", "roads", "yards", "worths", "taken", "k", "other"]) (sc := defScope sBest) (by decide +kernel))
              (fun _ _ _ _ _ => pg_name (i := 6) scBest.nd rfl (Or.inl rfl))
              (fun _ _ _ _ _ => pts_one (pt_not (pt_val (pe_call GA hr (by rfl) gA kA bA .nil pass0 (pa_cons (pe_ix (r := rIxL K) ix_list (pv 2) (pv 5) (fun _ _ => rfl)) (pa_cons (pe_ix (r := rIxL K) ix_list (pv 2) (pv 6) (fun _ _ => rfl)) pa_nil))))))
              (fun _ _ _ _ _ => pv 6)) pa_nil)) pe_int (nomark _))
          (pss_one (ps_expr (pe_bm PySem.F.plainAttrs_list PySem.F.slot_list_append PySem.F.type_list_append mt_append (pv 4) (pa_cons (pv 5) pa_nil)))) pss_nil)))
      (pss_one (ps_ret (pe_callB cr_sortedI (by rfl) ms boot_sorted (pa_cons (pv 4) pa_nil)))))), ?_⟩
    refine ⟨_, rfl, _, rfl, _, rfl, _, rfl, a, y, b, n, rs, Ys, W, rfl, hR, T, h12, hYs, hL, hW, hWl, hW0, fun H0 s0 => ?_⟩
    -- taken = []
    refine ⟨Nat.zero_le _, fun o no => ?_⟩
    have s1 : Same H0 (L2.upd H0 o (.lst [])) := same_upd no
    have sH := s0.trans s1
    have noH : H o = none := s0.free no
    -- for k in paid(..)[1][::-1]
    refine ⟨_, rfl, _, rfl, _, rfl, _, rfl, a, y, b, n, rs, Ys, W, rfl, hR.same sH, T, h12, hYs.same sH, hL, hlen, sH _ _ hW, hWl, tabs_same hT sH, fun H1 t fo pa g pay e1 hT1 et ef ep hfo hPay => ?_⟩
    refine ⟨t, _, 1, .ref pa, rfl, rfl, sqT et, atI_nat (j := 1) rfl, pa, _, rfl, sqL ep, fun rp nrp => ?_⟩
    have s2 : Same H1 (L2.upd H1 rp (.lst (pay.map nV).reverse)) := same_upd nrp
    have eo1 : H1 o = some (.lst []) := ext_lst e1 upd_same
    have nro : rp ≠ o := fun z => by rw [z, eo1] at nrp; cases nrp
    have erev : (pay.map nV).reverse = pay.reverse.map nV := by rw [List.map_reverse]
    have eH1 : ExtN H H1 := (ext_same sH).trans e1
    have hYlen : ∀ k, k ∈ pay → k < Ys.length := hPay.lt
    rw [erev] at s2 ⊢
    obtain ⟨ys, hA, hyl, hY⟩ := ext_rows eH1 hYs
    refine ⟨rp, rfl, ⟨_, sqL upd_same⟩, for_list (xs := pay.reverse.map nV) (fun i σ H' => ExtN H H' ∧ Tabs (TT P1 P2) H' ∧ H' rp = some (.lst (pay.reverse.map nV)) ∧ H' y = some (.lst (ys.map V.ref)) ∧ (∀ (i : Nat) (p : Addr) (r : List Int), ys[i]? = some p → Ys[i]? = some r → IL H' p r) ∧ H' o = some (.lst (((pay.reverse.take i).foldl (greedy1 (yOf Ys)) []).map nV)) ∧
        ∃ y5 y6, σ = [some (.int (n : Int)), some (.ref a), some (.ref y), some (.ref b), some (.ref o), y5, y6])
      ⟨eH1.trans (ext_same s2), tabs_same hT1 s2, upd_same, s2 _ _ hA, fun i p r e1 e2 => s2 _ _ (hY i p r e1 e2), s2 _ _ eo1, none, none, rfl⟩ (fun i σ H' _ h => sqL h.2.2.1) (fun i v σ H' ev h => ?_) (fun σ H' h => ?_)⟩
    · obtain ⟨eN, hT', er, hA', hY', eo, y5, y6, rfl⟩ := h
      obtain ⟨kk, ekk, rfl⟩ := mem_nV ev
      have hi := (List.getElem?_eq_some_iff.mp ekk).1
      have hkm := hYlen kk (List.mem_reverse.mp (List.mem_of_getElem? ekk))
      obtain ⟨Y, eY⟩ : ∃ Y, Ys[kk]? = some Y := ⟨_, List.getElem?_eq_getElem hkm⟩
      obtain ⟨py, epy⟩ : ∃ p, ys[kk]? = some p := ⟨_, List.getElem?_eq_getElem (by omega)⟩
      have hYl : ∀ {k : Nat} {Y : List Int}, Ys[k]? = some Y → Y.length ≤ 1000 := fun {k Y} e => by
        have hLY := hL Y (List.mem_of_getElem? e)
        have := Nodup_le (l' := ran n) hLY.nodup fun x hx => mem_ran.mpr (hLY.rng T x hx)
        rw [len_ran] at this
        omega
      rw [greedy_take ekk]
      have hgl := greedy_le (Y := yOf Ys) (pay.reverse.take i) []
      have hpl : pay.reverse.length ≤ 1000 := by
        have := hPay.few
        rw [List.length_reverse]
        omega
      have hgin : ∀ m ∈ (pay.reverse.take i).foldl (greedy1 (yOf Ys)) [], m < Ys.length := fun m hm => by
        rcases greedy_in _ _ m hm with z | z
        · cases z
        · exact hYlen m (List.mem_reverse.mp (List.mem_of_mem_take z))
      generalize (pay.reverse.take i).foldl (greedy1 (yOf Ys)) [] = Tk at *
      rw [List.length_take, List.length_nil] at hgl
      -- the list of those not apart
      refine ⟨_, rfl, o, rfl, ⟨_, sqL eo⟩, fun D nD => lc_list (xs := Tk.map nV) (fun j H2 => Same H' H2 ∧ H2 D = some (.lst ((hits (yOf Ys) kk (Tk.take j)).map nV))) ⟨same_upd nD, upd_same⟩ (fun j H2 _ h => sqL (h.1 _ _ eo)) (fun j v H2 ev h => ?_) (fun H2 h => ?_)⟩
      · obtain ⟨sm, eD⟩ := h
        obtain ⟨mm, emm, rfl⟩ := mem_nV ev
        have hmm := hgin mm (List.mem_of_getElem? emm)
        obtain ⟨Ym, eYm⟩ : ∃ Y, Ys[mm]? = some Y := ⟨_, List.getElem?_eq_getElem hmm⟩
        obtain ⟨pm, epm⟩ : ∃ p, ys[mm]? = some p := ⟨_, List.getElem?_eq_getElem (by omega)⟩
        have hjl := (List.getElem?_eq_some_iff.mp emm).1
        have hhl : (hits (yOf Ys) kk (Tk.take j)).length ≤ Tk.length := by
          unfold hits
          refine Nat.le_trans (List.length_filter_le _ _) ?_
          rw [List.length_take]; omega
        refine ⟨rfl, _, rfl, _, rfl, y, _, _, _, rfl, rfl, sqL (sm _ _ hA'), at_of rfl (get_ref epy), _, rfl, _, rfl, y, _, _, _, rfl, rfl, sqL (sm _ _ hA'), at_of rfl (get_ref epm), py, pm, Y, Ym, rfl, sm _ _ (hY' kk py Y epy eY), sm _ _ (hY' mm pm Ym epm eYm), hYl eY, fun H3 s3 => ⟨disj Y Ym, rfl, ?_⟩⟩
        rw [hits_take emm, yOf_get eY, yOf_get eYm]
        by_cases e : disj Y Ym = true
        · rw [e, if_pos rfl, List.append_nil]
          exact iteF ⟨sm.trans s3, s3 _ _ eD⟩
        · rw [if_neg e, Bool.eq_false_iff.mpr e]
          refine iteT ⟨_, rfl, _, s3 _ _ eD, small_of (m := 2000000) (by rw [List.length_map]; omega), same_at (sm.trans s3) nD, ?_⟩
          rw [upd_same, List.map_append]; rfl
      obtain ⟨sm, eD⟩ := h
      rw [List.length_map, List.take_of_length_le (Nat.le_refl _)] at eD
      refine ⟨D, _, rfl, .inl (sqL eD), rfl, _, rfl, ?_⟩
      rw [List.length_map]
      have eN2 := eN.trans (ext_same sm)
      have hT2 := tabs_same hT' sm
      unfold greedy1
      refine ite2 (fun hz => ?_) (fun hz => ?_)
      · have hz0 : (hits (yOf Ys) kk Tk).length = 0 := by
          have := V.int.inj (of_decide_eq_true hz)
          omega
        rw [if_pos (hits_none.mp hz0)]
        have eo2 := sm _ _ eo
        refine ⟨_, rfl, .inl ⟨rfl, _, sqL eo2⟩, _, rfl, o, _, _, rfl, rfl, eo2, small_of (m := 2000000) (by rw [List.length_map]; omega), ext_at eN2 noH, tabs_lst hT2 eo2, ?_, ?_, ?_, ?_, _, _, rfl⟩
        · rw [upd_ne nro]; exact sm _ _ er
        · have nyo : y ≠ o := ne_of_none (H := H) (hYs.choose_spec.1) noH
          rw [upd_ne nyo]; exact sm _ _ hA'
        · intro j p r e1 e2
          have hpo : p ≠ o := by
            obtain ⟨ys0, hA0, hyl0, hY0⟩ := hYs
            have e3 : ys0 = ys := by
              have := hA'
              rw [ext_lst eN hA0] at this
              have := HO.lst.inj (Option.some.inj this)
              exact (List.map_inj_right (fun a b h => V.ref.inj h)).mp this
            rw [← e3] at e1
            exact ne_of_none (hY0 j p r e1 e2) noH
          rw [show IL (L2.upd H2 o _) p r = ((L2.upd H2 o _) p = _) from rfl, upd_ne hpo]
          exact sm _ _ (hY' j p r e1 e2)
        · rw [upd_same, List.map_append]; rfl
      · have hz0 : ¬ (hits (yOf Ys) kk Tk).length = 0 := fun z => hz (decide_eq_true (by rw [z]; rfl))
        rw [if_neg fun z => hz0 (hits_none.mpr z)]
        exact ⟨eN2, hT2, sm _ _ er, sm _ _ hA', fun j p r e1 e2 => sm _ _ (hY' j p r e1 e2), sm _ _ eo, _, _, rfl⟩
    · obtain ⟨eN, hT', er, hA', hY', eo, y5, y6, rfl⟩ := h
      rw [List.length_map, List.take_of_length_le (Nat.le_refl _)] at eo
      have eo : H' o = some (.lst ((greedy (yOf Ys) pay).map nV)) := eo
      refine ⟨_, rfl, o, (greedy (yOf Ys) pay).map Int.ofNat, rfl, by rw [← nV_ints]; exact sqL eo, fun ns p hperm hsort np => ?_⟩
      have sp : Same H' (L2.upd H' p (.lst (ns.map V.int))) := same_upd np
      obtain ⟨B, hB, hBp⟩ : ∃ B : List Nat, ns = B.map Int.ofNat ∧ (greedy (yOf Ys) pay).Perm B := by
        refine ⟨ns.map Int.toNat, ?_, ?_⟩
        · rw [List.map_map]
          conv => lhs; rw [← List.map_id ns]
          refine List.map_congr_left fun z hz => ?_
          obtain ⟨j, _, rfl⟩ := List.mem_map.mp (hperm.mem_iff.mp hz)
          rfl
        · have := (hperm.map Int.toNat).symm
          rw [List.map_map] at this
          have e : Int.toNat ∘ Int.ofNat = id := by funext k; rfl
          rw [e, List.map_id] at this
          exact this
      subst hB
      have hbest : Best Ys.length (yOf Ys) B := ⟨hPay.best.apart.perm hBp, fun k hk => hPay.best.lt k (hBp.mem_iff.mpr hk)⟩
      refine q _ p g B (eN.trans (ext_same sp)) (tabs_same hT' sp) (by rw [upd_same, nV_ints]) (fun xs z => by rw [ext_lst eN z] at np; cases np) (rising hbest (fun k hk => ?_) ?_) hPay.fair hbest ?_
      · obtain ⟨Y, eY⟩ : ∃ Y, Ys[k]? = some Y := ⟨_, List.getElem?_eq_getElem hk⟩
        rw [yOf_get eY]
        exact (hL Y (List.mem_of_getElem? eY)).ne
      · rw [List.pairwise_map] at hsort
        exact hsort.imp fun h => Int.ofNat_le.mp h
      · rw [← wsum_perm hBp]; exact hPay.same
end
end Tw
/-! prices -/
namespace Tw
open PySem PySem.Spec PyProof.Rows L2 LamX
section
variable {P : Program} {w : World} {K : PySem.W.Frag} {mg : Str → Option Value} {base : Heap}
def spPrices (T : List (Addr × Str)) (K : PySem.W.Frag) : Sp := fun vs H Q _ => ∃ (a y b : Addr) (n : Nat) (rs : List Road) (Ys : List (List Int)) (W : List Int), vs = [.int n, .ref a, .ref y, .ref b] ∧ Roads H a rs ∧ TreeOK n rs ∧ n ≤ 12 ∧ Rows H y Ys ∧ (∀ Y ∈ Ys, Lump n rs Y) ∧ Ys.length ≤ 1000 ∧ IL H b W ∧ W.length = Ys.length ∧ (∀ x ∈ W, 0 ≤ x) ∧ Tabs T H ∧
  ∀ (H' : Hp) (p : Addr) (g : Int → Int) (B : List Nat), ExtN H H' → Tabs T H' → IL H' p ((ran n).map g) → (∀ xs, H p ≠ some (.lst xs)) → Fair n Ys.length (yOf Ys) (wOf W) g → Best Ys.length (yOf Ys) B → wsum (wOf W) B = gsum n g → Q (.ref p) H'
theorem ok_prices {f fM fP P1 P2 : Addr} {fd fdM fdP : FuncData} {k : Nat} (F : Fun K "prices" "prices" sPrices f fd) (GM : FnOk P w K mg base CX0 (k + 7) fM fdM ["many", "roads", "yards", "worths"] (spMustWorths K)) (kM : PySem.W.keepIn K (.ref fM) = true) (bM : Binds K fdM ["many", "roads", "yards", "worths"] []) (gM : mg "must_be_worths" = some (.ref fM))
    (GP : FnOk P w K mg base CX0 (k + 7) fP fdP ["many", "roads", "yards", "worths"] (spPaid (TT P1 P2) K)) (kP : PySem.W.keepIn K (.ref fP) = true) (bP : Binds K fdP ["many", "roads", "yards", "worths"] []) (gP : mg "paid" = some (.ref fP)) :
    FnOk P w K mg base CX0 (k + 8) f fd ["many", "roads", "yards", "worths"] (spPrices (TT P1 P2) K) := by
  refine F.ok scPrices (fun vs H Q E h => ?_) (fun cdv A outer s H vs Q E hr h => ?_)
  · obtain ⟨a, y, b, n, rs, Ys, W, rfl, _⟩ := h
    rfl
  · obtain ⟨a, y, b, n, rs, Ys, W, rfl, hR, T, h12, hYs, hL, hlen, hW, hWl, hW0, hT, q⟩ := h
    refine ⟨_, pss_cons (ps_expr (pe_call GM hr (by rfl) gM kM bM .nil pass0 (pa_cons (pv 0) (pa_cons (pv 1) (pa_cons (pv 2) (pa_cons (pv 3) pa_nil))))))
      (pss_one (ps_ret (pe_ix ix_tup (pe_call GP hr (by rfl) gP kP bP .nil pass0 (pa_cons (pv 0) (pa_cons (pv 1) (pa_cons (pv 2) (pa_cons (pv 3) pa_nil))))) pe_int (fun _ _ => rfl)))), ?_⟩
    refine ⟨_, rfl, _, rfl, _, rfl, _, rfl, a, y, b, n, rs, Ys, W, rfl, hR, T, h12, hYs, hL, hW, hWl, hW0, fun H0 s0 => ?_⟩
    refine ⟨_, rfl, _, rfl, _, rfl, _, rfl, a, y, b, n, rs, Ys, W, rfl, hR.same s0, T, h12, hYs.same s0, hL, hlen, s0 _ _ hW, hWl, tabs_same hT s0, fun H1 t fo pa g pay e1 hT1 et ef ep hfo hPay => ?_⟩
    exact ⟨t, _, 0, .ref fo, rfl, rfl, sqT et, atI_nat (j := 0) rfl, q H1 fo g _ ((ext_same s0).trans e1) hT1 ef (fun xs z => hfo xs (s0 _ _ z)) hPay.fair hPay.best hPay.same⟩
end
end Tw
/-! the law's small helpers: whole, cell_at, mixed, names -/
namespace Tw
open PySem PySem.Spec PyProof.Rows L2
section
variable {P : Program} {w : World} {K : PySem.W.Frag} {mg : Str → Option Value} {base : Heap}
def spWhole (K : PySem.W.Frag) : Sp := fun vs H Q _ => ∃ i : Int, vs = [.int i] ∧ Q (.bl true) H
theorem ok_whole {f : Addr} {fd : FuncData} {k : Nat} (F : Fun K "_law_whole" "_law_whole" sWhole f fd) (mi : mg "isinstance" = none) (mn : mg "int" = none) (mb : mg "bool" = none) : FnOk P w K mg base CX0 (k + 1) f fd ["_law_found"] (spWhole K) := by
  refine F.ok scWhole (fun vs H Q E h => ?_) (fun cdv A outer s H vs Q E hr h => ?_)
  · obtain ⟨i, rfl, _⟩ := h
    rfl
  · obtain ⟨i, rfl, q⟩ := h
    refine ⟨_, pss_one (ps_ret (pe_and (pe_callB call_isi (by rfl) mi (by decide +kernel) (pa_cons (pv 0) (pa_cons (pe_bltn (v := .ty "int") (by rfl) mn boot_int rfl) pa_nil)))
      (pe_one (pe_not (pe_callB call_isi (by rfl) mi (by decide +kernel) (pa_cons (pv 0) (pa_cons (pe_bltn (v := .ty "bool") (by rfl) mb (show bootBuiltins "bool" = some (.type "bool") by decide +kernel) rfl) pa_nil))))))), ?_⟩
    refine ⟨_, rfl, _, _, _, _, true, rfl, .ty _, .base (.int i), kit_ty (by decide +kernel), true, rfl, iteT ⟨_, rfl, _, _, _, _, false, rfl, .ty _, .base (.int i), kit_ty (by decide +kernel), false, rfl, q⟩⟩
def spCellAt (K : PySem.W.Frag) : Sp := fun vs H Q _ => ∃ (a : Addr) (k : Nat) (ns : List Int), vs = [.ref a, .int (k : Int)] ∧ SqL K H a (ns.map V.int) ∧ ∀ x, Q (.int x) H
theorem ok_cellAt {f : Addr} {fd : FuncData} {k : Nat} (F : Fun K "_law_cell_at" "_law_cell_at" sCellAt f fd) (ml : mg "len" = none) : FnOk P w K mg base CX0 (k + 1) f fd ["_law_script", "_law_k"] (spCellAt K) := by
  refine F.ok scCellAt (fun vs H Q E h => ?_) (fun cdv A outer s H vs Q E hr h => ?_)
  · obtain ⟨a, k, ns, rfl, _⟩ := h
    rfl
  · obtain ⟨a, k, ns, rfl, hS, q⟩ := h
    refine ⟨_, pss_cons (ps_if (pt_cmpR op_lt (pv 1) (pe_callB call_len_seq (by rfl) ml PySem.boot_len (pa_cons (pv 0) pa_nil)) (nomark _)) (pss_one (ps_ret (pe_ix ix_list (pv 0) (pv 1) (fun _ _ => rfl)))) pss_nil)
      (pss_one (ps_ret pe_int)), ?_⟩
    refine ⟨_, rfl, _, rfl, a, _, rfl, .inl hS, _, _, rfl, rfl, _, rfl, ite2 (fun e => ?_) (fun e => q 0)⟩
    rw [List.length_map] at e
    have hk : k < ns.length := by have := of_decide_eq_true e; omega
    exact ⟨_, rfl, _, rfl, a, _, _, _, rfl, rfl, hS, at_of rfl (get_int (List.getElem?_eq_getElem hk)), q _⟩
def spMixed (K : PySem.W.Frag) : Sp := fun vs H Q _ => ∃ (c k : Int), vs = [.int c, .int k] ∧ (-(2 ^ 64) < k ∧ k < 2 ^ 64) ∧ ∀ m : Int, 0 ≤ m → m < 2147483587 → Q (.int m) H
theorem ok_mixed {f : Addr} {fd : FuncData} {k : Nat} (F : Fun K "_law_mixed" "_law_mixed" sMixed f fd) : FnOk P w K mg base CX0 (k + 1) f fd ["_law_cell", "_law_k"] (spMixed K) := by
  refine F.ok scMixed (fun vs H Q E h => ?_) (fun cdv A outer s H vs Q E hr h => ?_)
  · obtain ⟨c, k, rfl, _⟩ := h
    rfl
  · obtain ⟨c, k, rfl, hk, q⟩ := h
    refine ⟨_, pss_cons (ps_set (i := 2) scMixed.nd rfl (.inl rfl) (pe_op op_mod (pe_op op_add (pe_op op_add (pe_op op_mul (pv 0) pe_int) (pe_op op_mul (pe_op op_mul (pv 1) (pv 1)) pe_int)) pe_int) pe_int))
      (pss_cons (ps_set (i := 2) scMixed.nd rfl (.inl rfl) (pe_op op_mod (pe_op op_mul (pv 2) (pv 2)) pe_int))
      (pss_one (ps_ret (pe_op op_mod (pe_op op_mul (pv 2) (pv 2)) pe_int)))), ?_⟩
    refine ⟨_, rfl, _, _, rfl, rfl, .inr ⟨by decide, by decide⟩, _, rfl, _, rfl, _, _, rfl, rfl, .inl hk, _, _, rfl, rfl, .inr ⟨by decide, by decide⟩, _, _, rfl, rfl, _, _, rfl, rfl, _, _, rfl, rfl, (by show (0 : Int) < 2147483647; decide), ?_⟩
    have h1 := Int.emod_nonneg (c * 48271 + k * k * 69621 + 3) (show (2147483647 : Int) ≠ 0 by decide)
    have h2 := Int.emod_lt_of_pos (c * 48271 + k * k * 69621 + 3) (show (0 : Int) < 2147483647 by decide)
    generalize (c * 48271 + k * k * 69621 + 3) % 2147483647 = n1 at *
    refine ⟨_, rfl, _, rfl, _, _, rfl, rfl, .inl ⟨by omega, by omega⟩, _, _, rfl, rfl, (by show (0 : Int) < 2147483629; decide), ?_⟩
    have h3 := Int.emod_nonneg (n1 * n1) (show (2147483629 : Int) ≠ 0 by decide)
    have h4 := Int.emod_lt_of_pos (n1 * n1) (show (0 : Int) < 2147483629 by decide)
    generalize n1 * n1 % 2147483629 = n2 at *
    refine ⟨_, rfl, _, rfl, _, _, rfl, rfl, .inl ⟨by omega, by omega⟩, _, _, rfl, rfl, (by show (0 : Int) < 2147483587; decide), q _ (Int.emod_nonneg _ (by decide)) (Int.emod_lt_of_pos _ (by decide))⟩
theorem insert_perm {l : List Int} {x : Int} (i : Nat) : (l.take i ++ [x] ++ l.drop i).Perm (l ++ [x]) := by
  have h : (l.take i ++ [x] ++ l.drop i).Perm (x :: (l.take i ++ l.drop i)) := by
    rw [List.append_assoc]
    exact List.perm_middle
  rw [List.take_append_drop] at h
  exact h.trans (List.perm_append_singleton x l).symm
theorem ran_succ (n : Nat) : ran (n + 1) = ran n ++ [(n : Int)] := by
  unfold ran
  rw [List.range_succ, List.map_append]
  rfl
def spNames (K : PySem.W.Frag) : Sp := fun vs H Q _ => ∃ (c : Int) (n : Nat), vs = [.int c, .int (n : Int)] ∧ n ≤ 12 ∧ ∀ H' p ps, Same H H' → H p = none → IL H' p ps → ps.Perm (ran n) → Q (.ref p) H'
theorem ok_names {f : Addr} {fd : FuncData} {k : Nat} (F : Fun K "_law_names" "_law_names" sNames f fd) (mr : mg "range" = none) : FnOk P w K mg base CX0 (k + 1) f fd ["_law_cell", "_law_many"] (spNames K) := by
  refine F.ok scNames (fun vs H Q E h => ?_) (fun cdv A outer s H vs Q E hr h => ?_)
  · obtain ⟨c, n, rfl, _⟩ := h
    rfl
  · obtain ⟨c, n, rfl, hn, q⟩ := h
    refine ⟨_, pss_cons (ps_set (i := 2) scNames.nd rfl (.inl rfl) (pe_lst pa_nil))
      (pss_cons (ps_for PassesOwn.never rfl (pi_range1 (by rfl) mr (pa_cons (pv 1) pa_nil)) (pg_name (i := 3) scNames.nd rfl (.inl rfl))
        (pss_cons (ps_expr (pe_bm PySem.F.plainAttrs_list PySem.F.slot_list_insert PySem.F.type_list_insert mt_insert (pv 2) (pa_cons (pe_op op_mod (pv 0) (pe_op op_add (pv 3) pe_int)) (pa_cons (pv 3) pa_nil))))
          (pss_one (ps_set (i := 0) scNames.nd rfl (.inl rfl) (pe_op op_fdiv (pv 0) (pe_op op_add (pv 3) pe_int))))))
      (pss_one (ps_ret (pv 2)))), ?_⟩
    refine ⟨Nat.zero_le _, fun o no => ?_⟩
    refine ⟨_, rfl, (n : Int), rfl, by omega, by omega, for_range (lo := 0) (n := (n : Int).toNat) (fun i σ H' => Same H H' ∧ (∃ ps, IL H' o ps ∧ ps.Perm (ran i)) ∧ ∃ (c : Int) (y : Option V), σ = [some (.int c), some (.int (n : Int)), some (.ref o), y]) ⟨same_upd no, ⟨[], upd_same, .refl _⟩, c, none, rfl⟩ (fun i σ H' hi h => ?_) (fun σ H' h => ?_)⟩
    · obtain ⟨sm, ⟨ps, eo, hp⟩, c', y, rfl⟩ := h
      have hlen := hp.length_eq
      rw [len_ran] at hlen
      have e0 : (0 : Int) + (i : Int) = (i : Int) := by omega
      have m1 := Int.emod_nonneg c' (show ((0 : Int) + (i : Int) + 1) ≠ 0 by omega)
      have m2 := Int.emod_lt_of_pos c' (show (0 : Int) < (0 : Int) + (i : Int) + 1 by omega)
      refine ⟨_, rfl, .inl ⟨rfl, _, sqL eo⟩, _, rfl, _, rfl, _, _, rfl, rfl, _, _, rfl, rfl, (by show (0 : Int) < 0 + (i : Int) + 1; omega), _, rfl, o, _, _, _, rfl, rfl, eo, small_of (m := 100) (by rw [List.length_map]; omega), m1, by omega, ?_⟩
      refine ⟨_, rfl, _, rfl, _, _, rfl, rfl, _, _, rfl, rfl, ⟨(by show (0 : Int) < 0 + (i : Int) + 1; omega), (by show (0 : Int) + (i : Int) + 1 < 1073741824; omega)⟩, same_at sm no, ⟨ps.take (c' % (0 + (i : Int) + 1)).toNat ++ [(i : Int)] ++ ps.drop (c' % (0 + (i : Int) + 1)).toNat, ?_, ?_⟩, _, _, rfl⟩
      · show (L2.upd _ o _) o = _
        rw [upd_same, List.map_append, List.map_append, List.map_take, List.map_drop, e0]
        rfl
      · rw [ran_succ]
        exact (insert_perm _).trans (hp.append_right _)
    · obtain ⟨sm, ⟨ps, eo, hp⟩, c', y, rfl⟩ := h
      rw [Int.toNat_natCast] at hp
      exact ⟨_, rfl, q H' o ps sm no eo hp⟩
end
end Tw
/-! the law's numbers -/
namespace Tw
open PySem PySem.Spec PyProof.Rows L2
theorem set_ints {ns : List Int} {j : Nat} {x : Int} : (ns.map V.int).set j (.int x) = (ns.set j x).map V.int := by
  rw [List.map_set]
theorem nonneg_set {ns : List Int} {j : Nat} {x : Int} (h : ∀ y ∈ ns, 0 ≤ y) (hx : 0 ≤ x) : ∀ y ∈ ns.set j x, 0 ≤ y := fun y hy => by
  rcases List.mem_or_eq_of_mem_set hy with z | z
  · exact h y z
  · rw [z]; exact hx
theorem ixN_nat {n j : Nat} (h : j < n) : ixN n (j : Int) = some j := by
  unfold ixN
  rw [if_pos (by omega), if_pos (by omega)]
  simp
/-- all but an item that is written over stay below a bound -/
theorem lt_set {b : Int} {ns : List Int} {j : Nat} {x : Int} (h : ∀ y ∈ ns, y < b) (hx : x < b) : ∀ y ∈ ns.set j x, y < b := fun y hy => by
  rcases List.mem_or_eq_of_mem_set hy with z | z
  · exact h y z
  · rw [z]; exact hx
theorem dp_ints {K : PySem.W.Frag} {H : Hp} : ∀ ns : List Int, DpAll K H (ns.map V.int) (ns.map PyData.int)
  | [] => .nil
  | x :: ns => .cons (.int x) (dp_ints ns)
theorem canlay_ints : ∀ ns : List Int, PyData.canLayAll0 (ns.map PyData.int) = true
  | [] => by rw [List.map_nil, PyData.canLayAll0]
  | x :: ns => by
    rw [List.map_cons, PyData.canLayAll0, PyData.canLay0, canlay_ints ns]
    rfl
theorem shaped_ints (ns : List Int) : SeqAt.shaped (.list (ns.map PyData.int)) = true := by
  unfold SeqAt.shaped
  rw [PyData.canLay0, canlay_ints, PyData.depth, PySem.W.depth_ints]
  rfl
section
variable {P : Program} {w : World} {K : PySem.W.Frag} {mg : Str → Option Value} {base : Heap}
def spNumbers (K : PySem.W.Frag) : Sp := fun vs H Q _ => ∃ (a : Addr) (ns : List Int), vs = [.ref a] ∧ SqL K H a (ns.map V.int) ∧ ns.length ≤ 63 ∧ ∀ H' p qs, Same H H' → H p = none → IL H' p qs → qs.length = 96 → (∀ x ∈ qs, 0 ≤ x) → Q (.ref p) H'
theorem ok_numbers {f fM fC : Addr} {fd fdM fdC : FuncData} {k : Nat} (F : Fun K "_law_numbers" "_law_numbers" sNumbers f fd) (GM : FnOk P w K mg base CX0 (k + 1) fM fdM ["_law_cell", "_law_k"] (spMixed K)) (kM : PySem.W.keepIn K (.ref fM) = true) (bM : Binds K fdM ["_law_cell", "_law_k"] []) (gM : mg "_law_mixed" = some (.ref fM))
    (GC : FnOk P w K mg base CX0 (k + 1) fC fdC ["_law_script", "_law_k"] (spCellAt K)) (kC : PySem.W.keepIn K (.ref fC) = true) (bC : Binds K fdC ["_law_script", "_law_k"] []) (gC : mg "_law_cell_at" = some (.ref fC)) (ml : mg "len" = none) (mr : mg "range" = none) :
    FnOk P w K mg base CX0 (k + 2) f fd ["_law_script"] (spNumbers K) := by
  refine F.ok scNumbers (fun vs H Q E h => ?_) (fun cdv A outer s H vs Q E hr h => ?_)
  · obtain ⟨a, ns, rfl, _⟩ := h
    rfl
  · obtain ⟨a, ns, rfl, hS, hlen, q⟩ := h
    refine ⟨_, pss_cons (ps_set (i := 2) scNumbers.nd rfl (.inr rfl) (pe_lc (own := [("_law_k", 1)]) (g := gName 1) (by rfl) scNumbers.nd (pi_range1 (by rfl) mr (pa_cons pe_int pa_nil))
          (blkOk_by (own := [("_law_k", 1)]) (N := ["_law_script", "_law_k", "_law_numbers_here", "_law_left", "_law_base", "_law_at"]) (sc := defScope sNumbers) (by decide +kernel)) (fun _ _ _ _ _ => pg_name (i := 1) scNumbers.nd rfl (Or.inl rfl)) (fun _ _ _ _ _ => pts_nil)
          (fun _ _ _ _ _ => pe_call GM hr (by rfl) gM kM bM .nil pass0 (pa_cons (pe_call GC hr (by rfl) gC kC bC .nil pass0 (pa_cons (pv 0) (pa_cons pe_int pa_nil))) (pa_cons (pe_op op_add pe_int (pv 1)) pa_nil)))))
      (pss_cons (ps_set (i := 3) scNumbers.nd rfl (.inl rfl) (pe_slice sl_list (pv 0) (po_some pe_int) (po_some pe_int)))
      (pss_cons (ps_for PassesOwn.never rfl (pi_range1 (by rfl) mr (pa_cons (pe_callB call_len_seq (by rfl) ml PySem.boot_len (pa_cons (pv 3) pa_nil)) pa_nil)) (pg_name (i := 1) scNumbers.nd rfl (.inl rfl))
        (pss_one (ps_asg (pe_call GM hr (by rfl) gM kM bM .nil pass0 (pa_cons (pe_op op_add (pe_ix ix_list (pv 2) (pe_op op_mod (pv 1) pe_int) (fun _ _ => rfl)) (pe_ix ix_list (pv 3) (pv 1) (fun _ _ => rfl))) (pa_cons (pe_op op_add (pv 1) pe_int) pa_nil)))
          (pg_sub (pv 2) (pe_op op_mod (pv 1) pe_int) set_list))))
      (pss_cons (ps_set (i := 2) scNumbers.nd rfl (.inr rfl) (pe_op op_cat (pv 2) (pe_lc (own := [("_law_k", 1)]) (g := gName 1) (by rfl) scNumbers.nd (pi_range1 (by rfl) mr (pa_cons pe_int pa_nil))
          (blkOk_by (own := [("_law_k", 1)]) (N := ["_law_script", "_law_k", "_law_numbers_here", "_law_left", "_law_base", "_law_at"]) (sc := defScope sNumbers) (by decide +kernel)) (fun _ _ _ _ _ => pg_name (i := 1) scNumbers.nd rfl (Or.inl rfl)) (fun _ _ _ _ _ => pts_nil)
          (fun _ _ _ _ _ => pe_op op_add (pe_op op_mul (pe_ix (r := rIxL K) ix_list (pv 2) (pv 1) (fun _ _ => rfl)) (pe_op op_pow pe_int pe_int)) (pe_ix (r := rIxL K) ix_list (pv 2) (pe_op op_sub (pv 1) pe_int) (fun _ _ => rfl))))))
      (pss_cons (ps_if (PW.pt (pw_and (pt_cmpR op_eq (pe_op op_mod (pe_op op_fdiv (pe_call GC hr (by rfl) gC kC bC .nil pass0 (pa_cons (pv 0) (pa_cons pe_int pa_nil))) pe_int) pe_int) pe_int (nomark _)) (pw_and1 (pt_cmpR (op_neD hr.units) (pv 3) (pe_lst pa_nil) (nomark _)))))
        (pss_one (ps_for PassesOwn.never rfl (pi_range1 (by rfl) mr (pa_cons pe_int pa_nil)) (pg_name (i := 1) scNumbers.nd rfl (.inl rfl))
          (pss_cons (ps_set (i := 4) scNumbers.nd rfl (.inl rfl) (pe_ix ix_list (pe_lst (pa_cons pe_int (pa_cons (pe_op op_pow pe_int pe_int) pa_nil))) (pe_op op_fdiv (pv 1) pe_int) (fun _ _ => rfl)))
          (pss_cons (ps_set (i := 5) scNumbers.nd rfl (.inl rfl) (pe_op op_mod (pv 1) (pe_callB call_len_seq (by rfl) ml PySem.boot_len (pa_cons (pv 3) pa_nil))))
          (pss_cons (ps_asg (pe_op op_mod (pe_ix ix_list (pv 3) (pv 5) (fun _ _ => rfl)) (pv 4)) (pg_sub (pv 2) (pv 1) set_list))
          (pss_one (ps_asg (pe_op op_fdivW (pe_ix ix_list (pv 3) (pv 5) (fun _ _ => rfl)) (pv 4)) (pg_sub (pv 3) (pv 5) set_list)))))))) pss_nil)
      (pss_one (ps_ret (pv 2))))))), ?_⟩
    -- the first forty-eight
    refine ⟨48, rfl, by decide, by decide, fun D nD => lc_range (lo := 0) (n := (48 : Int).toNat) (fun i H' => Same H H' ∧ ∃ qs : List Int, IL H' D qs ∧ qs.length = i ∧ (∀ x ∈ qs, 0 ≤ x) ∧ ∀ x ∈ qs, x < 2147483587) ⟨same_upd nD, [], upd_same, rfl, by simp, by simp⟩ (fun i H' hi h => ?_) (fun H1 h => ?_)⟩
    · obtain ⟨sm, qs, eD, hl, h0, h1⟩ := h
      have hi : i < 48 := hi
      refine ⟨rfl, _, rfl, a, 0, ns, rfl, sm.seq hS, fun c => ⟨_, rfl, _, _, rfl, rfl, c, _, rfl, ⟨by omega, by omega⟩, fun m m0 m1 => ⟨_, eD, small_of (m := 100) (by rw [List.length_map]; omega), same_at sm nD, qs ++ [m], ?_, by rw [List.length_append, hl]; rfl, ?_, ?_⟩⟩⟩
      · show (L2.upd _ D _) D = _
        rw [upd_same, List.map_append]
        rfl
      · intro x hx
        rcases List.mem_append.mp hx with hx | hx
        · exact h0 x hx
        · rw [List.mem_singleton.mp hx]; exact m0
      · intro x hx
        rcases List.mem_append.mp hx with hx | hx
        · exact h1 x hx
        · rw [List.mem_singleton.mp hx]; exact m1
    obtain ⟨s1, qs, eD, hl, h0, h1⟩ := h
    have hl : qs.length = 48 := hl
    -- left = script[2:63]
    refine ⟨_, rfl, 2, rfl, 63, rfl, a, _, rfl, s1.seq hS, fun lf nlf => ?_⟩
    have hcut : ∃ ls : List Int, cutV (ns.map V.int) (some 2) (some 63) = ls.map V.int ∧ ls.length ≤ 63 := by
      refine ⟨(ns.drop (HT.sIx (ns.map V.int).length 0 (some 2))).take (HT.sIx (ns.map V.int).length (ns.map V.int).length (some 63) - HT.sIx (ns.map V.int).length 0 (some 2)), ?_, ?_⟩
      · unfold cutV
        rw [List.map_take, List.map_drop]
      · rw [List.length_take, List.length_drop]
        omega
    obtain ⟨ls, ecut, hll⟩ := hcut
    rw [ecut]
    have s2 : Same H1 (L2.upd H1 lf (.lst (ls.map V.int))) := same_upd nlf
    have nlfH : H lf = none := s1.free nlf
    have nDl : D ≠ lf := ne_of_none eD nlf
    have nD0 : H D = none := nD
    -- for k in range(len(left))
    refine ⟨_, rfl, lf, _, rfl, .inl (sqL upd_same), _, rfl, by rw [List.length_map]; omega, by rw [List.length_map]; omega, for_range (lo := 0) (n := ((ls.map V.int).length : Int).toNat) (fun i σ H' => Same H H' ∧ IL H' lf ls ∧ (∃ qs : List Int, IL H' D qs ∧ qs.length = 48 ∧ (∀ x ∈ qs, 0 ≤ x) ∧ ∀ x ∈ qs, x < 2147483587) ∧ ∃ y1 y4 y5, σ = [some (.ref a), y1, some (.ref D), some (.ref lf), y4, y5])
      ⟨s1.trans s2, upd_same, ⟨qs, s2 _ _ eD, hl, h0, h1⟩, none, none, none, rfl⟩ (fun i σ H' hi h => ?_) (fun σ H2 h => ?_)⟩
    · obtain ⟨sm, el, ⟨qs, eD, hl, h0, h1⟩, y1, y4, y5, rfl⟩ := h
      rw [List.length_map, Int.toNat_natCast] at hi
      have e0 : (0 : Int) + (i : Int) = (i : Int) := by omega
      have em : (0 + (i : Int)) % 48 = ((i % 48 : Nat) : Int) := by omega
      have hm : i % 48 < qs.length := by rw [hl]; exact Nat.mod_lt _ (by decide)
      refine ⟨_, rfl, _, rfl, _, _, rfl, rfl, (by show (0 : Int) < 48; decide), D, _, _, _, rfl, rfl, sqL eD, at_of em (get_int (List.getElem?_eq_getElem hm)), _, rfl, _, rfl, lf, _, _, _, rfl, rfl, sqL el, at_of e0 (get_int (List.getElem?_eq_getElem hi)), _, _, rfl, rfl, _, rfl, _, _, rfl, rfl, _, _, rfl, ⟨by omega, by omega⟩, fun m m0 m1 => ?_⟩
      refine ⟨_, rfl, _, rfl, _, _, rfl, rfl, (by show (0 : Int) < 48; decide), D, _, _, i % 48, rfl, rfl, eD, ?_, same_at sm nD0, ?_, ⟨qs.set (i % 48) m, ?_, by rw [List.length_set]; exact hl, nonneg_set h0 m0, lt_set h1 m1⟩, _, _, _, rfl⟩
      · rw [List.length_map, em]; exact ixN_nat hm
      · show (L2.upd H' D _) lf = _
        rw [upd_ne nDl.symm]; exact el
      · show (L2.upd H' D _) D = _
        rw [upd_same, set_ints]
    obtain ⟨sm2, el, ⟨qs, eD, hl, h0, h1⟩, y1, y4, y5, rfl⟩ := h
    -- the second forty-eight
    refine ⟨_, rfl, 48, rfl, by decide, by decide, fun D2 nD2 => lc_range (lo := 0) (n := (48 : Int).toNat) (fun i H' => Same H2 H' ∧ ∃ rs : List Int, IL H' D2 rs ∧ rs.length = i ∧ ∀ x ∈ rs, 0 ≤ x) ⟨same_upd nD2, [], upd_same, rfl, by simp⟩ (fun i H' hi h => ?_) (fun H3 h => ?_)⟩
    · obtain ⟨sm, rs, eD2, hrl, hr0⟩ := h
      have hi : i < 48 := hi
      have e0 : (0 : Int) + (i : Int) = (i : Int) := by omega
      obtain ⟨x, ex⟩ : ∃ x, qs[i]? = some x := ⟨_, List.getElem?_eq_getElem (by omega)⟩
      have hx0 := h0 x (List.mem_of_getElem? ex)
      have hx1 := h1 x (List.mem_of_getElem? ex)
      have hpow : (10 : Int) ^ (28 : Int).toNat = 10000000000000000000000000000 := by decide
      obtain ⟨z, ez, hz0⟩ : ∃ z, atI (qs.map V.int) (0 + (i : Int) - 1) = some (.int z) ∧ 0 ≤ z := by
        rcases Nat.eq_zero_or_pos i with i0 | i0
        · subst i0
          have hne : qs ≠ [] := fun z => by rw [z] at hl; simp at hl
          refine ⟨qs.getLast hne, ?_, h0 _ (List.getLast_mem hne)⟩
          have : qs.map V.int = (qs.dropLast.map V.int) ++ [.int (qs.getLast hne)] := by
            rw [← List.map_singleton, ← List.map_append, List.dropLast_concat_getLast]
          rw [this]
          exact atI_last _ _
        · obtain ⟨z, ez⟩ : ∃ z, qs[i - 1]? = some z := ⟨_, List.getElem?_eq_getElem (by omega)⟩
          exact ⟨z, at_of (by omega) (get_int ez), h0 z (List.mem_of_getElem? ez)⟩
      refine ⟨rfl, _, rfl, _, rfl, D, _, _, _, rfl, rfl, sqL (sm _ _ eD), at_of e0 (get_int ex), _, _, rfl, rfl, ⟨by decide, by decide, by decide⟩, _, _, rfl, rfl, .inl ⟨by omega, by omega⟩, _, rfl, _, rfl, _, _, rfl, rfl, D, _, _, _, rfl, rfl, sqL (sm _ _ eD), ez, _, _, rfl, rfl, _, eD2, small_of (m := 100) (by rw [List.length_map]; omega), same_at sm nD2, rs ++ [x * 10 ^ (28 : Int).toNat + z], ?_, by rw [List.length_append, hrl]; rfl, ?_⟩
      · show (L2.upd _ D2 _) D2 = _
        rw [upd_same, List.map_append]
        rfl
      · intro u hu
        rcases List.mem_append.mp hu with hu | hu
        · exact hr0 u hu
        · rw [List.mem_singleton.mp hu, hpow]
          omega
    obtain ⟨s3, rs, eD2, hrl, hr0⟩ := h
    have hrl : rs.length = 48 := hrl
    have eD3 := s3 _ _ eD
    refine ⟨D, D2, _, _, rfl, rfl, eD3, eD2, by rw [List.length_map, List.length_map, sizeLine_eq]; omega, fun N nN => ?_⟩
    have s4 : Same H3 (L2.upd H3 N (.lst (qs.map V.int ++ rs.map V.int))) := same_upd nN
    have eN : IL (L2.upd H3 N (.lst (qs.map V.int ++ rs.map V.int))) N (qs ++ rs) := by
      show (L2.upd _ N _) N = _
      rw [upd_same, List.map_append]
    have el4 := s4 _ _ (s3 _ _ el)
    have sH4 := (sm2.trans s3).trans s4
    have nNH : H N = none := (sm2.trans s3).free nN
    have nNl : N ≠ lf := fun z => by rw [z, s3 _ _ el] at nN; cases nN
    have hall : ∀ x ∈ qs ++ rs, 0 ≤ x := fun x hx => (List.mem_append.mp hx).elim (h0 x) (hr0 x)
    have hall_len : (qs ++ rs).length = 96 := by rw [List.length_append, hl, hrl]
    generalize L2.upd H3 N (.lst (qs.map V.int ++ rs.map V.int)) = H4 at *
    generalize qs ++ rs = ms at *
    -- if cell_at(script, 1) // 16 % 2 == 1 and left != []
    refine ⟨_, rfl, a, 1, ns, rfl, sH4.seq hS, fun c => ?_⟩
    refine ⟨_, _, rfl, rfl, ⟨by decide, by decide⟩, _, _, rfl, rfl, (by show (0 : Int) < 2; decide), rfl, _, rfl, ite2 (fun hc => ?_) (fun hc => iteF ⟨_, rfl, q H4 N ms sH4 nNH eN hall_len hall⟩)⟩
    refine ⟨_, rfl, Nat.zero_le _, fun e ne => ?_⟩
    have s5 : Same H4 (L2.upd H4 e (.lst [])) := same_upd ne
    refine ⟨_, _, .lst (sqL (s5 _ _ el4)) (dp_ints ls), .lst (sqL upd_same) .nil, shaped_ints ls, rfl, _, rfl, ite2 (fun hne => ?_) (fun hne => ⟨_, rfl, q _ N ms (sH4.trans s5) nNH (s5 _ _ eN) hall_len hall⟩)⟩
    have hls0 : 0 < ls.length := by
      cases ls with
      | nil => exact absurd hne (by decide)
      | cons x r => exact Nat.zero_lt_succ _
    -- for k in range(96)
    refine ⟨96, rfl, by decide, by decide, for_range (lo := 0) (n := (96 : Int).toNat) (fun i σ H' => Same H H' ∧ (∃ ls : List Int, IL H' lf ls ∧ 0 < ls.length ∧ ls.length ≤ 63) ∧ (∃ ms : List Int, IL H' N ms ∧ ms.length = 96 ∧ ∀ x ∈ ms, 0 ≤ x) ∧ ∃ y1 y4 y5, σ = [some (.ref a), y1, some (.ref N), some (.ref lf), y4, y5])
      ⟨sH4.trans s5, ⟨ls, s5 _ _ el4, hls0, hll⟩, ⟨ms, s5 _ _ eN, hall_len, hall⟩, _, _, _, rfl⟩ (fun i σ H' hi h => ?_) (fun σ H' h => ?_)⟩
    · obtain ⟨sm, ⟨ls, el, hl0, hl1⟩, ⟨ms, eN, hml, hm0⟩, y1, y4, y5, rfl⟩ := h
      have hi : i < 96 := hi
      have e0 : (0 : Int) + (i : Int) = (i : Int) := by omega
      have ed : (0 + (i : Int)) / 48 = ((i / 48 : Nat) : Int) := by omega
      -- base = [2147483587, 10 ** 38][k // 48]
      refine ⟨_, _, rfl, rfl, ⟨by decide, by decide, by decide⟩, two_line, fun b nb => ?_⟩
      have sb : Same H' (L2.upd H' b (.lst [.int 2147483587, .int (10 ^ (38 : Int).toNat)])) := same_upd nb
      obtain ⟨bv, ebv, hb0, hb1⟩ : ∃ bv : Int, ([V.int 2147483587, .int (10 ^ (38 : Int).toNat)])[i / 48]? = some (.int bv) ∧ 0 < bv ∧ bv.natAbs < 2 ^ 200 := by
        have : i / 48 = 0 ∨ i / 48 = 1 := by omega
        rcases this with z | z
        · rw [z]; exact ⟨_, rfl, by decide, by decide⟩
        · rw [z]; exact ⟨_, rfl, by decide, by decide⟩
      refine ⟨_, rfl, _, _, rfl, rfl, ⟨by decide, by decide⟩, b, _, _, _, rfl, rfl, sqL upd_same, at_of ed ebv, ?_⟩
      -- at = k % len(left)
      have hlm : (0 : Int) < ((ls.map V.int).length : Int) := by rw [List.length_map]; omega
      have hat : (0 + (i : Int)) % ((ls.map V.int).length : Int) = ((i % ls.length : Nat) : Int) := by rw [e0, List.length_map]; rfl
      have hatl : i % ls.length < ls.length := Nat.mod_lt _ hl0
      refine ⟨_, rfl, _, rfl, lf, _, rfl, .inl (sqL (sb _ _ el)), _, _, rfl, rfl, hlm, ?_⟩
      show gName 5 (V.int ((0 + (i : Int)) % ((ls.map V.int).length : Int))) _ _ _
      rw [hat]
      have eN' := sb _ _ eN
      have el' := sb _ _ el
      have smb := sm.trans sb
      generalize L2.upd H' b (.lst [.int 2147483587, .int (10 ^ (38 : Int).toNat)]) = Hb at *
      -- numbers_here[k] = left[at] % base
      refine ⟨_, rfl, _, rfl, lf, _, _, _, rfl, rfl, sqL el', at_of rfl (get_int (List.getElem?_eq_getElem hatl)), _, rfl, _, _, rfl, rfl, hb0, _, rfl, _, rfl, N, _, _, i, rfl, rfl, eN', ?_, ?_⟩
      · rw [List.length_map, e0]; exact ixN_nat (by omega)
      have el2 : (L2.upd Hb N (.lst ((ms.map V.int).set i (.int (ls[i % ls.length] % bv))))) lf = some (.lst (ls.map V.int)) := by
        rw [upd_ne nNl.symm]; exact el'
      -- left[at] = left[at] // base
      refine ⟨_, rfl, _, rfl, lf, _, _, _, rfl, rfl, sqL el2, at_of rfl (get_int (List.getElem?_eq_getElem hatl)), _, rfl, _, _, rfl, rfl, wide_div hb0 hb1 (by decide) (by decide), _, rfl, _, rfl, lf, _, _, i % ls.length, rfl, rfl, el2, ?_, ?_⟩
      · rw [List.length_map]; exact ixN_nat hatl
      refine ⟨same_at (same_at smb nNH) nlfH, ⟨ls.set (i % ls.length) (ls[i % ls.length] / bv), ?_, by rw [List.length_set]; exact hl0, by rw [List.length_set]; exact hl1⟩, ⟨ms.set i (ls[i % ls.length] % bv), ?_, by rw [List.length_set]; exact hml, nonneg_set hm0 (Int.emod_nonneg _ (by omega))⟩, _, _, _, rfl⟩
      · show (L2.upd _ lf _) lf = _
        rw [upd_same, set_ints]
      · show (L2.upd _ lf _) N = _
        rw [upd_ne nNl, upd_same, set_ints]
    · obtain ⟨sm, _, ⟨ms, eN, hml, hm0⟩, y1, y4, y5, rfl⟩ := h
      exact ⟨_, rfl, q H' N ms sm nNH eN hml hm0⟩
end
end Tw
/-! the law's tree -/
namespace Tw
open PySem PySem.Spec PyProof.Rows L2
theorem Grow.perm_ran {n : Nat} {ps : List Int} {rs0 rs : List Road} (g : Grow ps rs0) (h : rs.Perm rs0) (hp : ps.Perm (ran n)) : TreeOK n rs := ⟨ps, rs0, g, h, hp⟩
theorem ins_perm {α : Type} {l : List α} {x : α} (i : Nat) : (l.take i ++ [x] ++ l.drop i).Perm (x :: l) := by
  have h : (l.take i ++ [x] ++ l.drop i).Perm (x :: (l.take i ++ l.drop i)) := by
    rw [List.append_assoc]
    exact List.perm_middle
  rw [List.take_append_drop] at h
  exact h
theorem ins_map {α β : Type} {l : List α} {x : α} {i : Nat} {f : α → β} : (l.take i ++ [x] ++ l.drop i).map f = (l.map f).take i ++ [f x] ++ (l.map f).drop i := by
  rw [List.map_append, List.map_append, List.map_take, List.map_drop]
  rfl
/-- rows told by their addresses -/
def RL (H : Hp) (ps : List Addr) (rows : List (List Int)) : Prop := ps.length = rows.length ∧ ∀ (i : Nat) (p : Addr) (r : List Int), ps[i]? = some p → rows[i]? = some r → IL H p r
theorem RL.rows {H : Hp} {a : Addr} {ps : List Addr} {rows : List (List Int)} (h : RL H ps rows) (ha : H a = some (.lst (ps.map V.ref))) : Rows H a rows := ⟨ps, ha, h.1, h.2⟩
theorem RL.same {H H' : Hp} {ps : List Addr} {rows : List (List Int)} (s : Same H H') (h : RL H ps rows) : RL H' ps rows := ⟨h.1, fun i p r e1 e2 => s _ _ (h.2 i p r e1 e2)⟩
theorem RL.nil {H : Hp} : RL H [] [] := ⟨rfl, fun i p r h => by simp at h⟩
/-- one more row, put in anywhere -/
theorem RL.ins {H : Hp} {ps : List Addr} {rows : List (List Int)} {p : Addr} {r : List Int} (i : Nat) (h : RL H ps rows) (hp : IL H p r) : RL H (ps.take i ++ [p] ++ ps.drop i) (rows.take i ++ [r] ++ rows.drop i) := by
  have hl := h.1
  refine ⟨by simp [hl], fun j q x e1 e2 => ?_⟩
  have ht : (ps.take i).length = (rows.take i).length := by simp [hl]
  by_cases h1 : j < (ps.take i).length
  · rw [List.append_assoc, List.getElem?_append_left h1] at e1
    rw [List.append_assoc, List.getElem?_append_left (by omega)] at e2
    have hji : j < i := by rw [List.length_take] at h1; omega
    rw [List.getElem?_take_of_lt hji] at e1 e2
    exact h.2 j q x e1 e2
  · rw [List.append_assoc, List.getElem?_append_right (by omega)] at e1
    rw [List.append_assoc, List.getElem?_append_right (by omega), ← ht] at e2
    cases e : j - (ps.take i).length with
    | zero =>
      rw [e] at e1 e2
      have e1 : p = q := Option.some.inj e1
      have e2 : r = x := Option.some.inj e2
      rw [← e1, ← e2]
      exact hp
    | succ m =>
      rw [e] at e1 e2
      have e1 : (ps.drop i)[m]? = some q := e1
      have e2 : (rows.drop i)[m]? = some x := e2
      rw [List.getElem?_drop] at e1 e2
      exact h.2 _ q x e1 e2
/-- a list that grows is none of the rows, if it was not there when they were made -/
theorem RL.upd {H : Hp} {ps : List Addr} {rows : List (List Int)} {a : Addr} {o : HO} (h : RL H ps rows) (ha : ∀ p ∈ ps, p ≠ a) : RL (L2.upd H a o) ps rows := ⟨h.1, fun i p r e1 e2 => by
  show (L2.upd H a o) p = _
  rw [upd_ne (ha p (List.mem_of_getElem? e1))]
  exact h.2 i p r e1 e2⟩
/-- an item of a written list -/
theorem pick {xs : List V} {z : Int} (h0 : 0 ≤ z) (h1 : z < xs.length) : ∃ v ∈ xs, atI xs z = some v := by
  have hz : z.toNat < xs.length := by omega
  exact ⟨xs[z.toNat], List.getElem_mem hz, at_of (j := z.toNat) (by omega) (List.getElem?_eq_getElem hz)⟩
theorem pickI {xs : List Int} {z : Int} (h0 : 0 ≤ z) (h1 : z < xs.length) : ∃ x ∈ xs, atI (xs.map V.int) z = some (.int x) := by
  have hz : z.toNat < xs.length := by omega
  exact ⟨xs[z.toNat], List.getElem_mem hz, at_of (j := z.toNat) (by omega) (get_int (List.getElem?_eq_getElem hz))⟩
theorem three_line : (3 : Nat) ≤ sizeLine := by rw [sizeLine_eq]; decide
theorem four_line : (4 : Nat) ≤ sizeLine := by rw [sizeLine_eq]; decide
theorem cdiv3 {j : Int} (i : Int) (h : 0 < j) (h1 : j < 1073741824) : CDiv i j := ⟨h, h1⟩
section
variable {P : Program} {w : World} {K : PySem.W.Frag} {mg : Str → Option Value} {base : Heap}
def spTree (K : PySem.W.Frag) : Sp := fun vs H Q _ => ∃ (a : Addr) (ns : List Int), vs = [.ref a] ∧ SqL K H a (ns.map V.int) ∧ ns.length ≤ 63 ∧
  ∀ (H' : Hp) (t rp qp : Addr) (n : Nat) (rs : List Road) (qs : List Int), Same H H' → H' t = some (.tup [.int n, .ref rp, .ref qp]) → Roads H' rp rs → TreeOK n rs → n ≤ 12 → IL H' qp qs → qs.length = 96 → (∀ x ∈ qs, 0 ≤ x) → Q (.ref t) H'
theorem ok_tree {f fN fC fM : Addr} {fd fdN fdC fdM : FuncData} {k : Nat} (F : Fun K "_law_tree" "_law_tree" sTree f fd) (GN : FnOk P w K mg base CX0 (k + 2) fN fdN ["_law_script"] (spNumbers K)) (kN : PySem.W.keepIn K (.ref fN) = true) (bN : Binds K fdN ["_law_script"] []) (gN : mg "_law_numbers" = some (.ref fN))
    (GC : FnOk P w K mg base CX0 (k + 2) fC fdC ["_law_script", "_law_k"] (spCellAt K)) (kC : PySem.W.keepIn K (.ref fC) = true) (bC : Binds K fdC ["_law_script", "_law_k"] []) (gC : mg "_law_cell_at" = some (.ref fC))
    (GM : FnOk P w K mg base CX0 (k + 2) fM fdM ["_law_cell", "_law_many"] (spNames K)) (kM : PySem.W.keepIn K (.ref fM) = true) (bM : Binds K fdM ["_law_cell", "_law_many"] []) (gM : mg "_law_names" = some (.ref fM)) (ml : mg "len" = none) (mr : mg "range" = none) (mi : mg "int" = none) (mm : mg "min" = none) :
    FnOk P w K mg base CX0 (k + 3) f fd ["_law_script"] (spTree K) := by
  refine F.ok scTree (fun vs H Q E h => ?_) (fun cdv A outer s H vs Q E hr h => ?_)
  · obtain ⟨a, ns, rfl, _⟩ := h
    rfl
  · obtain ⟨a, ns, rfl, hS, hlen, q⟩ := h
    refine ⟨_, pss_cons (ps_set (i := 1) scTree.nd rfl (.inl rfl) (pe_call GN hr (by rfl) gN kN bN .nil pass0 (pa_cons (pv 0) pa_nil)))
      <| pss_cons (ps_set (i := 2) scTree.nd rfl (.inl rfl) (pe_call GC hr (by rfl) gC kC bC .nil pass0 (pa_cons (pv 0) (pa_cons pe_int pa_nil))))
      <| pss_cons (ps_set (i := 3) scTree.nd rfl (.inl rfl) (pe_call GC hr (by rfl) gC kC bC .nil pass0 (pa_cons (pv 0) (pa_cons pe_int pa_nil))))
      <| pss_cons (ps_set (i := 4) scTree.nd rfl (.inl rfl) (pe_ix ix_list (pe_lst (pa_cons (pe_op op_add pe_int (pe_op op_mod (pe_op op_fdiv (pv 2) pe_int) pe_int)) (pa_cons pe_int (pa_cons (pe_op op_add pe_int (pe_op op_mod (pe_op op_fdiv (pv 2) pe_int) pe_int)) pa_nil)))) (pe_op op_mod (pv 2) pe_int) (fun _ _ => rfl)))
      <| pss_cons (ps_set (i := 5) scTree.nd rfl (.inl rfl) (pe_ix ix_list (pe_lst (pa_cons pe_int (pa_cons pe_int (pa_cons pe_int (pa_cons pe_int pa_nil))))) (pe_op op_mod (pv 3) pe_int) (fun _ _ => rfl)))
      <| pss_cons (ps_set (i := 6) scTree.nd rfl (.inl rfl) (pe_call GM hr (by rfl) gM kM bM .nil pass0 (pa_cons (pe_ix ix_list (pv 1) pe_int (fun _ _ => rfl)) (pa_cons (pv 4) pa_nil))))
      <| pss_cons (ps_set (i := 7) scTree.nd rfl (.inl rfl) (pe_lst pa_nil))
      <| pss_cons (ps_for PassesOwn.never rfl (pi_range2 (by rfl) mr (pa_cons pe_int (pa_cons (pv 4) pa_nil))) (pg_name (i := 8) scTree.nd rfl (.inl rfl)) <|
        pss_cons (ps_set (i := 9) scTree.nd rfl (.inl rfl) (pe_ix ix_list (pv 1) (pv 8) (fun _ _ => rfl)))
        <| pss_cons (ps_set (i := 10) scTree.nd rfl (.inl rfl) (pe_op op_mod (pv 9) (pe_callB (call_min2 rfl) (by rfl) mm boot_min (pa_cons (pv 8) (pa_cons (pv 5) pa_nil)))))
        <| pss_cons (ps_set (i := 11) scTree.nd rfl (.inl rfl) (pe_ix ix_list (pv 6) (pe_ix ix_list (pe_lst (pa_cons (pe_op op_sub (pe_op op_sub (pv 8) pe_int) (pv 10)) (pa_cons (pv 10) pa_nil)))
            (pe_callTy call_int1 (by rfl) mi boot_int (pa_cons (pe_cmpR op_eq (pe_op op_mod (pv 3) pe_int) pe_int (nomark _)) pa_nil)) (fun _ _ => rfl)) (fun _ _ => rfl)))
        <| pss_cons (ps_set (i := 12) scTree.nd rfl (.inl rfl) (pe_ix ix_list (pe_lst (pa_cons pe_int (pa_cons pe_int (pa_cons (pe_op op_add (pe_op op_pow pe_int pe_int) (pv 9)) pa_nil)))) (pe_op op_mod (pe_op op_fdiv (pv 9) pe_int) pe_int) (fun _ _ => rfl)))
        <| pss_cons (ps_set (i := 13) scTree.nd rfl (.inl rfl) (pe_ix ix_list (pe_lst (pa_cons pe_int (pa_cons (pe_op op_add pe_int (pe_op op_mod (pe_op op_fdiv (pv 9) pe_int) pe_int)) (pa_cons (pv 12) (pa_cons (pe_op op_add pe_int (pe_ix ix_list (pv 1) (pe_op op_add pe_int (pv 8)) (fun _ _ => rfl))) pa_nil)))))
            (pe_op op_mod (pe_op op_fdiv (pv 3) pe_int) pe_int) (fun _ _ => rfl)))
        <| pss_cons (ps_set (i := 14) scTree.nd rfl (.inl rfl) (pe_ix ix_list (pe_lst (pa_cons (pe_lst (pa_cons (pv 11) (pa_cons (pe_ix ix_list (pv 6) (pv 8) (fun _ _ => rfl)) (pa_cons (pv 13) pa_nil)))) (pa_cons (pe_lst (pa_cons (pe_ix ix_list (pv 6) (pv 8) (fun _ _ => rfl)) (pa_cons (pv 11) (pa_cons (pv 13) pa_nil)))) pa_nil)))
            (pe_op op_mod (pe_op op_fdiv (pv 9) pe_int) pe_int) (fun _ _ => rfl)))
        <| pss_one (ps_expr (pe_bm PySem.F.plainAttrs_list PySem.F.slot_list_insert PySem.F.type_list_insert mt_insert (pv 7) (pa_cons (pe_op op_mod (pe_op op_fdiv (pv 9) pe_int) (pe_op op_add (pe_callB call_len_seq (by rfl) ml PySem.boot_len (pa_cons (pv 7) pa_nil)) pe_int)) (pa_cons (pv 14) pa_nil)))))
      <| pss_one (ps_ret (pe_tup (pa_cons (pv 4) (pa_cons (pv 7) (pa_cons (pv 1) pa_nil))))), ?_⟩
    refine ⟨_, rfl, a, ns, rfl, hS, hlen, fun H1 qp qs s1 nqp eq hql hq0 => ?_⟩
    refine ⟨_, rfl, a, 0, ns, rfl, s1.seq hS, fun first => ?_⟩
    refine ⟨_, rfl, a, 1, ns, rfl, s1.seq hS, fun cell => ?_⟩
    -- many
    refine ⟨_, rfl, _, _, rfl, rfl, cdiv3 _ (by decide) (by decide), _, _, rfl, rfl, (by show (0 : Int) < 12; decide), _, _, rfl, rfl, _, rfl, _, _, rfl, rfl, cdiv3 _ (by decide) (by decide), _, _, rfl, rfl, (by show (0 : Int) < 12; decide), _, _, rfl, rfl, three_line, fun l1 n1 => ?_⟩
    obtain ⟨x, hx, epx⟩ := pickI (xs := [1 + first / 3 % 12, 12, 1 + first / 3 % 12]) (Int.emod_nonneg first (show (3 : Int) ≠ 0 by decide)) (Int.emod_lt_of_pos first (show (0 : Int) < 3 by decide))
    have hx12 : 1 ≤ x ∧ x ≤ 12 := by
      have h1 := Int.emod_nonneg (first / 3) (show (12 : Int) ≠ 0 by decide)
      have h2 := Int.emod_lt_of_pos (first / 3) (show (0 : Int) < 12 by decide)
      simp only [List.mem_cons, List.not_mem_nil, or_false] at hx
      rcases hx with e | e | e <;> omega
    have s2 := s1.trans (same_upd (o := .lst [.int (1 + first / 3 % 12), .int 12, .int (1 + first / 3 % 12)]) n1)
    have eq2 := (same_upd (o := .lst [.int (1 + first / 3 % 12), .int 12, .int (1 + first / 3 % 12)]) n1) _ _ eq
    refine ⟨_, rfl, _, _, rfl, rfl, (by show (0 : Int) < 3; decide), l1, _, _, _, rfl, rfl, sqL upd_same, epx, ?_⟩
    obtain ⟨n, en⟩ : ∃ n : Nat, x = (n : Int) := ⟨x.toNat, by omega⟩
    subst en
    generalize L2.upd H1 l1 (.lst [.int (1 + first / 3 % 12), .int 12, .int (1 + first / 3 % 12)]) = H2 at *
    -- span
    refine ⟨four_line, fun l2 n2 => ?_⟩
    obtain ⟨span, hspan, eps⟩ := pickI (xs := [12, 1, 1, 3]) (Int.emod_nonneg cell (show (4 : Int) ≠ 0 by decide)) (Int.emod_lt_of_pos cell (show (0 : Int) < 4 by decide))
    have hsp : 1 ≤ span := by
      simp only [List.mem_cons, List.not_mem_nil, or_false] at hspan
      rcases hspan with e | e | e | e <;> omega
    have s3 := s2.trans (same_upd (o := .lst [.int 12, .int 1, .int 1, .int 3]) n2)
    have eq3 := (same_upd (o := .lst [.int 12, .int 1, .int 1, .int 3]) n2) _ _ eq2
    refine ⟨_, rfl, _, _, rfl, rfl, (by show (0 : Int) < 4; decide), l2, _, _, _, rfl, rfl, sqL upd_same, eps, ?_⟩
    generalize L2.upd H2 l2 (.lst [.int 12, .int 1, .int 1, .int 3]) = H3 at *
    -- names
    refine ⟨_, rfl, qp, _, 47, _, rfl, rfl, sqL eq3, at_of (j := 47) rfl (get_int (List.getElem?_eq_getElem (by omega))), _, rfl, _, n, rfl, by omega, fun H4 mp nm s4 nmp em hperm => ?_⟩
    have eq4 := s4 _ _ eq3
    have sH4 := s3.trans s4
    have hnml := hperm.length_eq
    rw [len_ran] at hnml
    have hnmnd : nm.Nodup := hperm.nodup_iff.mpr (nodup_ran n)
    -- roads = []
    refine ⟨Nat.zero_le _, fun o no => ?_⟩
    have s5 := same_upd (o := .lst []) no
    have noH : H o = none := sH4.free no
    have eq5 := s5 _ _ eq4
    have em5 := s5 _ _ em
    have sH5 := sH4.trans s5
    have nqo : qp ≠ o := ne_of_none eq4 no
    have nmo : mp ≠ o := ne_of_none em no
    -- for k in range(1, many)
    refine ⟨_, rfl, 1, n, rfl, ⟨by decide, by decide, by omega, by omega⟩, for_range (lo := 1) (n := ((n : Int) - 1).toNat) (fun i σ H' => Same H H' ∧ IL H' qp qs ∧ IL H' mp nm ∧ (∃ (ps : List Addr) (rs : List Road) (gs : List Int) (rs0 : List Road), H' o = some (.lst (ps.map V.ref)) ∧ RL H' ps (rs.map rowOf) ∧ (∀ p ∈ ps, p ≠ o) ∧ Grow gs rs0 ∧ rs.Perm rs0 ∧ gs.Perm (nm.take (i + 1)) ∧ rs.length = i) ∧
        ∃ y8 y9 y10 y11 y12 y13 y14, σ = [some (.ref a), some (.ref qp), some (.int first), some (.int cell), some (.int (n : Int)), some (.int span), some (.ref mp), some (.ref o), y8, y9, y10, y11, y12, y13, y14])
      ⟨sH5, eq5, em5, ⟨[], [], [nm[0]'(by omega)], [], upd_same, .nil, by simp, .one _, .refl _, ?_, rfl⟩, none, none, none, none, none, none, none, rfl⟩ (fun i σ H' hi h => ?_) (fun σ H' h => ?_)⟩
    · cases nm with
      | nil => simp at hnml; omega
      | cons u r => exact .refl _
    · obtain ⟨sm, eq, em, ⟨ps, rs, gs, rs0, eo, hRL, hpo, hG, hrp, hgp, hrl⟩, y8, y9, y10, y11, y12, y13, y14, rfl⟩ := h
      have hi1 : i + 1 < n := by omega
      obtain ⟨number, enum⟩ : ∃ x, qs[i + 1]? = some x := ⟨_, List.getElem?_eq_getElem (by omega)⟩
      have hnum0 := hq0 number (List.mem_of_getElem? enum)
      obtain ⟨b, eb⟩ : ∃ x, nm[i + 1]? = some x := ⟨_, List.getElem?_eq_getElem (by omega)⟩
      have ek : (1 : Int) + (i : Int) = ((i + 1 : Nat) : Int) := by omega
      -- number, back
      refine ⟨_, rfl, _, rfl, qp, _, _, _, rfl, rfl, sqL eq, at_of ek (get_int enum), ?_⟩
      have hm1 : 1 ≤ (if span < 1 + (i : Int) then span else 1 + (i : Int)) ∧ (if span < 1 + (i : Int) then span else 1 + (i : Int)) ≤ 1 + (i : Int) := by split <;> omega
      refine ⟨_, rfl, _, rfl, _, rfl, _, _, rfl, _, _, rfl, rfl, (by show (0 : Int) < _; omega), ?_⟩
      generalize (if span < 1 + (i : Int) then span else 1 + (i : Int)) = m at *
      show gName 10 (V.int (number % m)) _ _ _
      have hb0 := Int.emod_nonneg number (show m ≠ 0 by omega)
      have hb1 := Int.emod_lt_of_pos number (show 0 < m by omega)
      generalize number % m = back at *
      -- a
      refine ⟨_, rfl, _, rfl, _, _, rfl, rfl, _, rfl, _, _, rfl, rfl, _, rfl, two_line, fun l3 n3 => ?_⟩
      have t3 := same_upd (o := .lst [.int (1 + (i : Int) - 1 - back), .int back]) n3
      obtain ⟨idx, hidx, epi⟩ := pickI (xs := [1 + (i : Int) - 1 - back, back]) (z := if decide (V.int (cell % 4) = V.int 2) = true then 1 else 0) (by split <;> decide) (by split <;> (show (_ : Int) < 2; decide))
      have hidx2 : 0 ≤ idx ∧ idx < 1 + (i : Int) := by
        simp only [List.mem_cons, List.not_mem_nil, or_false] at hidx
        rcases hidx with e | e <;> omega
      obtain ⟨av, eav⟩ : ∃ x, nm[idx.toNat]? = some x := ⟨_, List.getElem?_eq_getElem (by omega)⟩
      refine ⟨_, rfl, _, _, rfl, rfl, (by show (0 : Int) < 4; decide), rfl, .inr ⟨_, rfl, l3, _, _, _, rfl, rfl, sqL upd_same, epi, mp, _, _, _, rfl, rfl, sqL (t3 _ _ em), at_of (j := idx.toNat) (by omega) (get_int eav), ?_⟩⟩
      have sm3 := sm.trans t3
      have eq3 := t3 _ _ eq
      have em3 := t3 _ _ em
      have eo3 := t3 _ _ eo
      have hRL3 := hRL.same t3
      generalize L2.upd H' l3 (.lst [.int (1 + (i : Int) - 1 - back), .int back]) = H3 at *
      -- long
      refine ⟨_, _, rfl, rfl, ⟨by decide, by decide, by decide⟩, _, rfl, _, _, rfl, rfl, three_line, fun l4 n4 => ?_⟩
      have hp30 : (0 : Int) < 10 ^ (30 : Int).toNat := by decide
      have t4 := same_upd (o := .lst [.int 1, .int 7, .int (10 ^ (30 : Int).toNat + number)]) n4
      obtain ⟨long, hlong, epl⟩ := pickI (xs := [1, 7, 10 ^ (30 : Int).toNat + number]) (Int.emod_nonneg (number / 16) (show (3 : Int) ≠ 0 by decide)) (Int.emod_lt_of_pos (number / 16) (show (0 : Int) < 3 by decide))
      have hlong1 : 1 ≤ long := by
        simp only [List.mem_cons, List.not_mem_nil, or_false] at hlong
        rcases hlong with e | e | e <;> omega
      refine ⟨_, rfl, _, _, rfl, rfl, cdiv3 _ (by decide) (by decide), _, _, rfl, rfl, (by show (0 : Int) < 3; decide), l4, _, _, _, rfl, rfl, sqL upd_same, epl, ?_⟩
      have sm4 := sm3.trans t4
      have eq4 := t4 _ _ eq3
      have em4 := t4 _ _ em3
      have eo4 := t4 _ _ eo3
      have hRL4 := hRL3.same t4
      generalize L2.upd H3 l4 (.lst [.int 1, .int 7, .int (10 ^ (30 : Int).toNat + number)]) = H4 at *
      -- length
      obtain ⟨x48, ex48⟩ : ∃ x, qs[48 + (i + 1)]? = some x := ⟨_, List.getElem?_eq_getElem (by omega)⟩
      have hx48 := hq0 x48 (List.mem_of_getElem? ex48)
      refine ⟨_, rfl, _, _, rfl, rfl, cdiv3 _ (by decide) (by decide), _, _, rfl, rfl, (by show (0 : Int) < 9; decide), _, _, rfl, rfl, _, rfl, _, rfl, _, rfl, _, _, rfl, rfl, qp, _, _, _, rfl, rfl, sqL eq4, at_of (j := 48 + (i + 1)) (by omega) (get_int ex48), _, _, rfl, rfl, four_line, fun l5 n5 => ?_⟩
      have t5 := same_upd (o := .lst [.int 1, .int (1 + number / 16 % 9), .int long, .int (1 + x48)]) n5
      obtain ⟨len, hlen2, epn⟩ := pickI (xs := [1, 1 + number / 16 % 9, long, 1 + x48]) (Int.emod_nonneg (cell / 4) (show (4 : Int) ≠ 0 by decide)) (Int.emod_lt_of_pos (cell / 4) (show (0 : Int) < 4 by decide))
      have hlen1 : 1 ≤ len := by
        have := Int.emod_nonneg (number / 16) (show (9 : Int) ≠ 0 by decide)
        simp only [List.mem_cons, List.not_mem_nil, or_false] at hlen2
        rcases hlen2 with e | e | e | e <;> omega
      refine ⟨_, rfl, _, _, rfl, rfl, cdiv3 _ (by decide) (by decide), _, _, rfl, rfl, (by show (0 : Int) < 4; decide), l5, _, _, _, rfl, rfl, sqL upd_same, epn, ?_⟩
      have sm5 := sm4.trans t5
      have eq5 := t5 _ _ eq4
      have em5 := t5 _ _ em4
      have eo5 := t5 _ _ eo4
      have hRL5 := hRL4.same t5
      generalize L2.upd H4 l5 (.lst [.int 1, .int (1 + number / 16 % 9), .int long, .int (1 + x48)]) = H5 at *
      -- road
      refine ⟨_, rfl, _, rfl, _, rfl, mp, _, _, _, rfl, rfl, sqL em5, at_of ek (get_int eb), _, rfl, three_line, fun p1 n1 => ?_⟩
      have t6 := same_upd (o := .lst [.int av, .int b, .int len]) n1
      refine ⟨_, rfl, _, rfl, mp, _, _, _, rfl, rfl, sqL (t6 _ _ em5), at_of ek (get_int eb), _, rfl, _, rfl, three_line, fun p2 n2 => ?_⟩
      have t7 := same_upd (o := .lst [.int b, .int av, .int len]) n2
      refine ⟨two_line, fun l6 n6 => ?_⟩
      have t8 := same_upd (o := .lst [.ref p1, .ref p2]) n6
      obtain ⟨rv, hrv, epr⟩ := pick (xs := [V.ref p1, V.ref p2]) (Int.emod_nonneg (number / 64) (show (2 : Int) ≠ 0 by decide)) (Int.emod_lt_of_pos (number / 64) (show (0 : Int) < 2 by decide))
      refine ⟨_, rfl, _, _, rfl, rfl, cdiv3 _ (by decide) (by decide), _, _, rfl, rfl, (by show (0 : Int) < 2; decide), l6, _, _, _, rfl, rfl, sqL upd_same, epr, ?_⟩
      have e1 : IL (L2.upd (L2.upd (L2.upd H5 p1 (.lst [.int av, .int b, .int len])) p2 (.lst [.int b, .int av, .int len])) l6 (.lst [.ref p1, .ref p2])) p1 (rowOf (av, b, len)) := t8 _ _ (t7 _ _ upd_same)
      have e2 : IL (L2.upd (L2.upd (L2.upd H5 p1 (.lst [.int av, .int b, .int len])) p2 (.lst [.int b, .int av, .int len])) l6 (.lst [.ref p1, .ref p2])) p2 (rowOf (b, av, len)) := t8 _ _ upd_same
      have t9 := (t6.trans t7).trans t8
      have sm9 := sm5.trans t9
      have eq9 := t9 _ _ eq5
      have em9 := t9 _ _ em5
      have eo9 := t9 _ _ eo5
      have hRL9 := hRL5.same t9
      have np1 : p1 ≠ o := fun z => by rw [z, eo5] at n1; cases n1
      have np2 : p2 ≠ o := fun z => by rw [z, t6 _ _ eo5] at n2; cases n2
      generalize L2.upd (L2.upd (L2.upd H5 p1 (.lst [.int av, .int b, .int len])) p2 (.lst [.int b, .int av, .int len])) l6 (.lst [.ref p1, .ref p2]) = H9 at *
      obtain ⟨pr, r, rfl, epr2, hr2, npr⟩ : ∃ (pr : Addr) (r : Road), rv = .ref pr ∧ IL H9 pr (rowOf r) ∧ (r = (av, b, len) ∨ r = (b, av, len)) ∧ pr ≠ o := by
        simp only [List.mem_cons, List.not_mem_nil, or_false] at hrv
        rcases hrv with rfl | rfl
        · exact ⟨p1, _, rfl, e1, .inl rfl, np1⟩
        · exact ⟨p2, _, rfl, e2, .inr rfl, np2⟩
      have hpl : ps.length = i := by
        have := hRL.1
        rw [List.length_map] at this
        omega
      have hi0 := Int.emod_nonneg (number / 128) (show ((ps.map V.ref).length : Int) + 1 ≠ 0 by omega)
      have hi2 := Int.emod_lt_of_pos (number / 128) (show (0 : Int) < ((ps.map V.ref).length : Int) + 1 by omega)
      -- roads.insert(.., road)
      refine ⟨_, rfl, .inl ⟨rfl, _, sqL eo9⟩, _, rfl, _, _, rfl, rfl, cdiv3 _ (by decide) (by decide), _, rfl, o, _, rfl, .inl (sqL eo9), _, _, rfl, rfl, _, _, rfl, rfl, (by show (0 : Int) < ((ps.map V.ref).length : Int) + 1; omega), _, rfl, o, _, _, _, rfl, rfl, eo9, small_of (m := 100) (by rw [List.length_map]; omega), hi0, by rw [List.length_map] at hi2; rw [List.length_map]; omega, ?_⟩
      generalize (number / 128 % (((ps.map V.ref).length : Int) + 1)).toNat = ix at *
      have haG : av ∈ gs := hgp.mem_iff.mpr (List.mem_of_getElem? (i := idx.toNat) (by rw [List.getElem?_take_of_lt (by omega)]; exact eav))
      have hbG : b ∉ gs := fun z => by
        have z := hgp.mem_iff.mp z
        obtain ⟨j, hj⟩ := List.getElem?_of_mem z
        have hji : j < i + 1 := by
          have := (List.getElem?_eq_some_iff.mp hj).1
          rw [List.length_take] at this
          omega
        rw [List.getElem?_take_of_lt hji] at hj
        have := nd_ix hnmnd hj eb
        omega
      refine ⟨same_at sm9 noH, ?_, ?_, ⟨ps.take ix ++ [pr] ++ ps.drop ix, rs.take ix ++ [r] ++ rs.drop ix, b :: gs, r :: rs0, ?_, ?_, ?_, .step hG haG hbG hlen1 hr2, (ins_perm ix).trans (hrp.cons r), ?_, ?_⟩, _, _, _, _, _, _, _, rfl⟩
      · show (L2.upd H9 o _) qp = _
        rw [upd_ne nqo]; exact eq9
      · show (L2.upd H9 o _) mp = _
        rw [upd_ne nmo]; exact em9
      · rw [upd_same, ins_map]
      · rw [ins_map]
        refine RL.upd (RL.ins ix hRL9 epr2) fun p hp => ?_
        rcases List.mem_append.mp hp with hp | hp
        · rcases List.mem_append.mp hp with hp | hp
          · exact hpo p (List.mem_of_mem_take hp)
          · rw [List.mem_singleton.mp hp]; exact npr
        · exact hpo p (List.mem_of_mem_drop hp)
      · intro p hp
        rcases List.mem_append.mp hp with hp | hp
        · rcases List.mem_append.mp hp with hp | hp
          · exact hpo p (List.mem_of_mem_take hp)
          · rw [List.mem_singleton.mp hp]; exact npr
        · exact hpo p (List.mem_of_mem_drop hp)
      · rw [List.take_add_one (i := i + 1), eb]
        exact (hgp.cons b).trans (List.perm_append_singleton b _).symm
      · have := (ins_perm (l := rs) (x := r) ix).length_eq
        rw [List.length_cons] at this
        omega
    · obtain ⟨sm, eq, em, ⟨ps, rs, gs, rs0, eo, hRL, hpo, hG, hrp, hgp, hrl⟩, y8, y9, y10, y11, y12, y13, y14, rfl⟩ := h
      have en : ((n : Int) - 1).toNat + 1 = n := by omega
      rw [en, List.take_of_length_le (by omega)] at hgp
      refine ⟨_, rfl, _, rfl, _, rfl, three_line, fun t nt => ?_⟩
      have sT := same_upd (o := .tup [.int (n : Int), .ref o, .ref qp]) nt
      exact q _ t o qp n rs qs (sm.trans sT) upd_same ((hRL.rows eo).same sT) (hG.perm_ran hrp (hgp.trans hperm)) (by omega) (sT _ _ eq) hql hq0
end
end Tw
/-! the law's yards -/
namespace Tw
open PySem PySem.Spec PyProof.Rows L2
theorem one_line : (1 : Nat) ≤ sizeLine := by rw [sizeLine_eq]; decide
theorem inV_int' (x : Int) (S : List Int) : inV (.int x) (S.map V.int) = decide (x ∈ S) := by
  unfold inV
  induction S with
  | nil => simp
  | cons y S ih =>
    rw [List.map_cons, List.any_cons, ih]
    show ((y == x) || decide (x ∈ S)) = decide (x ∈ y :: S)
    by_cases e : y = x
    · subst e; simp
    · have e2 : (y == x) = false := beq_eq_false_iff_ne.mpr e
      rw [e2, Bool.false_or]
      refine decide_eq_decide.mpr ⟨fun h => List.mem_cons_of_mem _ h, fun h => ?_⟩
      rcases List.mem_cons.mp h with h | h
      · exact absurd h.symm e
      · exact h
theorem flat_int' (S : List Int) : (S.map V.int).all flatV = true := by
  rw [List.all_eq_true]
  intro v hv
  obtain ⟨x, _, rfl⟩ := List.mem_map.mp hv
  rfl
/-- a new row behind the others -/
theorem RL.snoc {H : Hp} {ps : List Addr} {rows : List (List Int)} {p : Addr} {r : List Int} (h : RL H ps rows) (hp : IL H p r) : RL H (ps ++ [p]) (rows ++ [r]) := by
  have h1 := RL.ins ps.length h hp
  rw [List.take_of_length_le (Nat.le_refl _), List.drop_length, List.append_nil, h.1, List.take_of_length_le (Nat.le_refl _), List.drop_length, List.append_nil] at h1
  exact h1
theorem RL.append {H : Hp} {ps qs : List Addr} {rows rows' : List (List Int)} (h : RL H ps rows) (h' : RL H qs rows') : RL H (ps ++ qs) (rows ++ rows') := by
  refine ⟨by simp [h.1, h'.1], fun i p r e1 e2 => ?_⟩
  have hl := h.1
  by_cases hi : i < ps.length
  · rw [List.getElem?_append_left hi] at e1
    rw [List.getElem?_append_left (by omega)] at e2
    exact h.2 i p r e1 e2
  · rw [List.getElem?_append_right (by omega)] at e1
    rw [List.getElem?_append_right (by omega), ← hl] at e2
    exact h'.2 _ p r e1 e2
theorem RL.take {H : Hp} {ps : List Addr} {rows : List (List Int)} (k : Nat) (h : RL H ps rows) : RL H (ps.take k) (rows.take k) := by
  refine ⟨by simp [h.1], fun i p r e1 e2 => ?_⟩
  by_cases hi : i < k
  · rw [List.getElem?_take_of_lt hi] at e1 e2
    exact h.2 i p r e1 e2
  · rw [List.getElem?_eq_none (by rw [List.length_take]; omega)] at e1
    cases e1
section
variable {P : Program} {w : World} {K : PySem.W.Frag} {mg : Str → Option Value} {base : Heap}
def spYards (K : PySem.W.Frag) : Sp := fun vs H Q _ => ∃ (a qp : Addr) (n : Nat) (rs : List Road) (qs : List Int), vs = [.int n, .ref a, .ref qp] ∧ Roads H a rs ∧ TreeOK n rs ∧ n ≤ 12 ∧ IL H qp qs ∧ qs.length = 96 ∧
  ∀ (H' : Hp) (p : Addr) (ps : List Addr) (Ys : List (List Int)), Same H H' → H' p = some (.lst (ps.map V.ref)) → RL H' ps Ys → (∀ Y ∈ Ys, Lump n rs Y) → Ys.length ≤ 16 → Q (.ref p) H'
theorem ok_yards {f : Addr} {fd : FuncData} {k : Nat} (F : Fun K "_law_yards" "_law_yards" sYards f fd) (ml : mg "len" = none) (mr : mg "range" = none) (mi : mg "int" = none) (mL : mg "list" = none) :
    FnOk P w K mg base CX0 (k + 1) f fd ["_law_many", "_law_roads", "_law_numbers_here"] (spYards K) := by
  refine F.ok scYards (fun vs H Q E h => ?_) (fun cdv A outer s H vs Q E hr h => ?_)
  · obtain ⟨a, qp, n, rs, qs, rfl, _⟩ := h
    rfl
  · obtain ⟨a, qp, n, rs, qs, rfl, hR, T, h12, eq, hql, q⟩ := h
    refine ⟨_, pss_cons (ps_set (i := 3) scYards.nd rfl (.inl rfl) (pe_lst pa_nil))
      <| pss_cons (ps_for PassesOwn.never rfl (pi_range1 (by rfl) mr (pa_cons (pe_op op_mod (pe_ix ix_list (pv 2) pe_int (fun _ _ => rfl)) pe_int) pa_nil)) (pg_name (i := 4) scYards.nd rfl (.inl rfl)) <|
          pss_cons (ps_set (i := 5) scYards.nd rfl (.inl rfl) (pe_ix ix_list (pv 2) (pe_op op_add pe_int (pv 4)) (fun _ _ => rfl)))
          <| pss_cons (ps_set (i := 6) scYards.nd rfl (.inl rfl) (pe_ix ix_list (pv 2) (pe_op op_add pe_int (pv 4)) (fun _ _ => rfl)))
          <| pss_cons (ps_set (i := 7) scYards.nd rfl (.inl rfl) (pe_lst (pa_cons (pe_op op_mod (pv 5) (pv 0)) pa_nil)))
          <| pss_cons (ps_for PassesOwn.never rfl (pi_range1 (by rfl) mr (pa_cons (pe_op op_mod (pe_op op_fdiv (pv 5) pe_int) (pe_ix ix_list (pe_lst (pa_cons pe_int (pa_cons pe_int (pa_cons pe_int pa_nil)))) (pe_op op_mod (pe_ix ix_list (pv 2) pe_int (fun _ _ => rfl)) pe_int) (fun _ _ => rfl))) pa_nil)) (pg_name (i := 8) scYards.nd rfl (.inl rfl)) <|
              pss_cons (ps_set (i := 9) scYards.nd rfl (.inl rfl) (pe_lst pa_nil))
              <| pss_cons (ps_for PassesOwn.never rfl (pi_list (pv 1)) (pg_unl rfl (pgs_cons (pg_name (i := 10) scYards.nd rfl (.inl rfl)) (pgs_cons (pg_name (i := 11) scYards.nd rfl (.inl rfl)) (pgs_cons (pg_name (i := 12) scYards.nd rfl (.inl rfl)) pgs_nil)))) <|
                  pss_one (ps_if (pt_cmpR op_ne (pe_cmpR op_in_seq (pv 10) (pv 7) (by rfl)) (pe_cmpR op_in_seq (pv 11) (pv 7) (by rfl)) (nomark _))
                    (pss_one (ps_expr (pe_bm PySem.F.plainAttrs_list PySem.F.slot_list_append PySem.F.type_list_append mt_append (pv 9) (pa_cons (pe_ix ix_list (pe_lst (pa_cons (pv 10) (pa_cons (pv 11) pa_nil)))
                      (pe_callTy call_int1 (by rfl) mi boot_int (pa_cons (pe_cmpR op_in_seq (pv 10) (pv 7) (by rfl)) pa_nil)) (fun _ _ => rfl)) pa_nil)))) pss_nil))
              <| pss_one (ps_if (pt_cmpR (op_neD hr.units) (pv 9) (pe_lst pa_nil) (nomark _))
                  (pss_cons (ps_expr (pe_bm PySem.F.plainAttrs_list PySem.F.slot_list_insert PySem.F.type_list_insert mt_insert (pv 7) (pa_cons (pe_op op_mod (pv 6) (pe_op op_add (pe_callB call_len_seq (by rfl) ml PySem.boot_len (pa_cons (pv 7) pa_nil)) pe_int))
                      (pa_cons (pe_ix ix_list (pv 9) (pe_op op_mod (pe_op op_fdiv (pv 6) pe_int) (pe_callB call_len_seq (by rfl) ml PySem.boot_len (pa_cons (pv 9) pa_nil))) (fun _ _ => rfl)) pa_nil))))
                    (pss_one (ps_set (i := 6) scYards.nd rfl (.inl rfl) (pe_op op_fdiv (pv 6) pe_int)))) pss_nil))
          <| pss_one (ps_expr (pe_bm PySem.F.plainAttrs_list PySem.F.slot_list_append PySem.F.type_list_append mt_append (pv 3) (pa_cons (pv 7) pa_nil))))
      <| pss_cons (ps_if (pt_cmpR op_eq (pe_op op_mod (pe_ix ix_list (pv 2) pe_int (fun _ _ => rfl)) pe_int) pe_int (nomark _))
          (pss_one (ps_set (i := 3) scYards.nd rfl (.inl rfl) (pe_op op_cat (pv 3) (pe_lc (own := [("_law_yard", 7)]) (g := gName 7) (by rfl) scYards.nd (pi_list (pe_slice sl_list (pv 3) po_none (po_some pe_int)))
            (blkOk_by (own := [("_law_yard", 7)]) (N := ["_law_many", "_law_roads", "_law_numbers_here", "_law_found", "_law_k", "_law_number", "_law_left", "_law_yard", "_law_j", "_law_more", "_law_a", "_law_b", "_law_length"]) (sc := defScope sYards) (by decide +kernel))
            (fun _ _ _ _ _ => pg_name (i := 7) scYards.nd rfl (Or.inl rfl)) (fun _ _ _ _ _ => pts_nil)
            (fun _ _ _ _ _ => pe_callTy (r := fun xs H Q => ∃ p ys, xs = [.ref p] ∧ (SqL K H p ys ∨ SqT K H p ys) ∧ ∀ l, H l = none → Q (.ref l) (L2.upd H l (.lst ys))) call_list_of (by rfl) mL (by decide +kernel) (pa_cons (pv 7) pa_nil)))))) pss_nil)
      <| pss_one (ps_ret (pv 3)), ?_⟩
    have hn := T.pos
    obtain ⟨rps, hA, hrl, hP⟩ := id hR
    rw [List.length_map] at hrl
    have hrn := T.len
    -- found = []
    refine ⟨Nat.zero_le _, fun o no => ?_⟩
    have s0 := same_upd (o := .lst []) no
    obtain ⟨x44, ex44⟩ : ∃ x, qs[44]? = some x := ⟨_, List.getElem?_eq_getElem (by omega)⟩
    have h15 := Int.emod_nonneg x44 (show (15 : Int) ≠ 0 by decide)
    have h15' := Int.emod_lt_of_pos x44 (show (0 : Int) < 15 by decide)
    refine ⟨_, rfl, qp, _, 44, _, rfl, rfl, sqL (s0 _ _ eq), at_of (j := 44) rfl (get_int ex44), _, _, rfl, rfl, (by show (0 : Int) < 15; decide), x44 % 15, rfl, by omega, by omega, for_range (lo := 0) (n := (x44 % 15).toNat) (fun i σ H' => Same H H' ∧ (∃ (ps : List Addr) (Ys : List (List Int)), H' o = some (.lst (ps.map V.ref)) ∧ RL H' ps Ys ∧ (∀ p ∈ ps, p ≠ o) ∧ (∀ Y ∈ Ys, Lump n rs Y) ∧ Ys.length = i) ∧
        ∃ y4 y5 y6 y7 y8 y9 y10 y11 y12, σ = [some (.int (n : Int)), some (.ref a), some (.ref qp), some (.ref o), y4, y5, y6, y7, y8, y9, y10, y11, y12])
      ⟨s0, ⟨[], [], upd_same, .nil, by simp, by simp, rfl⟩, none, none, none, none, none, none, none, none, none, rfl⟩ (fun i σ H' hi h => ?_) (fun σ H' h => ?_)⟩
    · obtain ⟨sm, ⟨ps, Ys, eo, hRL, hpo, hL, hYl⟩, y4, y5, y6, y7, y8, y9, y10, y11, y12, rfl⟩ := h
      have hi15 : i < 15 := by omega
      obtain ⟨number, enum⟩ : ∃ x, qs[12 + i]? = some x := ⟨_, List.getElem?_eq_getElem (by omega)⟩
      obtain ⟨left, elef⟩ : ∃ x, qs[60 + i]? = some x := ⟨_, List.getElem?_eq_getElem (by omega)⟩
      have eqH := sm _ _ eq
      refine ⟨_, rfl, _, rfl, _, _, rfl, rfl, qp, _, _, _, rfl, rfl, sqL eqH, at_of (j := 12 + i) (by omega) (get_int enum), ?_⟩
      refine ⟨_, rfl, _, rfl, _, _, rfl, rfl, qp, _, _, _, rfl, rfl, sqL eqH, at_of (j := 60 + i) (by omega) (get_int elef), ?_⟩
      -- yard = [number % many]
      refine ⟨_, rfl, _, rfl, _, _, rfl, rfl, (by show (0 : Int) < (n : Int); omega), one_line, fun yp nyp => ?_⟩
      have hx0 := Int.emod_nonneg number (show (n : Int) ≠ 0 by omega)
      have hx1 := Int.emod_lt_of_pos number (show (0 : Int) < (n : Int) by omega)
      have s1 := same_upd (o := .lst [.int (number % (n : Int))]) nyp
      have nyo : yp ≠ o := fun z => by rw [z, eo] at nyp; cases nyp
      have nyH : H yp = none := sm.free nyp
      -- for j in range(number // 16 % ..)
      have eq1 := s1 _ _ eqH
      have eyp : IL (L2.upd H' yp (.lst [.int (number % (n : Int))])) yp [number % (n : Int)] := upd_same
      have sm1 := sm.trans s1
      have hLy : Lump n rs [number % (n : Int)] := .one ⟨hx0, hx1⟩
      generalize [number % (n : Int)] = Y0 at *
      generalize L2.upd H' yp (.lst [.int (number % (n : Int))]) = H1 at *
      refine ⟨_, rfl, _, _, rfl, rfl, cdiv3 _ (by decide) (by decide), three_line, fun l1 n1 => ?_⟩
      have s2 := same_upd (o := .lst [.int 2, .int 5, .int 12]) n1
      obtain ⟨x45, ex45⟩ : ∃ x, qs[45]? = some x := ⟨_, List.getElem?_eq_getElem (by omega)⟩
      obtain ⟨most, hmost, epm⟩ := pickI (xs := [2, 5, 12]) (Int.emod_nonneg x45 (show (3 : Int) ≠ 0 by decide)) (Int.emod_lt_of_pos x45 (show (0 : Int) < 3 by decide))
      have hm12 : 1 ≤ most ∧ most ≤ 12 := by
        simp only [List.mem_cons, List.not_mem_nil, or_false] at hmost
        rcases hmost with e | e | e <;> omega
      have hj0 := Int.emod_nonneg (number / 16) (show most ≠ 0 by omega)
      have hj1 := Int.emod_lt_of_pos (number / 16) (show 0 < most by omega)
      refine ⟨_, rfl, qp, _, 45, _, rfl, rfl, sqL (s2 _ _ eq1), at_of (j := 45) rfl (get_int ex45), _, _, rfl, rfl, (by show (0 : Int) < 3; decide), l1, _, _, _, rfl, rfl, sqL upd_same, epm, _, _, rfl, rfl, (by show (0 : Int) < most; omega), number / 16 % most, rfl, by omega, by omega, ?_⟩
      have sm2 := sm1.trans s2
      have ey2 := s2 _ _ eyp
      have sH2 : Same H' (L2.upd H1 l1 (.lst [.int 2, .int 5, .int 12])) := s1.trans s2
      generalize L2.upd H1 l1 (.lst [.int 2, .int 5, .int 12]) = H2 at *
      refine for_range (lo := 0) (n := (number / 16 % most).toNat) (fun j σ H3 => Same H' H3 ∧ (∃ (Y : List Int) (lf : Int), IL H3 yp Y ∧ Lump n rs Y ∧
          ∃ y8 y9 y10 y11 y12, σ = [some (.int (n : Int)), some (.ref a), some (.ref qp), some (.ref o), some (.int (0 + (i : Int))), some (.int number), some (.int lf), some (.ref yp), y8, y9, y10, y11, y12]))
        ⟨sH2, Y0, left, ey2, hLy, _, _, _, _, _, rfl⟩ (fun j σ H3 hj h => ?_) (fun σ H3 h => ?_)
      · obtain ⟨s3, Y, lf, eY, hLY, y8, y9, y10, y11, y12, rfl⟩ := h
        have sm3 := sm.trans s3
        have hYlen : Y.length ≤ 12 := by
          have := Nodup_le (l' := ran n) hLY.nodup fun x hx => mem_ran.mpr (hLY.rng T x hx)
          rw [len_ran] at this
          omega
        -- more = []
        refine ⟨Nat.zero_le _, fun mp nmp => ?_⟩
        have s4 := same_upd (o := .lst []) nmp
        have nym : yp ≠ mp := ne_of_none eY nmp
        -- for a, b, length in roads
        refine ⟨_, rfl, a, rfl, ⟨_, sqL (s4 _ _ (sm3 _ _ hA))⟩, for_list (xs := rps.map V.ref) (fun t σ H4 => Same H3 H4 ∧ (∃ ms : List Int, IL H4 mp ms ∧ ms.length ≤ t ∧ ∀ m ∈ ms, m ∉ Y ∧ ∃ u ∈ Y, Adj rs u m) ∧
            ∃ y10 y11 y12, σ = [some (.int (n : Int)), some (.ref a), some (.ref qp), some (.ref o), some (.int (0 + (i : Int))), some (.int number), some (.int lf), some (.ref yp), some (.int (0 + (j : Int))), some (.ref mp), y10, y11, y12])
          ⟨s4, ⟨[], upd_same, Nat.le_refl _, by simp⟩, _, _, _, rfl⟩ (fun t σ H4 _ h => sqL (h.1 _ _ (sm3 _ _ hA))) (fun t v σ H4 e h => ?_) (fun σ H4 h => ?_)⟩
        · obtain ⟨s5, ⟨ms, em, hml, hms⟩, z10, z11, z12, rfl⟩ := h
          obtain ⟨p, ep, rfl⟩ := of_get_ref e
          have ht := (List.getElem?_eq_some_iff.mp ep).1
          obtain ⟨⟨ra, rb, rl⟩, er⟩ : ∃ r, rs[t]? = some r := ⟨_, List.getElem?_eq_getElem (by omega)⟩
          have hrm := List.mem_of_getElem? er
          have hp : IL H4 p [ra, rb, rl] := s5 _ _ (sm3 _ _ (hP t p _ ep (by rw [List.getElem?_map, er]; rfl)))
          have eY4 := s5 _ _ eY
          refine ⟨p, _, rfl, sqL hp, rfl, _, _, rfl, _, _, rfl, _, _, rfl, rfl, ?_⟩
          refine ⟨_, rfl, _, rfl, yp, _, rfl, .inl (sqL eY4), rfl, flat_int' Y, _, rfl, _, rfl, yp, _, rfl, .inl (sqL eY4), rfl, flat_int' Y, rfl, _, rfl, ?_⟩
          rw [if_neg Bool.false_ne_true, if_neg Bool.false_ne_true, inV_int', inV_int']
          refine ite2 (fun hne => ?_) (fun hne => ?_)
          · have hne' : ¬ (decide (ra ∈ Y) = decide (rb ∈ Y)) := fun z => by
              rw [z, decide_eq_true rfl] at hne
              cases hne
            refine ⟨_, rfl, .inl ⟨rfl, _, sqL em⟩, _, rfl, _, rfl, two_line, fun l2 n2 => ?_⟩
            have s6 := same_upd (o := .lst [.int ra, .int rb]) n2
            refine ⟨_, rfl, _, rfl, yp, _, rfl, .inl (sqL (s6 _ _ eY4)), rfl, flat_int' Y, ?_⟩
            rw [if_neg Bool.false_ne_true, inV_int']
            have em6 := s6 _ _ em
            have hlen : ms.length < sizeLine := small_of (m := 100) (by omega)
            have fin : ∀ m : Int, (m ∉ Y ∧ ∃ u ∈ Y, Adj rs u m) → ∀ z ∈ ms ++ [m], z ∉ Y ∧ ∃ u ∈ Y, Adj rs u z := fun m hm z hz => by
              rcases List.mem_append.mp hz with hz | hz
              · exact hms z hz
              · rw [List.mem_singleton.mp hz]; exact hm
            have nmp3 : H3 mp = none := nmp
            by_cases m1 : ra ∈ Y
            · have m2 : rb ∉ Y := fun z => hne' (by rw [decide_eq_true m1, decide_eq_true z])
              rw [decide_eq_true m1]
              refine .inr ⟨_, rfl, l2, _, 1, .int rb, rfl, rfl, sqL upd_same, atI_nat (j := 1) rfl, mp, _, _, rfl, rfl, em6, by rw [List.length_map]; exact hlen, same_at (s5.trans s6) nmp3, ⟨ms ++ [rb], ?_, ?_, fin rb ⟨m2, ra, m1, rl, .inl hrm⟩⟩, _, _, _, rfl⟩
              · show (L2.upd _ mp _) mp = _
                rw [upd_same, List.map_append]; rfl
              · rw [List.length_append]; simp; omega
            · have m2 : rb ∈ Y := by
                by_cases z : rb ∈ Y
                · exact z
                · exact absurd (by rw [decide_eq_false m1, decide_eq_false z]) hne'
              rw [decide_eq_false m1]
              refine .inr ⟨_, rfl, l2, _, 0, .int ra, rfl, rfl, sqL upd_same, atI_nat (j := 0) rfl, mp, _, _, rfl, rfl, em6, by rw [List.length_map]; exact hlen, same_at (s5.trans s6) nmp3, ⟨ms ++ [ra], ?_, ?_, fin ra ⟨m1, rb, m2, rl, .inr hrm⟩⟩, _, _, _, rfl⟩
              · show (L2.upd _ mp _) mp = _
                rw [upd_same, List.map_append]; rfl
              · rw [List.length_append]; simp; omega
          · exact ⟨s5, ⟨ms, em, by omega, hms⟩, _, _, _, rfl⟩
        · obtain ⟨s5, ⟨ms, em, hml, hms⟩, z10, z11, z12, rfl⟩ := h
          rw [List.length_map] at hml
          have s35 := s3.trans s5
          have eY5 := s5 _ _ eY
          -- if more != []
          refine ⟨_, rfl, Nat.zero_le _, fun e ne => ?_⟩
          have s6 := same_upd (o := .lst []) ne
          refine ⟨_, _, .lst (sqL (s6 _ _ em)) (dp_ints ms), .lst (sqL upd_same) .nil, shaped_ints ms, rfl, _, rfl, ite2 (fun hne => ?_) (fun hne => ⟨s35.trans s6, Y, lf, s6 _ _ eY5, hLY, _, _, _, _, _, rfl⟩)⟩
          have hms0 : 0 < ms.length := by
            cases ms with
            | nil => exact absurd hne (by decide)
            | cons x r => exact Nat.zero_lt_succ _
          have em6 := s6 _ _ em
          have eY6 := s6 _ _ eY5
          have s36 := s35.trans s6
          generalize L2.upd H4 e (.lst []) = H5 at *
          have hz0 := Int.emod_nonneg (lf / 12) (show ((ms.map V.int).length : Int) ≠ 0 by rw [List.length_map]; omega)
          have hz1 := Int.emod_lt_of_pos (lf / 12) (show (0 : Int) < ((ms.map V.int).length : Int) by rw [List.length_map]; omega)
          obtain ⟨mv, hmv, epv⟩ := pickI (xs := ms) hz0 (by rw [List.length_map] at hz1 ⊢; exact hz1)
          have hy0 := Int.emod_nonneg lf (show ((Y.map V.int).length : Int) + 1 ≠ 0 by omega)
          have hy1 := Int.emod_lt_of_pos lf (show (0 : Int) < ((Y.map V.int).length : Int) + 1 by omega)
          obtain ⟨hmY, u, huY, hadj⟩ := hms mv hmv
          -- yard.insert(..)
          refine ⟨_, rfl, .inl ⟨rfl, _, sqL eY6⟩, _, rfl, _, rfl, yp, _, rfl, .inl (sqL eY6), _, _, rfl, rfl, _, _, rfl, rfl, (by show (0 : Int) < ((Y.map V.int).length : Int) + 1; omega), _, rfl, _, rfl, _, _, rfl, rfl, cdiv3 _ (by decide) (by decide), _, rfl, mp, _, rfl, .inl (sqL em6), _, _, rfl, rfl, (by show (0 : Int) < ((ms.map V.int).length : Int); rw [List.length_map]; omega), mp, _, _, _, rfl, rfl, sqL em6, epv,
            yp, _, _, _, rfl, rfl, eY6, small_of (m := 100) (by rw [List.length_map]; omega), hy0, by rw [List.length_map] at hy1; rw [List.length_map]; omega, ?_⟩
          generalize (lf % (((Y.map V.int).length : Int) + 1)).toNat = ix at *
          refine ⟨_, rfl, _, _, rfl, rfl, cdiv3 _ (by decide) (by decide), same_at s36 nyp, Y.take ix ++ [mv] ++ Y.drop ix, lf / 144, ?_, .grow hLY huY hmY hadj (ins_perm ix), _, _, _, _, _, rfl⟩
          show (L2.upd _ yp _) yp = _
          rw [upd_same, ins_map]
      · obtain ⟨s3, Y, lf, eY, hLY, z8, z9, z10, z11, z12, rfl⟩ := h
        have eo3 := s3 _ _ eo
        have hpl := hRL.1
        -- found.append(yard)
        refine ⟨_, rfl, .inl ⟨rfl, _, sqL eo3⟩, _, rfl, o, _, _, rfl, rfl, eo3, small_of (m := 100) (by rw [List.length_map]; omega), same_at (sm.trans s3) no, ⟨ps ++ [yp], Ys ++ [Y], ?_, ?_, ?_, ?_, ?_⟩, _, _, _, _, _, _, _, _, _, rfl⟩
        · rw [upd_same, List.map_append]; rfl
        · refine RL.upd ((hRL.same s3).snoc eY) fun p hp => ?_
          rcases List.mem_append.mp hp with hp | hp
          · exact hpo p hp
          · rw [List.mem_singleton.mp hp]; exact nyo
        · intro p hp
          rcases List.mem_append.mp hp with hp | hp
          · exact hpo p hp
          · rw [List.mem_singleton.mp hp]; exact nyo
        · intro Z hZ
          rcases List.mem_append.mp hZ with hZ | hZ
          · exact hL Z hZ
          · rw [List.mem_singleton.mp hZ]; exact hLY
        · rw [List.length_append, hYl]; rfl
    · obtain ⟨sm, ⟨ps, Ys, eo, hRL, hpo, hL, hYl⟩, y4, y5, y6, y7, y8, y9, y10, y11, y12, rfl⟩ := h
      have hYl14 : Ys.length ≤ 14 := by omega
      obtain ⟨x43, ex43⟩ : ∃ x, qs[43]? = some x := ⟨_, List.getElem?_eq_getElem (by omega)⟩
      refine ⟨_, rfl, qp, _, 43, _, rfl, rfl, sqL (sm _ _ eq), at_of (j := 43) rfl (get_int ex43), _, _, rfl, rfl, (by show (0 : Int) < 3; decide), rfl, _, rfl, ite2 (fun hc => ?_) (fun hc => ⟨_, rfl, q H' o ps Ys sm eo hRL hL (by omega)⟩)⟩
      -- found + [list(yard) for yard in found[:2]]
      refine ⟨_, rfl, _, rfl, 2, rfl, o, _, rfl, sqL eo, fun cp ncp => ?_⟩
      have ecut : cutV (ps.map V.ref) none (some 2) = (ps.take 2).map V.ref := by
        unfold cutV
        rw [HT.sIx_none, show HT.sIx (ps.map V.ref).length (ps.map V.ref).length (some 2) = min 2 (ps.map V.ref).length from HT.sIx_nat _ _ 2, List.drop_zero, Nat.sub_zero, List.map_take]
        by_cases h2 : 2 ≤ (ps.map V.ref).length
        · rw [Nat.min_eq_left h2]
        · rw [Nat.min_eq_right (by omega), List.take_of_length_le (Nat.le_refl _), List.take_of_length_le (by omega)]
      rw [ecut]
      have s1 := same_upd (o := .lst ((ps.take 2).map V.ref)) ncp
      have hR2 := (hRL.same s1).take 2
      have hpl := hRL.1
      refine ⟨cp, rfl, ⟨_, sqL upd_same⟩, fun D nD => lc_list (xs := (ps.take 2).map V.ref) (fun j H2 => Same (L2.upd H' cp (.lst ((ps.take 2).map V.ref))) H2 ∧ ∃ cs : List Addr, H2 D = some (.lst (cs.map V.ref)) ∧ RL H2 cs ((Ys.take 2).take j) ∧ ∀ c ∈ cs, c ≠ D) ⟨same_upd nD, [], upd_same, by rw [List.take_zero]; exact .nil, by simp⟩ (fun j H2 _ h => sqL (h.1 _ _ upd_same)) (fun j v H2 e h => ?_) (fun H2 h => ?_)⟩
      · obtain ⟨s2, cs, eD, hC, hcD⟩ := h
        obtain ⟨p, ep, rfl⟩ := of_get_ref e
        have hjl := (List.getElem?_eq_some_iff.mp ep).1
        obtain ⟨Y, eY⟩ : ∃ Y, (Ys.take 2)[j]? = some Y := ⟨_, List.getElem?_eq_getElem (by rw [← hR2.1]; exact hjl)⟩
        have hpY : IL H2 p Y := s2 _ _ (hR2.2 j p Y ep eY)
        have hjl2 : j < 2 := by rw [List.length_take] at hjl; omega
        have hcl := hC.1
        rw [List.length_take] at hcl
        refine ⟨rfl, _, rfl, p, _, rfl, .inl (sqL hpY), fun l nl => ?_⟩
        have s3 := same_upd (o := .lst (Y.map V.int)) nl
        have nlD : l ≠ D := fun z => by rw [z, eD] at nl; cases nl
        refine ⟨_, s3 _ _ eD, small_of (m := 100) (by rw [List.length_map]; omega), same_at (s2.trans s3) nD, cs ++ [l], ?_, ?_, ?_⟩
        · rw [upd_same, List.map_append]; rfl
        · rw [List.take_add_one, eY]
          refine RL.upd ((hC.same s3).snoc upd_same) fun c hc => ?_
          rcases List.mem_append.mp hc with hc | hc
          · exact hcD c hc
          · rw [List.mem_singleton.mp hc]; exact nlD
        · intro c hc
          rcases List.mem_append.mp hc with hc | hc
          · exact hcD c hc
          · rw [List.mem_singleton.mp hc]; exact nlD
      · obtain ⟨s2, cs, eD, hC, hcD⟩ := h
        rw [List.length_map, hR2.1, List.take_of_length_le (Nat.le_refl _)] at hC
        have hcl := hC.1
        rw [List.length_take] at hcl
        have eo2 := s2 _ _ (s1 _ _ eo)
        refine ⟨o, D, _, _, rfl, rfl, eo2, eD, by rw [List.length_map, List.length_map, sizeLine_eq]; omega, fun N nN => ?_⟩
        have s3 := same_upd (o := .lst (ps.map V.ref ++ cs.map V.ref)) nN
        refine ⟨_, rfl, q _ N (ps ++ cs) (Ys ++ Ys.take 2) (((sm.trans s1).trans s2).trans s3) (by rw [upd_same, List.map_append]) (((hRL.same (s1.trans s2)).append hC).same s3) (fun Z hZ => ?_) ?_⟩
        · rcases List.mem_append.mp hZ with hZ | hZ
          · exact hL Z hZ
          · exact hL Z (List.mem_of_mem_take hZ)
        · rw [List.length_append, List.length_take]; omega
end
end Tw
/-! the law's worths, copy, rising, often -/
namespace Tw
open PySem PySem.Spec PyProof.Rows L2
section
variable {P : Program} {w : World} {K : PySem.W.Frag} {mg : Str → Option Value} {base : Heap}
def spWorths (K : PySem.W.Frag) : Sp := fun vs H Q _ => ∃ (y qp : Addr) (xs : List V) (qs : List Int), vs = [.ref y, .ref qp] ∧ H y = some (.lst xs) ∧ xs.length ≤ 1000 ∧ IL H qp qs ∧ qs.length = 96 ∧ (∀ x ∈ qs, 0 ≤ x) ∧
  ∀ (H' : Hp) (p : Addr) (W : List Int), Same H H' → IL H' p W → W.length = xs.length → (∀ x ∈ W, 0 ≤ x) → Q (.ref p) H'
theorem ok_worths {f : Addr} {fd : FuncData} {k : Nat} (F : Fun K "_law_worths" "_law_worths" sWorths f fd) (ml : mg "len" = none) (mr : mg "range" = none) (mi : mg "int" = none) : FnOk P w K mg base CX0 (k + 1) f fd ["_law_yards_here", "_law_numbers_here"] (spWorths K) := by
  refine F.ok scWorths (fun vs H Q E h => ?_) (fun cdv A outer s H vs Q E hr h => ?_)
  · obtain ⟨y, qp, xs, qs, rfl, _⟩ := h
    rfl
  · obtain ⟨y, qp, xs, qs, rfl, hY, hlen, eq, hql, hq0, q⟩ := h
    refine ⟨_, pss_cons (ps_set (i := 2) scWorths.nd rfl (.inl rfl) (pe_lst pa_nil))
      <| pss_cons (ps_for PassesOwn.never rfl (pi_range1 (by rfl) mr (pa_cons (pe_callB call_len_seq (by rfl) ml PySem.boot_len (pa_cons (pv 0) pa_nil)) pa_nil)) (pg_name (i := 3) scWorths.nd rfl (.inl rfl)) <|
          pss_cons (ps_set (i := 4) scWorths.nd rfl (.inl rfl) (pe_ix ix_list (pv 1) (pe_op op_add pe_int (pe_op op_mod (pv 3) pe_int)) (fun _ _ => rfl)))
          <| pss_one (ps_expr (pe_bm PySem.F.plainAttrs_list PySem.F.slot_list_append PySem.F.type_list_append mt_append (pv 2) (pa_cons (pe_ix ix_list (pe_lst (pa_cons (pe_op op_mod (pv 4) pe_int)
              (pa_cons (pe_op op_mul (pe_op op_mod (pv 4) pe_int) (pe_callTy call_int1 (by rfl) mi boot_int (pa_cons (pe_cmpR op_gt (pe_op op_mod (pe_op op_fdiv (pv 4) pe_int) pe_int) pe_int (nomark _)) pa_nil)))
              (pa_cons (pe_ix ix_list (pv 1) (pe_op op_add pe_int (pe_op op_mod (pv 3) pe_int)) (fun _ _ => rfl)) (pa_cons pe_int pa_nil)))))
              (pe_op op_mod (pe_ix ix_list (pv 1) pe_int (fun _ _ => rfl)) pe_int) (fun _ _ => rfl)) pa_nil))))
      <| pss_one (ps_ret (pv 2)), ?_⟩
    refine ⟨Nat.zero_le _, fun o no => ?_⟩
    have s0 := same_upd (o := .lst []) no
    refine ⟨_, rfl, y, _, rfl, .inl (sqL (s0 _ _ hY)), (xs.length : Int), rfl, by omega, by omega, for_range (lo := 0) (n := (xs.length : Int).toNat) (fun i σ H' => Same H H' ∧ (∃ W : List Int, IL H' o W ∧ W.length = i ∧ ∀ x ∈ W, 0 ≤ x) ∧ ∃ y3 y4, σ = [some (.ref y), some (.ref qp), some (.ref o), y3, y4])
      ⟨s0, ⟨[], upd_same, rfl, by simp⟩, none, none, rfl⟩ (fun i σ H' hi h => ?_) (fun σ H' h => ?_)⟩
    · obtain ⟨sm, ⟨W, eW, hWl, hW0⟩, y3, y4, rfl⟩ := h
      rw [Int.toNat_natCast] at hi
      have e14 : (0 + (i : Int)) % 14 = ((i % 14 : Nat) : Int) := by omega
      have h14 : i % 14 < 14 := Nat.mod_lt _ (by decide)
      obtain ⟨number, enum⟩ : ∃ x, qs[28 + i % 14]? = some x := ⟨_, List.getElem?_eq_getElem (by omega)⟩
      obtain ⟨x76, ex76⟩ : ∃ x, qs[76 + i % 14]? = some x := ⟨_, List.getElem?_eq_getElem (by omega)⟩
      obtain ⟨x42, ex42⟩ : ∃ x, qs[42]? = some x := ⟨_, List.getElem?_eq_getElem (by omega)⟩
      have hx76 := hq0 x76 (List.mem_of_getElem? ex76)
      have eq' := sm _ _ eq
      refine ⟨_, rfl, _, rfl, _, _, rfl, rfl, (by show (0 : Int) < 14; decide), _, _, rfl, rfl, qp, _, _, _, rfl, rfl, sqL eq', at_of (j := 28 + i % 14) (by omega) (get_int enum), ?_⟩
      have hn9 := Int.emod_nonneg number (show (9 : Int) ≠ 0 by decide)
      have hn9' := Int.emod_lt_of_pos number (show (0 : Int) < 9 by decide)
      have hn4 := Int.emod_nonneg number (show (4 : Int) ≠ 0 by decide)
      refine ⟨_, rfl, .inl ⟨rfl, _, sqL eW⟩, _, rfl, _, _, rfl, rfl, (by show (0 : Int) < 4; decide), _, rfl, _, _, rfl, rfl, (by show (0 : Int) < 9; decide), _, rfl, _, _, rfl, rfl, cdiv3 _ (by decide) (by decide), _, _, rfl, rfl, (by show (0 : Int) < 3; decide), _, _, rfl, rfl, .inr ⟨_, rfl, ?_⟩⟩
      obtain ⟨fl, efl, hfl⟩ : ∃ fl : Int, (if decide ((0 : Int) < number / 16 % 3) = true then (1 : Int) else 0) = fl ∧ 0 ≤ fl := ⟨_, rfl, by split <;> decide⟩
      refine ⟨_, _, rfl, rfl, .inl ⟨by omega, by omega⟩, ?_⟩
      rw [efl]
      have hprod : 0 ≤ number % 9 * fl := Int.mul_nonneg hn9 hfl
      refine ⟨_, rfl, _, rfl, _, _, rfl, rfl, (by show (0 : Int) < 14; decide), _, _, rfl, rfl, qp, _, _, _, rfl, rfl, sqL eq', at_of (j := 76 + i % 14) (by omega) (get_int ex76), four_line, fun l nl => ?_⟩
      have s1 := same_upd (o := .lst [.int (number % 4), .int (number % 9 * fl), .int x76, .int 1]) nl
      obtain ⟨wv, hwv, epw⟩ := pickI (xs := [number % 4, number % 9 * fl, x76, 1]) (Int.emod_nonneg x42 (show (4 : Int) ≠ 0 by decide)) (Int.emod_lt_of_pos x42 (show (0 : Int) < 4 by decide))
      have hwv0 : 0 ≤ wv := by
        simp only [List.mem_cons, List.not_mem_nil, or_false] at hwv
        rcases hwv with e | e | e | e <;> omega
      refine ⟨_, rfl, qp, _, 42, _, rfl, rfl, sqL (s1 _ _ eq'), at_of (j := 42) rfl (get_int ex42), _, _, rfl, rfl, (by show (0 : Int) < 4; decide), l, _, _, _, rfl, rfl, sqL upd_same, epw, o, _, _, rfl, rfl, s1 _ _ eW, small_of (m := 1000) (by rw [List.length_map]; omega), same_at (sm.trans s1) no, ⟨W ++ [wv], ?_, by rw [List.length_append, hWl]; rfl, ?_⟩, _, _, rfl⟩
      · show (L2.upd _ o _) o = _
        rw [upd_same, List.map_append]; rfl
      · intro x hx
        rcases List.mem_append.mp hx with hx | hx
        · exact hW0 x hx
        · rw [List.mem_singleton.mp hx]; exact hwv0
    · obtain ⟨sm, ⟨W, eW, hWl, hW0⟩, y3, y4, rfl⟩ := h
      rw [Int.toNat_natCast] at hWl
      exact ⟨_, rfl, q H' o W sm eW hWl hW0⟩
def spCopy (K : PySem.W.Frag) : Sp := fun vs H Q _ => ∃ (a : Addr) (rows : List (List Int)), vs = [.ref a] ∧ Rows H a rows ∧ rows.length ≤ 1000 ∧
  ∀ (H' : Hp) (p : Addr), Same H H' → H p = none → Rows H' p rows → Q (.ref p) H'
theorem ok_copy {f : Addr} {fd : FuncData} {k : Nat} (F : Fun K "_law_copy" "_law_copy" sCopy f fd) (mL : mg "list" = none) : FnOk P w K mg base CX0 (k + 1) f fd ["_law_rows"] (spCopy K) := by
  refine F.ok scCopy (fun vs H Q E h => ?_) (fun cdv A outer s H vs Q E hr h => ?_)
  · obtain ⟨a, rows, rfl, _⟩ := h
    rfl
  · obtain ⟨a, rows, rfl, ⟨ps, hA, hpl, hP⟩, hlen, q⟩ := h
    refine ⟨_, pss_one (ps_ret (pe_lc (own := [("_law_row", 1)]) (g := gName 1) (by rfl) scCopy.nd (pi_list (pv 0)) (blkOk_by (own := [("_law_row", 1)]) (N := ["_law_rows", "_law_row"]) (sc := defScope sCopy) (by decide +kernel))
            (fun _ _ _ _ _ => pg_name (i := 1) scCopy.nd rfl (Or.inl rfl)) (fun _ _ _ _ _ => pts_nil)
            (fun _ _ _ _ _ => pe_callTy (r := fun xs H Q => ∃ p ys, xs = [.ref p] ∧ (SqL K H p ys ∨ SqT K H p ys) ∧ ∀ l, H l = none → Q (.ref l) (L2.upd H l (.lst ys))) call_list_of (by rfl) mL (by decide +kernel) (pa_cons (pv 1) pa_nil)))), ?_⟩
    refine ⟨_, rfl, a, rfl, ⟨_, sqL hA⟩, fun D nD => lc_list (xs := ps.map V.ref) (fun j H2 => Same H H2 ∧ ∃ cs : List Addr, H2 D = some (.lst (cs.map V.ref)) ∧ RL H2 cs (rows.take j) ∧ ∀ c ∈ cs, c ≠ D) ⟨same_upd nD, [], upd_same, by rw [List.take_zero]; exact .nil, by simp⟩ (fun j H2 _ h => sqL (h.1 _ _ hA)) (fun j v H2 e h => ?_) (fun H2 h => ?_)⟩
    · obtain ⟨s2, cs, eD, hC, hcD⟩ := h
      obtain ⟨p, ep, rfl⟩ := of_get_ref e
      have hjl := (List.getElem?_eq_some_iff.mp ep).1
      obtain ⟨Y, eY⟩ : ∃ Y, rows[j]? = some Y := ⟨_, List.getElem?_eq_getElem (by omega)⟩
      have hpY : IL H2 p Y := s2 _ _ (hP j p Y ep eY)
      have hcl := hC.1
      rw [List.length_take] at hcl
      refine ⟨rfl, _, rfl, p, _, rfl, .inl (sqL hpY), fun l nl => ?_⟩
      have s3 := same_upd (o := .lst (Y.map V.int)) nl
      have nlD : l ≠ D := fun z => by rw [z, eD] at nl; cases nl
      refine ⟨_, s3 _ _ eD, small_of (m := 1000) (by rw [List.length_map]; omega), same_at (s2.trans s3) nD, cs ++ [l], ?_, ?_, ?_⟩
      · rw [upd_same, List.map_append]; rfl
      · rw [List.take_add_one, eY]
        refine RL.upd ((hC.same s3).snoc upd_same) fun c hc => ?_
        rcases List.mem_append.mp hc with hc | hc
        · exact hcD c hc
        · rw [List.mem_singleton.mp hc]; exact nlD
      · intro c hc
        rcases List.mem_append.mp hc with hc | hc
        · exact hcD c hc
        · rw [List.mem_singleton.mp hc]; exact nlD
    · obtain ⟨s2, cs, eD, hC, hcD⟩ := h
      rw [List.length_map, hpl, List.take_of_length_le (Nat.le_refl _)] at hC
      exact q H2 D s2 nD (hC.rows eD)
def nV' (k : Nat) : V := V.int (Int.ofNat k)
def spRising (K : PySem.W.Frag) : Sp := fun vs H Q _ => ∃ (a : Addr) (B : List Nat) (m : Nat), vs = [.ref a, .int (m : Int)] ∧ H a = some (.lst (B.map nV')) ∧ B.length ≤ 1000 ∧ B.Pairwise (· < ·) ∧ (∀ k ∈ B, k < m) ∧ ∀ H', Same H H' → Q (.bl true) H'
theorem get_nV {B : List Nat} {i k : Nat} (h : B[i]? = some k) : (B.map nV')[i]? = some (.int (k : Int)) := by rw [List.getElem?_map, h]; rfl
theorem ok_rising {f fW : Addr} {fd fdW : FuncData} {k : Nat} (F : Fun K "_law_rising" "_law_rising" sRising f fd) (GW : FnOk P w K mg base CX0 (k + 1) fW fdW ["_law_found"] (spWhole K)) (kW : PySem.W.keepIn K (.ref fW) = true) (bW : Binds K fdW ["_law_found"] []) (gW : mg "_law_whole" = some (.ref fW)) (ml : mg "len" = none) (mr : mg "range" = none) (mi : mg "isinstance" = none) (mL : mg "list" = none) :
    FnOk P w K mg base CX0 (k + 2) f fd ["_law_found", "_law_most"] (spRising K) := by
  refine F.ok scRising (fun vs H Q E h => ?_) (fun cdv A outer s H vs Q E hr h => ?_)
  · obtain ⟨a, B, m, rfl, _⟩ := h
    rfl
  · obtain ⟨a, B, m, rfl, hB, hlen, hpw, hlt, q⟩ := h
    refine ⟨_, pss_cons (ps_if (pt_not (pt_val (pe_callB call_isi (by rfl) mi (by decide +kernel) (pa_cons (pv 0) (pa_cons (pe_bltn (v := .ty "list") (by rfl) mL (show bootBuiltins "list" = some (.type "list") by decide +kernel) rfl) pa_nil))))) (pss_one ps_never) pss_nil)
      <| pss_cons (ps_for PassesOwn.never rfl (pi_range1 (by rfl) mr (pa_cons (pe_callB call_len_seq (by rfl) ml PySem.boot_len (pa_cons (pv 0) pa_nil)) pa_nil)) (pg_name (i := 2) scRising.nd rfl (.inl rfl)) <|
          pss_one (ps_if (PW.pt (pw_or (pt_not (pt_val (pe_call GW hr (by rfl) gW kW bW .nil pass0 (pa_cons (pe_ix ix_list (pv 0) (pv 2) (fun _ _ => rfl)) pa_nil))))
              (pw_or (pt_cmpR op_lt (pe_ix ix_list (pv 0) (pv 2) (fun _ _ => rfl)) pe_int (nomark _))
              (pw_or (pt_cmpR op_ge (pe_ix ix_list (pv 0) (pv 2) (fun _ _ => rfl)) (pv 1) (nomark _))
              (pw_or1 (PW.pt (pw_and (pt_cmpR op_gt (pv 2) pe_int (nomark _)) (pw_and1 (pt_cmpR op_le (pe_ix ix_list (pv 0) (pv 2) (fun _ _ => rfl)) (pe_ix ix_list (pv 0) (pe_op op_sub (pv 2) pe_int) (fun _ _ => rfl)) (nomark _))))))))))
            (pss_one ps_never) pss_nil))
      <| pss_one (ps_ret pe_bl), ?_⟩
    refine ⟨_, rfl, _, _, _, _, true, rfl, .ty _, .base (.lst hB), kit_ty (by decide +kernel), true, rfl, iteF ?_⟩
    refine ⟨_, rfl, a, _, rfl, .inl (sqL hB), _, rfl, by rw [List.length_map]; omega, by rw [List.length_map]; omega, for_range (lo := 0) (n := ((B.map nV').length : Int).toNat) (fun i σ H' => Same H H' ∧ ∃ y, σ = [some (.ref a), some (.int (m : Int)), y]) ⟨Same.refl _, none, rfl⟩ (fun i σ H' hi h => ?_) (fun σ H' h => q H' h.1)⟩
    obtain ⟨sm, y, rfl⟩ := h
    rw [List.length_map, Int.toNat_natCast] at hi
    obtain ⟨kk, ekk⟩ : ∃ x, B[i]? = some x := ⟨_, List.getElem?_eq_getElem hi⟩
    have hkm := hlt kk (List.mem_of_getElem? ekk)
    have hB' := sm _ _ hB
    have e0 : (0 : Int) + (i : Int) = ((i : Nat) : Int) := by omega
    refine ⟨_, rfl, _, rfl, a, _, _, _, rfl, rfl, sqL hB', at_of e0 (get_nV ekk), (kk : Int), rfl, true, rfl, iteF ⟨_, rfl, _, rfl, a, _, _, _, rfl, rfl, sqL hB', at_of e0 (get_nV ekk), _, _, rfl, rfl, _, rfl, ?_⟩⟩
    rw [decide_eq_false (by omega)]
    refine iteF ⟨_, rfl, _, rfl, a, _, _, _, rfl, rfl, sqL hB', at_of e0 (get_nV ekk), _, rfl, _, _, rfl, rfl, _, rfl, ?_⟩
    rw [decide_eq_false (by omega)]
    refine iteF ⟨_, rfl, _, _, rfl, rfl, _, rfl, ite2 (fun hgt => ?_) (fun hgt => ?_)⟩
    · have hgt := of_decide_eq_true hgt
      obtain ⟨jj, ejj⟩ : ∃ x, B[i - 1]? = some x := ⟨_, List.getElem?_eq_getElem (by omega)⟩
      have hlt2 : jj < kk := by
        have h1 := (List.getElem?_eq_some_iff.mp ejj)
        have h2 := (List.getElem?_eq_some_iff.mp ekk)
        have := List.pairwise_iff_getElem.mp hpw (i - 1) i h1.1 h2.1 (by omega)
        rw [h1.2, h2.2] at this
        exact this
      refine ⟨_, rfl, _, rfl, a, _, _, _, rfl, rfl, sqL hB', at_of e0 (get_nV ekk), _, rfl, _, rfl, _, _, rfl, rfl, a, _, _, _, rfl, rfl, sqL hB', at_of (j := i - 1) (by omega) (get_nV ejj), _, _, rfl, rfl, _, rfl, ?_⟩
      rw [decide_eq_false (by omega)]
      exact iteF ⟨sm, _, rfl⟩
    · exact iteF ⟨sm, _, rfl⟩
def spOften (K : PySem.W.Frag) : Sp := fun vs H Q _ => ∃ (a : Addr) (z : Int) (ps : List Addr) (Ys : List (List Int)), vs = [.ref a, .int z] ∧ H a = some (.lst (ps.map V.ref)) ∧ RL H ps Ys ∧ Ys.length ≤ 16 ∧
  ∀ (H' : Hp) (p : Addr) (Zs : List (List Int)), Same H H' → Rows H' p Zs → (∀ Z ∈ Zs, Z ∈ Ys) → Zs.length ≤ 80 → Q (.ref p) H'
theorem RL.reverse {H : Hp} {ps : List Addr} {rows : List (List Int)} (h : RL H ps rows) : RL H ps.reverse rows.reverse := by
  refine ⟨by simp [h.1], fun i p r e1 e2 => ?_⟩
  have hl := h.1
  have hi : i < ps.length := by
    have := (List.getElem?_eq_some_iff.mp e1).1
    simpa using this
  rw [List.getElem?_reverse hi] at e1
  rw [List.getElem?_reverse (by omega), ← hl] at e2
  exact h.2 _ p r e1 e2
theorem ok_often {f : Addr} {fd : FuncData} {k : Nat} (F : Fun K "_law_often" "_law_often" sOften f fd) : FnOk P w K mg base CX0 (k + 1) f fd ["_law_some", "_law_number"] (spOften K) := by
  refine F.ok scOften (fun vs H Q E h => ?_) (fun cdv A outer s H vs Q E hr h => ?_)
  · obtain ⟨a, z, ps, Ys, rfl, _⟩ := h
    rfl
  · obtain ⟨a, z, ps, Ys, rfl, hA, hR, hlen, q⟩ := h
    refine ⟨_, pss_cons (ps_if (pt_cmpR op_ne (pe_op op_mod (pv 1) pe_int) pe_int (nomark _)) (pss_one (ps_ret (pv 0))) pss_nil)
      <| pss_one (ps_ret (pe_op op_cat (pe_op op_cat (pe_op op_cat (pe_op op_cat (pv 0) (pe_revL (pv 0))) (pv 0)) (pe_revL (pv 0))) (pv 0))), ?_⟩
    have hpl := hR.1
    refine ⟨_, rfl, _, _, rfl, rfl, (by show (0 : Int) < 8; decide), rfl, _, rfl, ite2 (fun _ => ⟨_, rfl, q H a Ys (Same.refl _) (hR.rows hA) (fun _ h => h) (by omega)⟩) (fun _ => ?_)⟩
    refine ⟨_, rfl, _, rfl, a, _, rfl, sqL hA, fun r1 n1 => ?_⟩
    have s1 := same_upd (o := .lst (ps.map V.ref).reverse) n1
    refine ⟨a, r1, _, _, rfl, rfl, s1 _ _ hA, upd_same, by rw [List.length_reverse, List.length_map, sizeLine_eq]; omega, fun c1 n2 => ?_⟩
    have s2 := same_upd (o := .lst (ps.map V.ref ++ (ps.map V.ref).reverse)) n2
    refine ⟨_, rfl, c1, a, _, _, rfl, rfl, upd_same, s2 _ _ (s1 _ _ hA), by rw [List.length_append, List.length_reverse, List.length_map, sizeLine_eq]; omega, fun c2 n3 => ?_⟩
    have s3 := same_upd (o := .lst (ps.map V.ref ++ (ps.map V.ref).reverse ++ ps.map V.ref)) n3
    have s13 := (s1.trans s2).trans s3
    refine ⟨_, rfl, a, _, rfl, sqL (s13 _ _ hA), fun r2 n4 => ?_⟩
    have s4 := same_upd (o := .lst (ps.map V.ref).reverse) n4
    refine ⟨c2, r2, _, _, rfl, rfl, s4 _ _ upd_same, upd_same, by simp only [List.length_append, List.length_reverse, List.length_map, sizeLine_eq]; omega, fun c3 n5 => ?_⟩
    have s5 := same_upd (o := .lst (ps.map V.ref ++ (ps.map V.ref).reverse ++ ps.map V.ref ++ (ps.map V.ref).reverse)) n5
    have s15 := (s13.trans s4).trans s5
    refine ⟨_, rfl, c3, a, _, _, rfl, rfl, upd_same, s15 _ _ hA, by simp only [List.length_append, List.length_reverse, List.length_map, sizeLine_eq]; omega, fun c4 n6 => ?_⟩
    have s6 := same_upd (o := .lst (ps.map V.ref ++ (ps.map V.ref).reverse ++ ps.map V.ref ++ (ps.map V.ref).reverse ++ ps.map V.ref)) n6
    refine q _ c4 (Ys ++ Ys.reverse ++ Ys ++ Ys.reverse ++ Ys) (s15.trans s6) (RL.rows (ps := ps ++ ps.reverse ++ ps ++ ps.reverse ++ ps) (RL.same (s15.trans s6) ((((hR.append hR.reverse).append hR).append hR.reverse).append hR)) ?_) (fun Z hZ => ?_) ?_
    · rw [upd_same]
      simp only [List.map_append, List.map_reverse]
    · simp only [List.mem_append, List.mem_reverse] at hZ
      rcases hZ with (((h | h) | h) | h) | h <;> exact h
    · simp only [List.length_append, List.length_reverse]
      omega
end
end Tw
/-! the law -/
namespace Tw
open PySem PySem.Spec PyProof.Rows L2 LamX
/-- lists stay as they are -/
def KL (H H' : Hp) : Prop := ∀ (a : Addr) (xs : List V), H a = some (.lst xs) → H' a = some (.lst xs)
theorem KL.ext {H H' : Hp} (e : ExtN H H') : KL H H' := fun a xs h => ext_lst e h
theorem KL.same {H H' : Hp} (e : Same H H') : KL H H' := fun a xs h => e _ _ h
theorem KL.trans {H H1 H2 : Hp} (a : KL H H1) (b : KL H1 H2) : KL H H2 := fun x xs h => b _ _ (a _ _ h)
theorem KL.upd {H H' : Hp} {p : Addr} {o : HO} (a : KL H H') (h : ∀ xs, H p ≠ some (.lst xs)) : KL H (L2.upd H' p o) := fun x xs e => by
  have : x ≠ p := fun z => h xs (by rw [← z]; exact e)
  rw [upd_ne this]
  exact a _ _ e
theorem KL.rows {H H' : Hp} {a : Addr} {rows : List (List Int)} (k : KL H H') (h : Rows H a rows) : Rows H' a rows := by
  obtain ⟨ps, h1, h2, h3⟩ := h
  exact ⟨ps, k _ _ h1, h2, fun i p r e1 e2 => k _ _ (h3 i p r e1 e2)⟩
/-- rows as data -/
def dRow (r : List Int) : PyData := .list (r.map .int)
theorem dp_all {K : PySem.W.Frag} {H : Hp} : ∀ (ps : List Addr) (rows : List (List Int)), ps.length = rows.length → (∀ (i : Nat) (p : Addr) (r : List Int), ps[i]? = some p → rows[i]? = some r → IL H p r) → DpAll K H (ps.map V.ref) (rows.map dRow)
  | [], [], _, _ => .nil
  | [], _ :: _, h, _ => by cases h
  | _ :: _, [], h, _ => by cases h
  | p :: ps, r :: rows, h, hp => .cons (.lst (sqL (hp 0 p r rfl rfl)) (dp_ints r)) (dp_all ps rows (Nat.succ.inj h) fun i q x e1 e2 => hp (i + 1) q x e1 e2)
theorem dp_rows {K : PySem.W.Frag} {H : Hp} {a : Addr} {rows : List (List Int)} (h : Rows H a rows) : Dp K H (.ref a) (.list (rows.map dRow)) := by
  obtain ⟨ps, h1, h2, h3⟩ := h
  exact .lst (sqL h1) (dp_all ps rows h2 h3)
theorem lay_rows : ∀ rows : List (List Int), PyData.canLayAll0 (rows.map dRow) = true
  | [] => by rw [List.map_nil, PyData.canLayAll0]
  | r :: rows => by
    rw [List.map_cons, PyData.canLayAll0, lay_rows rows, Bool.and_true]
    unfold dRow
    rw [PyData.canLay0, canlay_ints]
theorem depth_rows : ∀ rows : List (List Int), PyData.depthAll (rows.map dRow) ≤ 1
  | [] => by rw [List.map_nil, PyData.depthAll]; decide
  | r :: rows => by
    rw [List.map_cons, PyData.depthAll]
    have := depth_rows rows
    unfold dRow at *
    rw [PyData.depth, PySem.W.depth_ints]
    omega
def dAll (rs Zs : List (List Int)) (W : List Int) : PyData := .list [.list (rs.map dRow), .list (Zs.map dRow), .list (W.map .int)]
theorem lay_dAll (rs Zs : List (List Int)) (W : List Int) : (dAll rs Zs W).canLay0 = true := by
  unfold dAll
  simp only [PyData.canLay0, PyData.canLayAll0, lay_rows, canlay_ints, Bool.and_self]
theorem shaped_dAll (rs Zs : List (List Int)) (W : List Int) : SeqAt.shaped (dAll rs Zs W) = true := by
  unfold SeqAt.shaped
  rw [lay_dAll, Bool.true_and, decide_eq_true_eq]
  unfold dAll
  simp only [PyData.depth, PyData.depthAll, PySem.W.depth_ints]
  have h1 := depth_rows rs
  have h2 := depth_rows Zs
  omega
theorem dp_dAll {K : PySem.W.Frag} {H : Hp} {x a b c : Addr} {rs Zs : List (List Int)} {W : List Int} (hx : H x = some (.lst [.ref a, .ref b, .ref c])) (ha : Rows H a rs) (hb : Rows H b Zs) (hc : IL H c W) : Dp K H (.ref x) (dAll rs Zs W) :=
  .lst (sqL hx) (.cons (dp_rows ha) (.cons (dp_rows hb) (.cons (.lst (sqL hc) (dp_ints W)) .nil)))
theorem filt_take {α : Type} {p : α → Bool} {l : List α} {i : Nat} {x : α} (h : l[i]? = some x) : (l.take (i + 1)).filter p = (l.take i).filter p ++ if p x = true then [x] else [] := by
  rw [List.take_add_one, h, List.filter_append]
  congr 1
  by_cases e : p x = true
  · rw [if_pos e]; simp [e]
  · rw [if_neg e]; simp [e]
theorem apart_one {Y : Nat → List Int} {x : Int} : ∀ {T : List Nat}, Apart Y T → (T.filter fun k => decide (x ∈ Y k)).length ≤ 1
  | [], _ => Nat.zero_le _
  | k :: T, h => by
    obtain ⟨h1, h2⟩ := List.pairwise_cons.mp h
    by_cases e : x ∈ Y k
    · have : T.filter (fun k => decide (x ∈ Y k)) = [] := by
        rw [List.filter_eq_nil_iff]
        intro m hm z
        exact h1 m hm x e (of_decide_eq_true z)
      rw [List.filter_cons, if_pos (decide_eq_true e), this]
      exact Nat.le_refl _
    · rw [List.filter_cons, if_neg (by simpa using e)]
      exact apart_one h2
theorem rise_len : ∀ {B : List Nat} {a m : Nat}, B.Pairwise (· < ·) → (∀ k ∈ B, a ≤ k ∧ k < a + m) → B.length ≤ m
  | [], _, _, _, _ => Nat.zero_le _
  | k :: B, a, m, h, hb => by
    obtain ⟨h1, h2⟩ := List.pairwise_cons.mp h
    have hk := hb k List.mem_cons_self
    have := rise_len (B := B) (a := k + 1) (m := a + m - (k + 1)) h2 fun j hj => by
      have := h1 j hj
      have := hb j (List.mem_cons_of_mem _ hj)
      omega
    rw [List.length_cons]
    omega
section
variable {P : Program} {w : World} {K : PySem.W.Frag} {mg : Str → Option Value} {base : Heap}
def spLaw (T : List (Addr × Str)) (K : PySem.W.Frag) : Sp := fun vs H Q _ => ∃ (a : Addr) (ns : List Int), vs = [.ref a] ∧ SqL K H a (ns.map V.int) ∧ ns.length ≤ 63 ∧ Tabs T H ∧ ∀ H', Q (.bl true) H'
abbrev nLaw : List Str := ["_law_script", "_law_many", "_law_roads", "_law_numbers_here", "_law_yards_here", "_law_worths_here", "_law_handed", "_law_found", "_law_why", "_law_place", "_law_k", "_law_one"]
theorem ok_law {f fT fY fO fW fC fB fP fR fH P1 P2 : Addr} {fd fdT fdY fdO fdW fdC fdB fdP fdR fdH : FuncData} {k : Nat} (F : Fun K "law" "law" sLaw f fd)
    (GT : FnOk P w K mg base CX0 (k + 8) fT fdT ["_law_script"] (spTree K)) (kT : PySem.W.keepIn K (.ref fT) = true) (bT : Binds K fdT ["_law_script"] []) (gT : mg "_law_tree" = some (.ref fT))
    (GY : FnOk P w K mg base CX0 (k + 8) fY fdY ["_law_many", "_law_roads", "_law_numbers_here"] (spYards K)) (kY : PySem.W.keepIn K (.ref fY) = true) (bY : Binds K fdY ["_law_many", "_law_roads", "_law_numbers_here"] []) (gY : mg "_law_yards" = some (.ref fY))
    (GO : FnOk P w K mg base CX0 (k + 8) fO fdO ["_law_some", "_law_number"] (spOften K)) (kO : PySem.W.keepIn K (.ref fO) = true) (bO : Binds K fdO ["_law_some", "_law_number"] []) (gO : mg "_law_often" = some (.ref fO))
    (GW : FnOk P w K mg base CX0 (k + 8) fW fdW ["_law_yards_here", "_law_numbers_here"] (spWorths K)) (kW : PySem.W.keepIn K (.ref fW) = true) (bW : Binds K fdW ["_law_yards_here", "_law_numbers_here"] []) (gW : mg "_law_worths" = some (.ref fW))
    (GC : FnOk P w K mg base CX0 (k + 8) fC fdC ["_law_rows"] (spCopy K)) (kC : PySem.W.keepIn K (.ref fC) = true) (bC : Binds K fdC ["_law_rows"] []) (gC : mg "_law_copy" = some (.ref fC))
    (GB : FnOk P w K mg base CX0 (k + 8) fB fdB ["many", "roads", "yards", "worths"] (spBest (TT P1 P2) K)) (kB : PySem.W.keepIn K (.ref fB) = true) (bB : Binds K fdB ["many", "roads", "yards", "worths"] []) (gB : mg "best_yards" = some (.ref fB))
    (GP : FnOk P w K mg base CX0 (k + 8) fP fdP ["many", "roads", "yards", "worths"] (spPrices (TT P1 P2) K)) (kP : PySem.W.keepIn K (.ref fP) = true) (bP : Binds K fdP ["many", "roads", "yards", "worths"] []) (gP : mg "prices" = some (.ref fP))
    (GR : FnOk P w K mg base CX0 (k + 8) fR fdR ["_law_found", "_law_most"] (spRising K)) (kR : PySem.W.keepIn K (.ref fR) = true) (bR : Binds K fdR ["_law_found", "_law_most"] []) (gR : mg "_law_rising" = some (.ref fR))
    (GH : FnOk P w K mg base CX0 (k + 8) fH fdH ["_law_found"] (spWhole K)) (kH : PySem.W.keepIn K (.ref fH) = true) (bH : Binds K fdH ["_law_found"] []) (gH : mg "_law_whole" = some (.ref fH))
    (ml : mg "len" = none) (mr : mg "range" = none) (mL : mg "list" = none) (mi : mg "isinstance" = none) (mu : mg "sum" = none) (ma : mg "all" = none) :
    FnOk P w K mg base CX0 (k + 9) f fd ["_law_script"] (spLaw (TT P1 P2) K) := by
  refine F.ok scLaw (fun vs H Q E h => ?_) (fun cdv A outer s H vs Q E hr h => ?_)
  · obtain ⟨a, ns, rfl, _⟩ := h
    rfl
  · obtain ⟨a, ns, rfl, hS, hlen, hT, q⟩ := h
    refine ⟨_, pss_cons (ps_asg (pe_call GT hr (by rfl) gT kT bT .nil pass0 (pa_cons (pv 0) pa_nil)) (pg_tup (by rfl) (pgs_cons (pg_name (i := 1) scLaw.nd rfl (.inl rfl)) (pgs_cons (pg_name (i := 2) scLaw.nd rfl (.inl rfl)) (pgs_cons (pg_name (i := 3) scLaw.nd rfl (.inl rfl)) pgs_nil)))))
      <| pss_cons (ps_set (i := 4) scLaw.nd rfl (.inr rfl) (pe_call GO hr (by rfl) gO kO bO .nil pass0 (pa_cons (pe_call GY hr (by rfl) gY kY bY .nil pass0 (pa_cons (pv 1) (pa_cons (pv 2) (pa_cons (pv 3) pa_nil)))) (pa_cons (pe_ix ix_list (pv 3) pe_int (fun _ _ => rfl)) pa_nil))))
      <| pss_cons (ps_set (i := 5) scLaw.nd rfl (.inr rfl) (pe_call GW hr (by rfl) gW kW bW .nil pass0 (pa_cons (pv 4) (pa_cons (pv 3) pa_nil))))
      <| pss_cons (ps_set (i := 6) scLaw.nd rfl (.inl rfl) (pe_lst (pa_cons (pe_call GC hr (by rfl) gC kC bC .nil pass0 (pa_cons (pv 2) pa_nil)) (pa_cons (pe_call GC hr (by rfl) gC kC bC .nil pass0 (pa_cons (pv 4) pa_nil))
          (pa_cons (pe_callTy (r := fun xs H Q => ∃ p ys, xs = [.ref p] ∧ (SqL K H p ys ∨ SqT K H p ys) ∧ ∀ l, H l = none → Q (.ref l) (L2.upd H l (.lst ys))) call_list_of (by rfl) mL (by decide +kernel) (pa_cons (pv 5) pa_nil)) pa_nil)))))
      <| pss_cons (ps_set (i := 7) scLaw.nd rfl (.inl rfl) (pe_call GB hr (by rfl) gB kB bB .nil pass0 (pa_cons (pv 1) (pa_cons (pe_ix ix_list (pv 6) pe_int (fun _ _ => rfl)) (pa_cons (pe_ix ix_list (pv 6) pe_int (fun _ _ => rfl)) (pa_cons (pe_ix ix_list (pv 6) pe_int (fun _ _ => rfl)) pa_nil))))))
      <| pss_cons (ps_set (i := 8) scLaw.nd rfl (.inr rfl) (pe_call GP hr (by rfl) gP kP bP .nil pass0 (pa_cons (pv 1) (pa_cons (pe_ix ix_list (pv 6) pe_int (fun _ _ => rfl)) (pa_cons (pe_ix ix_list (pv 6) pe_int (fun _ _ => rfl)) (pa_cons (pe_ix ix_list (pv 6) pe_int (fun _ _ => rfl)) pa_nil))))))
      <| pss_cons (ps_if (PW.pt (pw_or (pt_not (pt_val (pe_call GR hr (by rfl) gR kR bR .nil pass0 (pa_cons (pv 7) (pa_cons (pe_callB call_len_seq (by rfl) ml PySem.boot_len (pa_cons (pv 4) pa_nil)) pa_nil)))))
            (pw_or (pt_not (pt_val (pe_callB call_isi (by rfl) mi (by decide +kernel) (pa_cons (pv 8) (pa_cons (pe_bltn (v := .ty "list") (by rfl) mL (show bootBuiltins "list" = some (.type "list") by decide +kernel) rfl) pa_nil)))))
            (pw_or1 (pt_cmpR op_ne (pe_callB call_len_seq (by rfl) ml PySem.boot_len (pa_cons (pv 8) pa_nil)) (pv 1) (nomark _)))))) (pss_one (ps_ret pe_bl)) pss_nil)
      <| pss_cons (ps_if (pt_not (pt_val (pe_callB (cr_all rfl) (by rfl) ma (by decide +kernel) (pa_cons (pe_lc (own := [("_law_one", 11)]) (g := gName 11) (by rfl) scLaw.nd (pi_list (pv 8))
              (blkOk_by (own := [("_law_one", 11)]) (N := nLaw) (sc := defScope sLaw) (by decide +kernel)) (fun _ _ _ _ _ => pg_name (i := 11) scLaw.nd rfl (Or.inl rfl)) (fun _ _ _ _ _ => pts_nil)
              (fun _ _ _ _ _ => pe_and (pe_call GH hr (by rfl) gH kH bH .nil pass0 (pa_cons (pv 11) pa_nil)) (pe_one (pe_cmpR (r := rI0 fun i j => .bl (decide (j ≤ i))) op_ge (pv 11) pe_int (nomark _))))) pa_nil)))) (pss_one (ps_ret pe_bl)) pss_nil)
      <| pss_cons (ps_for PassesOwn.never rfl (pi_range1 (by rfl) mr (pa_cons (pv 1) pa_nil)) (pg_name (i := 9) scLaw.nd rfl (.inr rfl)) <|
          pss_one (ps_if (pt_cmpR op_gt (pe_callB call_len_seq (by rfl) ml PySem.boot_len (pa_cons
            (pe_lc (own := [("_law_k", 10)]) (g := gName 10) (by rfl) scLaw.nd (pi_list (pv 7)) (blkOk_by (own := [("_law_k", 10)]) (N := nLaw) (sc := defScope sLaw) (by decide +kernel))
              (fun _ _ _ _ _ => pg_name (i := 10) scLaw.nd rfl (Or.inl rfl))
              (fun _ _ _ _ _ => pts_one (pt_cmpR (r := rIn K false) op_in_seq (pv 9) (pe_ix (r := rIxL K) ix_list (pv 4) (pv 10) (fun _ _ => rfl)) (by rfl)))
              (fun _ _ _ _ _ => pv 10)) pa_nil)) pe_int (nomark _)) (pss_one (ps_ret pe_bl)) pss_nil))
      <| pss_cons (ps_for PassesOwn.never rfl (pi_range1 (by rfl) mr (pa_cons (pe_callB call_len_seq (by rfl) ml PySem.boot_len (pa_cons (pv 4) pa_nil)) pa_nil)) (pg_name (i := 10) scLaw.nd rfl (.inl rfl)) <|
          pss_one (ps_if (pt_cmpR op_lt (pe_callB (cr_sum rfl) (by rfl) mu (by decide +kernel) (pa_cons (pe_lc (own := [("_law_place", 9)]) (g := gName 9) (by rfl) scLaw.nd (pi_list (pe_ix ix_list (pv 4) (pv 10) (fun _ _ => rfl)))
              (blkOk_by (own := [("_law_place", 9)]) (N := nLaw) (sc := defScope sLaw) (by decide +kernel)) (fun _ _ _ _ _ => pg_name (i := 9) scLaw.nd rfl (Or.inl rfl)) (fun _ _ _ _ _ => pts_nil)
              (fun _ _ _ _ _ => pe_ix (r := rIxL K) ix_list (pv 8) (pv 9) (fun _ _ => rfl))) pa_nil)) (pe_ix ix_list (pv 5) (pv 10) (fun _ _ => rfl)) (nomark _)) (pss_one (ps_ret pe_bl)) pss_nil))
      <| pss_cons (ps_if (pt_cmpR op_ne (pe_callB (cr_sum rfl) (by rfl) mu (by decide +kernel) (pa_cons (pv 8) pa_nil))
            (pe_callB (cr_sum rfl) (by rfl) mu (by decide +kernel) (pa_cons (pe_lc (own := [("_law_k", 10)]) (g := gName 10) (by rfl) scLaw.nd (pi_list (pv 7))
              (blkOk_by (own := [("_law_k", 10)]) (N := nLaw) (sc := defScope sLaw) (by decide +kernel)) (fun _ _ _ _ _ => pg_name (i := 10) scLaw.nd rfl (Or.inl rfl)) (fun _ _ _ _ _ => pts_nil)
              (fun _ _ _ _ _ => pe_ix (r := rIxL K) ix_list (pv 5) (pv 10) (fun _ _ => rfl))) pa_nil)) (nomark _)) (pss_one (ps_ret pe_bl)) pss_nil)
      <| pss_cons (ps_expr (pe_bm PySem.F.plainAttrs_list PySem.F.slot_list_append PySem.F.type_list_append mt_append (pv 7) (pa_cons pe_int pa_nil)))
      <| pss_cons (ps_expr (pe_bm PySem.F.plainAttrs_list PySem.F.slot_list_append PySem.F.type_list_append mt_append (pv 8) (pa_cons pe_int pa_nil)))
      <| pss_one (ps_ret (pe_cmpR (op_eqD hr.units) (pv 6) (pe_lst (pa_cons (pv 2) (pa_cons (pv 4) (pa_cons (pv 5) pa_nil)))) (nomark _))), ?_⟩
    refine ⟨_, rfl, a, ns, rfl, hS, hlen, fun H1 t rp qp n rs qs s1 et hR T h12 eq hql hq0 => ?_⟩
    refine ⟨t, _, rfl, sqT et, rfl, _, _, rfl, _, _, rfl, _, _, rfl, rfl, ?_⟩
    -- yards
    refine ⟨_, rfl, _, rfl, _, rfl, rp, qp, n, rs, qs, rfl, hR, T, h12, eq, hql, fun H2 yp0 ps0 Ys0 s2 eY0 hY0 hL0 hY0l => ?_⟩
    obtain ⟨z41, ez⟩ : ∃ x, qs[41]? = some x := ⟨_, List.getElem?_eq_getElem (by omega)⟩
    refine ⟨_, rfl, qp, _, 41, _, rfl, rfl, sqL (s2 _ _ eq), at_of (j := 41) rfl (get_int ez), yp0, z41, ps0, Ys0, rfl, eY0, hY0, hY0l, fun H3 yp Zs s3 hZ hZin hZl => ?_⟩
    have hL : ∀ Z ∈ Zs, Lump n rs Z := fun Z h => hL0 Z (hZin Z h)
    have s13 := s2.trans s3
    obtain ⟨ys, hA, hyl, hY⟩ := id hZ
    -- worths
    refine ⟨_, rfl, _, rfl, yp, qp, _, qs, rfl, hA, by rw [List.length_map]; omega, s13 _ _ eq, hql, hq0, fun H4 wp W s4 eW hWl hW0 => ?_⟩
    rw [List.length_map, hyl] at hWl
    have s14 := s13.trans s4
    have hrl := T.len
    -- handed
    refine ⟨_, rfl, rp, _, rfl, hR.same s14, by rw [List.length_map]; omega, fun H5 c1 s5 _ hC1 => ?_⟩
    refine ⟨_, rfl, yp, Zs, rfl, hZ.same (s4.trans s5), by omega, fun H6 c2 s6 _ hC2 => ?_⟩
    refine ⟨_, rfl, wp, _, rfl, .inl (sqL ((s5.trans s6) _ _ eW)), fun l nl => ?_⟩
    have s7 := same_upd (o := .lst (W.map V.int)) nl
    refine ⟨three_line, fun hd nhd => ?_⟩
    have s8 := same_upd (o := .lst [V.ref c1, .ref c2, .ref l]) nhd
    have s58 := ((s5.trans s6).trans s7).trans s8
    have kT8 := tabs_same hT ((s1.trans s14).trans s58)
    have kR8 : Roads _ rp rs := hR.same (s14.trans s58)
    have kZ8 := hZ.same (s4.trans s58)
    have kW8 : IL _ wp W := s58 _ _ eW
    have kC1 : Roads _ c1 rs := hC1.same ((s6.trans s7).trans s8)
    have kC2 := hC2.same (s7.trans s8)
    have kl : IL _ l W := s8 _ _ (upd_same (H := H6) (a := l) (o := .lst (W.map V.int)))
    have khd := upd_same (H := L2.upd H6 l (.lst (W.map V.int))) (a := hd) (o := .lst [V.ref c1, .ref c2, .ref l])
    clear s8
    generalize L2.upd (L2.upd H6 l (.lst (W.map V.int))) hd (.lst [V.ref c1, .ref c2, .ref l]) = H8 at *
    -- found
    refine ⟨_, rfl, _, rfl, hd, _, 0, .ref c1, rfl, rfl, sqL khd, atI_nat (j := 0) rfl, _, rfl, hd, _, 1, .ref c2, rfl, rfl, sqL khd, atI_nat (j := 1) rfl, _, rfl, hd, _, 2, .ref l, rfl, rfl, sqL khd, atI_nat (j := 2) rfl,
      c1, c2, l, n, rs, Zs, W, rfl, kC1, T, h12, kC2, hL, by omega, kl, hWl, hW0, kT8, fun H9 bp g1 B e9 hT9 eB nb hpw hF1 hB1 hw1 => ?_⟩
    have hd9 := ext_lst e9 khd
    -- why
    refine ⟨_, rfl, _, rfl, hd, _, 0, .ref c1, rfl, rfl, sqL hd9, atI_nat (j := 0) rfl, _, rfl, hd, _, 1, .ref c2, rfl, rfl, sqL hd9, atI_nat (j := 1) rfl, _, rfl, hd, _, 2, .ref l, rfl, rfl, sqL hd9, atI_nat (j := 2) rfl,
      c1, c2, l, n, rs, Zs, W, rfl, ext_rows e9 kC1, T, h12, ext_rows e9 kC2, hL, by omega, ext_lst e9 kl, hWl, hW0, hT9, fun H10 wq g2 B2 e10 hT10 eG nwq hF2 hB2 hw2 => ?_⟩
    have hbw : bp ≠ wq := fun z => nwq _ (by rw [← z]; exact eB)
    have eB10 := ext_lst e10 eB
    have kl10 : KL H8 H10 := (KL.ext e9).trans (KL.ext e10)
    have nwq8 : ∀ xs, H8 wq ≠ some (.lst xs) := fun xs z => nwq _ (ext_lst e9 z)
    clear e9 e10 hT9 hT10 eB
    have bf := best_fair (w := wOf W) (Y := yOf Zs) (n := n) (m := Zs.length) (fun k hk => by
      obtain ⟨Y, eY⟩ : ∃ Y, Zs[k]? = some Y := ⟨_, List.getElem?_eq_getElem hk⟩
      rw [yOf_get eY]
      have := hL Y (List.mem_of_getElem? eY)
      exact ⟨this.nodup, this.rng T⟩) hB1 hF1 hw1 hB2 hF2 hw2
    have hBl : B.length ≤ Zs.length := rise_len (a := 0) hpw fun k hk => ⟨Nat.zero_le _, by have := hB1.lt k hk; omega⟩
    obtain ⟨ys, hA8, hyl, hY8⟩ := id kZ8
    have hA := kl10 _ _ hA8
    have hY : ∀ (i : Nat) (p : Addr) (r : List Int), ys[i]? = some p → Zs[i]? = some r → IL H10 p r := fun i p r e1 e2 => kl10 _ _ (hY8 i p r e1 e2)
    have hW10 : IL H10 wp W := kl10 _ _ kW8
    -- rising
    refine ⟨_, rfl, _, rfl, yp, _, rfl, .inl (sqL hA), bp, B, (ys.map V.ref).length, rfl, eB10, by omega, hpw, fun k hk => by rw [List.length_map, hyl]; exact hB1.lt k hk, fun H11 s11 => ⟨true, rfl, iteF ?_⟩⟩
    have eG11 := s11 _ _ eG
    refine ⟨_, rfl, _, _, _, _, true, rfl, .ty _, .base (.lst eG11), kit_ty (by decide +kernel), true, rfl, iteF ?_⟩
    refine ⟨_, rfl, wq, _, rfl, .inl (sqL eG11), _, rfl, rfl, _, rfl, ?_⟩
    have ewhy : (!decide (V.int (((((ran n).map g2).map V.int).length : Nat) : Int) = V.int (n : Int))) = false := by
      rw [List.length_map, List.length_map, len_ran, decide_eq_true rfl]; rfl
    rw [ewhy]
    refine iteF ?_
    -- all
    refine ⟨_, rfl, wq, rfl, ⟨_, sqL eG11⟩, fun D nD => lc_list (xs := ((ran n).map g2).map V.int) (fun j H2 => Same H11 H2 ∧ H2 D = some (.lst ((List.replicate j true).map V.bl))) ⟨same_upd nD, upd_same⟩ (fun j H2 _ h => sqL (h.1 _ _ eG11)) (fun j v H2 e h => ?_) (fun H12 h => ?_)⟩
    · obtain ⟨sm, eD⟩ := h
      obtain ⟨x, ex, rfl⟩ := of_get_int e
      rw [List.getElem?_map] at ex
      obtain ⟨y, ey, rfl⟩ := Option.map_eq_some_iff.mp ex
      have hjl := (List.getElem?_eq_some_iff.mp ey).1
      rw [len_ran] at hjl
      refine ⟨rfl, _, rfl, _, rfl, true, rfl, iteT ⟨_, rfl, _, _, rfl, rfl, _, eD, small_of (m := 100) (by rw [List.length_map, List.length_replicate]; omega), same_at sm nD, ?_⟩⟩
      have hge : V.bl (decide ((0 : Int) ≤ g2 y)) = V.bl true := by rw [decide_eq_true (hF2.nn y)]
      rw [upd_same, List.replicate_succ', List.map_append]
      show some (HO.lst (_ ++ [V.bl (decide ((0 : Int) ≤ g2 y))])) = _
      rw [hge]
      rfl
    obtain ⟨s12, eD⟩ := h
    rw [List.length_map, List.length_map, len_ran] at eD
    refine ⟨D, List.replicate n true, rfl, sqL eD, _, rfl, ?_⟩
    rw [show (List.replicate n true).all id = true by simp]
    refine iteF ?_
    have s112 := s11.trans s12
    clear eD nD
    -- for place in range(many)
    refine ⟨_, rfl, (n : Int), rfl, by omega, by omega, for_range (lo := 0) (n := (n : Int).toNat) (fun i σ H' => Same H10 H' ∧ ∃ y9 y10 y11, σ = [some (.ref a), some (.int (n : Int)), some (.ref rp), some (.ref qp), some (.ref yp), some (.ref wp), some (.ref hd), some (.ref bp), some (.ref wq), y9, y10, y11])
      ⟨s112, none, none, none, rfl⟩ (fun i σ H' hi h => ?_) (fun σ H13 h => ?_)⟩
    · obtain ⟨sm, y9, y10, y11, rfl⟩ := h
      show gName 9 (V.int (0 + (i : Int))) _ _ _
      generalize (0 : Int) + (i : Int) = x
      refine ⟨_, rfl, bp, rfl, ⟨_, sqL (sm _ _ eB10)⟩, fun D nD => lc_list (xs := B.map nV) (fun j H2 => Same H' H2 ∧ H2 D = some (.lst (((B.take j).filter fun k => decide (x ∈ yOf Zs k)).map nV))) ⟨same_upd nD, upd_same⟩ (fun j H2 _ h => sqL (h.1 _ _ (sm _ _ eB10))) (fun j v H2 e h => ?_) (fun H2 h => ?_)⟩
      · obtain ⟨s2, eD⟩ := h
        obtain ⟨kk, ekk, rfl⟩ := mem_nV e
        have hkm := hB1.lt kk (List.mem_of_getElem? ekk)
        obtain ⟨Y, eY⟩ : ∃ Y, Zs[kk]? = some Y := ⟨_, List.getElem?_eq_getElem hkm⟩
        obtain ⟨py, epy⟩ : ∃ p, ys[kk]? = some p := ⟨_, List.getElem?_eq_getElem (by omega)⟩
        rw [filt_take ekk, yOf_get eY]
        refine ⟨rfl, _, rfl, _, rfl, _, rfl, yp, _, _, _, rfl, rfl, sqL ((sm.trans s2) _ _ hA), at_of rfl (get_ref epy), py, _, rfl, .inl (sqL ((sm.trans s2) _ _ (hY kk py Y epy eY))), rfl, flat_int' Y, _, rfl, ?_⟩
        rw [if_neg Bool.false_ne_true, inV_int']
        by_cases m : x ∈ Y
        · rw [decide_eq_true m, if_pos rfl]
          refine iteT ⟨_, rfl, _, eD, small_of (m := 1000) ?_, same_at s2 nD, ?_⟩
          · rw [List.length_map]
            refine Nat.le_trans (List.length_filter_le _ _) ?_
            rw [List.length_take]; omega
          · rw [upd_same, List.map_append]; rfl
        · rw [decide_eq_false m, if_neg Bool.false_ne_true, List.append_nil]
          exact iteF ⟨s2, eD⟩
      · obtain ⟨s2, eD⟩ := h
        rw [List.length_map, List.take_of_length_le (Nat.le_refl _)] at eD
        have h1 := apart_one (x := x) hB1.apart
        refine ⟨D, _, rfl, .inl (sqL eD), _, _, rfl, rfl, _, rfl, ?_⟩
        rw [decide_eq_false (by rw [List.length_map]; omega)]
        exact iteF ⟨sm.trans s2, _, _, _, rfl⟩
    obtain ⟨s13', y9, y10, y11, rfl⟩ := h
    -- for k in range(len(yards))
    refine ⟨_, rfl, yp, _, rfl, .inl (sqL (s13' _ _ hA)), _, rfl, by rw [List.length_map]; omega, by rw [List.length_map]; omega, for_range (lo := 0) (n := ((ys.map V.ref).length : Int).toNat) (fun i σ H' => Same H10 H' ∧ ∃ y9 y10 y11, σ = [some (.ref a), some (.int (n : Int)), some (.ref rp), some (.ref qp), some (.ref yp), some (.ref wp), some (.ref hd), some (.ref bp), some (.ref wq), y9, y10, y11])
      ⟨s13', _, _, _, rfl⟩ (fun i σ H' hi h => ?_) (fun σ H14 h => ?_)⟩
    · obtain ⟨sm, y9, y10, y11, rfl⟩ := h
      rw [List.length_map, Int.toNat_natCast] at hi
      have e0 : (0 : Int) + (i : Int) = ((i : Nat) : Int) := by omega
      show gName 10 (V.int (0 + (i : Int))) _ _ _
      rw [e0]
      obtain ⟨Y, eY⟩ : ∃ Y, Zs[i]? = some Y := ⟨_, List.getElem?_eq_getElem (by omega)⟩
      obtain ⟨py, epy⟩ : ∃ p, ys[i]? = some p := ⟨_, List.getElem?_eq_getElem hi⟩
      obtain ⟨wk, ewk⟩ : ∃ p, W[i]? = some p := ⟨_, List.getElem?_eq_getElem (by omega)⟩
      have hLY := hL Y (List.mem_of_getElem? eY)
      have hrY := hLY.rng T
      have hpY := sm _ _ (hY i py Y epy eY)
      have eG' := sm _ _ eG
      refine ⟨_, rfl, _, rfl, yp, _, _, _, rfl, rfl, sqL (sm _ _ hA), at_of rfl (get_ref epy), py, rfl, ⟨_, sqL hpY⟩, fun D nD => lc_list (xs := Y.map V.int) (fun j H2 => Same H' H2 ∧ IL H2 D ((Y.take j).map g2)) ⟨same_upd nD, upd_same⟩ (fun j H2 _ h => sqL (h.1 _ _ hpY)) (fun j v H2 ev h => ?_) (fun H2 h => ?_)⟩
      · obtain ⟨s2, eD⟩ := h
        obtain ⟨x, ex, rfl⟩ := of_get_int ev
        have hx := hrY x (List.mem_of_getElem? ex)
        have hxn : x.toNat < n := by have := hx.1; have := hx.2; omega
        have hYl : Y.length ≤ 12 := by
          have := Nodup_le (l' := ran n) hLY.nodup fun x hx => mem_ran.mpr (hrY x hx)
          rw [len_ran] at this
          omega
        refine ⟨rfl, _, rfl, _, rfl, wq, _, x, .int (g2 x), rfl, rfl, sqL (s2 _ _ eG'), at_of (j := x.toNat) (by have := hx.1; omega) (get_int ?_), _, eD, small_of (m := 100) (by rw [List.length_map, List.length_map, List.length_take]; omega), same_at s2 nD, ?_⟩
        · rw [List.getElem?_map, ran_get hxn]
          show some (g2 _) = some (g2 x)
          congr 2
          have := hx.1
          omega
        · show (L2.upd _ D _) D = _
          rw [upd_same, List.take_add_one, ex, List.map_append, List.map_append]
          rfl
      obtain ⟨s2, eD⟩ := h
      rw [List.length_map, List.take_of_length_le (Nat.le_refl _)] at eD
      have hfe := hF2.feas i (by omega)
      rw [wOf_get ewk, yOf_get eY] at hfe
      have hfe : wk ≤ (Y.map g2).sum := hfe
      refine ⟨D, _, rfl, sqL eD, _, rfl, _, rfl, wp, _, _, _, rfl, rfl, sqL ((sm.trans s2) _ _ hW10), at_of rfl (get_int ewk), _, _, rfl, rfl, _, rfl, ?_⟩
      rw [decide_eq_false (by omega)]
      exact iteF ⟨sm.trans s2, _, _, _, rfl⟩
    obtain ⟨s14', y9, y10, y11, rfl⟩ := h
    -- the sums
    have eG14 := s14' _ _ eG
    have eB14 := s14' _ _ eB10
    refine ⟨_, rfl, wq, _, rfl, sqL eG14, _, rfl, bp, rfl, ⟨_, sqL eB14⟩, fun D nD => lc_list (xs := B.map nV) (fun j H2 => Same H14 H2 ∧ IL H2 D ((B.take j).map (wOf W))) ⟨same_upd nD, upd_same⟩ (fun j H2 _ h => sqL (h.1 _ _ eB14)) (fun j v H2 ev h => ?_) (fun H15 h => ?_)⟩
    · obtain ⟨s2, eD⟩ := h
      obtain ⟨kk, ekk, rfl⟩ := mem_nV ev
      have hkm := hB1.lt kk (List.mem_of_getElem? ekk)
      obtain ⟨wk, ewk⟩ : ∃ p, W[kk]? = some p := ⟨_, List.getElem?_eq_getElem (by omega)⟩
      refine ⟨rfl, _, rfl, _, rfl, wp, _, _, _, rfl, rfl, sqL ((s14'.trans s2) _ _ hW10), at_of rfl (get_int ewk), _, eD, small_of (m := 1000) (by rw [List.length_map, List.length_map, List.length_take]; omega), same_at s2 nD, ?_⟩
      show (L2.upd _ D _) D = _
      rw [upd_same, List.take_add_one, ekk, List.map_append, List.map_append]
      show _ = some (HO.lst (_ ++ [V.int (wOf W kk)]))
      rw [wOf_get ewk]
    obtain ⟨s15, eD⟩ := h
    rw [List.length_map, List.take_of_length_le (Nat.le_refl _)] at eD
    refine ⟨D, _, rfl, sqL eD, rfl, _, rfl, ?_⟩
    have esum : (!decide (V.int ((ran n).map g2).sum = V.int (B.map (wOf W)).sum)) = false := by
      have : ((ran n).map g2).sum = (B.map (wOf W)).sum := bf
      rw [this, decide_eq_true rfl]; rfl
    rw [esum]
    refine iteF ?_
    have s16 := s14'.trans s15
    have kl16 : KL H8 H15 := kl10.trans (KL.same s16)
    have eB15 := s16 _ _ eB10
    have eG15 := s16 _ _ eG
    -- the lists told are changed
    refine ⟨_, rfl, .inl ⟨rfl, _, sqL eB15⟩, bp, _, _, rfl, rfl, eB15, small_of (m := 1000) (by rw [List.length_map]; omega), ?_⟩
    have eG16 : L2.upd H15 bp (.lst (B.map nV ++ [V.int 99])) wq = some (.lst (((ran n).map g2).map V.int)) := by rw [upd_ne hbw.symm]; exact eG15
    have kl17 := kl16.upd (o := .lst (B.map nV ++ [V.int 99])) nb
    generalize L2.upd H15 bp (.lst (B.map nV ++ [V.int 99])) = H16 at *
    refine ⟨_, rfl, .inl ⟨rfl, _, sqL eG16⟩, wq, _, _, rfl, rfl, eG16, small_of (m := 1000) (by rw [List.length_map, List.length_map, len_ran]; omega), ?_⟩
    have kl18 := kl17.upd (o := .lst (((ran n).map g2).map V.int ++ [V.int 99])) nwq8
    generalize L2.upd H16 wq (.lst (((ran n).map g2).map V.int ++ [V.int 99])) = H17 at *
    -- handed == [roads, yards, worths]
    refine ⟨_, rfl, _, rfl, _, rfl, _, rfl, three_line, fun z nz => ?_⟩
    have kl19 := kl18.trans (KL.same (same_upd (o := .lst [V.ref rp, .ref yp, .ref wp]) nz))
    refine ⟨dAll (rs.map rowOf) Zs W, dAll (rs.map rowOf) Zs W, dp_dAll (kl19 _ _ khd) (kl19.rows kC1) (kl19.rows kC2) (kl19 _ _ kl), dp_dAll upd_same (kl19.rows kR8) (kl19.rows kZ8) (kl19 _ _ kW8), shaped_dAll _ _ _, shaped_dAll _ _ _, ?_⟩
    rw [SeqAt.eqv_refl _ (lay_dAll _ _ _)]
    exact q _
end
end Tw
/-! what the top has written; the end -/
namespace Tw
open PySem PySem.Spec PyProof.Rows L2 LamX
/-- a def of the top, as it stands -/
structure Def (K : PySem.W.Frag) (x : Str) (st : Stmt) (f c : Addr) : Prop where
  ns : PySem.W.nsIn K mainGlobals x = some (some (.ref f))
  ex : ∃ (oc : Value) (od : Option Addr) (kV doc pm : Value) (an : Option Addr) (ct : Value) (osl : Array (Option Value)), K.lookup f = some ⟨oc, od, .func (PySem.W.fnOf x x (defArgs st) (defBody st) (defScope st) .none kV doc pm an (.ref c) ct), osl⟩
  code : PySem.W.codeIn K (.ref c) x = true
  keep : PySem.W.keepIn K (.ref f) = true
theorem def_mk {K : PySem.W.Frag} {x : Str} {st : Stmt} {f c : Addr} {oc : Value} {od : Option Addr} {kV doc pm : Value} {an : Option Addr} {ct : Value} {osl : Array (Option Value)} (a : PySem.W.nsIn K mainGlobals x = some (some (.ref f)))
    (l : K.lookup f = some ⟨oc, od, .func (PySem.W.fnOf x x (defArgs st) (defBody st) (defScope st) .none kV doc pm an (.ref c) ct), osl⟩) (e : PySem.W.codeIn K (.ref c) x = true) (k : PySem.W.keepIn K (.ref f) = true) : Def K x st f c := ⟨a, ⟨oc, od, kV, doc, pm, an, ct, osl, l⟩, e, k⟩
theorem Def.fun {K : PySem.W.Frag} {x : Str} {st : Stmt} {f c : Addr} (d : Def K x st f c) : ∃ fd, Fun K x x st f fd ∧ FunC K x x st f fd c := by
  obtain ⟨oc, od, kV, doc, pm, an, ct, osl, l⟩ := d.ex
  exact ⟨_, fun_mk l d.code d.keep, ⟨⟨oc, od, kV, doc, pm, an, ct, osl, rfl, l, d.code⟩, d.keep⟩⟩
theorem all_mk {l : PySem.W.OpenLaw} {w : World} {K : PySem.W.Frag} {h : Heap} {mg : Str → Option Value} {fa : Addr} (X : K.In h) (G : h.Ns mainGlobals mg) (hfa : mg "law" = some (.ref fa))
    {P1 P2 : Addr} {tM : Tok} (hP : P1 ≠ P2) (t1 : h.get? P1 = some { cls := .none, data := .fields #[] }) (t2 : h.get? P2 = some { cls := .none, data := .fields #[] }) (n1 : K.lookup P1 = none) (n2 : K.lookup P2 = none)
    {f_un c_un f_st c_st f_sp c_sp f_it c_it f_mt c_mt f_rl c_rl f_fa c_fa f_il c_il f_my c_my f_ap c_ap f_mw c_mw f_to c_to f_pa c_pa f_be c_be f_pr c_pr f_wh c_wh f_ce c_ce f_mi c_mi f_na c_na f_nu c_nu f_tr c_tr f_ya c_ya f_wo c_wo f_cp c_cp f_ri c_ri f_of c_of f_law c_law : Addr}
    (d_un : Def K "are_unlike_places" sUnlike f_un c_un)
    (d_st : Def K "steps_from" sSteps f_st c_st)
    (d_sp : Def K "spread" sSpread f_sp c_sp)
    (d_it : Def K "is_tree" sIsTree f_it c_it)
    (d_mt : Def K "must_be_tree" sMustTree f_mt c_mt)
    (d_rl : Def K "road_length" sRoadLen f_rl c_rl)
    (d_fa : Def K "fars" sFars f_fa c_fa)
    (d_il : Def K "is_lump" sIsLump f_il c_il)
    (d_my : Def K "must_be_yards" sMustYards f_my c_my)
    (d_ap : Def K "are_apart" sApart f_ap c_ap)
    (d_mw : Def K "must_be_worths" sMustWorths f_mw c_mw)
    (d_to : Def K "tops" sTops f_to c_to)
    (d_pa : Def K "paid" sPaid f_pa c_pa)
    (d_be : Def K "best_yards" sBest f_be c_be)
    (d_pr : Def K "prices" sPrices f_pr c_pr)
    (d_wh : Def K "_law_whole" sWhole f_wh c_wh)
    (d_ce : Def K "_law_cell_at" sCellAt f_ce c_ce)
    (d_mi : Def K "_law_mixed" sMixed f_mi c_mi)
    (d_na : Def K "_law_names" sNames f_na c_na)
    (d_nu : Def K "_law_numbers" sNumbers f_nu c_nu)
    (d_tr : Def K "_law_tree" sTree f_tr c_tr)
    (d_ya : Def K "_law_yards" sYards f_ya c_ya)
    (d_wo : Def K "_law_worths" sWorths f_wo c_wo)
    (d_cp : Def K "_law_copy" sCopy f_cp c_cp)
    (d_ri : Def K "_law_rising" sRising f_ri c_ri)
    (d_of : Def K "_law_often" sOften f_of c_of)
    (d_law : Def K "law" sLaw f_law c_law)
    (e1 : PySem.W.codeHdIn K c_to P1 = true) (e2 : PySem.W.codeHdIn K c_pa P2 = true) (hM : PySem.W.nsIn K mainGlobals "MOST" = some (some (.int 12 tM)))
    (z_len : PySem.W.nsIn K mainGlobals "len" = some none)
    (z_set : PySem.W.nsIn K mainGlobals "set" = some none)
    (z_range : PySem.W.nsIn K mainGlobals "range" = some none)
    (z_min : PySem.W.nsIn K mainGlobals "min" = some none)
    (z_sorted : PySem.W.nsIn K mainGlobals "sorted" = some none)
    (z_sum : PySem.W.nsIn K mainGlobals "sum" = some none)
    (z_int : PySem.W.nsIn K mainGlobals "int" = some none)
    (z_bool : PySem.W.nsIn K mainGlobals "bool" = some none)
    (z_list : PySem.W.nsIn K mainGlobals "list" = some none)
    (z_isinstance : PySem.W.nsIn K mainGlobals "isinstance" = some none)
    (z_all : PySem.W.nsIn K mainGlobals "all" = some none)
    : LawAtS l w K CX0 9 63 "_law_script" mg fa h := by
  obtain ⟨fd_un, F_un, C_un⟩ := d_un.fun
  obtain ⟨fd_st, F_st, C_st⟩ := d_st.fun
  obtain ⟨fd_sp, F_sp, C_sp⟩ := d_sp.fun
  obtain ⟨fd_it, F_it, C_it⟩ := d_it.fun
  obtain ⟨fd_mt, F_mt, C_mt⟩ := d_mt.fun
  obtain ⟨fd_rl, F_rl, C_rl⟩ := d_rl.fun
  obtain ⟨fd_fa, F_fa, C_fa⟩ := d_fa.fun
  obtain ⟨fd_il, F_il, C_il⟩ := d_il.fun
  obtain ⟨fd_my, F_my, C_my⟩ := d_my.fun
  obtain ⟨fd_ap, F_ap, C_ap⟩ := d_ap.fun
  obtain ⟨fd_mw, F_mw, C_mw⟩ := d_mw.fun
  obtain ⟨fd_to, F_to, C_to⟩ := d_to.fun
  obtain ⟨fd_pa, F_pa, C_pa⟩ := d_pa.fun
  obtain ⟨fd_be, F_be, C_be⟩ := d_be.fun
  obtain ⟨fd_pr, F_pr, C_pr⟩ := d_pr.fun
  obtain ⟨fd_wh, F_wh, C_wh⟩ := d_wh.fun
  obtain ⟨fd_ce, F_ce, C_ce⟩ := d_ce.fun
  obtain ⟨fd_mi, F_mi, C_mi⟩ := d_mi.fun
  obtain ⟨fd_na, F_na, C_na⟩ := d_na.fun
  obtain ⟨fd_nu, F_nu, C_nu⟩ := d_nu.fun
  obtain ⟨fd_tr, F_tr, C_tr⟩ := d_tr.fun
  obtain ⟨fd_ya, F_ya, C_ya⟩ := d_ya.fun
  obtain ⟨fd_wo, F_wo, C_wo⟩ := d_wo.fun
  obtain ⟨fd_cp, F_cp, C_cp⟩ := d_cp.fun
  obtain ⟨fd_ri, F_ri, C_ri⟩ := d_ri.fun
  obtain ⟨fd_of, F_of, C_of⟩ := d_of.fun
  obtain ⟨fd_law, F_law, C_law⟩ := d_law.fun
  have e := hfa.symm.trans (PySem.W.mg_of X G d_law.ns)
  cases e
  have b_un := F_un.binds (ps := ["many", "some"]) fun _ _ _ _ _ _ us hl => match us, hl with | [_, _], _ => rfl
  have g_un := PySem.W.mg_of X G d_un.ns
  have b_st := F_st.binds (ps := ["roads", "place"]) fun _ _ _ _ _ _ us hl => match us, hl with | [_, _], _ => rfl
  have g_st := PySem.W.mg_of X G d_st.ns
  have b_sp := F_sp.binds (ps := ["roads", "start", "barred"]) fun _ _ _ _ _ _ us hl => match us, hl with | [_, _, _], _ => rfl
  have g_sp := PySem.W.mg_of X G d_sp.ns
  have b_it := F_it.binds (ps := ["many", "roads"]) fun _ _ _ _ _ _ us hl => match us, hl with | [_, _], _ => rfl
  have g_it := PySem.W.mg_of X G d_it.ns
  have b_mt := F_mt.binds (ps := ["many", "roads"]) fun _ _ _ _ _ _ us hl => match us, hl with | [_, _], _ => rfl
  have g_mt := PySem.W.mg_of X G d_mt.ns
  have b_rl := F_rl.binds (ps := ["roads", "a", "b"]) fun _ _ _ _ _ _ us hl => match us, hl with | [_, _, _], _ => rfl
  have g_rl := PySem.W.mg_of X G d_rl.ns
  have b_fa := F_fa.binds (ps := ["roads", "start"]) fun _ _ _ _ _ _ us hl => match us, hl with | [_, _], _ => rfl
  have g_fa := PySem.W.mg_of X G d_fa.ns
  have b_il := F_il.binds (ps := ["many", "roads", "some"]) fun _ _ _ _ _ _ us hl => match us, hl with | [_, _, _], _ => rfl
  have g_il := PySem.W.mg_of X G d_il.ns
  have b_my := F_my.binds (ps := ["many", "roads", "yards"]) fun _ _ _ _ _ _ us hl => match us, hl with | [_, _, _], _ => rfl
  have g_my := PySem.W.mg_of X G d_my.ns
  have b_ap := F_ap.binds (ps := ["one", "other"]) fun _ _ _ _ _ _ us hl => match us, hl with | [_, _], _ => rfl
  have g_ap := PySem.W.mg_of X G d_ap.ns
  have b_mw := F_mw.binds (ps := ["many", "roads", "yards", "worths"]) fun _ _ _ _ _ _ us hl => match us, hl with | [_, _, _, _], _ => rfl
  have g_mw := PySem.W.mg_of X G d_mw.ns
  have b_to := F_to.binds (ps := ["roads", "yards"]) fun _ _ _ _ _ _ us hl => match us, hl with | [_, _], _ => rfl
  have g_to := PySem.W.mg_of X G d_to.ns
  have b_pa := F_pa.binds (ps := ["many", "roads", "yards", "worths"]) fun _ _ _ _ _ _ us hl => match us, hl with | [_, _, _, _], _ => rfl
  have g_pa := PySem.W.mg_of X G d_pa.ns
  have b_be := F_be.binds (ps := ["many", "roads", "yards", "worths"]) fun _ _ _ _ _ _ us hl => match us, hl with | [_, _, _, _], _ => rfl
  have g_be := PySem.W.mg_of X G d_be.ns
  have b_pr := F_pr.binds (ps := ["many", "roads", "yards", "worths"]) fun _ _ _ _ _ _ us hl => match us, hl with | [_, _, _, _], _ => rfl
  have g_pr := PySem.W.mg_of X G d_pr.ns
  have b_wh := F_wh.binds (ps := ["_law_found"]) fun _ _ _ _ _ _ us hl => match us, hl with | [_], _ => rfl
  have g_wh := PySem.W.mg_of X G d_wh.ns
  have b_ce := F_ce.binds (ps := ["_law_script", "_law_k"]) fun _ _ _ _ _ _ us hl => match us, hl with | [_, _], _ => rfl
  have g_ce := PySem.W.mg_of X G d_ce.ns
  have b_mi := F_mi.binds (ps := ["_law_cell", "_law_k"]) fun _ _ _ _ _ _ us hl => match us, hl with | [_, _], _ => rfl
  have g_mi := PySem.W.mg_of X G d_mi.ns
  have b_na := F_na.binds (ps := ["_law_cell", "_law_many"]) fun _ _ _ _ _ _ us hl => match us, hl with | [_, _], _ => rfl
  have g_na := PySem.W.mg_of X G d_na.ns
  have b_nu := F_nu.binds (ps := ["_law_script"]) fun _ _ _ _ _ _ us hl => match us, hl with | [_], _ => rfl
  have g_nu := PySem.W.mg_of X G d_nu.ns
  have b_tr := F_tr.binds (ps := ["_law_script"]) fun _ _ _ _ _ _ us hl => match us, hl with | [_], _ => rfl
  have g_tr := PySem.W.mg_of X G d_tr.ns
  have b_ya := F_ya.binds (ps := ["_law_many", "_law_roads", "_law_numbers_here"]) fun _ _ _ _ _ _ us hl => match us, hl with | [_, _, _], _ => rfl
  have g_ya := PySem.W.mg_of X G d_ya.ns
  have b_wo := F_wo.binds (ps := ["_law_yards_here", "_law_numbers_here"]) fun _ _ _ _ _ _ us hl => match us, hl with | [_, _], _ => rfl
  have g_wo := PySem.W.mg_of X G d_wo.ns
  have b_cp := F_cp.binds (ps := ["_law_rows"]) fun _ _ _ _ _ _ us hl => match us, hl with | [_], _ => rfl
  have g_cp := PySem.W.mg_of X G d_cp.ns
  have b_ri := F_ri.binds (ps := ["_law_found", "_law_most"]) fun _ _ _ _ _ _ us hl => match us, hl with | [_, _], _ => rfl
  have g_ri := PySem.W.mg_of X G d_ri.ns
  have b_of := F_of.binds (ps := ["_law_some", "_law_number"]) fun _ _ _ _ _ _ us hl => match us, hl with | [_, _], _ => rfl
  have g_of := PySem.W.mg_of X G d_of.ns
  have b_law := F_law.binds (ps := ["_law_script"]) fun _ _ _ _ _ _ us hl => match us, hl with | [_], _ => rfl
  have g_law := PySem.W.mg_of X G d_law.ns
  have m_len := PySem.W.mg_none_of X G z_len
  have m_set := PySem.W.mg_none_of X G z_set
  have m_range := PySem.W.mg_none_of X G z_range
  have m_min := PySem.W.mg_none_of X G z_min
  have m_sorted := PySem.W.mg_none_of X G z_sorted
  have m_sum := PySem.W.mg_none_of X G z_sum
  have m_int := PySem.W.mg_none_of X G z_int
  have m_bool := PySem.W.mg_none_of X G z_bool
  have m_list := PySem.W.mg_none_of X G z_list
  have m_isinstance := PySem.W.mg_none_of X G z_isinstance
  have m_all := PySem.W.mg_none_of X G z_all
  have mM := PySem.W.mg_of X G hM
  refine ⟨fd_law, [(c_to, P1), (c_pa, P2)], spLaw (TT P1 P2) K, ?_, ?_, ?_, ?_, ?_, ?_⟩
  · intro p hp
    rcases List.mem_cons.mp hp with rfl | hp
    · exact t1
    · rw [List.mem_singleton.mp hp]; exact t2
  · intro p hp
    rcases List.mem_cons.mp hp with rfl | hp
    · exact n1
    · rw [List.mem_singleton.mp hp]; exact n2
  · intro p hp
    rcases List.mem_cons.mp hp with rfl | hp
    · exact PySem.W.codeHd_of_K X e1
    · rw [List.mem_singleton.mp hp]; exact PySem.W.codeHd_of_K X e2
  · intro s u
    obtain ⟨oc, od, kV, doc, pm, an, cdv, ct, osl, e, _, _⟩ := F_law.ex
    rw [e]
    exact .of_eq rfl
  · intro H a ns hl _ hT hS
    refine ⟨a, ns, rfl, hS, hl, fun q hq => ?_, fun _ => rfl⟩
    rcases List.mem_cons.mp hq with rfl | hq
    · exact TabS.nil (hT (c_to, P1) (.head _))
    · rw [List.mem_singleton.mp hq]
      exact TabS.nil (hT (c_pa, P2) (.tail _ (.head _)))
  · intro base hK hG hTB
    have TB1 : TabB base mg c_to P1 := hTB (c_to, P1) (.head _)
    have TB2 : TabB base mg c_pa P2 := hTB (c_pa, P2) (.tail _ (.head _))
    have G_un : FnOk l.prog w K mg base CX0 1 f_un fd_un ["many", "some"] (spUnlike K) := ok_unlike (k := 0) F_un m_len m_set
    have G_st : FnOk l.prog w K mg base CX0 1 f_st fd_st ["roads", "place"] (spSteps K) := ok_steps (k := 0) F_st
    have G_sp : FnOk l.prog w K mg base CX0 2 f_sp fd_sp ["roads", "start", "barred"] (spSpread K) := ok_spread (k := 0) F_sp F_st b_st g_st m_len
    have G_it : FnOk l.prog w K mg base CX0 3 f_it fd_it ["many", "roads"] (spIsTree K) := ok_isTree (k := 0) F_it (G_un.mono (show _ ≤ _ by decide)) F_un.kp b_un g_un (G_sp.mono (show _ ≤ _ by decide)) F_sp.kp b_sp g_sp mM m_len
    have G_mt : FnOk l.prog w K mg base CX0 4 f_mt fd_mt ["many", "roads"] (spMustTree K) := ok_mustTree (k := 0) F_mt (G_it.mono (show _ ≤ _ by decide)) F_it.kp b_it g_it
    have G_rl : FnOk l.prog w K mg base CX0 2 f_rl fd_rl ["roads", "a", "b"] (spRoadLen K) := ok_roadLen (k := 0) F_rl (G_st.mono (show _ ≤ _ by decide)) F_st.kp b_st g_st
    have G_fa : FnOk l.prog w K mg base CX0 3 f_fa fd_fa ["roads", "start"] (spFars K) := ok_fars (k := 0) F_fa (G_sp.mono (show _ ≤ _ by decide)) F_sp.kp b_sp g_sp (G_rl.mono (show _ ≤ _ by decide)) F_rl.kp b_rl g_rl
    have G_il : FnOk l.prog w K mg base CX0 5 f_il fd_il ["many", "roads", "some"] (spIsLump K) := ok_isLump (k := 0) F_il (G_un.mono (show _ ≤ _ by decide)) F_un.kp b_un g_un (G_mt.mono (show _ ≤ _ by decide)) F_mt.kp b_mt g_mt m_len
    have G_my : FnOk l.prog w K mg base CX0 6 f_my fd_my ["many", "roads", "yards"] (spMustYards K) := ok_mustYards (k := 0) F_my (G_il.mono (show _ ≤ _ by decide)) F_il.kp b_il g_il (G_mt.mono (show _ ≤ _ by decide)) F_mt.kp b_mt g_mt
    have G_ap : FnOk l.prog w K mg base CX0 1 f_ap fd_ap ["one", "other"] (spApart K) := ok_apart (k := 0) F_ap m_len
    have G_mw : FnOk l.prog w K mg base CX0 7 f_mw fd_mw ["many", "roads", "yards", "worths"] (spMustWorths K) := ok_mustWorths (k := 0) F_mw (G_my.mono (show _ ≤ _ by decide)) F_my.kp b_my g_my m_len m_min
    have G_to : FnOk l.prog w K mg base CX0 4 f_to fd_to ["roads", "yards"] (spTops (TT P1 P2) K) := ok_tops (k := 0) hP C_to TB1 (G_fa.mono (show _ ≤ _ by decide)) F_fa.kp b_fa g_fa m_min
    have G_pa : FnOk l.prog w K mg base CX0 5 f_pa fd_pa ["many", "roads", "yards", "worths"] (spPaid (TT P1 P2) K) := ok_paid (k := 0) hP C_pa TB2 (G_to.mono (show _ ≤ _ by decide)) F_to.kp b_to g_to m_len m_range m_sorted m_sum
    have G_be : FnOk l.prog w K mg base CX0 8 f_be fd_be ["many", "roads", "yards", "worths"] (spBest (TT P1 P2) K) := ok_best (k := 0) F_be (G_mw.mono (show _ ≤ _ by decide)) F_mw.kp b_mw g_mw (G_pa.mono (show _ ≤ _ by decide)) F_pa.kp b_pa g_pa (G_ap.mono (show _ ≤ _ by decide)) F_ap.kp b_ap g_ap m_len m_sorted
    have G_pr : FnOk l.prog w K mg base CX0 8 f_pr fd_pr ["many", "roads", "yards", "worths"] (spPrices (TT P1 P2) K) := ok_prices (k := 0) F_pr (G_mw.mono (show _ ≤ _ by decide)) F_mw.kp b_mw g_mw (G_pa.mono (show _ ≤ _ by decide)) F_pa.kp b_pa g_pa
    have G_wh : FnOk l.prog w K mg base CX0 1 f_wh fd_wh ["_law_found"] (spWhole K) := ok_whole (k := 0) F_wh m_isinstance m_int m_bool
    have G_ce : FnOk l.prog w K mg base CX0 1 f_ce fd_ce ["_law_script", "_law_k"] (spCellAt K) := ok_cellAt (k := 0) F_ce m_len
    have G_mi : FnOk l.prog w K mg base CX0 1 f_mi fd_mi ["_law_cell", "_law_k"] (spMixed K) := ok_mixed (k := 0) F_mi
    have G_na : FnOk l.prog w K mg base CX0 1 f_na fd_na ["_law_cell", "_law_many"] (spNames K) := ok_names (k := 0) F_na m_range
    have G_nu : FnOk l.prog w K mg base CX0 2 f_nu fd_nu ["_law_script"] (spNumbers K) := ok_numbers (k := 0) F_nu (G_mi.mono (show _ ≤ _ by decide)) F_mi.kp b_mi g_mi (G_ce.mono (show _ ≤ _ by decide)) F_ce.kp b_ce g_ce m_len m_range
    have G_tr : FnOk l.prog w K mg base CX0 3 f_tr fd_tr ["_law_script"] (spTree K) := ok_tree (k := 0) F_tr (G_nu.mono (show _ ≤ _ by decide)) F_nu.kp b_nu g_nu (G_ce.mono (show _ ≤ _ by decide)) F_ce.kp b_ce g_ce (G_na.mono (show _ ≤ _ by decide)) F_na.kp b_na g_na m_len m_range m_int m_min
    have G_ya : FnOk l.prog w K mg base CX0 1 f_ya fd_ya ["_law_many", "_law_roads", "_law_numbers_here"] (spYards K) := ok_yards (k := 0) F_ya m_len m_range m_int m_list
    have G_wo : FnOk l.prog w K mg base CX0 1 f_wo fd_wo ["_law_yards_here", "_law_numbers_here"] (spWorths K) := ok_worths (k := 0) F_wo m_len m_range m_int
    have G_cp : FnOk l.prog w K mg base CX0 1 f_cp fd_cp ["_law_rows"] (spCopy K) := ok_copy (k := 0) F_cp m_list
    have G_ri : FnOk l.prog w K mg base CX0 2 f_ri fd_ri ["_law_found", "_law_most"] (spRising K) := ok_rising (k := 0) F_ri (G_wh.mono (show _ ≤ _ by decide)) F_wh.kp b_wh g_wh m_len m_range m_isinstance m_list
    have G_of : FnOk l.prog w K mg base CX0 1 f_of fd_of ["_law_some", "_law_number"] (spOften K) := ok_often (k := 0) F_of
    exact ok_law (k := 0) F_law (G_tr.mono (show _ ≤ _ by decide)) F_tr.kp b_tr g_tr (G_ya.mono (show _ ≤ _ by decide)) F_ya.kp b_ya g_ya (G_of.mono (show _ ≤ _ by decide)) F_of.kp b_of g_of (G_wo.mono (show _ ≤ _ by decide)) F_wo.kp b_wo g_wo (G_cp.mono (show _ ≤ _ by decide)) F_cp.kp b_cp g_cp (G_be.mono (show _ ≤ _ by decide)) F_be.kp b_be g_be (G_pr.mono (show _ ≤ _ by decide)) F_pr.kp b_pr g_pr (G_ri.mono (show _ ≤ _ by decide)) F_ri.kp b_ri g_ri (G_wh.mono (show _ ≤ _ by decide)) F_wh.kp b_wh g_wh m_len m_range m_list m_isinstance m_sum m_all
end Tw
open PySem PySem.W PyProof.Rows
set_option maxHeartbeats 0 in
theorem PySem.Challenge.cw_treewells_k51_whole_best_yards_and_price_holds : PySem.Challenge.rw_treewells_k51_whole_best_yards_and_price.Holds := by
  w_on; o_law; k_head; (case hw => w_witness2)
  k_fill
  refine LamX.walk_ofTs (l := PySem.Challenge.rw_treewells_k51_whole_best_yards_and_price) (n := 63) (k := 9) (x := "_law_script") (CX := fun _ => L2.CX0) rfl (by decide) rfl ⟨rfl, by decide, by decide⟩ (fun w h Y => PySem.W.km_in_of Y) ?F (fun _ _ _ _ _ h => h)
  case F =>
    intro w mg fa h Y KX G hmg
    have hT := PySem.W.km_tabs_of Y
    refine' Tw.all_mk (P1 := 129) (P2 := 143) KX G hmg (by decide) (hT 129 (.head _)) (hT 143 (.tail _ (.head _))) ?n1 ?n2 (Tw.def_mk ?a_un ?l_un ?c_un ?k_un) (Tw.def_mk ?a_st ?l_st ?c_st ?k_st) (Tw.def_mk ?a_sp ?l_sp ?c_sp ?k_sp) (Tw.def_mk ?a_it ?l_it ?c_it ?k_it) (Tw.def_mk ?a_mt ?l_mt ?c_mt ?k_mt) (Tw.def_mk ?a_rl ?l_rl ?c_rl ?k_rl) (Tw.def_mk ?a_fa ?l_fa ?c_fa ?k_fa) (Tw.def_mk ?a_il ?l_il ?c_il ?k_il) (Tw.def_mk ?a_my ?l_my ?c_my ?k_my) (Tw.def_mk ?a_ap ?l_ap ?c_ap ?k_ap) (Tw.def_mk ?a_mw ?l_mw ?c_mw ?k_mw) (Tw.def_mk ?a_to ?l_to ?c_to ?k_to) (Tw.def_mk ?a_pa ?l_pa ?c_pa ?k_pa) (Tw.def_mk ?a_be ?l_be ?c_be ?k_be) (Tw.def_mk ?a_pr ?l_pr ?c_pr ?k_pr) (Tw.def_mk ?a_wh ?l_wh ?c_wh ?k_wh) (Tw.def_mk ?a_ce ?l_ce ?c_ce ?k_ce) (Tw.def_mk ?a_mi ?l_mi ?c_mi ?k_mi) (Tw.def_mk ?a_na ?l_na ?c_na ?k_na) (Tw.def_mk ?a_nu ?l_nu ?c_nu ?k_nu) (Tw.def_mk ?a_tr ?l_tr ?c_tr ?k_tr) (Tw.def_mk ?a_ya ?l_ya ?c_ya ?k_ya) (Tw.def_mk ?a_wo ?l_wo ?c_wo ?k_wo) (Tw.def_mk ?a_cp ?l_cp ?c_cp ?k_cp) (Tw.def_mk ?a_ri ?l_ri ?c_ri ?k_ri) (Tw.def_mk ?a_of ?l_of ?c_of ?k_of) (Tw.def_mk ?a_law ?l_law ?c_law ?k_law) ?e1 ?e2 ?hM ?z_len ?z_set ?z_range ?z_min ?z_sorted ?z_sum ?z_int ?z_bool ?z_list ?z_isinstance ?z_all
    (case n1 => kernel_rfl); (case n2 => kernel_rfl); (case a_un => k_is); (case l_un => k_is)
    (case c_un => k_is); (case k_un => k_is); (case a_st => k_is); (case l_st => k_is)
    (case c_st => k_is); (case k_st => k_is); (case a_sp => k_is); (case l_sp => k_is)
    (case c_sp => k_is); (case k_sp => k_is); (case a_it => k_is); (case l_it => k_is)
    (case c_it => k_is); (case k_it => k_is); (case a_mt => k_is); (case l_mt => k_is)
    (case c_mt => k_is); (case k_mt => k_is); (case a_rl => k_is); (case l_rl => k_is)
    (case c_rl => k_is); (case k_rl => k_is); (case a_fa => k_is); (case l_fa => k_is)
    (case c_fa => k_is); (case k_fa => k_is); (case a_il => k_is); (case l_il => k_is)
    (case c_il => k_is); (case k_il => k_is); (case a_my => k_is); (case l_my => k_is)
    (case c_my => k_is); (case k_my => k_is); (case a_ap => k_is); (case l_ap => k_is)
    (case c_ap => k_is); (case k_ap => k_is); (case a_mw => k_is); (case l_mw => k_is)
    (case c_mw => k_is); (case k_mw => k_is); (case a_to => k_is); (case l_to => k_is)
    (case c_to => k_is); (case k_to => k_is); (case a_pa => k_is); (case l_pa => k_is)
    (case c_pa => k_is); (case k_pa => k_is); (case a_be => k_is); (case l_be => k_is)
    (case c_be => k_is); (case k_be => k_is); (case a_pr => k_is); (case l_pr => k_is)
    (case c_pr => k_is); (case k_pr => k_is); (case a_wh => k_is); (case l_wh => k_is)
    (case c_wh => k_is); (case k_wh => k_is); (case a_ce => k_is); (case l_ce => k_is)
    (case c_ce => k_is); (case k_ce => k_is); (case a_mi => k_is); (case l_mi => k_is)
    (case c_mi => k_is); (case k_mi => k_is); (case a_na => k_is); (case l_na => k_is)
    (case c_na => k_is); (case k_na => k_is); (case a_nu => k_is); (case l_nu => k_is)
    (case c_nu => k_is); (case k_nu => k_is); (case a_tr => k_is); (case l_tr => k_is)
    (case c_tr => k_is); (case k_tr => k_is); (case a_ya => k_is); (case l_ya => k_is)
    (case c_ya => k_is); (case k_ya => k_is); (case a_wo => k_is); (case l_wo => k_is)
    (case c_wo => k_is); (case k_wo => k_is); (case a_cp => k_is); (case l_cp => k_is)
    (case c_cp => k_is); (case k_cp => k_is); (case a_ri => k_is); (case l_ri => k_is)
    (case c_ri => k_is); (case k_ri => k_is); (case a_of => k_is); (case l_of => k_is)
    (case c_of => k_is); (case k_of => k_is); (case a_law => k_is); (case l_law => k_is)
    (case c_law => k_is); (case k_law => k_is); (case e1 => kernel_rfl); (case e2 => kernel_rfl)
    (case hM => k_is); (case z_len => k_is); (case z_set => k_is); (case z_range => k_is)
    (case z_min => k_is); (case z_sorted => k_is); (case z_sum => k_is); (case z_int => k_is)
    (case z_bool => k_is); (case z_list => k_is); (case z_isinstance => k_is); (case z_all => k_is)

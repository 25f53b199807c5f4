import PyProof.Rows.All
import Wide.All
import OpenK.AllK
import Wide.FinOn
import HandS.ForMost
import HandS.DictComp
import HandS.Deep
import HandS.Style
import HandS.TupAny
import HandS.SortInts
import HandS.Star
import HandS.Walk
import HandS.More
import KE.KDictCopyH
import PyProof.DictUpdate
import KE.SortData
import KE.DataMinMax
import KE.KTupSum
import KE.GoesMore
import KE.GoesEnum
import PyProof.DictCompW
import HandS.SetFor
import PySem.Challenge.RW_whatrims_k19_whole_layings
/-! paths and cycles of an injective step, lists of them that cover everything once -/
set_option linter.all false
namespace WM
variable {α : Type}

/-- each one leads to the one behind it -/
def Ch (R : α → α → Prop) : List α → Prop
  | [] => True
  | [_] => True
  | x :: y :: r => R x y ∧ Ch R (y :: r)

theorem Ch.tail {R : α → α → Prop} : ∀ {x : α} {r : List α}, Ch R (x :: r) → Ch R r
  | _, [], _ => trivial
  | _, _ :: _, h => h.2

theorem Ch.snoc {R : α → α → Prop} : ∀ {p : List α} {z a : α}, Ch R (p ++ [z]) → R z a → Ch R (p ++ [z] ++ [a])
  | [], z, a, _, h => ⟨h, trivial⟩
  | [x], z, a, c, h => ⟨c.1, h, trivial⟩
  | x :: y :: p, z, a, c, h => ⟨c.1, Ch.snoc (p := y :: p) c.2 h⟩

theorem Ch.left {R : α → α → Prop} : ∀ {p q : List α}, Ch R (p ++ q) → Ch R p
  | [], _, _ => trivial
  | [x], q, h => trivial
  | x :: y :: p, q, h => ⟨h.1, Ch.left (p := y :: p) h.2⟩

theorem Ch.right {R : α → α → Prop} : ∀ {p q : List α}, Ch R (p ++ q) → Ch R q
  | [], _, h => h
  | x :: p, q, h => Ch.right (p := p) (Ch.tail h)

theorem Ch.mid {R : α → α → Prop} : ∀ {p q : List α} {z a : α}, Ch R (p ++ z :: a :: q) → R z a
  | [], _, _, _, h => h.1
  | x :: p, q, z, a, h => Ch.mid (p := p) (Ch.tail h)

theorem Ch.join {R : α → α → Prop} : ∀ {p q : List α}, Ch R p → Ch R q → (∀ z a, p.getLast? = some z → q.head? = some a → R z a) → Ch R (p ++ q)
  | [], _, _, h, _ => h
  | [x], [], _, _, _ => trivial
  | [x], a :: q, _, h, k => ⟨k x a rfl rfl, h⟩
  | x :: y :: p, q, c, h, k => ⟨c.1, Ch.join (p := y :: p) c.2 h fun z a e1 e2 => k z a (by simpa using e1) e2⟩

theorem Ch.imp {R S : α → α → Prop} : ∀ {p : List α}, Ch R p → (∀ x y, x ∈ p → y ∈ p → R x y → S x y) → Ch S p
  | [], _, _ => trivial
  | [_], _, _ => trivial
  | x :: y :: p, c, h => ⟨h x y (by simp) (by simp) c.1, Ch.imp (p := y :: p) c.2 fun a b ha hb => h a b (List.mem_cons_of_mem _ ha) (List.mem_cons_of_mem _ hb)⟩

/-- a step that is a function both ways, within V -/
structure Bi (V : α → Prop) (R : α → α → Prop) : Prop where
  fn : ∀ {x y z}, V x → R x y → R x z → y = z
  inj : ∀ {x y z}, V x → V y → R x z → R y z → x = y
  val : ∀ {x y}, V x → R x y → V y
  lav : ∀ {x y}, V y → R x y → V x

/-- a whole path or a whole cycle -/
structure Orb (V : α → Prop) (R : α → α → Prop) (c : List α) : Prop where
  nd : c.Nodup
  val : ∀ x ∈ c, V x
  ch : Ch R c
  fin : ∃ a z, c.head? = some a ∧ c.getLast? = some z ∧ (((∀ y, ¬ R z y) ∧ ∀ y, ¬ R y a) ∨ R z a)

variable {V : α → Prop} {R : α → α → Prop} {c d : List α}

theorem Orb.ne (o : Orb V R c) : c ≠ [] := fun e => by
  obtain ⟨a, z, h, _⟩ := o.fin
  rw [e] at h
  cases h

theorem Orb.fwd (B : Bi V R) (o : Orb V R c) {x y : α} (hx : x ∈ c) (h : R x y) : y ∈ c := by
  obtain ⟨p, q, e⟩ := List.append_of_mem hx
  subst e
  cases q with
  | cons y' q =>
    have r := o.ch.mid
    have := B.fn (o.val x hx) h r
    subst this
    simp
  | nil =>
    obtain ⟨a, z, h1, h2, f⟩ := o.fin
    rw [List.getLast?_append] at h2
    have e : x = z := by simpa using h2
    subst e
    rcases f with f | f
    · exact absurd h (f.1 y)
    · have := B.fn (o.val x hx) h f
      subst this
      exact List.mem_of_mem_head? h1

theorem Orb.bwd (B : Bi V R) (o : Orb V R c) {x y : α} (hx : x ∈ c) (h : R y x) : y ∈ c := by
  have vy := B.lav (o.val x hx) h
  obtain ⟨p, q, e⟩ := List.append_of_mem hx
  subst e
  rcases List.eq_nil_or_concat p with rfl | ⟨p', z, rfl⟩
  · obtain ⟨a, z, h1, h2, f⟩ := o.fin
    have e : x = a := by simpa using h1
    subst e
    have hz := List.mem_of_getLast? h2
    rcases f with f | f
    · exact absurd h (f.2 y)
    · rw [B.inj vy (o.val z hz) h f]
      exact hz
  · have ec : p' ++ [z] ++ x :: q = p' ++ z :: x :: q := by simp
    rw [List.concat_eq_append] at *
    have r : R z x := (ec ▸ o.ch).mid
    have hz : z ∈ p' ++ [z] ++ x :: q := by simp
    rw [B.inj vy (o.val z hz) h r]
    exact hz

/-- what holds of one, and is handed both ways, holds of all -/
theorem ch_all {S : α → Prop} (hf : ∀ x y, S x → R x y → S y) : ∀ {r : List α} {x : α}, Ch R (x :: r) → S x → ∀ y ∈ x :: r, S y
  | [], x, _, hx, y, hy => by
    rw [List.mem_singleton] at hy
    subst hy
    exact hx
  | a :: r, x, c, hx, y, hy => by
    rcases List.mem_cons.mp hy with rfl | hy
    · exact hx
    · exact ch_all hf c.2 (hf _ _ hx c.1) y hy

theorem ch_allB {S : α → Prop} (hb : ∀ x y, S y → R x y → S x) : ∀ {r : List α} {x z : α}, Ch R (x :: r) → (x :: r).getLast? = some z → S z → ∀ y ∈ x :: r, S y
  | [], x, z, _, e, hz, y, hy => by
    rw [List.mem_singleton] at hy
    have : x = z := by simpa using e
    subst this
    subst hy
    exact hz
  | a :: r, x, z, c, e, hz, y, hy => by
    have ih := ch_allB hb c.2 (by simpa using e) hz
    rcases List.mem_cons.mp hy with rfl | hy
    · exact hb _ _ (ih a (by simp)) c.1
    · exact ih y hy

theorem Orb.all (o : Orb V R c) {S : α → Prop} (hf : ∀ x y, V x → S x → R x y → S y) (hb : ∀ x y, V y → S y → R x y → S x) {x : α} (hx : x ∈ c) (sx : S x) : ∀ y ∈ c, S y := by
  obtain ⟨p, q, e⟩ := List.append_of_mem hx
  subst e
  have vx := o.val x hx
  have ch1 : Ch R (x :: q) := o.ch.right
  have ch2 : Ch R (p ++ [x]) := by
    have e : p ++ x :: q = (p ++ [x]) ++ q := by simp
    exact (e ▸ o.ch).left
  have key : ∀ (T : α → Prop), (∀ x ∈ p ++ x :: q, T x → V x) → True := fun _ _ => trivial
  intro y hy
  rcases List.mem_append.mp hy with h | h
  · -- backwards
    have : ∀ (p : List α), Ch R (p ++ [x]) → (∀ y ∈ p, V y) → ∀ y ∈ p, S y := by
      intro p
      induction p with
      | nil => intro _ _ y h; cases h
      | cons a p ih =>
        intro ch hv y hy
        have ih' := ih (Ch.tail ch) (fun y h => hv y (List.mem_cons_of_mem _ h))
        rcases List.mem_cons.mp hy with rfl | hy
        · cases p with
          | nil => exact hb _ _ vx sx ch.1
          | cons b p => exact hb _ _ (hv b (by simp)) (ih' b (by simp)) ch.1
        · exact ih' y hy
    exact this p ch2 (fun y h => o.val y (List.mem_append_left _ h)) y h
  · have : ∀ (q : List α) (x : α), Ch R (x :: q) → (∀ y ∈ x :: q, V y) → S x → ∀ y ∈ x :: q, S y := by
      intro q
      induction q with
      | nil =>
        intro x _ _ sx y hy
        rw [List.mem_singleton] at hy
        subst hy
        exact sx
      | cons b q ih =>
        intro x ch hv sx y hy
        rcases List.mem_cons.mp hy with rfl | hy
        · exact sx
        · exact ih b ch.2 (fun y h => hv y (List.mem_cons_of_mem _ h)) (hf _ _ (hv x (by simp)) sx ch.1) y hy
    exact this q x ch1 (fun y h => o.val y (List.mem_append_right _ h)) sx y h

theorem Orb.sub (B : Bi V R) (o : Orb V R c) (o' : Orb V R d) {x : α} (hx : x ∈ c) (hx' : x ∈ d) : ∀ y ∈ c, y ∈ d :=
  o.all (S := fun y => y ∈ d) (fun _ _ _ s r => o'.fwd B s r) (fun _ _ _ s r => o'.bwd B s r) hx hx'

theorem Orb.same (B : Bi V R) (o : Orb V R c) (o' : Orb V R d) {x : α} (hx : x ∈ c) (hx' : x ∈ d) (y : α) : y ∈ c ↔ y ∈ d :=
  ⟨o.sub B o' hx hx' y, o'.sub B o hx' hx y⟩

theorem Orb.len (B : Bi V R) (o : Orb V R c) (o' : Orb V R d) {x : α} (hx : x ∈ c) (hx' : x ∈ d) : c.length = d.length :=
  Nat.le_antisymm (List.Nodup.length_le_of_subset o.nd fun y => o.sub B o' hx hx' y) (List.Nodup.length_le_of_subset o'.nd fun y => o'.sub B o hx' hx y)

/-- the end of a path is where it stops -/
theorem Orb.last (o : Orb V R c) {x : α} (hx : x ∈ c) (h : ∀ y, ¬ R x y) : c.getLast? = some x := by
  obtain ⟨p, q, e⟩ := List.append_of_mem hx
  subst e
  cases q with
  | nil => rw [List.getLast?_append]; rfl
  | cons y q => exact absurd o.ch.mid (h y)
theorem Orb.first (o : Orb V R c) {x : α} (hx : x ∈ c) (h : ∀ y, ¬ R y x) : c.head? = some x := by
  obtain ⟨p, q, e⟩ := List.append_of_mem hx
  subst e
  rcases List.eq_nil_or_concat p with rfl | ⟨p', z, rfl⟩
  · rfl
  · have ec : p' ++ [z] ++ x :: q = p' ++ z :: x :: q := by simp
    rw [List.concat_eq_append] at *
    exact absurd (ec ▸ o.ch).mid (h z)

/-- chains from one place that both come to their ends are one -/
theorem ch_eq (B : Bi V R) : ∀ {r q : List α} {x : α}, (∀ y ∈ x :: r, V y) → Ch R (x :: r) → Ch R (x :: q) →
    (∀ z, (x :: r).getLast? = some z → (∀ y, ¬ R z y) ∨ ∃ a, R z a ∧ a ∉ r ∧ a ∉ q) → (∀ z, (x :: q).getLast? = some z → (∀ y, ¬ R z y) ∨ ∃ a, R z a ∧ a ∉ r ∧ a ∉ q) → r = q
  | [], [], _, _, _, _, _, _ => rfl
  | [], b :: q, x, hv, c1, c2, e1, e2 => by
    rcases e1 x rfl with h | ⟨a, h, _, h2⟩
    · exact absurd c2.1 (h b)
    · have := B.fn (hv x (by simp)) h c2.1
      subst this
      simp at h2
  | b :: r, [], x, hv, c1, c2, e1, e2 => by
    rcases e2 x rfl with h | ⟨a, h, h2, _⟩
    · exact absurd c1.1 (h b)
    · have := B.fn (hv x (by simp)) h c1.1
      subst this
      simp at h2
  | b :: r, b' :: q, x, hv, c1, c2, e1, e2 => by
    have := B.fn (hv x (by simp)) c1.1 c2.1
    subst this
    have := ch_eq B (r := r) (q := q) (fun y h => hv y (List.mem_cons_of_mem _ h)) c1.2 c2.2
      (fun z h => (e1 z (by simpa using h)).imp id fun ⟨a, h, h1, h2⟩ => ⟨a, h, fun m => h1 (List.mem_cons_of_mem _ m), fun m => h2 (List.mem_cons_of_mem _ m)⟩)
      (fun z h => (e2 z (by simpa using h)).imp id fun ⟨a, h, h1, h2⟩ => ⟨a, h, fun m => h1 (List.mem_cons_of_mem _ m), fun m => h2 (List.mem_cons_of_mem _ m)⟩)
    rw [this]

/-- two that begin at one place are one -/
theorem Orb.eq (B : Bi V R) (o : Orb V R c) (o' : Orb V R d) {x : α} (hx : c.head? = some x) (hx' : d.head? = some x) : c = d := by
  cases c with
  | nil => cases hx
  | cons a r =>
    cases d with
    | nil => cases hx'
    | cons a' q =>
      have e1 : a = x := by simpa using hx
      have e2 : a' = x := by simpa using hx'
      subst e1
      subst e2
      have n1 := (List.nodup_cons.mp o.nd).1
      have n2 := (List.nodup_cons.mp o'.nd).1
      have e := ch_eq B o.val o.ch o'.ch (fun z hz => by
        obtain ⟨a, z', h1, h2, f⟩ := o.fin
        rw [hz] at h2
        cases h2
        have : a' = a := by simpa using h1
        subst this
        rcases f with f | f
        · exact .inl f.1
        · exact .inr ⟨_, f, n1, n2⟩) (fun z hz => by
        obtain ⟨a, z', h1, h2, f⟩ := o'.fin
        rw [hz] at h2
        cases h2
        have : a' = a := by simpa using h1
        subst this
        rcases f with f | f
        · exact .inl f.1
        · exact .inr ⟨_, f, n1, n2⟩)
      rw [e]

/-- a list of them that has each thing once -/
structure Cov (V : α → Prop) (R : α → α → Prop) (L : List (List α)) : Prop where
  orb : ∀ c ∈ L, Orb V R c
  nd : L.flatten.Nodup
  all : ∀ x, x ∈ L.flatten ↔ V x

theorem countP_blocks (P : List α → Bool) : ∀ (L L' : List (List α)), (∀ c ∈ L, c ≠ []) → (∀ c ∈ L', c ≠ []) → L.flatten.Nodup → L'.flatten.Nodup →
    (∀ c ∈ L, ∀ d ∈ L', ∀ x, x ∈ c → x ∈ d → (∀ y, y ∈ c ↔ y ∈ d) ∧ P c = P d) → (∀ x, x ∈ L.flatten ↔ x ∈ L'.flatten) → L.countP P = L'.countP P
  | [], L', _, n2, _, _, _, m => by
    cases L' with
    | nil => rfl
    | cons d L' =>
      cases d with
      | nil => exact absurd rfl (n2 [] (by simp))
      | cons x d => exact absurd ((m x).mpr (by simp)) (by simp)
  | c :: L, L', n1, n2, d1, d2, s, m => by
    obtain ⟨x, hx⟩ := List.exists_mem_of_ne_nil c (n1 c (by simp))
    have hx' : x ∈ L'.flatten := (m x).mp (by simp [hx])
    obtain ⟨d, hd, hxd⟩ := List.mem_flatten.mp hx'
    obtain ⟨A, B, rfl⟩ := List.append_of_mem hd
    obtain ⟨sm, sp⟩ := s c (by simp) d (by simp) x hx hxd
    have d1' : (c ++ L.flatten).Nodup := by simpa using d1
    have d2' : (A.flatten ++ (d ++ B.flatten)).Nodup := by simpa using d2
    have ih := countP_blocks P L (A ++ B) (fun e he => n1 e (List.mem_cons_of_mem _ he)) (fun e he => n2 e (by
        rcases List.mem_append.mp he with h | h <;> simp [h])) (List.nodup_append.mp d1').2.1 (by
        rw [List.flatten_append]
        have h1 := List.nodup_append.mp d2'
        have h2 := List.nodup_append.mp h1.2.1
        exact List.nodup_append.mpr ⟨h1.1, h2.2.1, fun a ha b hb => h1.2.2 a ha b (List.mem_append_right _ hb)⟩)
      (fun e he f hf => s e (List.mem_cons_of_mem _ he) f (by
        rcases List.mem_append.mp hf with h | h <;> simp [h])) (fun y => by
        have hy := m y
        have q1 := (List.nodup_append.mp d1').2.2
        have h1 := List.nodup_append.mp d2'
        have h2 := List.nodup_append.mp h1.2.1
        constructor
        · intro hm
          have hc : ¬ y ∈ c := fun z => q1 y z y hm rfl
          have h3 := hy.mp (by simp only [List.flatten_cons]; exact List.mem_append_right _ hm)
          rw [List.flatten_append, List.flatten_cons] at h3
          rw [List.flatten_append]
          rcases List.mem_append.mp h3 with h | h
          · exact List.mem_append_left _ h
          · rcases List.mem_append.mp h with h | h
            · exact absurd ((sm y).mpr h) hc
            · exact List.mem_append_right _ h
        · intro hm
          have hd' : ¬ y ∈ d := fun z => by
            rw [List.flatten_append] at hm
            rcases List.mem_append.mp hm with h | h
            · exact h1.2.2 y h y (List.mem_append_left _ z) rfl
            · exact h2.2.2 y z y h rfl
          have h3 := hy.mpr (by
            rw [List.flatten_append] at hm
            rw [List.flatten_append, List.flatten_cons]
            rcases List.mem_append.mp hm with h | h
            · exact List.mem_append_left _ h
            · exact List.mem_append_right _ (List.mem_append_right _ h))
          rw [List.flatten_cons] at h3
          rcases List.mem_append.mp h3 with h | h
          · exact absurd ((sm y).mp h) hd'
          · exact h)
    rw [List.countP_cons, ih, List.countP_append, List.countP_append, List.countP_cons, sp]
    omega

theorem Cov.count (B : Bi V R) {L L' : List (List α)} (k : Cov V R L) (k' : Cov V R L') (P : List α → Bool) (hP : ∀ c d, Orb V R c → Orb V R d → (∀ y, y ∈ c ↔ y ∈ d) → P c = P d) : L.countP P = L'.countP P :=
  countP_blocks P L L' (fun c h => (k.orb c h).ne) (fun c h => (k'.orb c h).ne) k.nd k'.nd
    (fun c hc d hd x h1 h2 => ⟨(k.orb c hc).same B (k'.orb d hd) h1 h2, hP c d (k.orb c hc) (k'.orb d hd) ((k.orb c hc).same B (k'.orb d hd) h1 h2)⟩)
    fun x => (k.all x).trans (k'.all x).symm

theorem Cov.length (B : Bi V R) {L L' : List (List α)} (k : Cov V R L) (k' : Cov V R L') : L.length = L'.length := by
  have := k.count B k' (fun _ => true) (fun _ _ _ _ _ => rfl)
  simpa using this

/-- each thing is in just one -/
theorem one_block [DecidableEq α] : ∀ (L : List (List α)), L.flatten.Nodup → ∀ z, z ∈ L.flatten → L.countP (fun c => decide (z ∈ c)) = 1
  | [], _, z, h => by simp at h
  | c :: L, nd, z, h => by
    rw [List.flatten_cons] at nd h
    obtain ⟨_, n2, n3⟩ := List.nodup_append.mp nd
    rw [List.countP_cons]
    rcases List.mem_append.mp h with h | h
    · rw [if_pos (by simpa using h)]
      have : L.countP (fun c => decide (z ∈ c)) = 0 := by
        rw [List.countP_eq_zero]
        intro d hd
        simp only [decide_eq_true_eq]
        exact fun m => n3 z h z (List.mem_flatten.mpr ⟨d, hd, m⟩) rfl
      rw [this]
    · rw [if_neg (by simp only [decide_eq_true_eq]; exact fun m => n3 z m z h rfl), one_block L n2 z h]

/-- as many of them as there are ends told -/
theorem ends_count [DecidableEq α] (B : Bi V R) {L : List (List α)} (k : Cov V R L) : ∀ (S : List α), S.Nodup → (∀ z ∈ S, V z ∧ ∀ y, ¬ R z y) → L.countP (fun c => S.any fun z => decide (c.getLast? = some z)) = S.length
  | [], _, _ => by simp
  | z :: S, nd, h => by
    obtain ⟨n1, n2⟩ := List.nodup_cons.mp nd
    have ih := ends_count B k S n2 fun y hy => h y (List.mem_cons_of_mem _ hy)
    have h1 : L.countP (fun c => decide (c.getLast? = some z)) = 1 := by
      rw [← one_block L k.nd z ((k.all z).mpr (h z (by simp)).1)]
      refine List.countP_congr fun c hc => ?_
      simp only [decide_eq_true_eq]
      exact ⟨fun e => List.mem_of_getLast? e, fun m => (k.orb c hc).last m (h z (by simp)).2⟩
    have h2 : ∀ (L : List (List α)), L.countP (fun c => (z :: S).any fun z => decide (c.getLast? = some z)) = L.countP (fun c => decide (c.getLast? = some z)) + L.countP (fun c => S.any fun z => decide (c.getLast? = some z)) := by
      intro L
      induction L with
      | nil => rfl
      | cons c L ih =>
        rw [List.countP_cons, List.countP_cons, List.countP_cons, ih]
        by_cases e : c.getLast? = some z
        · have e2 : (S.any fun z => decide (c.getLast? = some z)) = false := by
            rw [List.any_eq_false]
            intro y hy
            simp only [decide_eq_true_eq]
            intro e3
            rw [e] at e3
            cases e3
            exact n1 hy
          have e4 : decide (c.getLast? = some z) = true := decide_eq_true e
          rw [List.any_cons, e4, e2, Bool.true_or, if_pos rfl, if_neg Bool.false_ne_true]
          omega
        · have e4 : decide (c.getLast? = some z) = false := decide_eq_false e
          rw [List.any_cons, e4, Bool.false_or, if_neg Bool.false_ne_true]
          omega
    rw [h2, h1, ih, List.length_cons]
    omega
end WM
/-! gluings: sides, mates, corners, rims; a tile laid on -/
set_option linter.all false
namespace WM

abbrev Sd := Nat × Nat
abbrev Tie := Sd × Sd
abbrev Gl := List Nat × List Tie
def sz (g : Gl) (t : Nat) : Nat := g.1.getD t 0
def Va (g : Gl) (x : Sd) : Prop := x.1 < g.1.length ∧ x.2 < sz g x.1
def Mt (g : Gl) (x y : Sd) : Prop := (x, y) ∈ g.2 ∨ (y, x) ∈ g.2
def nx (g : Gl) (x : Sd) : Sd := (x.1, (x.2 + 1) % sz g x.1)
def bk (g : Gl) (x : Sd) : Sd := (x.1, (x.2 + (sz g x.1 - 1)) % sz g x.1)
def Ph (g : Gl) (x z : Sd) : Prop := ∃ y, Mt g x y ∧ z = nx g y
structure Rim (g : Gl) (x : Sd) : Prop where
  va : Va g x
  no : ∀ y, ¬ Mt g x y
def ltS (x y : Sd) : Prop := x.1 < y.1 ∨ (x.1 = y.1 ∧ x.2 < y.2)
def ltT (p q : Tie) : Prop := ltS p.1 q.1 ∨ (p.1 = q.1 ∧ ltS p.2 q.2)
instance (x y : Sd) : Decidable (ltS x y) := by unfold ltS; infer_instance
instance (x y : Tie) : Decidable (ltT x y) := by unfold ltT; infer_instance

structure Ok (g : Gl) : Prop where
  one : 1 ≤ g.1.length
  few : g.1.length ≤ 8
  size : ∀ s ∈ g.1, 3 ≤ s ∧ s ≤ 7
  val : ∀ p ∈ g.2, Va g p.1 ∧ Va g p.2
  lt : ∀ p ∈ g.2, ltS p.1 p.2
  srt : g.2.Pairwise ltT
  once : ∀ x y z, Mt g x y → Mt g x z → y = z

theorem Mt.symm {g : Gl} {x y : Sd} (h : Mt g x y) : Mt g y x := h.elim .inr .inl
theorem Ok.mval {g : Gl} (ok : Ok g) {x y : Sd} (h : Mt g x y) : Va g x ∧ Va g y := by
  rcases h with h | h
  · exact ok.val _ h
  · exact (ok.val _ h).symm
theorem Ok.sz {g : Gl} (ok : Ok g) {t : Nat} (h : t < g.1.length) : 3 ≤ sz g t ∧ sz g t ≤ 7 := by
  unfold WM.sz
  rw [List.getD_eq_getElem?_getD, List.getElem?_eq_getElem h]
  exact ok.size _ (List.getElem_mem h)
theorem nx_va {g : Gl} {x : Sd} (h : Va g x) : Va g (nx g x) := ⟨h.1, Nat.mod_lt _ (Nat.lt_of_le_of_lt (Nat.zero_le _) h.2)⟩
theorem bk_va {g : Gl} {x : Sd} (h : Va g x) : Va g (bk g x) := ⟨h.1, Nat.mod_lt _ (Nat.lt_of_le_of_lt (Nat.zero_le _) h.2)⟩
theorem nx_pv {g : Gl} {x : Sd} (h : Va g x) : nx g (bk g x) = x := by
  obtain ⟨t, i⟩ := x
  have h2 : i < WM.sz g t := h.2
  show (t, ((i + (WM.sz g t - 1)) % WM.sz g t + 1) % WM.sz g t) = (t, i)
  congr 1
  rw [Nat.add_mod, Nat.mod_mod, ← Nat.add_mod, show i + (WM.sz g t - 1) + 1 = i + WM.sz g t by omega, Nat.add_mod_right, Nat.mod_eq_of_lt h2]
theorem pv_nx {g : Gl} {x : Sd} (h : Va g x) : bk g (nx g x) = x := by
  obtain ⟨t, i⟩ := x
  have h2 : i < WM.sz g t := h.2
  show (t, ((i + 1) % WM.sz g t + (WM.sz g t - 1)) % WM.sz g t) = (t, i)
  congr 1
  rw [Nat.add_mod, Nat.mod_mod, ← Nat.add_mod, show i + 1 + (WM.sz g t - 1) = i + WM.sz g t by omega, Nat.add_mod_right, Nat.mod_eq_of_lt h2]
theorem nx_inj {g : Gl} {x y : Sd} (hx : Va g x) (hy : Va g y) (e : nx g x = nx g y) : x = y := by
  rw [← pv_nx hx, e, pv_nx hy]

theorem Ok.bi {g : Gl} (ok : Ok g) : Bi (Va g) (Ph g) where
  fn := by
    rintro x y z _ ⟨a, ha, rfl⟩ ⟨b, hb, rfl⟩
    rw [ok.once x a b ha hb]
  inj := by
    rintro x y z _ _ ⟨a, ha, e⟩ ⟨b, hb, rfl⟩
    have e2 := nx_inj (ok.mval hb).2 (ok.mval ha).2 e
    subst e2
    exact ok.once b x y ha.symm hb.symm
  val := by
    rintro x y _ ⟨a, ha, rfl⟩
    exact nx_va (ok.mval ha).2
  lav := by
    rintro x y _ ⟨a, ha, rfl⟩
    exact (ok.mval ha).1

/-- a corner -/
abbrev Co (g : Gl) (c : List Sd) : Prop := Orb (Va g) (Ph g) c

theorem Rim.end_ {g : Gl} {x : Sd} (h : Rim g x) (y : Sd) : ¬ Ph g x y := fun ⟨a, ha, _⟩ => h.no a ha
theorem Ok.start {g : Gl} (ok : Ok g) {x : Sd} (h : Rim g x) (y : Sd) : ¬ Ph g y (nx g x) := by
  rintro ⟨a, ha, e⟩
  have := nx_inj h.va (ok.mval ha).2 e
  subst this
  exact h.no y ha.symm
theorem rim_of_end {g : Gl} {x : Sd} (h : Va g x) (n : ∀ y, ¬ Ph g x y) : Rim g x := ⟨h, fun y m => n _ ⟨y, m, rfl⟩⟩

/-- the rim side behind a rim side -/
def Fo (g : Gl) (x y : Sd) : Prop := Va g x ∧ ∃ c, Co g c ∧ c.head? = some (nx g x) ∧ c.getLast? = some y

theorem Ok.fo_end {g : Gl} (ok : Ok g) {x y : Sd} (h : Rim g x) (f : Fo g x y) : Rim g y := by
  obtain ⟨_, c, o, e1, e2⟩ := f
  obtain ⟨a, z, h1, h2, k⟩ := o.fin
  rw [e1] at h1
  rw [e2] at h2
  cases h1
  cases h2
  have vy := o.val y (List.mem_of_getLast? e2)
  rcases k with k | k
  · exact rim_of_end vy k.1
  · exact absurd k (ok.start h y)

theorem Ok.biF {g : Gl} (ok : Ok g) : Bi (Rim g) (Fo g) where
  fn := by
    rintro x y z hx ⟨_, c, o, e1, e2⟩ ⟨_, d, o', e1', e2'⟩
    have := o.eq ok.bi o' e1 e1'
    subst this
    rw [e2] at e2'
    cases e2'
    rfl
  inj := by
    rintro x y z hx hy ⟨_, c, o, e1, e2⟩ ⟨_, d, o', e1', e2'⟩
    have hz := List.mem_of_getLast? e2
    have hz' := List.mem_of_getLast? e2'
    have h1 : nx g x ∈ d := (o.same ok.bi o' hz hz' _).mp (List.mem_of_mem_head? e1)
    have h2 := o'.first h1 (ok.start hx)
    rw [e1'] at h2
    exact (nx_inj hy.va hx.va (Option.some.inj h2)).symm
  val := fun hx f => ok.fo_end hx f
  lav := by
    rintro x y hy ⟨vx, c, o, e1, e2⟩
    refine ⟨vx, fun w m => ?_⟩
    obtain ⟨a, z, h1, h2, k⟩ := o.fin
    rw [e1] at h1
    rw [e2] at h2
    cases h1
    cases h2
    rcases k with k | k
    · exact k.2 w ⟨x, m.symm, rfl⟩
    · exact hy.end_ _ k

/-- a rim, from one of its sides on -/
structure IsRim (g : Gl) (r : List Sd) : Prop where
  orb : Orb (Rim g) (Fo g) r
  home : ∃ a z, r.head? = some a ∧ r.getLast? = some z ∧ Fo g z a

/-- its letters -/
def IsWord (g : Gl) (r : List Sd) (ws : List Nat) : Prop := ws.length = r.length ∧ ∀ (i : Nat) (x : Sd) (w : Nat), r[i]? = some x → ws[i]? = some w → ∃ c, Co g c ∧ x ∈ c ∧ w = c.length

theorem IsWord.eq {g : Gl} (ok : Ok g) {r : List Sd} {ws us : List Nat} (h : IsWord g r ws) (k : IsWord g r us) : ws = us := by
  refine List.ext_getElem? fun i => ?_
  by_cases hi : i < r.length
  · have h1 : i < ws.length := by rw [h.1]; exact hi
    have h2 : i < us.length := by rw [k.1]; exact hi
    obtain ⟨c, o, m, e⟩ := h.2 i r[i] ws[i] (List.getElem?_eq_getElem hi) (List.getElem?_eq_getElem h1)
    obtain ⟨d, o', m', e'⟩ := k.2 i r[i] us[i] (List.getElem?_eq_getElem hi) (List.getElem?_eq_getElem h2)
    rw [List.getElem?_eq_getElem h1, List.getElem?_eq_getElem h2, e, e', o.len ok.bi o' m m']
  · rw [List.getElem?_eq_none (by rw [h.1]; omega), List.getElem?_eq_none (by rw [k.1]; omega)]

/-- the corner at rim side j of a rim (j from 1 on) begins behind side j - 1 -/
theorem IsRim.step {g : Gl} {r : List Sd} (R : IsRim g r) {j : Nat} (h : j + 1 < r.length) : Fo g (r[j]'(by omega)) r[j + 1] := by
  have ch := R.orb.ch
  have e : r = r.take j ++ (r[j]'(by omega)) :: r[j + 1] :: r.drop (j + 2) := by
    rw [List.getElem_cons_drop (by omega : j + 1 < r.length), List.getElem_cons_drop (by omega : j < r.length), List.take_append_drop]
  rw [e] at ch
  exact ch.mid
theorem IsRim.back {g : Gl} {r : List Sd} (R : IsRim g r) (h : 0 < r.length) : Fo g (r[r.length - 1]'(by omega)) r[0] := by
  obtain ⟨a, z, e1, e2, f⟩ := R.home
  rw [List.head?_eq_getElem?, List.getElem?_eq_getElem h] at e1
  rw [List.getLast?_eq_getElem?, List.getElem?_eq_getElem (by omega)] at e2
  cases e1
  cases e2
  exact f
end WM
/-! a tile laid on k sides of a rim: the corners, their number, the rim and its letters -/
set_option linter.all false
namespace WM

def hasM (g : Gl) (x : Sd) : Bool := g.2.any fun p => decide (p.1 = x) || decide (p.2 = x)
theorem hasM_iff {g : Gl} {x : Sd} : hasM g x = true ↔ ∃ y, Mt g x y := by
  unfold hasM
  rw [List.any_eq_true]
  constructor
  · rintro ⟨⟨a, b⟩, h, e⟩
    rw [Bool.or_eq_true, decide_eq_true_eq, decide_eq_true_eq] at e
    rcases e with e | e
    · exact ⟨b, .inl (e ▸ h)⟩
    · exact ⟨a, .inr (e ▸ h)⟩
  · rintro ⟨y, h | h⟩
    · exact ⟨_, h, by simp⟩
    · exact ⟨_, h, by simp⟩
/-- whether a corner is an inner one -/
def inn (g : Gl) (c : List Sd) : Bool := match c.getLast? with
  | some z => hasM g z
  | none => false
theorem inn_of {g : Gl} {c : List Sd} {z : Sd} (h : c.getLast? = some z) : inn g c = hasM g z := by
  unfold inn
  rw [h]

structure Lay (g m : Gl) (r : List Sd) (k s : Nat) : Prop where
  ok : Ok g
  few : g.1.length ≤ 7
  rim : IsRim g r
  k1 : 1 ≤ k
  ks : k < s
  kb : k < r.length
  s3 : 3 ≤ s
  s7 : s ≤ 7
  sizes : m.1 = g.1 ++ [s]
  mt : ∀ x y, Mt m x y ↔ Mt g x y ∨ (∃ j, ∃ h : j < k, (x = r[j]'(by omega) ∧ y = (g.1.length, k - 1 - j)) ∨ (y = r[j]'(by omega) ∧ x = (g.1.length, k - 1 - j)))
  okm : Ok m

section
variable {g m : Gl} {r : List Sd} {k s : Nat}

theorem Lay.sz_old (L : Lay g m r k s) {t : Nat} (h : t < g.1.length) : sz m t = sz g t := by
  unfold sz
  rw [L.sizes, List.getD_eq_getElem?_getD, List.getD_eq_getElem?_getD, List.getElem?_append_left h]
theorem Lay.sz_new (L : Lay g m r k s) : sz m g.1.length = s := by
  unfold sz
  rw [L.sizes, List.getD_eq_getElem?_getD, List.getElem?_append_right (Nat.le_refl _)]
  simp
theorem Lay.len (L : Lay g m r k s) : m.1.length = g.1.length + 1 := by
  rw [L.sizes, List.length_append]
  rfl
theorem Lay.va_old (L : Lay g m r k s) {x : Sd} (h : x.1 < g.1.length) : Va m x ↔ Va g x := by
  unfold Va
  rw [L.len, L.sz_old h]
  constructor
  · exact fun ⟨_, b⟩ => ⟨h, b⟩
  · exact fun ⟨_, b⟩ => ⟨by omega, b⟩
theorem Lay.va_new (L : Lay g m r k s) {i : Nat} : Va m (g.1.length, i) ↔ i < s := by
  unfold Va
  show g.1.length < m.1.length ∧ i < sz m g.1.length ↔ _
  rw [L.len, L.sz_new]
  omega
theorem Lay.va (L : Lay g m r k s) {x : Sd} : Va m x ↔ Va g x ∨ ∃ i, i < s ∧ x = (g.1.length, i) := by
  obtain ⟨t, i⟩ := x
  constructor
  · intro h
    have h1 : t < m.1.length := h.1
    rw [L.len] at h1
    by_cases e : t < g.1.length
    · exact .inl ((L.va_old e).mp h)
    · have : t = g.1.length := by omega
      subst this
      exact .inr ⟨i, L.va_new.mp h, rfl⟩
  · rintro (h | ⟨j, h, e⟩)
    · exact (L.va_old h.1).mpr h
    · cases e
      exact L.va_new.mpr h
theorem Lay.rim_at (L : Lay g m r k s) {j : Nat} (h : j < r.length) : Rim g r[j] := L.rim.orb.val _ (List.getElem_mem h)
theorem Lay.old_ne (L : Lay g m r k s) {x : Sd} (h : Va g x) (i : Nat) : x ≠ (g.1.length, i) := by
  rintro rfl
  exact absurd h.1 (Nat.lt_irrefl _)
theorem Lay.ix (L : Lay g m r k s) {i j : Nat} (hi : i < r.length) (hj : j < r.length) (e : r[i] = r[j]) : i = j := (List.getElem_inj L.rim.orb.nd).mp e
theorem Lay.nx_old (L : Lay g m r k s) {x : Sd} (h : Va g x) : nx m x = nx g x := by
  unfold nx
  rw [L.sz_old h.1]
theorem Lay.nx_new (L : Lay g m r k s) {i : Nat} (h : i + 1 < s) : nx m (g.1.length, i) = (g.1.length, i + 1) := by
  unfold nx
  show (g.1.length, (i + 1) % sz m g.1.length) = _
  rw [L.sz_new, Nat.mod_eq_of_lt h]
theorem Lay.nx_last (L : Lay g m r k s) : nx m (g.1.length, s - 1) = (g.1.length, 0) := by
  unfold nx
  show (g.1.length, (s - 1 + 1) % sz m g.1.length) = _
  rw [L.sz_new, show s - 1 + 1 = s by have := L.s3; omega, Nat.mod_self]

/-- (A) a side that is not covered goes on as it went -/
theorem Lay.ph_old (L : Lay g m r k s) {x : Sd} (hx : Va g x) (hn : ∀ j (h : j < k), x ≠ r[j]'(by have := L.kb; omega)) (z : Sd) : Ph m x z ↔ Ph g x z := by
  constructor
  · rintro ⟨y, hy, rfl⟩
    rcases (L.mt x y).mp hy with h | ⟨j, hj, ⟨e, _⟩ | ⟨_, e⟩⟩
    · exact ⟨y, h, L.nx_old (L.ok.mval h).2⟩
    · exact absurd e (hn j hj)
    · exact absurd e (L.old_ne hx _)
  · rintro ⟨y, hy, rfl⟩
    exact ⟨y, (L.mt x y).mpr (.inl hy), (L.nx_old (L.ok.mval hy).2).symm⟩
/-- (B) a covered side -/
theorem Lay.ph_cov (L : Lay g m r k s) {j : Nat} (h : j < k) (z : Sd) : Ph m (r[j]'(by have := L.kb; omega)) z ↔ z = (g.1.length, k - j) := by
  have kb := L.kb
  have ks := L.ks
  have e1 : nx m (g.1.length, k - 1 - j) = (g.1.length, k - j) := by
    rw [L.nx_new (by omega), show k - 1 - j + 1 = k - j by omega]
  constructor
  · rintro ⟨y, hy, rfl⟩
    rcases (L.mt _ y).mp hy with h' | ⟨i, hi, ⟨e, e2⟩ | ⟨_, e⟩⟩
    · exact absurd h' ((L.rim_at (by omega)).no y)
    · have := L.ix (by omega) (by omega) e
      subst this
      rw [e2, e1]
    · exact absurd e (L.old_ne (L.rim_at (by omega)).va _)
  · rintro rfl
    exact ⟨(g.1.length, k - 1 - j), (L.mt _ _).mpr (.inr ⟨j, h, .inl ⟨rfl, rfl⟩⟩), e1.symm⟩
/-- (C) a covering side of the new tile -/
theorem Lay.ph_new (L : Lay g m r k s) {i : Nat} (h : i < k) (z : Sd) : Ph m (g.1.length, i) z ↔ z = nx g (r[k - 1 - i]'(by have := L.kb; omega)) := by
  have kb := L.kb
  constructor
  · rintro ⟨y, hy, rfl⟩
    rcases (L.mt _ y).mp hy with h' | ⟨j, hj, ⟨e, e2⟩ | ⟨e, e2⟩⟩
    · exact absurd rfl (L.old_ne (L.ok.mval h').1 i)
    · exact absurd e.symm (L.old_ne (L.rim_at (by omega)).va i)
    · have : i = k - 1 - j := (Prod.mk.inj e2).2
      subst this
      have e3 : k - 1 - (k - 1 - j) = j := by omega
      subst e
      rw [L.nx_old (L.rim_at (by omega)).va]
      simp only [e3]
  · rintro rfl
    refine ⟨r[k - 1 - i]'(by omega), (L.mt _ _).mpr (.inr ⟨k - 1 - i, by omega, .inr ⟨rfl, ?_⟩⟩), (L.nx_old (L.rim_at (by omega)).va).symm⟩
    congr 1
    omega
/-- (D) a free side of the new tile -/
theorem Lay.ph_free (L : Lay g m r k s) {i : Nat} (h : k ≤ i) (z : Sd) : ¬ Ph m (g.1.length, i) z := by
  have kb := L.kb
  rintro ⟨y, hy, rfl⟩
  rcases (L.mt _ y).mp hy with h' | ⟨j, hj, ⟨e, e2⟩ | ⟨e, e2⟩⟩
  · exact absurd rfl (L.old_ne (L.ok.mval h').1 i)
  · exact absurd e.symm (L.old_ne (L.rim_at (by omega)).va i)
  · have : i = k - 1 - j := (Prod.mk.inj e2).2
    omega
/-- who comes to an old place -/
theorem Lay.pre_old (L : Lay g m r k s) {a y : Sd} (ha : Va g a) (h : Ph m y a) : Ph g y a ∨ ∃ j, ∃ h : j < k, a = nx g (r[j]'(by have := L.kb; omega)) := by
  have kb := L.kb
  have vy := L.okm.bi.lav ((L.va_old ha.1).mpr ha) h
  rcases L.va.mp vy with v | ⟨i, hi, rfl⟩
  · by_cases hc : ∃ j, ∃ h : j < k, y = r[j]'(by omega)
    · obtain ⟨j, hj, rfl⟩ := hc
      exact absurd ((L.ph_cov hj a).mp h) (L.old_ne ha _)
    · exact .inl ((L.ph_old v (fun j hj e => hc ⟨j, hj, e⟩) a).mp h)
  · by_cases hk : i < k
    · exact .inr ⟨k - 1 - i, by omega, (L.ph_new hk a).mp h⟩
    · exact absurd h (L.ph_free (by omega) a)
/-- .. to a new one -/
theorem Lay.pre_new (L : Lay g m r k s) {y : Sd} {i : Nat} (h : Ph m y (g.1.length, i)) : ∃ j, ∃ h : j < k, y = r[j]'(by have := L.kb; omega) ∧ i = k - j := by
  have kb := L.kb
  obtain ⟨u, hu, e⟩ := h
  rcases (L.mt y u).mp hu with h' | ⟨j, hj, ⟨e1, e2⟩ | ⟨e1, e2⟩⟩
  · have v := (L.ok.mval h').2
    rw [L.nx_old v] at e
    exact absurd e.symm (L.old_ne (nx_va v) i)
  · subst e2
    rw [L.nx_new (by have := L.ks; omega)] at e
    exact ⟨j, hj, e1, by have := (Prod.mk.inj e).2; omega⟩
  · have v := (L.rim_at (j := j) (by omega)).va
    rw [← e1] at v
    rw [L.nx_old v] at e
    exact absurd e.symm (L.old_ne (nx_va v) i)

/-- what becomes of a corner -/
def grow (r : List Sd) (n k : Nat) (c : List Sd) : List Sd := match c.getLast? with
  | some z => if r.idxOf z < k then c ++ [(n, k - r.idxOf z)] else if r.idxOf z = k then (n, 0) :: c else c
  | none => c
theorem grow_of {n : Nat} {c : List Sd} {z : Sd} (e : c.getLast? = some z) : grow r n k c = if r.idxOf z < k then c ++ [(n, k - r.idxOf z)] else if r.idxOf z = k then (n, 0) :: c else c := by
  unfold grow
  rw [e]
theorem Lay.idx (L : Lay g m r k s) {j : Nat} (h : j < r.length) : r.idxOf r[j] = j := by
  have h1 : r.idxOf r[j] < r.length := List.idxOf_lt_length_of_mem (List.getElem_mem h)
  have h2 : r[r.idxOf r[j]] = r[j] := List.getElem_idxOf h1
  exact L.ix h1 h h2
theorem mem_grow {n : Nat} {c : List Sd} {x : Sd} (h : x ∈ c) : x ∈ grow r n k c := by
  unfold grow
  split
  · split
    · exact List.mem_append_left _ h
    · split
      · exact List.mem_cons_of_mem _ h
      · exact h
  · exact h
theorem of_grow {n : Nat} {c : List Sd} {x : Sd} (h : x ∈ grow r n k c) : x ∈ c ∨ ∃ z, c.getLast? = some z ∧ r.idxOf z ≤ k ∧ x = (n, k - r.idxOf z) := by
  unfold grow at h
  split at h
  · rename_i z e
    split at h
    · rename_i hk
      rcases List.mem_append.mp h with h | h
      · exact .inl h
      · rw [List.mem_singleton] at h
        exact .inr ⟨z, e, by omega, h⟩
    · split at h
      · rename_i hk
        rcases List.mem_cons.mp h with h | h
        · exact .inr ⟨z, e, by omega, by rw [h, hk, Nat.sub_self]⟩
        · exact .inl h
      · exact .inl h
  · exact .inl h

/-- the head of the corner that ends with rim side j -/
theorem Lay.head_at (L : Lay g m r k s) {c : List Sd} (o : Co g c) {i j : Nat} (hi : i < r.length) (hj : j < r.length) (f : Fo g r[i] r[j]) (e : c.getLast? = some r[j]) : c.head? = some (nx g r[i]) := by
  obtain ⟨_, d, o', e1, e2⟩ := f
  have h : nx g r[i] ∈ c := (o.same L.ok.bi o' (List.mem_of_getLast? e) (List.mem_of_getLast? e2) _).mpr (List.mem_of_mem_head? e1)
  exact o.first h (L.ok.start (L.rim_at hi))

theorem Lay.grow_orb (L : Lay g m r k s) {c : List Sd} (o : Co g c) : Co m (grow r g.1.length k c) := by
  have kb := L.kb
  have ks := L.ks
  have k1 := L.k1
  obtain ⟨a, z, ea, ez, fin⟩ := o.fin
  have hz := List.mem_of_getLast? ez
  have vz := o.val z hz
  have va := o.val a (List.mem_of_mem_head? ea)
  -- the chain stands
  have step : ∀ x y, Ph g x y → Ph m x y := fun x y ⟨u, hu, e⟩ => ⟨u, (L.mt _ _).mpr (.inl hu), by rw [e, L.nx_old (L.ok.mval hu).2]⟩
  have chm : Ch (Ph m) c := o.ch.imp fun x y _ _ h => step x y h
  have vm : ∀ x ∈ c, Va m x := fun x hx => (L.va_old (o.val x hx).1).mpr (o.val x hx)
  have nin : ∀ i, (g.1.length, i) ∉ c := fun i h => L.old_ne (o.val _ h) i rfl
  have hidx : ∀ h : r.idxOf z < r.length, z = r[r.idxOf z]'h ∧ Rim g z := fun h => by
    have e := List.getElem_idxOf h
    exact ⟨e.symm, e ▸ L.rim_at h⟩
  rw [grow_of ez]
  by_cases h1 : r.idxOf z < k
  · rw [if_pos h1]
    obtain ⟨ez2, rz⟩ := hidx (by omega)
    obtain ⟨j, hj⟩ : ∃ j, r.idxOf z = j := ⟨_, rfl⟩
    simp only [hj] at h1 ez2 ⊢
    have ezr : c.getLast? = some (r[j]'(by omega)) := by rw [ez]; exact congrArg some ez2
    refine ⟨?_, ?_, ?_, ?_⟩
    · exact List.nodup_append.mpr ⟨o.nd, (by simp), fun x hx y hy => by
        rw [List.mem_singleton] at hy
        rw [hy]
        rintro rfl
        exact nin _ hx⟩
    · intro x hx
      rcases List.mem_append.mp hx with hx | hx
      · exact vm x hx
      · rw [List.mem_singleton] at hx
        rw [hx]
        exact L.va_new.mpr (by omega)
    · refine chm.join trivial fun u w e1 e2 => ?_
      rw [ez] at e1
      cases e1
      have : (g.1.length, k - j) = w := by simpa using e2
      rw [← this]
      have q := (L.ph_cov h1 (g.1.length, k - j)).mpr rfl
      rw [← ez2] at q
      exact q
    · refine ⟨a, (g.1.length, k - j), by rw [List.head?_append, ea]; rfl, by simp, ?_⟩
      by_cases h0 : j = 0
      · subst h0
        refine .inl ⟨fun y => L.ph_free (by omega) y, fun y hy => ?_⟩
        have eh := L.head_at o (i := r.length - 1) (j := 0) (by omega) (by omega) (L.rim.back (by omega)) ezr
        rw [ea] at eh
        have ea2 : a = nx g (r[r.length - 1]'(by omega)) := Option.some.inj eh
        rcases L.pre_old va hy with h | ⟨i, hi, e⟩
        · rcases fin with f | f
          · exact f.2 y h
          · exact rz.end_ _ f
        · rw [ea2] at e
          have e3 := nx_inj (L.rim_at (by omega)).va (L.rim_at (by omega)).va e
          have := L.ix (by omega) (by omega) e3
          omega
      · right
        have eh := L.head_at o (i := j - 1) (j := j) (by omega) (by omega) (by
          have := L.rim.step (j := j - 1) (by omega)
          simp only [show j - 1 + 1 = j by omega] at this
          exact this) ezr
        rw [ea] at eh
        have ea2 : a = nx g (r[j - 1]'(by omega)) := Option.some.inj eh
        rw [L.ph_new (by omega), ea2]
        simp only [show k - 1 - (k - j) = j - 1 by omega]
  · rw [if_neg h1]
    by_cases h2 : r.idxOf z = k
    · rw [if_pos h2]
      obtain ⟨ez2, rz⟩ := hidx (by omega)
      simp only [h2] at ez2
      have ezr : c.getLast? = some (r[k]'(by omega)) := by rw [ez]; exact congrArg some ez2
      have eh := L.head_at o (i := k - 1) (j := k) (by omega) (by omega) (by
          have := L.rim.step (j := k - 1) (by omega)
          simp only [show k - 1 + 1 = k by omega] at this
          exact this) ezr
      rw [ea] at eh
      have ea2 : a = nx g (r[k - 1]'(by omega)) := Option.some.inj eh
      refine ⟨List.nodup_cons.mpr ⟨nin 0, o.nd⟩, ?_, ?_, ?_⟩
      · intro x hx
        rcases List.mem_cons.mp hx with hx | hx
        · rw [hx]
          exact L.va_new.mpr (by omega)
        · exact vm x hx
      · cases c with
        | nil => trivial
        | cons b c =>
          have eb : b = a := by simpa using ea
          refine ⟨?_, chm⟩
          rw [eb, L.ph_new (by omega), ea2]
          simp only [show k - 1 - 0 = k - 1 by omega]
      · refine ⟨(g.1.length, 0), z, rfl, ?_, .inl ⟨fun y hy => ?_, fun y hy => ?_⟩⟩
        · rw [List.getLast?_cons, ez]
          rfl
        · refine rz.end_ y ((L.ph_old vz (fun j hj e => ?_) y).mp hy)
          rw [ez2] at e
          have := L.ix (by omega) (by omega) e
          omega
        · obtain ⟨j, hj, _, e⟩ := L.pre_new hy
          omega
    · rw [if_neg h2]
      refine ⟨o.nd, vm, chm, a, z, ea, ez, ?_⟩
      rcases fin with f | f
      · left
        have rz := rim_of_end vz f.1
        have nz : ∀ j (h : j ≤ k), z ≠ r[j]'(by omega) := fun j hj e => by
          have := L.idx (j := j) (by omega)
          rw [← e] at this
          omega
        refine ⟨fun y hy => f.1 y ((L.ph_old vz (fun j hj => nz j (by omega)) y).mp hy), fun y hy => ?_⟩
        rcases L.pre_old va hy with h | ⟨j, hj, e⟩
        · exact f.2 y h
        · have fo := L.rim.step (j := j) (by omega)
          obtain ⟨_, d, o', e1, e2⟩ := fo
          rw [← e] at e1
          have := o.eq L.ok.bi o' ea e1
          subst this
          rw [ez] at e2
          exact nz (j + 1) (by omega) (Option.some.inj e2)
      · exact .inr (step _ _ f)

theorem Lay.single (L : Lay g m r k s) {i : Nat} (h : k < i) (hs : i < s) : Co m [(g.1.length, i)] := by
  refine ⟨(by simp), fun x hx => ?_, trivial, (g.1.length, i), (g.1.length, i), rfl, rfl, .inl ⟨fun y => L.ph_free (by omega) y, fun y hy => ?_⟩⟩
  · rw [List.mem_singleton] at hx
    rw [hx]
    exact L.va_new.mpr hs
  · obtain ⟨j, hj, _, e⟩ := L.pre_new hy
    omega

/-- all corners of what is laid -/
def grown (r : List Sd) (n k s : Nat) (C : List (List Sd)) : List (List Sd) := C.map (grow r n k) ++ (List.range (s - 1 - k)).map fun i => [(n, k + 1 + i)]

theorem nodup_fl {β : Type} {L : List (List β)} : L.flatten.Nodup ↔ (∀ l ∈ L, l.Nodup) ∧ L.Pairwise fun a b => ∀ x, x ∈ a → x ∈ b → False := by
  unfold List.Nodup
  rw [List.pairwise_flatten]
  refine and_congr Iff.rfl ⟨fun h => h.imp fun q x h1 h2 => q x h1 x h2 rfl, fun h => h.imp fun q x h1 y h2 e => by
    subst e
    exact q x h1 h2⟩
theorem Lay.cov (L : Lay g m r k s) {C : List (List Sd)} (cv : Cov (Va g) (Ph g) C) : Cov (Va m) (Ph m) (grown r g.1.length k s C) := by
  have kb := L.kb
  have ks := L.ks
  have horb : ∀ c ∈ grown r g.1.length k s C, Co m c := by
    intro c hc
    rcases List.mem_append.mp hc with h | h
    · obtain ⟨d, hd, rfl⟩ := List.mem_map.mp h
      exact L.grow_orb (cv.orb d hd)
    · obtain ⟨i, hi, rfl⟩ := List.mem_map.mp h
      have := List.mem_range.mp hi
      exact L.single (by omega) (by omega)
  have endr : ∀ j (h : j < r.length), ∃ c ∈ C, Co g c ∧ c.getLast? = some r[j] := by
    intro j h
    obtain ⟨c, hc, hm⟩ := List.mem_flatten.mp ((cv.all r[j]).mpr (L.rim_at h).va)
    exact ⟨c, hc, cv.orb c hc, (cv.orb c hc).last hm (L.rim_at h).end_⟩
  refine ⟨horb, ?_, fun x => ⟨fun hx => ?_, fun hx => ?_⟩⟩
  · rw [nodup_fl]
    refine ⟨fun c hc => (horb c hc).nd, ?_⟩
    unfold grown
    rw [List.pairwise_append]
    refine ⟨?_, ?_, ?_⟩
    · rw [List.pairwise_map]
      refine List.Pairwise.imp_of_mem ?_ (nodup_fl.mp cv.nd).2
      intro c d hc hd dis x h1 h2
      rcases of_grow h1 with h1 | ⟨z, ez, hz, e⟩
      · rcases of_grow h2 with h2 | ⟨z', _, _, e'⟩
        · exact dis x h1 h2
        · exact L.old_ne ((cv.orb c hc).val x h1) _ e'
      · rcases of_grow h2 with h2 | ⟨z', ez', hz', e'⟩
        · exact L.old_ne ((cv.orb d hd).val x h2) _ e
        · rw [e] at e'
          have e3 := (Prod.mk.inj e').2
          have e4 : r.idxOf z = r.idxOf z' := by omega
          have e5 := List.getElem_idxOf (show r.idxOf z < r.length by omega)
          have e6 := List.getElem_idxOf (show r.idxOf z' < r.length by omega)
          simp only [e4] at e5
          rw [e5] at e6
          subst e6
          exact dis _ (List.mem_of_getLast? ez) (List.mem_of_getLast? ez')
    · rw [List.pairwise_map]
      refine List.Pairwise.imp_of_mem ?_ List.nodup_range
      intro i j hi hj ne x h1 h2
      rw [List.mem_singleton] at h1 h2
      rw [h1] at h2
      have := (Prod.mk.inj h2).2
      omega
    · intro c hc d hd x h1 h2
      obtain ⟨c, hc', rfl⟩ := List.mem_map.mp hc
      obtain ⟨i, hi, rfl⟩ := List.mem_map.mp hd
      rw [List.mem_singleton] at h2
      rcases of_grow h1 with h1 | ⟨z, ez, hz, e⟩
      · exact L.old_ne ((cv.orb c hc').val x h1) _ h2
      · rw [e] at h2
        have := (Prod.mk.inj h2).2
        omega
  · obtain ⟨c, hc, hm⟩ := List.mem_flatten.mp hx
    exact (horb c hc).val x hm
  · rcases L.va.mp hx with v | ⟨i, hi, rfl⟩
    · obtain ⟨c, hc, hm⟩ := List.mem_flatten.mp ((cv.all x).mpr v)
      exact List.mem_flatten.mpr ⟨_, List.mem_append_left _ (List.mem_map.mpr ⟨c, hc, rfl⟩), mem_grow hm⟩
    · by_cases h1 : i ≤ k
      · obtain ⟨c, hc, o, e⟩ := endr (k - i) (by omega)
        refine List.mem_flatten.mpr ⟨_, List.mem_append_left _ (List.mem_map.mpr ⟨c, hc, rfl⟩), ?_⟩
        rw [grow_of e, L.idx (by omega)]
        by_cases h0 : i = 0
        · subst h0
          rw [if_neg (by omega), if_pos (by omega)]
          simp
        · rw [if_pos (by omega), show k - (k - i) = i by omega]
          simp
      · refine List.mem_flatten.mpr ⟨_, List.mem_append_right _ (List.mem_map.mpr ⟨i - (k + 1), List.mem_range.mpr (by omega), rfl⟩), ?_⟩
        rw [List.mem_singleton]
        congr 1
        omega

theorem grown_length (n : Nat) (C : List (List Sd)) : (grown r n k s C).length = C.length + (s - 1 - k) := by
  unfold grown
  rw [List.length_append, List.length_map, List.length_map, List.length_range]

theorem hasM_false {g : Gl} {x : Sd} (h : ∀ y, ¬ Mt g x y) : hasM g x = false := by
  cases e : hasM g x with
  | false => rfl
  | true =>
    obtain ⟨y, hy⟩ := hasM_iff.mp e
    exact absurd hy (h y)
theorem Lay.inn_grow (L : Lay g m r k s) {c : List Sd} (o : Co g c) : inn m (grow r g.1.length k c) = (inn g c || ((r.take k).drop 1).any fun z => decide (c.getLast? = some z)) := by
  have kb := L.kb
  have ks := L.ks
  have k1 := L.k1
  obtain ⟨a, z, ea, ez, fin⟩ := o.fin
  have vz := o.val z (List.mem_of_getLast? ez)
  have hS : ∀ j, 1 ≤ j → j < k → ∀ h : j < r.length, r[j] ∈ (r.take k).drop 1 := fun j h1 h2 h => by
    rw [List.mem_iff_getElem?]
    refine ⟨j - 1, ?_⟩
    rw [List.getElem?_drop, show 1 + (j - 1) = j by omega, List.getElem?_take_of_lt h2, List.getElem?_eq_getElem h]
  have hS2 : ∀ x ∈ (r.take k).drop 1, ∃ j, ∃ h : j < r.length, 1 ≤ j ∧ j < k ∧ x = r[j] := fun x hx => by
    obtain ⟨i, hi⟩ := List.mem_iff_getElem?.mp hx
    rw [List.getElem?_drop] at hi
    by_cases hk : 1 + i < k
    · rw [List.getElem?_take_of_lt hk, List.getElem?_eq_getElem (by omega)] at hi
      exact ⟨1 + i, by omega, by omega, hk, (Option.some.inj hi).symm⟩
    · rw [List.getElem?_eq_none (by rw [List.length_take]; omega)] at hi
      cases hi
  rw [inn_of ez, grow_of ez]
  by_cases h1 : r.idxOf z < k
  · have e5 := List.getElem_idxOf (show r.idxOf z < r.length by omega)
    have rz : Rim g z := e5 ▸ L.rim_at (by omega)
    rw [if_pos h1, inn_of (z := (g.1.length, k - r.idxOf z)) (by simp), hasM_false rz.no, Bool.false_or]
    by_cases h0 : r.idxOf z = 0
    · rw [hasM_false]
      · symm
        rw [List.any_eq_false]
        intro x hx
        obtain ⟨j, hj, j1, j2, rfl⟩ := hS2 x hx
        rw [ez, decide_eq_true_eq]
        intro e
        have := L.idx hj
        rw [← Option.some.inj e] at this
        omega
      · intro y hy
        exact L.ph_free (i := k - r.idxOf z) (by omega) _ ⟨y, hy, rfl⟩
    · have : hasM m (g.1.length, k - r.idxOf z) = true := by
        obtain ⟨y, hy, _⟩ := (L.ph_new (i := k - r.idxOf z) (by omega) _).mpr rfl
        exact hasM_iff.mpr ⟨y, hy⟩
      rw [this]
      symm
      rw [List.any_eq_true]
      exact ⟨z, by have := hS (r.idxOf z) (by omega) h1 (by omega); rw [e5] at this; exact this, by rw [ez]; simp⟩
  · rw [if_neg h1]
    have hl : (if r.idxOf z = k then (g.1.length, 0) :: c else c).getLast? = some z := by
      split
      · rw [List.getLast?_cons, ez]
        rfl
      · exact ez
    rw [inn_of hl]
    have hn : ((r.take k).drop 1).any (fun z => decide (c.getLast? = some z)) = false := by
      rw [List.any_eq_false]
      intro x hx
      obtain ⟨j, hj, j1, j2, rfl⟩ := hS2 x hx
      rw [ez, decide_eq_true_eq]
      intro e
      have := L.idx hj
      rw [← Option.some.inj e] at this
      omega
    rw [hn, Bool.or_false]
    have : (∃ y, Mt m z y) ↔ ∃ y, Mt g z y := by
      have q := L.ph_old vz (fun j hj e => by
        have := L.idx (j := j) (by omega)
        rw [← e] at this
        omega)
      constructor
      · rintro ⟨y, hy⟩
        obtain ⟨u, hu, _⟩ := (q _).mp ⟨y, hy, rfl⟩
        exact ⟨u, hu⟩
      · rintro ⟨y, hy⟩
        exact ⟨y, (L.mt _ _).mpr (.inl hy)⟩
    cases e1 : hasM m z with
    | true => exact (hasM_iff.mpr (this.mp (hasM_iff.mp e1))).symm
    | false =>
      cases e2 : hasM g z with
      | false => rfl
      | true => rw [hasM_iff.mpr (this.mpr (hasM_iff.mp e2))] at e1; cases e1

theorem countP_or_of {β : Type} (p q : β → Bool) : ∀ (l : List β), (∀ x ∈ l, ¬ (p x = true ∧ q x = true)) → l.countP (fun x => p x || q x) = l.countP p + l.countP q
  | [], _ => rfl
  | x :: l, h => by
    have ih := countP_or_of p q l fun y hy => h y (List.mem_cons_of_mem _ hy)
    have hx := h x (by simp)
    rw [List.countP_cons, List.countP_cons, List.countP_cons, ih]
    cases e1 : p x <;> cases e2 : q x <;> simp_all <;> omega

/-- how many corners, how many inner ones -/
theorem Lay.counts (L : Lay g m r k s) {C C' : List (List Sd)} (cv : Cov (Va g) (Ph g) C) (cv' : Cov (Va m) (Ph m) C') : C'.length = C.length + (s - 1 - k) ∧ C'.countP (inn m) = C.countP (inn g) + (k - 1) := by
  have kb := L.kb
  have ks := L.ks
  have k1 := L.k1
  have cg := L.cov cv
  constructor
  · rw [cv'.length L.okm.bi cg, grown_length]
  · have hinn : ∀ c d, Co m c → Co m d → (∀ y, y ∈ c ↔ y ∈ d) → inn m c = inn m d := by
      intro c d o o' sm
      obtain ⟨a, z, ea, ez, f⟩ := o.fin
      obtain ⟨a', z', ea', ez', f'⟩ := o'.fin
      rw [inn_of ez, inn_of ez']
      have key : ∀ {c d : List Sd} {z z' : Sd}, Co m c → Co m d → (∀ y, y ∈ c ↔ y ∈ d) → c.getLast? = some z → d.getLast? = some z' → hasM m z = false → hasM m z' = false := by
        intro c d z z' o o' sm ez ez' h
        have hz := List.mem_of_getLast? ez
        have e := o'.last ((sm z).mp hz) (fun y ⟨u, hu, _⟩ => by rw [hasM_iff.mpr ⟨u, hu⟩] at h; cases h)
        rw [ez'] at e
        cases e
        exact h
      cases h1 : hasM m z with
      | false => exact (key o o' sm ez ez' h1).symm
      | true =>
        cases h2 : hasM m z' with
        | true => rfl
        | false => rw [key o' o (fun y => (sm y).symm) ez' ez h2] at h1; cases h1
    rw [cv'.count L.okm.bi cg (inn m) hinn]
    unfold grown
    rw [List.countP_append, List.countP_map]
    have z0 : ((List.range (s - 1 - k)).map fun i => [(g.1.length, k + 1 + i)]).countP (inn m) = 0 := by
      rw [List.countP_eq_zero]
      intro c hc
      obtain ⟨i, hi, rfl⟩ := List.mem_map.mp hc
      have := List.mem_range.mp hi
      rw [inn_of (z := (g.1.length, k + 1 + i)) rfl, hasM_false fun y hy => L.ph_free (i := k + 1 + i) (by omega) _ ⟨y, hy, rfl⟩]
      exact Bool.false_ne_true
    rw [z0, Nat.add_zero]
    have e1 : C.countP (inn m ∘ grow r g.1.length k) = C.countP (fun c => inn g c || ((r.take k).drop 1).any fun z => decide (c.getLast? = some z)) := by
      refine List.countP_congr fun c hc => ?_
      show inn m (grow r g.1.length k c) = true ↔ _
      rw [L.inn_grow (cv.orb c hc)]
    have rimS : ∀ z ∈ (r.take k).drop 1, Rim g z := fun z hz => L.rim.orb.val z (List.mem_of_mem_take (List.mem_of_mem_drop hz))
    rw [e1, countP_or_of, ends_count L.ok.bi cv ((r.take k).drop 1) ((L.rim.orb.nd.sublist (List.take_sublist _ _)).sublist (List.drop_sublist _ _)) (fun z hz => ⟨(rimS z hz).va, (rimS z hz).end_⟩)]
    · rw [List.length_drop, List.length_take]
      omega
    · rintro c hc ⟨h1, h2⟩
      obtain ⟨x, hx, e⟩ := List.any_eq_true.mp h2
      rw [decide_eq_true_eq] at e
      rw [inn_of e, hasM_false (rimS x hx).no] at h1
      cases h1
end
end WM
/-! a tile laid on: the rim, its letters, one piece, one rim, no tile twice; ties in order -/
set_option linter.all false
namespace WM
section
variable {g m : Gl} {r : List Sd} {k s : Nat}

theorem ch_get {α : Type} {R : α → α → Prop} : ∀ {l : List α}, (∀ i (h : i + 1 < l.length), R l[i] l[i + 1]) → Ch R l
  | [], _ => trivial
  | [_], _ => trivial
  | x :: y :: l, h => ⟨h 0 (by simp), ch_get fun i hi => by
    have := h (i + 1) (by simpa using hi)
    simpa using this⟩

/-- the corner that ends with a rim side, and where it begins -/
theorem Lay.cor (L : Lay g m r k s) {j : Nat} (h : j < r.length) : ∃ c i, ∃ hi : i < r.length, Co g c ∧ c.getLast? = some r[j] ∧ c.head? = some (nx g r[i]) ∧ (j ≠ 0 → i = j - 1) ∧ (j = 0 → i = r.length - 1) := by
  by_cases h0 : j = 0
  · subst h0
    obtain ⟨_, c, o, e1, e2⟩ := L.rim.back h
    exact ⟨c, r.length - 1, by omega, o, e2, e1, fun z => absurd rfl z, fun _ => rfl⟩
  · have f := L.rim.step (j := j - 1) (by omega)
    simp only [show j - 1 + 1 = j by omega] at f
    obtain ⟨_, c, o, e1, e2⟩ := f
    exact ⟨c, j - 1, by omega, o, e2, e1, fun _ => rfl, fun z => absurd z h0⟩

theorem Lay.fo1 (L : Lay g m r k s) {i : Nat} (h : k ≤ i) (hs : i + 1 < s) : Fo m (g.1.length, i) (g.1.length, i + 1) :=
  ⟨L.va_new.mpr (by omega), _, L.single (i := i + 1) (by omega) hs, by rw [L.nx_new hs]; rfl, rfl⟩
theorem Lay.fo2 (L : Lay g m r k s) : Fo m (g.1.length, s - 1) (r[k]'L.kb) := by
  have kb := L.kb
  have := L.s3
  obtain ⟨c, i, hi, o, e1, e2, _⟩ := L.cor kb
  refine ⟨L.va_new.mpr (by omega), _, L.grow_orb o, ?_, ?_⟩
  · rw [grow_of e1, L.idx kb, if_neg (by omega), if_pos rfl, L.nx_last]
    rfl
  · rw [grow_of e1, L.idx kb, if_neg (by omega), if_pos rfl, List.getLast?_cons, e1]
    rfl
theorem Lay.fo3 (L : Lay g m r k s) {j : Nat} (h : k ≤ j) (hj : j + 1 < r.length) : Fo m (r[j]'(by omega)) r[j + 1] := by
  obtain ⟨c, i, hi, o, e1, e2, e3, _⟩ := L.cor hj
  have := e3 (by omega)
  simp only [this, Nat.add_sub_cancel] at e2
  have v := (L.rim_at (j := j) (by omega)).va
  have eg : grow r g.1.length k c = c := by rw [grow_of e1, L.idx hj, if_neg (by omega), if_neg (by omega)]
  have o' := L.grow_orb o
  rw [eg] at o'
  exact ⟨(L.va_old v.1).mpr v, c, o', by rw [e2, L.nx_old v], e1⟩
theorem Lay.fo4 (L : Lay g m r k s) : Fo m (r[r.length - 1]'(by have := L.kb; omega)) (g.1.length, k) := by
  have kb := L.kb
  have k1 := L.k1
  obtain ⟨c, i, hi, o, e1, e2, _, e4⟩ := L.cor (j := 0) (by omega)
  have := e4 rfl
  simp only [this] at e2
  have v := (L.rim_at (j := r.length - 1) (by omega)).va
  have eg : grow r g.1.length k c = c ++ [(g.1.length, k)] := by rw [grow_of e1, L.idx (by omega), if_pos (by omega), Nat.sub_zero]
  have o' := L.grow_orb o
  rw [eg] at o'
  exact ⟨(L.va_old v.1).mpr v, _, o', by rw [List.head?_append, e2, L.nx_old v]; rfl, by simp⟩

/-- the new rim, from the new tile's first free side on -/
abbrev rimN (n k s : Nat) (r : List Sd) : List Sd := (List.range (s - k)).map (fun i => (n, k + i)) ++ r.drop k
theorem rimN_length (n : Nat) : (rimN n k s r).length = (s - k) + (r.length - k) := by
  unfold rimN
  rw [List.length_append, List.length_map, List.length_range, List.length_drop]
theorem rimN_l {n i : Nat} (h : i < s - k) (h' : i < (rimN n k s r).length) : (rimN n k s r)[i] = (n, k + i) := by
  unfold rimN
  rw [List.getElem_append_left (by rw [List.length_map, List.length_range]; exact h)]
  simp
theorem rimN_r {n i : Nat} (h : i < (rimN n k s r).length) (h' : s - k ≤ i) (h2 : k + (i - (s - k)) < r.length) : (rimN n k s r)[i] = r[k + (i - (s - k))] := by
  unfold rimN
  rw [List.getElem_append_right (by rw [List.length_map, List.length_range]; exact h')]
  simp

theorem Lay.rim_old (L : Lay g m r k s) {j : Nat} (h : k ≤ j) (hj : j < r.length) : Rim m r[j] := by
  have v := (L.rim_at hj).va
  refine rim_of_end ((L.va_old v.1).mpr v) fun y hy => ?_
  exact (L.rim_at hj).end_ y ((L.ph_old v (fun i hi e => by
    have := L.ix hj (by omega) e
    omega) y).mp hy)
theorem Lay.rim_new (L : Lay g m r k s) {i : Nat} (h : k ≤ i) (hs : i < s) : Rim m (g.1.length, i) := rim_of_end (L.va_new.mpr hs) fun y => L.ph_free h y

theorem Lay.isRim (L : Lay g m r k s) : IsRim m (rimN g.1.length k s r) := by
  have kb := L.kb
  have ks := L.ks
  have k1 := L.k1
  have hlen := rimN_length (r := r) (k := k) (s := s) g.1.length
  have hF : Fo m (r[r.length - 1]'(by omega)) (g.1.length, k) := L.fo4
  refine ⟨⟨?_, ?_, ?_, ?_⟩, ?_⟩
  · unfold rimN
    refine List.nodup_append.mpr ⟨?_, L.rim.orb.nd.sublist (List.drop_sublist _ _), ?_⟩
    · unfold List.Nodup
      rw [List.pairwise_map]
      refine List.Pairwise.imp ?_ List.nodup_range
      intro a b h e
      have := (Prod.mk.inj e).2
      omega
    · intro x hx y hy e
      obtain ⟨i, _, rfl⟩ := List.mem_map.mp hx
      exact L.old_ne (L.rim.orb.val y (List.mem_of_mem_drop hy)).va _ e.symm
  · intro x hx
    obtain ⟨i, hi, rfl⟩ := List.mem_iff_getElem.mp hx
    by_cases h : i < s - k
    · rw [rimN_l h]
      exact L.rim_new (by omega) (by omega)
    · rw [rimN_r hi (by omega) (by omega)]
      exact L.rim_old (by omega) (by omega)
  · refine ch_get fun i hi => ?_
    by_cases h : i + 1 < s - k
    · rw [rimN_l (by omega), rimN_l h]
      exact L.fo1 (by omega) (by omega)
    · by_cases h2 : i + 1 = s - k
      · rw [rimN_l (by omega), rimN_r hi (by omega) (by omega)]
        have := L.fo2
        simp only [show k + (i + 1 - (s - k)) = k by omega, show k + i = s - 1 by omega]
        exact this
      · rw [rimN_r (by omega) (by omega) (by omega), rimN_r hi (by omega) (by omega)]
        have := L.fo3 (j := k + (i - (s - k))) (by omega) (by omega)
        simp only [show k + (i + 1 - (s - k)) = k + (i - (s - k)) + 1 by omega]
        exact this
  all_goals
    have eh : (rimN g.1.length k s r).head? = some (g.1.length, k) := by
      rw [List.head?_eq_getElem?, List.getElem?_eq_getElem (by omega), rimN_l (by omega)]
      rfl
    have el : (rimN g.1.length k s r).getLast? = some (r[r.length - 1]'(by omega)) := by
      rw [List.getLast?_eq_getElem?, List.getElem?_eq_getElem (by omega), rimN_r _ (by omega) (by omega)]
      simp only [show k + ((rimN g.1.length k s r).length - 1 - (s - k)) = r.length - 1 by omega]
  · exact ⟨_, _, eh, el, .inr hF⟩
  · exact ⟨_, _, eh, el, hF⟩
theorem rimN_head (n : Nat) (h : k < s) : (rimN n k s r).head? = some (n, k) := by
  unfold rimN
  rw [show s - k = (s - k - 1) + 1 by omega, List.range_succ_eq_map]
  rfl

/-- the letters behind a laying -/
def wordN (ws : List Nat) (k s : Nat) : List Nat := (ws.getD 0 0 + 1) :: (List.replicate (s - k - 1) 1 ++ (ws.getD k 0 + 1) :: ws.drop (k + 1))

theorem isWord_app {g : Gl} {r q : List Sd} {ws us : List Nat} (h : IsWord g r ws) (h' : IsWord g q us) : IsWord g (r ++ q) (ws ++ us) := by
  refine ⟨by rw [List.length_append, List.length_append, h.1, h'.1], fun i x w e1 e2 => ?_⟩
  by_cases hi : i < r.length
  · rw [List.getElem?_append_left hi] at e1
    rw [List.getElem?_append_left (by rw [h.1]; exact hi)] at e2
    exact h.2 i x w e1 e2
  · rw [List.getElem?_append_right (by omega)] at e1
    rw [List.getElem?_append_right (by rw [h.1]; omega), h.1] at e2
    exact h'.2 _ x w e1 e2
theorem isWord_one {g : Gl} {x : Sd} {w : Nat} (h : ∃ c, Co g c ∧ x ∈ c ∧ w = c.length) : IsWord g [x] [w] := by
  refine ⟨rfl, fun i y v e1 e2 => ?_⟩
  cases i with
  | zero =>
    cases e1
    cases e2
    exact h
  | succ i => simp at e1

theorem Lay.word (L : Lay g m r k s) {ws : List Nat} (W : IsWord g r ws) : IsWord m (rimN g.1.length k s r) (wordN ws k s) := by
  have kb := L.kb
  have ks := L.ks
  have k1 := L.k1
  have wl := W.1
  -- the letter at rim side j is the length of the corner that ends there
  have at_ : ∀ j (h : j < r.length) (c : List Sd), Co g c → c.getLast? = some r[j] → ws[j]? = some c.length := by
    intro j h c o e
    have h2 : j < ws.length := by omega
    obtain ⟨d, o', m', e'⟩ := W.2 j r[j] ws[j] (List.getElem?_eq_getElem h) (List.getElem?_eq_getElem h2)
    rw [List.getElem?_eq_getElem h2, e', o'.len L.ok.bi o m' (List.mem_of_getLast? e)]
  have es : rimN g.1.length k s r = [(g.1.length, k)] ++ ((List.range (s - k - 1)).map (fun i => (g.1.length, k + 1 + i)) ++ ([r[k]] ++ r.drop (k + 1))) := by
    unfold rimN
    rw [show s - k = (s - k - 1) + 1 by omega, List.range_succ_eq_map, List.map_cons, List.map_map, List.singleton_append, List.cons_append, show ([r[k]] ++ r.drop (k + 1)) = r.drop k from List.getElem_cons_drop kb]
    congr 1
    rw [show s - k - 1 + 1 - 1 = s - k - 1 by omega]
    congr 1
    refine List.map_congr_left fun i _ => ?_
    show (g.1.length, k + (i + 1)) = (g.1.length, k + 1 + i)
    congr 1
    omega
  have ew : wordN ws k s = [ws.getD 0 0 + 1] ++ (List.replicate (s - k - 1) 1 ++ ([ws.getD k 0 + 1] ++ ws.drop (k + 1))) := rfl
  rw [es, ew]
  refine isWord_app (isWord_one ?_) (isWord_app ?_ (isWord_app (isWord_one ?_) ?_))
  · obtain ⟨c, i, hi, o, e1, _⟩ := L.cor (j := 0) (by omega)
    refine ⟨_, L.grow_orb o, ?_, ?_⟩
    · rw [grow_of e1, L.idx (by omega), if_pos (by omega)]
      simp
    · rw [grow_of e1, L.idx (by omega), if_pos (by omega), List.length_append, List.getD_eq_getElem?_getD, at_ 0 (by omega) c o e1]
      rfl
  · refine ⟨by simp, fun i x w e1 e2 => ?_⟩
    rw [List.getElem?_map] at e1
    rw [List.getElem?_replicate] at e2
    by_cases hi : i < s - k - 1
    · rw [if_pos hi] at e2
      rw [List.getElem?_range hi] at e1
      cases e1
      cases e2
      exact ⟨_, L.single (i := k + 1 + i) (by omega) (by omega), by simp, rfl⟩
    · rw [if_neg hi] at e2
      cases e2
  · obtain ⟨c, i, hi, o, e1, _⟩ := L.cor (j := k) kb
    refine ⟨_, L.grow_orb o, mem_grow (List.mem_of_getLast? e1), ?_⟩
    rw [grow_of e1, L.idx kb, if_neg (by omega), if_pos rfl, List.length_cons, List.getD_eq_getElem?_getD, at_ k kb c o e1]
    rfl
  · refine ⟨by rw [List.length_drop, List.length_drop, wl], fun i x w e1 e2 => ?_⟩
    rw [List.getElem?_drop] at e1 e2
    obtain ⟨h, e3⟩ := List.getElem?_eq_some_iff.mp e1
    obtain ⟨c, i', hi, o, e4, _⟩ := L.cor h
    rw [at_ _ h c o e4] at e2
    cases e2
    refine ⟨_, L.grow_orb o, mem_grow (by rw [← e3]; exact List.mem_of_getLast? e4), ?_⟩
    rw [grow_of e4, L.idx h, if_neg (by omega), if_neg (by omega)]

/-! ### discs -/
/-- the step from a tile to a neighbour -/
def Nb (g : Gl) (t u : Nat) : Prop := ∃ i j, Mt g (t, i) (u, j)
inductive Rc (g : Gl) (t : Nat) : Nat → Prop
  | refl : Rc g t t
  | step {u v : Nat} : Rc g t u → Nb g u v → Rc g t v
def Conn (g : Gl) : Prop := ∀ u, u < g.1.length → Rc g 0 u
def OneRim (g : Gl) : Prop := ∃ q, IsRim g q ∧ ∀ x, Rim g x → x ∈ q
def NoTwice (g : Gl) : Prop := ∀ c, Co g c → (c.map (·.1)).Nodup
/-- worth one, counted by corners that are a cover -/
def Worth1 (g : Gl) : Prop := ∀ C, Cov (Va g) (Ph g) C → (C.length : Int) - ((g.1.sum : Nat) - (g.2.length : Nat)) + (g.1.length : Nat) = 1
structure Disc (g : Gl) : Prop where
  conn : Conn g
  rim : OneRim g
  worth : Worth1 g
  twice : NoTwice g

theorem Lay.nb (L : Lay g m r k s) {t u : Nat} : Nb g t u → Nb m t u := fun ⟨i, j, h⟩ => ⟨i, j, (L.mt _ _).mpr (.inl h)⟩
theorem Lay.rc (L : Lay g m r k s) {t u : Nat} (h : Rc g t u) : Rc m t u := by
  induction h with
  | refl => exact .refl
  | step _ n ih => exact .step ih (L.nb n)
theorem Lay.nb_new (L : Lay g m r k s) : Nb m (r[0]'(by have := L.kb; omega)).1 g.1.length := by
  have kb := L.kb
  have k1 := L.k1
  exact ⟨(r[0]'(by omega)).2, k - 1 - 0, (L.mt _ _).mpr (.inr ⟨0, by omega, .inl ⟨rfl, rfl⟩⟩)⟩
theorem Lay.conn (L : Lay g m r k s) (h : Conn g) : Conn m := by
  have kb := L.kb
  have k1 := L.k1
  intro u hu
  rw [L.len] at hu
  by_cases e : u < g.1.length
  · exact L.rc (h u e)
  · have : u = g.1.length := by omega
    subst this
    exact .step (L.rc (h _ (L.rim_at (j := 0) (by omega)).va.1)) L.nb_new
theorem Lay.oneRim (L : Lay g m r k s) (h : OneRim g) : OneRim m := by
  have kb := L.kb
  obtain ⟨q, hq, all⟩ := h
  refine ⟨_, L.isRim, fun x hx => ?_⟩
  rw [List.mem_iff_getElem]
  have hl := rimN_length (r := r) (k := k) (s := s) g.1.length
  have ks := L.ks
  rcases L.va.mp hx.va with v | ⟨i, hi, rfl⟩
  · have rx : Rim g x := ⟨v, fun y hy => hx.no y ((L.mt _ _).mpr (.inl hy))⟩
    have r0 := L.rim_at (j := 0) (by omega)
    have mx : x ∈ r := (L.rim.orb.same L.ok.biF hq.orb (List.getElem_mem (by omega)) (all _ r0) x).mpr (all x rx)
    obtain ⟨j, hj, rfl⟩ := List.mem_iff_getElem.mp mx
    have jk : k ≤ j := by
      apply Nat.le_of_not_lt
      intro z
      exact hx.no _ ((L.mt _ _).mpr (.inr ⟨j, z, .inl ⟨rfl, rfl⟩⟩))
    refine ⟨s - k + (j - k), by omega, ?_⟩
    rw [rimN_r _ (by omega) (by omega)]
    simp only [show k + (s - k + (j - k) - (s - k)) = j by omega]
  · have ik : k ≤ i := by
      apply Nat.le_of_not_lt
      intro z
      exact hx.no (r[k - 1 - i]'(by omega)) ((L.mt _ _).mpr (.inr ⟨k - 1 - i, by omega, .inr ⟨rfl, by congr 1; omega⟩⟩))
    refine ⟨i - k, by omega, ?_⟩
    rw [rimN_l (by omega)]
    congr 1
    omega
theorem perm_of_same {β : Type} [DecidableEq β] {c d : List β} (hc : c.Nodup) (hd : d.Nodup) (h : ∀ y, y ∈ c ↔ y ∈ d) : c.Perm d := by
  rw [List.perm_iff_count]
  intro x
  rw [hc.count, hd.count]
  by_cases e : x ∈ c
  · rw [if_pos e, if_pos ((h x).mp e)]
  · rw [if_neg e, if_neg fun z => e ((h x).mpr z)]
theorem Orb.perm {g : Gl} (ok : Ok g) {c d : List Sd} (o : Co g c) (o' : Co g d) {x : Sd} (h : x ∈ c) (h' : x ∈ d) : c.Perm d :=
  perm_of_same o.nd o'.nd (o.same ok.bi o' h h')
theorem Lay.noTwice (L : Lay g m r k s) {C : List (List Sd)} (cv : Cov (Va g) (Ph g) C) (h : NoTwice g) : NoTwice m := by
  intro c o
  obtain ⟨x, hx⟩ := List.exists_mem_of_ne_nil c o.ne
  have cg := L.cov cv
  obtain ⟨d, hd, hxd⟩ := List.mem_flatten.mp ((cg.all x).mpr (o.val x hx))
  have od := cg.orb d hd
  have p := (Orb.perm L.okm o od hx hxd).map (·.1)
  rw [p.nodup_iff]
  unfold grown at hd
  rcases List.mem_append.mp hd with hd | hd
  · obtain ⟨e, he, rfl⟩ := List.mem_map.mp hd
    have oe := cv.orb e he
    have ne := h e oe
    have nin : g.1.length ∉ e.map (·.1) := fun z => by
      obtain ⟨y, hy, ey⟩ := List.mem_map.mp z
      have := (oe.val y hy).1
      omega
    obtain ⟨a, z, ea, ez, _⟩ := oe.fin
    rw [grow_of ez]
    split
    · rw [List.map_append]
      exact List.nodup_append.mpr ⟨ne, by simp, fun a ha b hb e => by
        rw [List.map_singleton, List.mem_singleton] at hb
        rw [e, hb] at ha
        exact nin ha⟩
    · split
      · exact List.nodup_cons.mpr ⟨nin, ne⟩
      · exact ne
  · obtain ⟨i, _, rfl⟩ := List.mem_map.mp hd
    simp
theorem Lay.disc (L : Lay g m r k s) {C : List (List Sd)} (cv : Cov (Va g) (Ph g) C) (hs : m.2.length = g.2.length + k) (h : Disc g) : Disc m := by
  have ks := L.ks
  refine ⟨L.conn h.conn, L.oneRim h.rim, fun C' cv' => ?_, L.noTwice cv h.twice⟩
  have h1 := h.worth C cv
  have h2 := (L.counts cv cv').1
  rw [h2, hs, L.len, L.sizes, List.sum_append, List.sum_singleton]
  omega
end

/-! ### ties in order -/
def leT (a b : Tie) : Bool := !decide (ltT b a)
theorem ltS_irrefl (x : Sd) : ¬ ltS x x := fun h => by unfold ltS at h; omega
theorem ltS_trans {x y z : Sd} (h : ltS x y) (k : ltS y z) : ltS x z := by unfold ltS at *; omega
theorem ltS_total (x y : Sd) : ltS x y ∨ x = y ∨ ltS y x := by
  obtain ⟨a, b⟩ := x
  obtain ⟨c, d⟩ := y
  unfold ltS
  by_cases h : a = c
  · by_cases h2 : b = d
    · subst h; subst h2; exact .inr (.inl rfl)
    · simp only; omega
  · simp only; omega
theorem ltT_irrefl (x : Tie) : ¬ ltT x x := fun h => by
  unfold ltT at h
  rcases h with h | ⟨_, h⟩
  · exact ltS_irrefl _ h
  · exact ltS_irrefl _ h
theorem ltT_trans {x y z : Tie} (h : ltT x y) (k : ltT y z) : ltT x z := by
  unfold ltT at *
  rcases h with h | ⟨e, h⟩
  · rcases k with k | ⟨e', k⟩
    · exact .inl (ltS_trans h k)
    · exact .inl (e' ▸ h)
  · rcases k with k | ⟨e', k⟩
    · exact .inl (e ▸ k)
    · exact .inr ⟨e.trans e', ltS_trans h k⟩
theorem ltT_total (x y : Tie) : ltT x y ∨ x = y ∨ ltT y x := by
  obtain ⟨a, b⟩ := x
  obtain ⟨c, d⟩ := y
  unfold ltT
  rcases ltS_total a c with h | rfl | h
  · exact .inl (.inl h)
  · rcases ltS_total b d with h | rfl | h
    · exact .inl (.inr ⟨rfl, h⟩)
    · exact .inr (.inl rfl)
    · exact .inr (.inr (.inr ⟨rfl, h⟩))
  · exact .inr (.inr (.inl h))
theorem leT_trans (a b c : Tie) (h : leT a b = true) (k : leT b c = true) : leT a c = true := by
  unfold leT at *
  simp only [Bool.not_eq_true', decide_eq_false_iff_not] at *
  intro z
  rcases ltT_total a b with q | rfl | q
  · exact k (ltT_trans z q)
  · exact k z
  · exact h q
theorem leT_total (a b : Tie) : (leT a b || leT b a) = true := by
  unfold leT
  rw [Bool.or_eq_true]
  simp only [Bool.not_eq_true', decide_eq_false_iff_not]
  rcases ltT_total a b with q | rfl | q
  · exact .inl fun z => ltT_irrefl _ (ltT_trans q z)
  · exact .inl (ltT_irrefl _)
  · exact .inr fun z => ltT_irrefl _ (ltT_trans q z)
def sortT (l : List Tie) : List Tie := l.mergeSort leT
theorem sortT_perm (l : List Tie) : (sortT l).Perm l := List.mergeSort_perm l leT
theorem sortT_srt {l : List Tie} (h : l.Nodup) : (sortT l).Pairwise ltT := by
  have p := List.pairwise_mergeSort leT_trans leT_total l
  have n : (sortT l).Nodup := (sortT_perm l).nodup_iff.mpr h
  have q : (sortT l).Pairwise fun a b => leT a b = true ∧ a ≠ b := p.and n
  refine q.imp fun {a b} ⟨h1, h2⟩ => ?_
  unfold leT at h1
  simp only [Bool.not_eq_true', decide_eq_false_iff_not] at h1
  rcases ltT_total a b with q | q | q
  · exact q
  · exact absurd q h2
  · exact absurd q h1
theorem srt_nodup {l : List Tie} (h : l.Pairwise ltT) : l.Nodup := h.imp fun {a b} q => show a ≠ b from fun e => ltT_irrefl a (by rw [← e] at q; exact q)
theorem srt_eq : ∀ {l q : List Tie}, l.Pairwise ltT → q.Pairwise ltT → (∀ x, x ∈ l ↔ x ∈ q) → l = q
  | [], [], _, _, _ => rfl
  | [], b :: q, _, _, h => absurd ((h b).mpr (by simp)) (by simp)
  | a :: l, [], _, _, h => absurd ((h a).mp (by simp)) (by simp)
  | a :: l, b :: q, h1, h2, h => by
    obtain ⟨a1, a2⟩ := List.pairwise_cons.mp h1
    obtain ⟨b1, b2⟩ := List.pairwise_cons.mp h2
    have e : a = b := by
      rcases List.mem_cons.mp ((h a).mp (by simp)) with e | e
      · exact e
      · rcases List.mem_cons.mp ((h b).mpr (by simp)) with e' | e'
        · exact e'.symm
        · exact absurd (ltT_trans (a1 b e') (b1 a e)) (ltT_irrefl a)
    subst e
    rw [srt_eq a2 b2 fun x => ⟨fun hx => ?_, fun hx => ?_⟩]
    · rcases List.mem_cons.mp ((h x).mp (List.mem_cons_of_mem _ hx)) with e | e
      · subst e
        exact absurd (a1 x hx) (ltT_irrefl x)
      · exact e
    · rcases List.mem_cons.mp ((h x).mpr (List.mem_cons_of_mem _ hx)) with e | e
      · subst e
        exact absurd (b1 x hx) (ltT_irrefl x)
      · exact e
theorem sortT_id {l : List Tie} (h : l.Pairwise ltT) : sortT l = l := srt_eq (sortT_srt (srt_nodup h)) h fun x => (sortT_perm l).mem_iff
theorem sortT_congr {l q : List Tie} (n : l.Nodup) (h : l.Perm q) : sortT l = sortT q :=
  srt_eq (sortT_srt n) (sortT_srt (h.nodup_iff.mp n)) fun x => by rw [(sortT_perm l).mem_iff, (sortT_perm q).mem_iff, h.mem_iff]
end WM
/-! gluings that are drawn; the laid one; the taken one; its words -/
set_option linter.all false
namespace WM

theorem mt_sort {l : List Nat} {ts : List Tie} {x y : Sd} : Mt (l, sortT ts) x y ↔ (x, y) ∈ ts ∨ (y, x) ∈ ts := by
  show (x, y) ∈ sortT ts ∨ (y, x) ∈ sortT ts ↔ _
  rw [(sortT_perm ts).mem_iff, (sortT_perm ts).mem_iff]
theorem ok_sort {l : List Nat} {ts : List Tie} (one : 1 ≤ l.length) (few : l.length ≤ 8) (size : ∀ s ∈ l, 3 ≤ s ∧ s ≤ 7) (val : ∀ p ∈ ts, Va (l, ts) p.1 ∧ Va (l, ts) p.2)
    (lt : ∀ p ∈ ts, ltS p.1 p.2) (nd : ts.Nodup) (once : ∀ x y z, Mt (l, ts) x y → Mt (l, ts) x z → y = z) : Ok (l, sortT ts) where
  one := one
  few := few
  size := size
  val := fun p hp => val p ((sortT_perm ts).mem_iff.mp hp)
  lt := fun p hp => lt p ((sortT_perm ts).mem_iff.mp hp)
  srt := sortT_srt nd
  once := fun x y z h1 h2 => once x y z (mt_sort.mp h1) (mt_sort.mp h2)

/-! ### one tile -/
def oneG (s : Nat) : Gl := ([s], [])
theorem ok_one {s : Nat} (h3 : 3 ≤ s) (h7 : s ≤ 7) : Ok (oneG s) where
  one := Nat.le_refl _
  few := by show 1 ≤ 8; omega
  size := fun t ht => by
    have : t = s := by simpa [oneG] using ht
    omega
  val := fun p hp => by cases hp
  lt := fun p hp => by cases hp
  srt := List.Pairwise.nil
  once := fun x y z h => by rcases h with h | h <;> cases h
/-- one rim, of two sides or more -/
def Pl (g : Gl) : Prop := ∃ q, IsRim g q ∧ (∀ x, Rim g x → x ∈ q) ∧ 2 ≤ q.length
theorem Pl.len {g : Gl} (ok : Ok g) (p : Pl g) {r : List Sd} (h : IsRim g r) : 2 ≤ r.length := by
  obtain ⟨q, hq, all, l⟩ := p
  obtain ⟨x, hx⟩ := List.exists_mem_of_ne_nil r h.orb.ne
  rw [h.orb.len ok.biF hq.orb hx (all x (h.orb.val x hx))]
  exact l
theorem Pl.some {g : Gl} (p : Pl g) : ∃ x, Rim g x := by
  obtain ⟨q, hq, _⟩ := p
  obtain ⟨x, hx⟩ := List.exists_mem_of_ne_nil q hq.orb.ne
  exact ⟨x, hq.orb.val x hx⟩
theorem pl_one {s : Nat} (h3 : 3 ≤ s) : Pl (oneG s) := by
  have nom : ∀ x y, ¬ Mt (oneG s) x y := fun x y h => by rcases h with h | h <;> cases h
  have nph : ∀ x y, ¬ Ph (oneG s) x y := fun x y ⟨u, h, _⟩ => nom _ _ h
  have va : ∀ i, Va (oneG s) (0, i) ↔ i < s := fun i => by
    show 0 < 1 ∧ i < s ↔ i < s
    omega
  have co : ∀ i, i < s → Co (oneG s) [(0, i)] := fun i hi => ⟨by simp, fun x hx => by
    rw [List.mem_singleton] at hx
    rw [hx]
    exact (va i).mpr hi, trivial, (0, i), (0, i), rfl, rfl, .inl ⟨fun y => nph _ y, fun y => nph y _⟩⟩
  have fo : ∀ i j, i < s → j = (i + 1) % s → Fo (oneG s) (0, i) (0, j) := fun i j hi e => ⟨(va i).mpr hi, [(0, j)], co j (by rw [e]; exact Nat.mod_lt _ (by omega)), by rw [e]; rfl, rfl⟩
  have hl : ((List.range s).map fun i => ((0, i) : Sd)).length = s := by simp
  have hg : ∀ i (h : i < ((List.range s).map fun i => ((0, i) : Sd)).length), ((List.range s).map fun i => ((0, i) : Sd))[i] = (0, i) := fun i h => by simp
  have rm : ∀ i, i < s → Rim (oneG s) (0, i) := fun i hi => ⟨(va i).mpr hi, nom _⟩
  have back : Fo (oneG s) (0, s - 1) (0, 0) := fo (s - 1) 0 (by omega) (by rw [show s - 1 + 1 = s by omega, Nat.mod_self])
  have eh : ((List.range s).map fun i => ((0, i) : Sd)).head? = some (0, 0) := by
    rw [List.head?_eq_getElem?, List.getElem?_eq_getElem (by omega), hg]
  have el : ((List.range s).map fun i => ((0, i) : Sd)).getLast? = some (0, s - 1) := by
    rw [List.getLast?_eq_getElem?, List.getElem?_eq_getElem (by omega), hg, hl]
  refine ⟨(List.range s).map fun i => (0, i), ⟨⟨?_, fun x hx => ?_, ch_get fun i hi => ?_, (0, 0), (0, s - 1), eh, el, .inr back⟩, (0, 0), (0, s - 1), eh, el, back⟩, fun x hx => ?_, by omega⟩
  · unfold List.Nodup
    rw [List.pairwise_map]
    exact List.Pairwise.imp (fun {a b} h e => h (Prod.mk.inj e).2) List.nodup_range
  · obtain ⟨i, hi, rfl⟩ := List.mem_map.mp hx
    exact rm i (List.mem_range.mp hi)
  · rw [hg, hg]
    exact fo i (i + 1) (by omega) (Nat.mod_eq_of_lt (by omega)).symm
  · obtain ⟨t, i⟩ := x
    have h1 : t < 1 := hx.va.1
    have : t = 0 := by omega
    subst this
    exact List.mem_map.mpr ⟨i, List.mem_range.mpr ((va i).mp hx.va), rfl⟩

/-! ### a tile laid -/
def newT (n k : Nat) (r : List Sd) : List Tie := (List.range k).map fun j => (r.getD j (0, 0), (n, k - 1 - j))
def layG (g : Gl) (r : List Sd) (k s : Nat) : Gl := (g.1 ++ [s], sortT (g.2 ++ newT g.1.length k r))
theorem newT_length (n k : Nat) (r : List Sd) : (newT n k r).length = k := by simp [newT]
theorem mem_newT {n k : Nat} {r : List Sd} (h : k ≤ r.length) {p : Tie} : p ∈ newT n k r ↔ ∃ j, ∃ hj : j < k, p = (r[j]'(by omega), (n, k - 1 - j)) := by
  unfold newT
  rw [List.mem_map]
  constructor
  · rintro ⟨j, hj, rfl⟩
    have hj := List.mem_range.mp hj
    exact ⟨j, hj, by rw [List.getD_eq_getElem?_getD, List.getElem?_eq_getElem (by omega)]; rfl⟩
  · rintro ⟨j, hj, rfl⟩
    exact ⟨j, List.mem_range.mpr hj, by rw [List.getD_eq_getElem?_getD, List.getElem?_eq_getElem (by omega)]; rfl⟩
theorem va_app {l l' : List Nat} {ts us : List Tie} {x : Sd} (h : Va (l, ts) x) : Va (l ++ l', us) x := by
  obtain ⟨h1, h2⟩ := h
  have h1 : x.1 < l.length := h1
  refine ⟨by show x.1 < (l ++ l').length; rw [List.length_append]; omega, ?_⟩
  have e : sz (l ++ l', us) x.1 = sz (l, ts) x.1 := by
    unfold sz
    show (l ++ l').getD x.1 0 = l.getD x.1 0
    rw [List.getD_eq_getElem?_getD, List.getD_eq_getElem?_getD, List.getElem?_append_left h1]
  rw [e]
  exact h2
theorem lay_new_va {l : List Nat} {ts : List Tie} {s i : Nat} (h : i < s) : Va (l ++ [s], ts) (l.length, i) := by
  refine ⟨by show l.length < (l ++ [s]).length; rw [List.length_append]; simp, ?_⟩
  show i < (l ++ [s]).getD l.length 0
  rw [List.getD_eq_getElem?_getD, List.getElem?_append_right (Nat.le_refl _)]
  simpa using h
theorem lay_of {g : Gl} {r : List Sd} {k s : Nat} (ok : Ok g) (few : g.1.length ≤ 7) (rim : IsRim g r) (k1 : 1 ≤ k) (ks : k < s) (kb : k < r.length) (s3 : 3 ≤ s) (s7 : s ≤ 7) : Lay g (layG g r k s) r k s := by
  have rimAt : ∀ j (h : j < r.length), Rim g r[j] := fun j h => rim.orb.val _ (List.getElem_mem h)
  have nix : ∀ {i j : Nat} (hi : i < r.length) (hj : j < r.length), r[i] = r[j] → i = j := fun hi hj e => (List.getElem_inj rim.orb.nd).mp e
  have notn : ∀ {x : Sd} {i : Nat}, Va g x → x ≠ (g.1.length, i) := by
    rintro x i h rfl
    exact absurd h.1 (Nat.lt_irrefl _)
  have mm : ∀ p, p ∈ newT g.1.length k r ↔ _ := fun p => mem_newT (n := g.1.length) (k := k) (r := r) (by omega) (p := p)
  have mtl : ∀ x y, (x, y) ∈ g.2 ++ newT g.1.length k r ∨ (y, x) ∈ g.2 ++ newT g.1.length k r ↔ Mt g x y ∨ (∃ j, ∃ h : j < k, (x = r[j]'(by omega) ∧ y = (g.1.length, k - 1 - j)) ∨ (y = r[j]'(by omega) ∧ x = (g.1.length, k - 1 - j))) := by
    intro x y
    rw [List.mem_append, List.mem_append, mm, mm]
    unfold Mt
    constructor
    · rintro ((h | ⟨j, hj, e⟩) | (h | ⟨j, hj, e⟩))
      · exact .inl (.inl h)
      · exact .inr ⟨j, hj, .inl ⟨(Prod.mk.inj e).1, (Prod.mk.inj e).2⟩⟩
      · exact .inl (.inr h)
      · exact .inr ⟨j, hj, .inr ⟨(Prod.mk.inj e).1, (Prod.mk.inj e).2⟩⟩
    · rintro ((h | h) | ⟨j, hj, ⟨e1, e2⟩ | ⟨e1, e2⟩⟩)
      · exact .inl (.inl h)
      · exact .inr (.inl h)
      · exact .inl (.inr ⟨j, hj, by rw [e1, e2]⟩)
      · exact .inr (.inr ⟨j, hj, by rw [e1, e2]⟩)
  have okm : Ok (layG g r k s) := by
    refine ok_sort ?_ ?_ ?_ ?_ ?_ ?_ ?_
    · rw [List.length_append]; simp
    · rw [List.length_append]; simp; omega
    · intro t ht
      rcases List.mem_append.mp ht with h | h
      · exact ok.size t h
      · rw [List.mem_singleton] at h
        omega
    · intro p hp
      rcases List.mem_append.mp hp with h | h
      · exact ⟨va_app (ok.val p h).1, va_app (ok.val p h).2⟩
      · obtain ⟨j, hj, rfl⟩ := (mm p).mp h
        exact ⟨va_app (rimAt j (by omega)).va, lay_new_va (by omega)⟩
    · intro p hp
      rcases List.mem_append.mp hp with h | h
      · exact ok.lt p h
      · obtain ⟨j, hj, rfl⟩ := (mm p).mp h
        exact .inl (rimAt j (by omega)).va.1
    · refine List.nodup_append.mpr ⟨srt_nodup ok.srt, ?_, ?_⟩
      · unfold newT List.Nodup
        rw [List.pairwise_map]
        refine List.Pairwise.imp_of_mem ?_ List.nodup_range
        intro a b ha hb h e
        have := (Prod.mk.inj (Prod.mk.inj e).2).2
        have := List.mem_range.mp ha
        have := List.mem_range.mp hb
        omega
      · intro p hp q hq e
        subst e
        obtain ⟨j, hj, rfl⟩ := (mm p).mp hq
        exact notn (ok.val _ hp).2 rfl
    · intro x y z h1 h2
      rcases (mtl x y).mp h1 with h1 | ⟨i, hi, ⟨e1, e2⟩ | ⟨e1, e2⟩⟩
      · rcases (mtl x z).mp h2 with h2 | ⟨j, hj, ⟨e3, e4⟩ | ⟨e3, e4⟩⟩
        · exact ok.once x y z h1 h2
        · subst e3
          exact absurd h1 ((rimAt j (by omega)).no y)
        · exact absurd e4 (notn (ok.mval h1).1)
      · rcases (mtl x z).mp h2 with h2 | ⟨j, hj, ⟨e3, e4⟩ | ⟨e3, e4⟩⟩
        · subst e1
          exact absurd h2 ((rimAt i (by omega)).no z)
        · rw [e1] at e3
          have := nix (by omega) (by omega) e3
          subst this
          rw [e2, e4]
        · rw [e1] at e4
          exact absurd e4 (notn (rimAt i (by omega)).va)
      · rcases (mtl x z).mp h2 with h2 | ⟨j, hj, ⟨e3, e4⟩ | ⟨e3, e4⟩⟩
        · exact absurd e2 (notn (ok.mval h2).1)
        · rw [e2] at e3
          exact absurd e3.symm (notn (rimAt j (by omega)).va)
        · rw [e2] at e4
          have := (Prod.mk.inj e4).2
          have : i = j := by omega
          subst this
          rw [e1, e3]
  exact ⟨ok, few, rim, k1, ks, kb, s3, s7, rfl, fun x y => mt_sort.trans (mtl x y), okm⟩
theorem Lay.pl {g m : Gl} {r : List Sd} {k s : Nat} (L : Lay g m r k s) (p : Pl g) : Pl m := by
  have ks := L.ks
  have kb := L.kb
  obtain ⟨q, hq, all, _⟩ := p
  obtain ⟨q', hq', all'⟩ := L.oneRim ⟨q, hq, all⟩
  refine ⟨q', hq', all', ?_⟩
  obtain ⟨x, hx⟩ := List.exists_mem_of_ne_nil _ L.isRim.orb.ne
  rw [← L.isRim.orb.len L.okm.biF hq'.orb hx (all' x (L.isRim.orb.val x hx)), rimN_length]
  omega

/-! ### two side by side -/
def shT (n : Nat) (p : Tie) : Tie := ((p.1.1 + n, p.1.2), (p.2.1 + n, p.2.2))
def besG (g h : Gl) : Gl := (g.1 ++ h.1, sortT (g.2 ++ h.2.map (shT g.1.length)))
theorem va_sh {l l' : List Nat} {ts us : List Tie} {x : Sd} (h : Va (l', ts) x) : Va (l ++ l', us) (x.1 + l.length, x.2) := by
  obtain ⟨h1, h2⟩ := h
  have h1 : x.1 < l'.length := h1
  refine ⟨by show x.1 + l.length < (l ++ l').length; rw [List.length_append]; omega, ?_⟩
  have e : sz (l ++ l', us) (x.1 + l.length) = sz (l', ts) x.1 := by
    unfold sz
    show (l ++ l').getD (x.1 + l.length) 0 = l'.getD x.1 0
    rw [List.getD_eq_getElem?_getD, List.getD_eq_getElem?_getD, List.getElem?_append_right (by omega), Nat.add_sub_cancel]
  show x.2 < sz (l ++ l', us) (x.1 + l.length)
  rw [e]
  exact h2
theorem shT_inj (n : Nat) {p q : Tie} (e : shT n p = shT n q) : p = q := by
  obtain ⟨⟨a, b⟩, c, d⟩ := p
  obtain ⟨⟨a', b'⟩, c', d'⟩ := q
  unfold shT at e
  simp only [Prod.mk.injEq] at e
  obtain ⟨⟨e1, e2⟩, e3, e4⟩ := e
  have : a = a' := by omega
  have : c = c' := by omega
  simp [*]
theorem ok_bes {g h : Gl} (og : Ok g) (oh : Ok h) (few : g.1.length + h.1.length ≤ 8) : Ok (besG g h) := by
  have mh : ∀ x y, Mt ((g.1 ++ h.1, g.2 ++ h.2.map (shT g.1.length)) : Gl) x y → Mt g x y ∨ ∃ a b, Mt h a b ∧ x = (a.1 + g.1.length, a.2) ∧ y = (b.1 + g.1.length, b.2) := by
    intro x y hm
    rcases hm with hm | hm
    · rcases List.mem_append.mp hm with q | q
      · exact .inl (.inl q)
      · obtain ⟨p, hp, e⟩ := List.mem_map.mp q
        exact .inr ⟨p.1, p.2, .inl hp, (Prod.mk.inj e).1.symm, (Prod.mk.inj e).2.symm⟩
    · rcases List.mem_append.mp hm with q | q
      · exact .inl (.inr q)
      · obtain ⟨p, hp, e⟩ := List.mem_map.mp q
        exact .inr ⟨p.2, p.1, .inr hp, (Prod.mk.inj e).2.symm, (Prod.mk.inj e).1.symm⟩
  refine ok_sort ?_ ?_ ?_ ?_ ?_ ?_ ?_
  · rw [List.length_append]
    have := og.one
    omega
  · rw [List.length_append]
    exact few
  · intro t ht
    rcases List.mem_append.mp ht with q | q
    · exact og.size t q
    · exact oh.size t q
  · intro p hp
    rcases List.mem_append.mp hp with q | q
    · exact ⟨va_app (og.val p q).1, va_app (og.val p q).2⟩
    · obtain ⟨u, hu, rfl⟩ := List.mem_map.mp q
      exact ⟨va_sh (oh.val u hu).1, va_sh (oh.val u hu).2⟩
  · intro p hp
    rcases List.mem_append.mp hp with q | q
    · exact og.lt p q
    · obtain ⟨u, hu, rfl⟩ := List.mem_map.mp q
      have := oh.lt u hu
      unfold ltS at *
      show u.1.1 + _ < u.2.1 + _ ∨ (u.1.1 + _ = u.2.1 + _ ∧ u.1.2 < u.2.2)
      omega
  · refine List.nodup_append.mpr ⟨srt_nodup og.srt, ?_, ?_⟩
    · unfold List.Nodup
      rw [List.pairwise_map]
      exact (srt_nodup oh.srt).imp fun {a b} q e => q (shT_inj _ e)
    · intro p hp q hq e
      subst e
      obtain ⟨u, hu, e⟩ := List.mem_map.mp hq
      have := (og.val p hp).1.1
      rw [← e] at this
      have h2 : u.1.1 + g.1.length < g.1.length := this
      omega
  · intro x y z h1 h2
    rcases mh x y h1 with h1 | ⟨a, b, h1, e1, e2⟩
    · rcases mh x z h2 with h2 | ⟨a, b, h2, e1, e2⟩
      · exact og.once x y z h1 h2
      · have := (og.mval h1).1.1
        rw [e1] at this
        have h2 : a.1 + g.1.length < g.1.length := this
        omega
    · rcases mh x z h2 with h2 | ⟨a', b', h2, e1', e2'⟩
      · have := (og.mval h2).1.1
        rw [e1] at this
        have h2 : a.1 + g.1.length < g.1.length := this
        omega
      · rw [e1] at e1'
        have h3 := Prod.mk.inj e1'
        have : a = a' := by
          obtain ⟨p, q⟩ := a
          obtain ⟨p', q'⟩ := a'
          have h4 : p + g.1.length = p' + g.1.length := h3.1
          have h5 : q = q' := h3.2
          have : p = p' := by omega
          rw [this, h5]
        subst this
        rw [e2, e2', oh.once a b b' h1 h2]

/-! ### two rim sides tied -/
def tieG (g : Gl) (p : Tie) : Gl := (g.1, sortT (g.2 ++ [p]))
theorem ok_tie {g : Gl} (ok : Ok g) {p : Tie} (h1 : Rim g p.1) (h2 : Rim g p.2) (lt : ltS p.1 p.2) : Ok (tieG g p) := by
  have ne : p.1 ≠ p.2 := fun e => by rw [e] at lt; exact ltS_irrefl _ lt
  have mh : ∀ x y, Mt ((g.1, g.2 ++ [p]) : Gl) x y → Mt g x y ∨ (x = p.1 ∧ y = p.2) ∨ (x = p.2 ∧ y = p.1) := by
    intro x y hm
    rcases hm with hm | hm
    · rcases List.mem_append.mp hm with q | q
      · exact .inl (.inl q)
      · rw [List.mem_singleton] at q
        exact .inr (.inl ⟨by rw [← q], by rw [← q]⟩)
    · rcases List.mem_append.mp hm with q | q
      · exact .inl (.inr q)
      · rw [List.mem_singleton] at q
        exact .inr (.inr ⟨by rw [← q], by rw [← q]⟩)
  refine ok_sort ok.one ok.few ok.size ?_ ?_ ?_ ?_
  · intro q hq
    rcases List.mem_append.mp hq with h | h
    · exact ok.val q h
    · rw [List.mem_singleton] at h
      subst h
      exact ⟨h1.va, h2.va⟩
  · intro q hq
    rcases List.mem_append.mp hq with h | h
    · exact ok.lt q h
    · rw [List.mem_singleton] at h
      subst h
      exact lt
  · refine List.nodup_append.mpr ⟨srt_nodup ok.srt, by simp, fun a ha b hb e => ?_⟩
    rw [List.mem_singleton] at hb
    subst hb
    subst e
    exact h1.no a.2 (.inl ha)
  · intro x y z hy hz
    rcases mh x y hy with a | ⟨a, b⟩ | ⟨a, b⟩ <;> rcases mh x z hz with c | ⟨c, d⟩ | ⟨c, d⟩
    · exact ok.once x y z a c
    · subst c; exact absurd a (h1.no y)
    · subst c; exact absurd a (h2.no y)
    · subst a; exact absurd c (h1.no z)
    · rw [b, d]
    · exact absurd (a.symm.trans c) ne
    · subst a; exact absurd c (h2.no z)
    · exact absurd (c.symm.trans a) ne
    · rw [b, d]

/-! ### taken off again -/
def mmT (p : Tie) : Tie := if ltS p.2 p.1 then (p.2, p.1) else p
theorem mmT_id {p : Tie} (h : ltS p.1 p.2) : mmT p = p := by
  unfold mmT
  rw [if_neg]
  exact fun q => ltS_irrefl _ (ltS_trans h q)
def partG (m : Gl) (n : Nat) : Gl := (m.1.take n, sortT ((m.2.filter fun p => decide (p.1.1 < n) && decide (p.2.1 < n)).map mmT))
theorem part_lay {g : Gl} {r : List Sd} {k s : Nat} (L : Lay g (layG g r k s) r k s) : partG (layG g r k s) g.1.length = g := by
  have kb := L.kb
  obtain ⟨l, ts⟩ := g
  unfold partG
  have e1 : (layG (l, ts) r k s).1.take l.length = l := by
    show (l ++ [s]).take l.length = l
    simp
  have e2 : ∀ F : List Tie, (∀ p ∈ F, ltS p.1 p.2) → F.map mmT = F := fun F h => by
    have q : F.map mmT = F.map id := List.map_congr_left fun p hp => mmT_id (h p hp)
    rw [q, List.map_id]
  have hsub : ∀ p ∈ (layG (l, ts) r k s).2.filter (fun p => decide (p.1.1 < l.length) && decide (p.2.1 < l.length)), p ∈ (layG (l, ts) r k s).2 := fun p hp => (List.mem_filter.mp hp).1
  rw [e2 _ fun p hp => L.okm.lt p (hsub p hp)]
  have hp : ((layG (l, ts) r k s).2.filter (fun p => decide (p.1.1 < l.length) && decide (p.2.1 < l.length))).Pairwise ltT := L.okm.srt.sublist List.filter_sublist
  rw [sortT_id hp, e1]
  congr 1
  refine srt_eq hp L.ok.srt fun p => ?_
  rw [List.mem_filter, Bool.and_eq_true, decide_eq_true_eq, decide_eq_true_eq]
  have hm : p ∈ (layG (l, ts) r k s).2 ↔ p ∈ ts ++ newT l.length k r := (sortT_perm _).mem_iff
  rw [hm, List.mem_append, mem_newT (by omega)]
  constructor
  · rintro ⟨h | ⟨j, hj, rfl⟩, h1, h2⟩
    · exact h
    · exact absurd h2 (Nat.lt_irrefl _)
  · intro h
    exact ⟨.inl h, (L.ok.val p h).1.1, (L.ok.val p h).2.1⟩
end WM
set_option Elab.async false
set_option linter.all false
set_option maxRecDepth 100000
/-! values by what they are made of: numbers, pairs, tuples; what stays when the heap grows -/
namespace WR
open PySem L2

abbrev Rl (α : Type) := Hp → V → α → Prop
variable {α β : Type}
/-- two lists go together, one by one -/
inductive Al (R : V → α → Prop) : List V → List α → Prop
  | nil : Al R [] []
  | cons {v : V} {x : α} {vs : List V} {xs : List α} : R v x → Al R vs xs → Al R (v :: vs) (x :: xs)
section
variable {R S : V → α → Prop}
theorem Al.length : ∀ {vs : List V} {xs : List α}, Al R vs xs → vs.length = xs.length
  | _, _, .nil => rfl
  | _, _, .cons _ t => by rw [List.length_cons, List.length_cons, t.length]
theorem Al.get : ∀ {vs : List V} {xs : List α} {i : Nat} {v : V}, Al R vs xs → vs[i]? = some v → ∃ x, xs[i]? = some x ∧ R v x
  | _, _, _, _, .nil, e => by simp at e
  | _, _, 0, _, .cons r _, e => by
    cases e
    exact ⟨_, rfl, r⟩
  | _, _, i + 1, v, .cons _ t, e => Al.get (i := i) t (by simpa using e)
theorem Al.at : ∀ {vs : List V} {xs : List α} {i : Nat} {x : α}, Al R vs xs → xs[i]? = some x → ∃ v, vs[i]? = some v ∧ R v x
  | _, _, _, _, .nil, e => by simp at e
  | _, _, 0, _, .cons r _, e => by
    cases e
    exact ⟨_, rfl, r⟩
  | _, _, i + 1, x, .cons _ t, e => Al.at (i := i) t (by simpa using e)
theorem Al.imp (f : ∀ v x, R v x → S v x) : ∀ {vs : List V} {xs : List α}, Al R vs xs → Al S vs xs
  | _, _, .nil => .nil
  | _, _, .cons r t => .cons (f _ _ r) (t.imp f)
theorem Al.app : ∀ {vs us : List V} {xs ys : List α}, Al R vs xs → Al R us ys → Al R (vs ++ us) (xs ++ ys)
  | _, _, _, _, .nil, s => s
  | _, _, _, _, .cons r t, s => .cons r (t.app s)
theorem Al.snoc {vs : List V} {xs : List α} {v : V} {x : α} (t : Al R vs xs) (r : R v x) : Al R (vs ++ [v]) (xs ++ [x]) := t.app (.cons r .nil)
theorem Al.take : ∀ (n : Nat) {vs : List V} {xs : List α}, Al R vs xs → Al R (vs.take n) (xs.take n)
  | 0, _, _, _ => .nil
  | _ + 1, _, _, .nil => .nil
  | n + 1, _, _, .cons r t => .cons r (t.take n)
theorem Al.drop : ∀ (n : Nat) {vs : List V} {xs : List α}, Al R vs xs → Al R (vs.drop n) (xs.drop n)
  | 0, _, _, t => t
  | _ + 1, _, _, .nil => .nil
  | n + 1, _, _, .cons _ t => t.drop n
theorem Al.rev {vs : List V} {xs : List α} (t : Al R vs xs) : Al R vs.reverse xs.reverse := by
  induction t with
  | nil => exact .nil
  | cons r _ ih =>
    rw [List.reverse_cons, List.reverse_cons]
    exact ih.snoc r
theorem Al.of_map (f : α → V) (h : ∀ x, R (f x) x) : ∀ xs : List α, Al R (xs.map f) xs
  | [] => .nil
  | x :: xs => .cons (h x) (Al.of_map f h xs)
theorem Al.eq_map {f : α → V} (h : ∀ v x, R v x → v = f x) : ∀ {vs : List V} {xs : List α}, Al R vs xs → vs = xs.map f
  | _, _, .nil => rfl
  | _, _, .cons r t => by rw [List.map_cons, h _ _ r, t.eq_map h]
end

/-- the tuples stay -/
def TS (H H' : Hp) : Prop := ∀ a xs, H a = some (.tup xs) → H' a = some (.tup xs)
theorem TS.refl (H : Hp) : TS H H := fun _ _ h => h
theorem TS.trans {H H1 H2 : Hp} (a : TS H H1) (b : TS H1 H2) : TS H H2 := fun c xs h => b c xs (a c xs h)
theorem Same.ts {H H' : Hp} (s : Same H H') : TS H H' := fun a _ h => s a _ h
theorem same_new {H : Hp} {p : Addr} {o : HO} (h : H p = none) : Same H (upd H p o) := fun b x e => by
  rw [upd_ne (ne_of_none e h)]
  exact e
theorem ts_new {H : Hp} {p : Addr} {o : HO} (h : H p = none) : TS H (upd H p o) := Same.ts (same_new h)
theorem ts_put {H : Hp} {p : Addr} {o u : HO} (h : H p = some u) (n : ∀ xs, u ≠ .tup xs) : TS H (upd H p o) := fun b xs e => by
  rw [upd_ne (ne_of e h fun z => n xs z.symm)]
  exact e
/-- all that was tracked but p is as it was -/
def SmB (p : Addr) (H H' : Hp) : Prop := ∀ b o, H b = some o → b ≠ p → H' b = some o
theorem SmB.trans {p : Addr} {H H1 H2 : Hp} (a : SmB p H H1) (b : SmB p H1 H2) : SmB p H H2 := fun c o e n => b c o (a c o e n) n
theorem SmB.put {p : Addr} {H : Hp} {o : HO} : SmB p H (upd H p o) := fun b x e n => by
  rw [upd_ne n]
  exact e
theorem Same.smB {p : Addr} {H H' : Hp} (s : Same H H') : SmB p H H' := fun b o e _ => s b o e
/-- what is made anew and then changed leaves all as it was -/
theorem SmB.same {p : Addr} {H H' : Hp} (s : SmB p H H') (n : H p = none) : Same H H' := fun b o e => s b o e (ne_of_none e n)

def rN : Rl Nat := fun _ v n => v = .int (n : Int)
def rI : Rl Int := fun _ v n => v = .int n
def rO (R : Rl α) : Rl (Option α) := fun H v x => match x with
  | none => v = .non
  | some y => R H v y
def rP (R : Rl α) (S : Rl β) : Rl (α × β) := fun H v x => ∃ a p q, v = .ref a ∧ H a = some (.tup [p, q]) ∧ R H p x.1 ∧ S H q x.2
def rT (R : Rl α) : Rl (List α) := fun H v l => ∃ a vs, v = .ref a ∧ H a = some (.tup vs) ∧ Al (R H) vs l
/-- a list at a -/
def rL (R : Rl α) (H : Hp) (a : Addr) (l : List α) : Prop := ∃ vs, H a = some (.lst vs) ∧ Al (R H) vs l

structure Mo (R : Rl α) : Prop where
  mo : ∀ {H H' : Hp} {v : V} {x : α}, TS H H' → R H v x → R H' v x
theorem moN : Mo rN := ⟨fun _ h => h⟩
theorem moI : Mo rI := ⟨fun _ h => h⟩
theorem Mo.al {R : Rl α} (m : Mo R) {H H' : Hp} (t : TS H H') {vs : List V} {xs : List α} (h : Al (R H) vs xs) : Al (R H') vs xs := h.imp fun _ _ r => m.mo t r
theorem moO {R : Rl α} (m : Mo R) : Mo (rO R) := ⟨fun {H H' v x} t h => by
  cases x with
  | none => exact h
  | some y => exact m.mo t h⟩
theorem moP {R : Rl α} {S : Rl β} (m : Mo R) (n : Mo S) : Mo (rP R S) := ⟨fun t ⟨a, p, q, e, h, r, s⟩ => ⟨a, p, q, e, t a _ h, m.mo t r, n.mo t s⟩⟩
theorem moT {R : Rl α} (m : Mo R) : Mo (rT R) := ⟨fun t ⟨a, vs, e, h, r⟩ => ⟨a, vs, e, t a _ h, m.al t r⟩⟩
theorem rL_mo {R : Rl α} (m : Mo R) {H H' : Hp} {a : Addr} {l : List α} (t : TS H H') (e : ∀ o, H a = some o → H' a = some o) (h : rL R H a l) : rL R H' a l := by
  obtain ⟨vs, h1, h2⟩ := h
  exact ⟨vs, e _ h1, m.al t h2⟩

/-! ### the data -/
structure En (R : Rl α) (e : α → PyData) (n : Nat) : Prop where
  dp : ∀ (K : PySem.W.Frag) (H : Hp) (v : V) (x : α), R H v x → Dp K H v (e x)
  lay : ∀ x, (e x).canLay0 = true
  dep : ∀ x, (e x).depth ≤ n
  eqv : ∀ x y : α, PyData.eqv (e x) (e y) = true ↔ x = y
  alk : ∀ x y, PySem.W.alike (e x) (e y) = true
  non : ∀ x, e x ≠ .none
def eN (n : Nat) : PyData := .int (n : Int)
def eI (n : Int) : PyData := .int n
def eP (f : α → PyData) (g : β → PyData) (x : α × β) : PyData := .tuple [f x.1, g x.2]
def eT (f : α → PyData) (l : List α) : PyData := .tuple (l.map f)
def eL (f : α → PyData) (l : List α) : PyData := .list (l.map f)
theorem enN : En rN eN 0 where
  dp := fun K H v x h => by
    cases h
    exact .int _
  lay := fun x => by simp [eN, PyData.canLay0]
  dep := fun x => by simp [eN, PyData.depth]
  eqv := fun x y => by
    show ((x : Int) == (y : Int)) = true ↔ _
    rw [beq_iff_eq]
    exact Int.ofNat_inj
  alk := fun x y => by simp [eN, PySem.W.alike]
  non := fun x => by simp [eN]
theorem enI : En rI eI 0 where
  dp := fun K H v x h => by
    cases h
    exact .int _
  lay := fun x => by simp [eI, PyData.canLay0]
  dep := fun x => by simp [eI, PyData.depth]
  eqv := fun x y => by
    show (x == y) = true ↔ _
    exact beq_iff_eq
  alk := fun x y => by simp [eI, PySem.W.alike]
  non := fun x => by simp [eI]
theorem enP {R : Rl α} {S : Rl β} {f : α → PyData} {g : β → PyData} {n m k : Nat} (a : En R f n) (b : En S g m) (h1 : n < k) (h2 : m < k) : En (rP R S) (eP f g) k where
  dp := fun K H v x ⟨c, p, q, e, h, r, s⟩ => by
    subst e
    exact .tup (SqT.of h) (.cons (a.dp K H p x.1 r) (.cons (b.dp K H q x.2 s) .nil))
  lay := fun x => by simp [eP, PyData.canLay0, PyData.canLayAll0, a.lay, b.lay]
  dep := fun x => by
    have := a.dep x.1
    have := b.dep x.2
    simp only [eP, PyData.depth, PyData.depthAll]
    omega
  eqv := fun x y => by
    show PyData.eqvAll [f x.1, g x.2] [f y.1, g y.2] = true ↔ _
    simp only [PyData.eqvAll, Bool.and_true, Bool.and_eq_true, a.eqv, b.eqv]
    exact ⟨fun h => Prod.ext h.1 h.2, fun h => by rw [h]; exact ⟨rfl, rfl⟩⟩
  alk := fun x y => by simp [eP, PySem.W.alike, PySem.W.alikeAll, a.alk, b.alk]
  non := fun x => by simp [eP]
theorem en_all {R : Rl α} {f : α → PyData} {n : Nat} (a : En R f n) (K : PySem.W.Frag) (H : Hp) : ∀ {vs : List V} {l : List α}, Al (R H) vs l → DpAll K H vs (l.map f)
  | _, _, .nil => .nil
  | _, _, .cons r t => .cons (a.dp K H _ _ r) (en_all a K H t)
theorem lay_all {f : α → PyData} (h : ∀ x, (f x).canLay0 = true) : ∀ l : List α, PyData.canLayAll0 (l.map f) = true
  | [] => by simp [PyData.canLayAll0]
  | x :: l => by simp [PyData.canLayAll0, h, lay_all h l]
theorem dep_all {f : α → PyData} {n : Nat} (h : ∀ x, (f x).depth ≤ n) : ∀ l : List α, PyData.depthAll (l.map f) ≤ n
  | [] => by simp [PyData.depthAll]
  | x :: l => by
    have h1 := dep_all h l
    have h2 := h x
    simp only [List.map_cons, PyData.depthAll]
    omega
theorem eqv_all {f : α → PyData} (h : ∀ x y, PyData.eqv (f x) (f y) = true ↔ x = y) : ∀ l q : List α, PyData.eqvAll (l.map f) (q.map f) = true ↔ l = q
  | [], [] => by simp [PyData.eqvAll]
  | [], _ :: _ => by simp [PyData.eqvAll]
  | _ :: _, [] => by simp [PyData.eqvAll]
  | x :: l, y :: q => by simp only [List.map_cons, PyData.eqvAll, Bool.and_eq_true, h, eqv_all h l q, List.cons.injEq]
theorem alk_all {f : α → PyData} (h : ∀ x y, PySem.W.alike (f x) (f y) = true) : ∀ l q : List α, PySem.W.alikeAll (l.map f) (q.map f) = true
  | [], [] => by simp [PySem.W.alikeAll]
  | [], _ :: _ => by simp [PySem.W.alikeAll]
  | _ :: _, [] => by simp [PySem.W.alikeAll]
  | x :: l, y :: q => by simp [PySem.W.alikeAll, h, alk_all h l q]
theorem enT {R : Rl α} {f : α → PyData} {n k : Nat} (a : En R f n) (h1 : n < k) : En (rT R) (eT f) k where
  dp := fun K H v x ⟨c, vs, e, h, r⟩ => by
    subst e
    exact .tup (SqT.of h) (en_all a K H r)
  lay := fun x => by
    show PyData.canLayAll0 (x.map f) = true
    exact lay_all a.lay x
  dep := fun x => by
    have := dep_all a.dep x
    simp only [eT, PyData.depth]
    omega
  eqv := fun x y => by
    show PyData.eqvAll (x.map f) (y.map f) = true ↔ _
    exact eqv_all a.eqv x y
  alk := fun x y => by
    show PySem.W.alikeAll (x.map f) (y.map f) = true
    exact alk_all a.alk x y
  non := fun x => by simp [eT]
theorem En.shaped {R : Rl α} {f : α → PyData} {n : Nat} (a : En R f n) (h : n ≤ 64) (x : α) : SeqAt.shaped (f x) = true := by
  show ((f x).canLay0 && decide ((f x).depth ≤ 64)) = true
  rw [Bool.and_eq_true]
  exact ⟨a.lay x, decide_eq_true (Nat.le_trans (a.dep x) h)⟩
theorem En.shapedL {R : Rl α} {f : α → PyData} {n : Nat} (a : En R f n) (h : n ≤ 63) (l : List α) : SeqAt.shaped (.list (l.map f)) = true := by
  show (PyData.canLay0 (.list (l.map f)) && decide (PyData.depth (.list (l.map f)) ≤ 64)) = true
  have := dep_all a.dep l
  rw [Bool.and_eq_true]
  refine ⟨by simp only [PyData.canLay0]; exact lay_all a.lay l, decide_eq_true ?_⟩
  simp only [PyData.depth]
  omega
theorem En.dpL {R : Rl α} {f : α → PyData} {n : Nat} (a : En R f n) (K : PySem.W.Frag) {H : Hp} {p : Addr} {l : List α} (h : rL R H p l) : Dp K H (.ref p) (.list (l.map f)) := by
  obtain ⟨vs, h1, h2⟩ := h
  exact .lst (SqL.of h1) (en_all a K H h2)
end WR
set_option Elab.async false
set_option linter.all false
set_option maxRecDepth 100000
/-! rules that the layer lacks: enumerate of a tuple; sum, min, max, sorted over data; update of dicts -/
namespace WR
open PySem PySem.Spec PyProof.Rows L2
open AutoSeq1 (wpAny_loadPart')

/-! ### enumerate(t), t a tuple -/
set_option maxHeartbeats 1000000 in
theorem enumT_new (l : Addr) (items : Array Value) (n : Nat) (dct : Option Addr) (sl : Array (Option Value)) :
    Meets (Builtin.«enumerate.__new__» ⟨[.type "enumerate", .ref l], []⟩) (fun _ R s =>
      s.heap.get? l = some { cls := .type "tuple", dict := dct, data := .seq items n, slots := sl } ∧
      R (.ok (.ret (.ref (s.heap.push { cls := .type "tuple_iterator", data := .fields #[.ref l, .int 0 0] }).objs.size)))
        { s with heap := (s.heap.push { cls := .type "tuple_iterator", data := .fields #[.ref l, .int 0 0] }).push { cls := .type "enumerate", data := .fields #[.none, .bool false, .ref s.heap.objs.size, rawInt 0, .none, .none] } }) :=
  .of_wp fun prog w A R s h => by
    obtain ⟨hp, g, d, tk, os⟩ := s
    obtain ⟨hl, h⟩ := h
    have sub := sub_enumerate
    have hT : Heap.IsTuple (Shared.heap ⟨hp, g, d, tk, os⟩) l items := ⟨_, hl, rfl, n, rfl⟩
    wp_walk using wpAny_loadPart' hl
    refine wpAny_stack_any fun st => wpAny_pure ?_
    split
    · rename_i c _ _ _ _ _
      cases (c == Value.type "enumerate") <;> (wp_walk using wpAny_loadPart' hl, wpAny_pyIter_tuple hT; exact ⟨_, rfl, h⟩)
    · wp_walk using wpAny_loadPart' hl, wpAny_pyIter_tuple hT
      exact ⟨_, rfl, h⟩
section
variable {prog : Program} {w : World} {A : Around} {E : Value → Shared → Prop} {s : Shared}
theorem call_enumT {l : Addr} {items : Array Value} {Q : Value → Shared → Prop} (hL : s.heap.IsTuple l items)
    (h : ∀ h', IsEnum h' (s.heap.objs.size + 1) s.heap.objs.size 0 .none → h'.IsTupleIter s.heap.objs.size l 0 → (∀ b o, s.heap.get? b = some o → h'.get? b = some o) →
      Q (.ref (s.heap.objs.size + 1)) { s with heap := h' }) : wpAny (model prog w) A (call (.type "enumerate") [.ref l]) Q E s := by
  obtain ⟨⟨c, dct, dt, sl⟩, hl, hc, n, hd⟩ := hL
  replace hc : c = .type "tuple" := hc
  replace hd : dt = .seq items n := hd
  subst hc hd
  refine callType_new F.called_enumerate (by decide) (F.typeCall_enumerate_1 _) (F.newCall_enumerate_1 _) (fun obj => F.args_object_init_2 obj _) F.entry_enumerate_new (enumT_new l items n dct sl) ⟨hl, ?_⟩
  have hz : (s.heap.push { cls := .type "tuple_iterator", data := .fields #[.ref l, .int 0 0] }).objs.size = s.heap.objs.size + 1 := Heap.size_push ..
  show _ ∧ _
  rw [hz]
  have he : IsEnum ((s.heap.push { cls := .type "tuple_iterator", data := .fields #[.ref l, .int 0 0] }).push { cls := .type "enumerate", data := .fields #[.none, .bool false, .ref s.heap.objs.size, rawInt 0, .none, .none] }) (s.heap.objs.size + 1) s.heap.objs.size 0 .none := by
    have q := Heap.get?_push_size (s.heap.push { cls := .type "tuple_iterator", data := .fields #[.ref l, .int 0 0] })
      (o := { cls := .type "enumerate", data := .fields #[.none, .bool false, .ref s.heap.objs.size, rawInt 0, .none, .none] }) rfl
    rw [hz] at q
    exact q
  exact ⟨⟨_, he, rfl⟩, h _ he ⟨_, Heap.get?_push_of_some _ (Heap.get?_push_size _ rfl), rfl, rfl⟩ fun b o x => Heap.get?_push_of_some _ (Heap.get?_push_of_some _ x)⟩
end
/-- the tracked tuple at a, its items in new pairs with their numbers -/
def IeT (a : Addr) : It := ⟨fun i H => ∃ (xs : List V) (x : V), H a = some (.tup xs) ∧ xs[i]? = some x,
  fun i H v H' => ∃ T x, v = .ref T ∧ H T = none ∧ H' = upd H T (.tup [.int (i : Nat), x]) ∧ ∀ xs, H a = some (.tup xs) → xs[i]? = some x, fun i H => ∃ xs : List V, H a = some (.tup xs) ∧ xs.length ≤ i⟩
theorem turn_enumT {P : Program} {w : World} {K : PySem.W.Frag} {elts : List Expr} {kk : Nat} {tpos : Pos} (a e it : Addr) :
    Turn P w K (.Tuple elts kk tpos) (IeT a) [e, it] e (fun i h => (∃ old, IsEnum h e it ((i : Nat) : Int) old) ∧ h.IsTupleIter it a i ∧ e ≠ it) where
  mem := by simp
  obj := fun i h st b hb => by
    obtain ⟨⟨old, he⟩, ⟨o, ho, hc, hd⟩, _⟩ := st
    rcases (show b = e ∨ b = it by simpa using hb) with z | z
    · exact ⟨_, z ▸ he, fun v q => Data.noConfusion q⟩
    · exact ⟨o, z ▸ ho, fun v q => by rw [hd] at q; cases q⟩
  keep := fun i h h' st k => let ⟨⟨old, he⟩, hi, hne⟩ := st; ⟨⟨old, k e (by simp) _ he⟩, hi.at fun o q => k it (by simp) o q, hne⟩
  item := by
    intro X hP hw hK hc i pins s σ H E I hf st hg
    subst hP hw hK
    obtain ⟨⟨old, he⟩, hit, hne⟩ := st
    obtain ⟨xs, x, hq, hx⟩ := hg
    obtain ⟨its, rv, p, hz⟩ := I.tuple (SqT.of hq)
    obtain ⟨u, hu, ru⟩ := rv.get hx
    have nae : a ≠ e := ne_of_none hq (hf e (by simp)).1
    have nai : a ≠ it := ne_of_none hq (hf it (by simp)).1
    have hel : e < s.heap.objs.size := Heap.lt_size he
    have hil : it < s.heap.objs.size := by
      obtain ⟨_, q, _⟩ := hit
      exact Heap.lt_size q
    have hlt : i < its.toArray.size := by
      have := (List.getElem?_eq_some_iff.mp hu).1
      simpa using this
    refine wpAny_pyNext_enum_itemD (D := Draws.tuple (A := X.A.in1) (I.ok.hd hc) it a nai its.toArray) he ⟨hit, show s.heap.IsTuple a its.toArray from p⟩ hlt hne (by simp [hne, Ne.symm nae]) fun y h' tk hy ho hst hT hsz hk => ?_
    have ey : y = u := by
      have hy : its.toArray[i]? = some y := hy
      have q : its.toArray[i]? = some u := by simpa using hu
      rw [q] at hy
      exact (Option.some.inj hy).symm
    subst ey
    refine ⟨_, rfl, wpAny_letOwnedTupleGo_enum (s := { s with heap := h', toks := tk + 1 }) ho fun h'' he' sb => ?_⟩
    have hT2 : h''.get? s.heap.objs.size = some { cls := .type "tuple", data := .seq #[.int i tk, y] } := (sb.2 _ (Nat.ne_of_gt hel)).trans hT
    have new : ObjOk X.prog X.w (upd H s.heap.objs.size (.tup [.int (i : Nat), x])) h'' s.heap.objs.size (.tup [.int (i : Nat), x]) :=
      ⟨by show 2 ≤ sizeLine; decide, [.int i tk, y], .cons ⟨_, rfl⟩ (.cons ru .nil), ⟨_, hT2, rfl, _, rfl⟩⟩
    have I1 : Inv X pins σ (upd H s.heap.objs.size (.tup [.int (i : Nat), x])) { s with heap := h'', toks := tk + 1 } :=
      I.turnedNew (ch := [e, it]) (fun b ob hb q => (sb.2 b (fun z => hb (by simp [z]))).trans (hk b ob (fun z => hb (by simp [z])) (fun z => hb (by simp [z])) q)) hf (Nat.le_refl _) new
    refine ⟨.ref s.heap.objs.size, _, I1, rfl, ⟨_, x, rfl, I.hok.fresh (Nat.le_refl _), rfl, fun ys hy => ?_⟩, ⟨⟨y, ?_⟩, hst.1.at fun o q => (sb.2 it (Ne.symm hne)).trans q, hne⟩, fun b hb => ?_⟩
    · rw [hq] at hy
      cases hy
      exact hx
    · have e1 : ((i + 1 : Nat) : Int) = (i : Int) + 1 := by omega
      rw [e1]
      exact he'
    · have hb' : b < s.heap.objs.size := by
        rcases (show b = e ∨ b = it by simpa using hb) with z | z
        · exact z ▸ hel
        · exact z ▸ hil
      rw [upd_ne (Nat.ne_of_lt hb')]
      exact (hf b hb).1
  done := by
    intro X hP hw hK hc i pins s σ H E I hf st hg
    subst hP hw hK
    obtain ⟨⟨old, he⟩, hit, hne⟩ := st
    obtain ⟨xs, hq, hx⟩ := hg
    obtain ⟨its, rv, p, hz⟩ := I.tuple (SqT.of hq)
    obtain ⟨f0, f1, f2, f3, f4, f5⟩ := hf it (by simp)
    have nai : a ≠ it := ne_of_none hq f0
    have hT : s.TypeIs (.ref e) "enumerate" := ⟨_, he, rfl⟩
    unfold pyNext
    refine wpAny_bind (wpAny_attempt (wpAny_callSpecial?_slot (name := Str.ofString "__next__") hT F.slot_enumerate_next
      (wpAny_call_entry F.slot_enumerate_next hT F.entry_enumerate_next ?_ (F.args_enumerate_next_1 _))))
    show wpAny _ _ (field (.ref e) 2 >>= _) _ _ _
    refine wpAny_bind (wpAny_field he rfl (x := .ref it) rfl ?_)
    have hl := rv.length
    have hnone : its.toArray[i]? = none := by
      rw [Array.getElem?_eq_none]
      simp
      omega
    refine wpAny_bind (wpAny_nextOf_tuple_end (I.ok.hd hc) hit (show s.heap.IsTuple a its.toArray from p) hnone fun h' x he' hx' => ?_)
    obtain ⟨o, ho, hcl⟩ := hx'
    refine wpAny_bind (wpAny_isInstance (T := "StopIteration") (b := true) ⟨o, ho, hcl⟩ isSubtype_stop ?_)
    exact wpAny_pure ⟨rfl, I.turned (t' := s.toks) (fun b o hb q => he' b o hb q) f0 f1 f3 f4 f5⟩
  self := fun A i s Q E st h => let ⟨⟨_, he⟩, _⟩ := st; wpAny_pyIter_enum he h
def iEnT (ta : TA) : TI := fun σ H R => ta σ H fun vs H1 => ∃ a xs, vs = [.ref a] ∧ H1 a = some (.tup xs) ∧ R (IeT a) H1
theorem pi_enumT {X : Cx} {e : Expr} {ta : TA} {p pos tpos : Pos} {elts : List Expr} {kk : Nat} (hg : Gl X "enumerate") (hm : X.mg "enumerate" = none) (ha : PA X [e] ta) (hs : starEach [e] X.env = [(false, eval e X.env)] := by rfl) :
    PI X (.Tuple elts kk tpos) (.Call (.Name "enumerate" p) [e] [] pos) (iEnT ta) := by
  refine ⟨fun pins s σ H R I h => ?_⟩
  refine Call_ (ld_blt I hg hm boot_enumerate (PyProof.Rows.callWith_type1 (thn (ha.run pos pins s σ H _ I h) fun us s1 ⟨vs, H1, I1, r1, q1⟩ => ?_) hs rfl))
  obtain ⟨a, xs, ex, hq, q⟩ := q1
  subst ex
  obtain ⟨u, rfl, ru⟩ := vals1 r1
  cases ru
  obtain ⟨its, rv, p', hz⟩ := I1.tuple (SqT.of hq)
  refine call_enumT (show s1.heap.IsTuple a its.toArray from p') fun h' he hit hk => wpAny_pyIter_enum he ?_
  refine ⟨s1.heap.objs.size + 1, [s1.heap.objs.size + 1, s1.heap.objs.size], _, _, H1, rfl, I1.kept (t' := s1.toks) hk, turn_enumT a (s1.heap.objs.size + 1) s1.heap.objs.size, ⟨⟨.none, he⟩, hit, Nat.succ_ne_self _⟩, fun b hb => ?_, q⟩
  have hle : s1.heap.objs.size ≤ b := by
    rcases (show b = s1.heap.objs.size + 1 ∨ b = s1.heap.objs.size by simpa using hb) with z | z
    · exact z ▸ Nat.le_add_right _ _
    · exact z ▸ Nat.le_refl _
  exact I1.fpOk hle (I1.hok.fresh hle)
theorem walk_enT {a : Addr} {xs : List V} : Walk (IeT a) xs.length (fun H => H a = some (.tup xs)) (YPair (fun i => some (.int (i : Nat))) (fun i => xs[i]?)) where
  goes := fun i H hi h => ⟨xs, xs[i], h, by simp [hi]⟩
  stops := fun H h => ⟨xs, h, Nat.le_refl _⟩
  yields := fun i H x H' hi h ⟨T, y, e, n, e', k⟩ => ⟨T, .int (i : Nat), y, e, n, e', rfl, k xs h⟩
end WR
set_option Elab.async false
set_option linter.all false
set_option maxRecDepth 100000
/-! sum of a tuple; min, max, sorted, index over data; update of dicts -/
namespace WR
open PySem PySem.Spec PyProof.Rows L2
variable {X : Cx} {α : Type}

def rSumT : List V → Hp → VK → Prop := fun vs H Q => ∃ (a : Addr) (ns : List Int), vs = [.ref a] ∧ H a = some (.tup (ns.map V.int)) ∧ Q (.int ns.sum) H
theorem cr_sumT (hc : X.calm = true) : CallR X (.builtin "sum") rSumT := by
  intro pins s σ H vs us Q I r h
  obtain ⟨a, ns, rfl, hs, q⟩ := h
  obtain ⟨its, rv, hl, _⟩ := I.tuple (SqT.of hs)
  rw [Vals.ref1 r]
  have hi := rv.ints
  obtain ⟨xs, hx⟩ := hi.allInts.items
  have hn : numsOf (intItems xs).toList = ns := by
    rw [← hx]
    exact hi.numsOf
  rw [nums_intItems] at hn
  have hl : s.heap.IsTuple a its.toArray := hl
  rw [hx] at hl
  refine PySem.W.ktm_sumG (I.ok.hd hc) hl fun h' tk t' hk => ⟨.int _, H, I.kept hk, ⟨t', ?_⟩, q⟩
  rw [preSum_eq, List.take_of_length_le (by simp), hn]

/-- values that go with items by V's -/
theorem each_of {R : V → α → Prop} {S : Value → α → Prop} (f : ∀ v u x, R v x → RelV v u → S u x) : ∀ {vs : List V} {us : List Value} {xs : List α}, Al R vs xs → Vals vs us → PySem.W.EachIs S us xs
  | _, _, _, .nil, .nil => .nil
  | _, _, _, .cons r t, .cons r' t' => .cons (f _ _ _ r r') (each_of f t t')
theorem of_each {R : V → α → Prop} : ∀ {us : List Value} {xs : List α}, PySem.W.EachIs (fun u x => ∃ v, RelV v u ∧ R v x) us xs → ∃ vs, Al R vs xs ∧ Vals vs us
  | _, _, .nil => ⟨[], .nil, .nil⟩
  | _, _, .cons ⟨v, r1, r2⟩ t => by
    obtain ⟨vs, h1, h2⟩ := of_each t
    exact ⟨v :: vs, .cons r2 h1, .cons r1 h2⟩

/-- sorted(xs), xs a list of tuples of one kind -/
def rSortG (R : Rl α) (e : α → PyData) : List V → Hp → VK → Prop := fun vs H Q => ∃ (a : Addr) (l : List α), vs = [.ref a] ∧ rL R H a l ∧
  ∀ p us, H p = none → Al (R H) us (l.mergeSort (PySem.W.dataLe false e)) → Q (.ref p) (upd H p (.lst us))
theorem cr_sortG {R : Rl α} {e : α → PyData} {n : Nat} (en : En R e n) (ht : ∀ x, ∃ y r, e x = .tuple (y :: r)) (hn : n ≤ 40) (hu : X.A.units + 64 < cLine) : CallR X (.builtin "sorted") (rSortG R e) := by
  intro pins s σ H vs us Q I r h
  obtain ⟨a, l, rfl, ⟨ws, hw, al⟩, q⟩ := h
  obtain ⟨its, rv, hl, hz⟩ := I.list (SqL.of hw)
  rw [Vals.ref1 r]
  have hlen : l.length ≤ sizeLine := by
    rw [← al.length]
    exact hz
  refine PySem.W.sorted_data (R := fun u x => ∃ v, RelV v u ∧ R H v x) (enc := e) (bs := l) hl.isList (each_of (fun v u x h k => ⟨v, k, h⟩) al rv)
    (each_of (fun v u x h k => Dp.reads I (e x) v u (en.dp _ _ _ _ h) k) al rv) (PySem.W.AllAlike.of fun x y => en.alk x y) (PySem.W.Sortable.tuples ht) hlen (fun b _ => by have := en.dep b; omega) fun out h1 h2 => ?_
  obtain ⟨zs, k1, k2⟩ := of_each h2
  obtain ⟨ep, he'⟩ := PyProof.Rows.sortedAll_at s.heap its out.toArray
  have hzl : zs.length ≤ sizeLine := by
    rw [k2.length, h1]
    exact hlen
  exact ⟨.ref _, upd H (s.heap.objs.size + 1) (.lst zs), I.laid (t' := s.toks) (fun _ _ => PyProof.Rows.sortedAll_old) (Nat.le_succ _) ⟨hzl, out, ep, k2, he'⟩, rfl, q _ _ (I.hok.fresh (Nat.le_succ _)) k1⟩

/-- what stands at a place, by values and by V's -/
theorem vals_back {vs : List V} {us : List Value} {i : Nat} {u : Value} (r : Vals vs us) (h : us[i]? = some u) : ∃ v, vs[i]? = some v ∧ RelV v u := by
  cases e : vs[i]? with
  | some v =>
    obtain ⟨u', h1, h2⟩ := r.get e
    rw [h] at h1
    cases h1
    exact ⟨v, rfl, h2⟩
  | none =>
    rw [r.none_of e] at h
    cases h
theorem alikeAll_of {R : Rl α} {e : α → PyData} {n : Nat} (en : En R e n) (l : List α) : PySem.W.AlikeAll (l.map e) := by
  refine ⟨fun x hx y hy => ?_, fun x hx => ?_⟩
  · obtain ⟨a, _, rfl⟩ := List.mem_map.mp hx
    obtain ⟨b, _, rfl⟩ := List.mem_map.mp hy
    exact en.alk a b
  · obtain ⟨a, _, rfl⟩ := List.mem_map.mp hx
    exact en.non a
/-- min(xs), xs a list: one of its items -/
def rMinL (R : Rl α) : List V → Hp → VK → Prop := fun vs H Q => ∃ (a : Addr) (x : α) (l : List α), vs = [.ref a] ∧ rL R H a (x :: l) ∧ ∀ v y, y ∈ x :: l → R H v y → Q v H
theorem cr_minL {R : Rl α} {e : α → PyData} {n : Nat} (en : En R e n) (hn : n ≤ 40) (hc : X.calm = true) (hu : X.A.units + 64 < cLine) : CallR X (.builtin "min") (rMinL R) := by
  intro pins s σ H vs us Q I r h
  obtain ⟨a, x, l, rfl, ⟨ws, hw, al⟩, q⟩ := h
  obtain ⟨its, rv, hl, hz⟩ := I.list (SqL.of hw)
  rw [Vals.ref1 r]
  obtain ⟨as, hr⟩ := Dp.readsAll I ((x :: l).map e) ws its (en_all en _ _ al) rv
  have hd := dep_all en.dep (x :: l)
  refine PySem.W.min_list_data (vs := its.toArray) (x := e x) (xs := l.map e) (I.ok.hd hc) hl.isList hr (alikeAll_of en (x :: l)) (by
    have : PyData.depthAll (e x :: l.map e) ≤ n := hd
    omega) fun i v h' tk bs hv hrd hk => ?_
  obtain ⟨y, h1, h2⟩ := vals_back (i := i) (u := v) rv (by simpa using hv)
  obtain ⟨z, h3, h4⟩ := al.get h1
  exact ⟨y, H, I.kept hk, h2, q y z (List.mem_of_getElem? h3) h4⟩

/-- min(t), max(t), t a tuple of two -/
def rMin2 (R : Rl α) (lt : α → α → Bool) : List V → Hp → VK → Prop := fun vs H Q => ∃ (a : Addr) (p q : V) (x y : α), vs = [.ref a] ∧ H a = some (.tup [p, q]) ∧ R H p x ∧ R H q y ∧ ∀ v, R H v (if lt y x = true then y else x) → Q v H
def rMax2 (R : Rl α) (lt : α → α → Bool) : List V → Hp → VK → Prop := fun vs H Q => ∃ (a : Addr) (p q : V) (x y : α), vs = [.ref a] ∧ H a = some (.tup [p, q]) ∧ R H p x ∧ R H q y ∧ ∀ v, R H v (if lt x y = true then y else x) → Q v H
theorem en_inj {R : Rl α} {e : α → PyData} {n : Nat} (en : En R e n) {x y : α} (h : e x = e y) : x = y := by
  refine (en.eqv x y).mp ?_
  rw [h]
  exact (en.eqv y y).mpr rfl
theorem pick2 {R : Rl α} {e : α → PyData} {n : Nat} (en : En R e n) {pins : List (Addr × Obj)} {σ : L2.St} {H : Hp} {s : Shared} (I : Inv X pins σ H s) {p q : V} {x y z : α} {its : List Value} {u : Value} {i : Nat} {h' : Heap} {bs : List Addr}
    (rv : Vals [p, q] its) (rp : R H p x) (rq : R H q y) (hu : its.toArray[i]? = some u) (hk : ∀ b o, s.heap.get? b = some o → h'.get? b = some o) (hr : Reads h' u (e z) bs) : ∃ v, RelV v u ∧ R H v z := by
  obtain ⟨v, h1, h2⟩ := vals_back (i := i) (u := u) rv (by simpa using hu)
  have fin : ∀ w, R H v w → ∃ v, RelV v u ∧ R H v z := fun w rw' => by
    obtain ⟨as, r1⟩ := Dp.reads I (e w) v u (en.dp _ _ _ _ rw') h2
    have r2 := PySem.W.reads_keeps hk r1
    have e1 := (Reads.unique r2 _ _ hr).1
    rw [← en_inj en e1]
    exact ⟨v, h2, rw'⟩
  match i, h1 with
  | 0, h1 =>
    cases h1
    exact fin x rp
  | 1, h1 =>
    cases h1
    exact fin y rq
  | i + 2, h1 => simp at h1
theorem cr_min2 {R : Rl α} {e : α → PyData} {n : Nat} (en : En R e n) {lt : α → α → Bool} (hlt : ∀ x y, PySem.W.dataLt (e x) (e y) = lt x y) (hn : n ≤ 40) (hc : X.calm = true) (hu : X.A.units + 64 < cLine) : CallR X (.builtin "min") (rMin2 R lt) := by
  intro pins s σ H vs us Q I r h
  obtain ⟨a, p, q, x, y, rfl, hw, rp, rq, k⟩ := h
  obtain ⟨its, rv, hl, hz⟩ := I.tuple (SqT.of hw)
  rw [Vals.ref1 r]
  obtain ⟨as, hr⟩ := Dp.readsAll I ([x, y].map e) [p, q] its (en_all en _ _ (.cons rp (.cons rq .nil))) rv
  have hd := dep_all en.dep [x, y]
  refine PySem.W.min_tuple_data (vs := its.toArray) (x := e x) (xs := [e y]) (I.ok.hd hc) (show s.heap.IsTuple a its.toArray from hl) hr (alikeAll_of en [x, y]) (by
    have : PyData.depthAll [e x, e y] ≤ n := hd
    omega) fun i v h' tk bs hv hrd hk => ?_
  have em : PySem.W.minD (e x) [e y] = e (if lt y x = true then y else x) := by
    show (if PySem.W.dataLt (e y) (e x) = true then e y else e x) = _
    rw [hlt]
    split <;> rfl
  rw [em] at hrd
  obtain ⟨z, h1, h2⟩ := pick2 en I rv rp rq hv hk hrd
  exact ⟨z, H, I.kept hk, h1, k z h2⟩
theorem cr_max2 {R : Rl α} {e : α → PyData} {n : Nat} (en : En R e n) {lt : α → α → Bool} (hlt : ∀ x y, PySem.W.dataLt (e x) (e y) = lt x y) (hn : n ≤ 40) (hc : X.calm = true) (hu : X.A.units + 64 < cLine) : CallR X (.builtin "max") (rMax2 R lt) := by
  intro pins s σ H vs us Q I r h
  obtain ⟨a, p, q, x, y, rfl, hw, rp, rq, k⟩ := h
  obtain ⟨its, rv, hl, hz⟩ := I.tuple (SqT.of hw)
  rw [Vals.ref1 r]
  obtain ⟨as, hr⟩ := Dp.readsAll I ([x, y].map e) [p, q] its (en_all en _ _ (.cons rp (.cons rq .nil))) rv
  have hd := dep_all en.dep [x, y]
  refine PySem.W.max_tuple_data (vs := its.toArray) (x := e x) (xs := [e y]) (I.ok.hd hc) (show s.heap.IsTuple a its.toArray from hl) hr (alikeAll_of en [x, y]) (by
    have : PyData.depthAll [e x, e y] ≤ n := hd
    omega) fun i v h' tk bs hv hrd hk => ?_
  have em : PySem.W.maxD (e x) [e y] = e (if lt x y = true then y else x) := by
    show (if PySem.W.dataLt (e x) (e y) = true then e y else e x) = _
    rw [hlt]
    split <;> rfl
  rw [em] at hrd
  obtain ⟨z, h1, h2⟩ := pick2 en I rv rp rq hv hk hrd
  exact ⟨z, H, I.kept hk, h1, k z h2⟩

/-- xs.index(y), y is there -/
def rIdxE [DecidableEq α] (R : Rl α) : V → List V → Hp → VK → Prop := fun x xs H Q => ∃ (a : Addr) (y : V) (z : α) (l : List α), x = .ref a ∧ xs = [y] ∧ rL R H a l ∧ R H y z ∧ z ∈ l ∧ ∀ j : Nat, l[j]? = some z → Q (.int (j : Nat)) H
theorem mt_idxE [DecidableEq α] {R : Rl α} {e : α → PyData} {n : Nat} (en : En R e n) (hn : n ≤ 40) (hu : X.A.units + 65 < cLine) : MtR X "list.index" (rIdxE R) := by
  intro pins s σ H x xs v us Q I rx rxs h
  obtain ⟨a, y, z, l, rfl, rfl, hl, hy, hm, q⟩ := h
  have hlt : l.idxOf z < l.length := List.idxOf_lt_length_of_mem hm
  have hat : l[l.idxOf z] = z := List.getElem_idxOf hlt
  refine mt_indexD hu pins s σ H (.ref a) [y] v us Q I rx rxs ⟨a, y, e z, l.map e, l.idxOf z, e z, rfl, rfl, en.dpL _ hl, en.dp _ _ _ _ hy, en.shapedL (by omega) l, en.shaped (by omega) z, ?_, (en.eqv z z).mpr rfl, fun m z' hm' hz' => ?_, q _ (by rw [List.getElem?_eq_getElem hlt, hat])⟩
  · rw [List.getElem?_map, List.getElem?_eq_getElem hlt, hat]
    rfl
  · rw [List.getElem?_map] at hz'
    have hml : m < l.length := by omega
    rw [List.getElem?_eq_getElem hml] at hz'
    have : e l[m] = z' := Option.some.inj hz'
    rw [← this]
    cases q : PyData.eqv (e l[m]) (e z) with
    | false => rfl
    | true =>
      have e1 := (en.eqv l[m] z).mp q
      have := List.not_of_lt_findIdx (p := (· == z)) (xs := l) (show m < l.findIdx (· == z) from hm')
      rw [e1] at this
      simp at this

/-! ### ==, in -/
def rEqE [DecidableEq α] (R : Rl α) : R2 := fun x y H Q => ∃ a b, R H x a ∧ R H y b ∧ Q (.bl (decide (a = b))) H
def rNeE [DecidableEq α] (R : Rl α) : R2 := fun x y H Q => ∃ a b, R H x a ∧ R H y b ∧ Q (.bl (!decide (a = b))) H
theorem en_dec [DecidableEq α] {R : Rl α} {e : α → PyData} {n : Nat} (en : En R e n) (x y : α) : PyData.eqv (e x) (e y) = decide (x = y) := by
  cases q : PyData.eqv (e x) (e y) with
  | true => exact (decide_eq_true ((en.eqv x y).mp q)).symm
  | false =>
    refine (decide_eq_false fun z => ?_).symm
    rw [(en.eqv x y).mpr z] at q
    cases q
theorem op_eqE [DecidableEq α] {R : Rl α} {e : α → PyData} {n : Nat} (en : En R e n) (hn : n ≤ 40) (hu : X.A.units + 64 < cLine) : OpR X (compareOp .Eq) (rEqE R) := fun pins s σ H x y v u Q I rx ry ⟨a, b, h1, h2, q⟩ =>
  op_eqD hu pins s σ H x y v u Q I rx ry ⟨e a, e b, en.dp _ _ _ _ h1, en.dp _ _ _ _ h2, en.shaped (by omega) a, en.shaped (by omega) b, by rw [en_dec en]; exact q⟩
theorem op_neE [DecidableEq α] {R : Rl α} {e : α → PyData} {n : Nat} (en : En R e n) (hn : n ≤ 40) (hu : X.A.units + 64 < cLine) : OpR X (compareOp .NotEq) (rNeE R) := fun pins s σ H x y v u Q I rx ry ⟨a, b, h1, h2, q⟩ =>
  op_neD hu pins s σ H x y v u Q I rx ry ⟨e a, e b, en.dp _ _ _ _ h1, en.dp _ _ _ _ h2, en.shaped (by omega) a, en.shaped (by omega) b, by rw [en_dec en]; exact q⟩
def rInE [DecidableEq α] (R : Rl α) (neg : Bool) : R2 := fun x y H Q => ∃ p a l, y = .ref p ∧ R H x a ∧ rL R H p l ∧ Q (.bl (if neg then !decide (a ∈ l) else decide (a ∈ l))) H
theorem any_dec [DecidableEq α] {R : Rl α} {e : α → PyData} {n : Nat} (en : En R e n) (a : α) : ∀ l : List α, ((l.map e).any fun z => PyData.eqv z (e a)) = decide (a ∈ l)
  | [] => by simp
  | x :: l => by
    rw [List.map_cons, List.any_cons, any_dec en a l, en_dec en]
    by_cases h : x = a
    · subst h
      simp
    · have h' : ¬ a = x := fun z => h z.symm
      simp [h, h']
theorem op_inE [DecidableEq α] {R : Rl α} {e : α → PyData} {n : Nat} (en : En R e n) (hn : n ≤ 40) (hu : X.A.units + 65 < cLine) : OpR X (compareOp .In) (rInE R false) := fun pins s σ H x y v u Q I rx ry ⟨p, a, l, ey, h1, h2, q⟩ =>
  op_inD hu pins s σ H x y v u Q I rx ry ⟨e a, l.map e, en.dp _ _ _ _ h1, by rw [ey]; exact en.dpL _ h2, en.shaped (by omega) a, en.shapedL (by omega) l, by rw [any_dec en]; exact q⟩
theorem op_notInE [DecidableEq α] {R : Rl α} {e : α → PyData} {n : Nat} (en : En R e n) (hn : n ≤ 40) (hu : X.A.units + 65 < cLine) : OpR X (compareOp .NotIn) (rInE R true) := fun pins s σ H x y v u Q I rx ry ⟨p, a, l, ey, h1, h2, q⟩ =>
  op_notInD hu pins s σ H x y v u Q I rx ry ⟨e a, l.map e, en.dp _ _ _ _ h1, by rw [ey]; exact en.dpL _ h2, en.shaped (by omega) a, en.shapedL (by omega) l, by rw [any_dec en]; exact q⟩
end WR
set_option Elab.async false
set_option linter.all false
set_option maxRecDepth 100000
/-! dict comprehensions with keys that are tuples: one clause, two clauses -/
namespace WR
open PySem PySem.Spec PyProof.Rows L2
section
variable {X : Cx} {pins : List (Addr × Obj)} {σ : L2.St} {H : Hp} {s : Shared}
/-- the block's context, its environment told -/
abbrev bx (X : Cx) (s : Shared) (H : Hp) (scope : Scope) (C : Addr) (cl : List (Str × Addr)) (fp : List Addr) : Cx := X.blk s H scope (compEnvC scope cl C X.env) fp

/-- a key stored by the comprehension -/
theorem dT_set {E : Value → Shared → Prop} {D b : Addr} {kvs : List (List Key × V)} {k : List Key} {v : V} {r : Value} {Q : Unit → Shared → Prop} (hu : X.A.units < cLine) (I : Inv X pins σ H s) (hD : H D = some (.dT kvs)) (hb : H b = some (.tup (k.map kV)))
    (hz : kvs.length < sizeLine) (rv : L2.RelV v r) (h : ∀ s', Inv X pins σ (upd H D (.dT (putK kvs k v))) s' → Q () s') : wpAny (model X.prog X.w) X.A (dictSet D (.ref b) r) Q E s := by
  obtain ⟨z, hd, xs, rel, dd⟩ := dt_of I.hok hD
  have hzx : xs.length ≤ sizeLine := by
    rw [← Paired.length rel]
    exact z
  have hl : (putK kvs k v).length ≤ sizeLine := Nat.le_trans (length_putK kvs k v) hz
  refine wpAny_dictSet_heap (hsz := hzx) (knd := tupleKind (mixKind X.prog X.w)) hu (key_of I.hok hb) dd fun h' dd' hs => h _ ?_
  obtain ⟨q, es, ep, hq, h2, h3, h4, _, h5⟩ := dd'
  refine d_write I (by rw [hD]; exact True.intro) hs ⟨q, hq⟩ ⟨hl, hd, _, (rel.put k hb rv).keeps fun c ys ec => ?_, q, es, ep, hq, h2, h3, h4, h5⟩
  rw [upd_ne (ne_of ec hD fun z => HO.noConfusion z)]
  exact ec

/-- how a block over a new dict is entered and left; P: what is known of the walk at its start -/
theorem block_dT {kx vx tg iter : Expr} {ifs : List Expr} {gs : List Comprehension} {scope : Scope} {own : List (Str × Nat)} {pos pos' : Pos} {wi : TI} {Q : VK} {P : Addr → It → Hp → Prop}
    (hc : X.calm = true) (hN : X.N.Nodup) (I : Inv X pins σ H s) (hi : PI X tg iter wi) (ok : BlkOk X.N X.env.scope scope own) (hs : ∀ x, foldedSetIterable iter X.env x = pure x)
    (h : wi σ H fun J H1 => ∀ D, H1 D = none → P D J (upd H1 D (.dT [])))
    (loop : ∀ (s3 s4 : Shared) (H3 : Hp) (C : Addr) (cl : List (Str × Addr)) (fp : List Addr) (it D : Addr) (tn : Nat → Heap → Prop) (J : It), Turn X.prog X.w X.K tg J fp it tn → Inv (bx X s3 H3 scope C cl fp) [] (wipe σ (own.map (·.2))) H3 s4 →
      tn 0 s4.heap → (∀ b ∈ fp, H3 b = none) → P D J H3 → codeAny (model X.prog X.w) X.A (.compLoop (.DictComp kx vx (⟨tg, iter, ifs, 0⟩ :: gs) scope pos) 0 (.ref it) (.ref D) (compEnvC scope cl C X.env))
        (fun r s' => r = .ok .next ∧ ∃ H', Inv (bx X s3 H3 scope C cl fp) [] (wipe σ (own.map (·.2))) H' s' ∧ Q (.ref D) H') s4) :
    wpAny (model X.prog X.w) X.A (comprehension (.DictComp kx vx (⟨tg, iter, ifs, 0⟩ :: gs) scope pos) scope X.env pos' newDict false (eval iter X.env) none) (EP X pins σ Q) X.xe s := by
  have hfree : ∀ y ∈ scope.names, y.2 = .free → ∃ c, X.env.cells.lookup y.1 = some c := fun y hy e => (ok.free y hy e).elim (fun k => I.ok.has _ (.inl k)) fun k => I.ok.has _ (.inr k)
  refine wpAny_comprehension_free (use := none) rfl hs (closure_ok hfree) ok.kind (fun y hy e => by rw [ok.uniq y hy, e]) (thn (hi.run pins s σ H _ I h) fun xv s1 hx => thn hx fun itv s2 h2 => ?_)
  obtain ⟨it, fp, tn, J, H2, rfl, I2, T, st2, f2, q⟩ := h2
  refine wpAny_newObj_type (newEnv_comp ?_)
  have hDn : H2 s2.heap.objs.size = none := I2.hok.fresh (Nat.le_refl _)
  have q := q _ hDn
  have up : ∀ b o, s2.heap.get? b = some o → (s2.heap.push { cls := .type "dict", data := .dict #[] }).get? b = some o := fun b o e => Heap.get?_push_of_some _ e
  have I3 : Inv X pins σ (upd H2 s2.heap.objs.size (.dT [])) { s2 with heap := s2.heap.push { cls := .type "dict", data := .dict #[] } } :=
    I2.laid (t' := s2.toks) up (Nat.le_refl _) (dt_empty s2.heap I2.big)
  have low : ∀ b ∈ fp, b < s2.heap.objs.size := fun b hb => let ⟨o, e, _⟩ := T.obj _ _ st2 b hb; Heap.lt_size e
  have f3 : ∀ b ∈ fp, FpOk X pins (upd H2 s2.heap.objs.size (.dT [])) b ∧ b < (s2.heap.push { cls := .type "dict", data := .dict #[] }).objs.size := fun b hb => by
    refine ⟨⟨?_, (f2 b hb).2⟩, by rw [Heap.size_push]; exact Nat.lt_succ_of_lt (low b hb)⟩
    rw [upd_ne (Nat.ne_of_lt (low b hb))]
    exact (f2 b hb).1
  have I4 := block_start I3 ok hN f3
  generalize hs3 : ({ s2 with heap := s2.heap.push { cls := .type "dict", data := .dict #[] } } : Shared) = s3 at I3 I4 f3 ⊢
  have h3 : s3.heap = s2.heap.push { cls := .type "dict", data := .dict #[] } := by rw [← hs3]
  rw [← h3] at f3
  have st4 : tn 0 (pushCells (s3.heap.push { cls := .type "dict", data := .dict #[] }) scope.names) := T.keep _ _ _ st2 fun b _ o e =>
    pushCells_keeps _ _ _ _ (Heap.get?_push_of_some _ (by rw [h3]; exact up b o e))
  have lp := loop s3 { s3 with heap := pushCells (s3.heap.push { cls := .type "dict", data := .dict #[] }) scope.names } (upd H2 s2.heap.objs.size (.dT [])) s3.heap.objs.size (cellsFrom (s3.heap.objs.size + 1) scope.names (cloFrom X.env.cells scope.names []))
    fp it s2.heap.objs.size tn J T I4 st4 (fun b hb => (f3 b hb).1.1) q
  show codeAny _ _ (.compStart (.DictComp kx vx (⟨tg, iter, ifs, 0⟩ :: gs) scope pos) 0 (.ref it) (.ref s2.heap.objs.size) (compEnvC scope (cellsFrom (s3.heap.objs.size + 1) scope.names (cloFrom X.env.cells scope.names [])) s3.heap.objs.size X.env)) (compPost (model X.prog X.w) X.A X.xe none (EP X pins σ Q) (.ref s2.heap.objs.size) s3.heap.objs.size) { s3 with heap := pushCells (s3.heap.push { cls := .type "dict", data := .dict #[] }) scope.names }
  have fin := codeAny_mono (R' := compPost (model X.prog X.w) X.A X.xe none (EP X pins σ Q) (.ref s2.heap.objs.size) s3.heap.objs.size) lp fun r s' ⟨er, H', I', qq⟩ => by
    subst er
    have I7 : Inv X pins σ H' s' := I3.call' (ch := fp) I'.os I'.base I'.hok I'.bare fun b hb => ⟨(f3 b hb).1.2.2.2.1, (f3 b hb).1.2.1, (f3 b hb).1.2.2.2.2.1, (f3 b hb).1.2.2.2.2.2⟩
    have nC : H' s3.heap.objs.size = none := I'.free
    obtain ⟨m, hn, _⟩ := I'.loc
    have hn : s'.heap.Ns s3.heap.objs.size m := hn
    obtain ⟨f0, f1, fs, fe, fc, fpn⟩ := I3.fpOk (Nat.le_refl _) nC
    exact ⟨m, hn, fun h'' sb => ⟨.ref s2.heap.objs.size, H', I7.turned (t' := s'.toks) (fun b o hb e => (sb.2 b hb).trans e) f0 f1 fe fc fpn, rfl, qq⟩⟩
  exact codeAny_compStart_dict fin (T.self X.A 0 _ _ _ st4 fin)

/-- a turn's end: what the iterator is, it stays -/
theorem turn_end {X : Cx} {s3 : Shared} {H3 : Hp} {scope : Scope} {C : Addr} {cl : List (Str × Addr)} {fp fq : List Addr} {pn : List (Addr × Obj)} {τ σ8 : L2.St} {tg : Expr} {J : It} {it : Addr} {tn : Nat → Heap → Prop} {i : Nat} {s7 s' : Shared} {H' : Hp}
    (T : Turn X.prog X.w X.K tg J fq it tn) (st7 : tn i s7.heap) (I' : Inv (bx X s3 H3 scope C cl fp) (pn ++ pinsAt fq s7.heap) σ8 H' s') (hl : τ.length = σ8.length) (hk : ∀ (j : Nat) v, τ[j]? = some (some v) → σ8[j]? = some (some v)) :
    Inv (bx X s3 H3 scope C cl fp) pn τ H' s' ∧ tn i s'.heap ∧ ∀ b ∈ fq, H' b = none := by
  have pin : ∀ b ∈ fq, ∀ o, s7.heap.get? b = some o → s'.heap.get? b = some o ∧ H' b = none := fun b hb o e =>
    let z := I'.pin (b, o) (List.mem_append_right _ (List.mem_append_right _ (mem_pinsAt hb e)))
    ⟨z.1, z.2.1⟩
  exact ⟨I'.unpinned.weak hl hk, T.keep _ _ _ st7 fun b hb o e => (pin b hb o e).1, fun b hb => let ⟨o, e, _⟩ := T.obj _ _ st7 b hb; (pin b hb o e).2⟩

/-- a walk that fills the dict at D -/
def wDT (g : TG) (tt : TT) (tk tv : TE) (vs : List Nat) (σ : L2.St) (Q : VK) (D : Addr) (J : It) (H0 : Hp) : Prop := ∃ W : Nat → Nat → Hp → Prop, (∃ m, W 0 m H0) ∧ ∀ i m H, W i m H →
  (J.stop i H ∧ Q (.ref D) H) ∨ (J.go i H ∧ ∃ Nx : Hp → Prop, (∀ H', Nx H' → ∃ m', m' < m ∧ W (i + 1) m' H') ∧ ∀ x H', J.yld i H x H' → g x (wipe σ vs) H' fun σ2 H2 => wipe σ2 vs = wipe σ vs ∧ tt σ2 H2 fun b H3 =>
    if b = true then tk σ2 H3 fun y H4 => tv σ2 H4 fun z H5 => ∃ kvs k c, y = .ref c ∧ H5 c = some (.tup (k.map kV)) ∧ H5 D = some (.dT kvs) ∧ kvs.length < sizeLine ∧ Nx (upd H5 D (.dT (putK kvs k z))) else Nx H3)
/-- {k: v for target in iter if ..}, keys tuples: D the new dict -/
def tDT (wi : TI) (g : TG) (tt : TT) (tk tv : TE) (vs : List Nat) : TE := fun σ H Q => wi σ H fun J H1 => ∀ D, H1 D = none → wDT g tt tk tv vs σ Q D J (upd H1 D (.dT []))
theorem pe_dT {kx vx tg iter : Expr} {ifs : List Expr} {scope : Scope} {own : List (Str × Nat)} {pos : Pos} {wi : TI} {g : TG} {tt : TT} {tk tv : TE} (hu : X.A.units < cLine) (hc : X.calm = true) (hN : X.N.Nodup) (hi : PI X tg iter wi) (ok : BlkOk X.N X.env.scope scope own)
    (hg : ∀ s H C cl fp, PG (bx X s H scope C cl fp) tg g) (ht : ∀ s H C cl fp, PTs (bx X s H scope C cl fp) ifs tt) (hk : ∀ s H C cl fp, PE (bx X s H scope C cl fp) kx tk) (he : ∀ s H C cl fp, PE (bx X s H scope C cl fp) vx tv)
    (hs : ∀ x, foldedSetIterable iter X.env x = pure x := by intro _; rfl) : PE X (.DictComp kx vx [⟨tg, iter, ifs, 0⟩] scope pos) (tDT wi g tt tk tv (own.map (·.2))) := by
  refine ⟨fun pins s σ H Q I h => ?_⟩
  rw [arm_eval_DictComp]
  refine block_dT (P := wDT g tt tk tv (own.map fun x : Str × Nat => x.2) σ Q) hc hN I hi ok hs h fun s3 s4 H3 C cl fp it D tn J T I4 st4 n4 q => ?_
  obtain ⟨W, ⟨m0, w0⟩, turn⟩ := q
  have stat : ∀ {σ' : L2.St} {H' : Hp} {s' : Shared}, Inv (bx X s3 H3 scope C cl fp) [] σ' H' s' → (∀ b ∈ fp, H' b = none) → ∀ b ∈ fp, FpOk (bx X s3 H3 scope C cl fp) [] H' b := fun I' hn b hb =>
    ⟨hn b hb, (I'.ok.exf b hb).1, I'.ok.exfs b hb, .inl hb, fun x c e => (I'.ok.exf b hb).2 x c e, fun p hp => absurd (show p ∈ ([] : List (Addr × Obj)) ++ [] from hp) (by simp)⟩
  refine compLoop_anyD (fun n s' => ∃ i H', Inv (bx X s3 H3 scope C cl fp) [] (wipe σ (own.map (·.2))) H' s' ∧ tn i s'.heap ∧ (∀ b ∈ fp, H' b = none) ∧ W i n H') ?_ m0 ⟨0, H3, I4, st4, n4, w0⟩
  rintro n s5 ⟨i, H5, I5, st5, n5, w5⟩
  rcases turn i n H5 w5 with ⟨stop, qq⟩ | ⟨go, Nx, hNx, step⟩
  · refine thnF (T.done (bx X s3 H3 scope C cl fp) rfl rfl rfl hc i [] s5 _ H5 (fun _ _ => False) I5 (stat I5 n5) st5 stop) fun r s6 ⟨hr, I6⟩ => ?_
    subst hr
    exact ⟨rfl, H5, I6, qq⟩
  · refine thnF (T.item (bx X s3 H3 scope C cl fp) rfl rfl rfl hc i [] s5 _ H5 (fun _ _ => False) I5 (stat I5 n5) st5 go) fun r s6 ⟨u, hr, h6⟩ => ?_
    subst hr
    refine thnF h6 fun _ s7 ⟨x, H7, I7, r7, y7, st7, n7⟩ => ?_
    refine thnF ((hg s3 H3 C cl fp).run _ s7 _ H7 x u _ (I7.pinned (stat I7 n7) (T.obj _ _ st7)) r7 (step x H7 y7)) fun _ s8 ⟨σ8, H8, I8, hw8, q8⟩ => ?_
    refine thnF ((ht s3 H3 C cl fp).run _ s8 σ8 H8 _ I8 q8) fun b s9 ⟨H9, I9, q9⟩ => ?_
    have fin : ∀ {s' : Shared} {H' : Hp}, Inv (bx X s3 H3 scope C cl fp) ([] ++ pinsAt fp s7.heap) σ8 H' s' → Nx H' → ∃ m, m < n ∧ ∃ i H', Inv (bx X s3 H3 scope C cl fp) [] (wipe σ (own.map (·.2))) H' s' ∧ tn i s'.heap ∧ (∀ b ∈ fp, H' b = none) ∧ W i m H' := fun I' nx => by
      obtain ⟨m', hm, w'⟩ := hNx _ nx
      obtain ⟨a1, a2, a3⟩ := turn_end (X := X) T st7 I' (τ := wipe σ (own.map (·.2))) (by rw [← hw8, wipe_length]) fun j v e => by
        rw [← hw8] at e
        exact (wipe_some e).1
      exact ⟨m', hm, i + 1, _, a1, a2, a3, w'⟩
    cases b with
    | false =>
      simp only [Bool.false_eq_true, if_false] at q9 ⊢
      exact fin I9 q9
    | true =>
      simp only [if_true] at q9 ⊢
      refine thnF ((hk s3 H3 C cl fp).run _ s9 σ8 H9 _ I9 q9) fun z s10 ⟨yk, H10, I10, r10, q10⟩ => ?_
      refine thnF ((he s3 H3 C cl fp).run _ s10 σ8 H10 _ I10 q10) fun z2 s11 ⟨yv, H11, I11, r11, kvs, k, c, ek, hc11, hD11, hz11, nx⟩ => ?_
      subst ek
      cases r10
      exact dT_set (X := bx X s3 H3 scope C cl fp) hu I11 hD11 hc11 hz11 r11 fun s12 I12 => fin I12 nx

/-! ### two clauses -/
theorem turnD_out (kx vx t0 i0 t1 i1 : Expr) (scope : Scope) (pos : Pos) (it : Value) (D : Addr) (env : Env) : compTurn (.DictComp kx vx [⟨t0, i0, [], 0⟩, ⟨t1, i1, [], 0⟩] scope pos) 0 it (.ref D) env = (do
    standAt i0.pos
    match ← pyNext it with
    | none => pure (.done .next)
    | some v =>
      letOwnedTupleGo t0 it v
      assign t0 env v
      let x ← eval i1 env
      standAt i1.pos
      let x ← foldedSetIterable i1 env x
      let _ ← runOwn (.compStart (.DictComp kx vx [⟨t0, i0, [], 0⟩, ⟨t1, i1, [], 0⟩] scope pos) 1 (← holding [x] (pyIter x)) (.ref D) env) env
      again (.compLoop (.DictComp kx vx [⟨t0, i0, [], 0⟩, ⟨t1, i1, [], 0⟩] scope pos) 0 it (.ref D) env)) := by rfl
theorem turnD_in (kx vx t0 i0 t1 i1 : Expr) (scope : Scope) (pos : Pos) (it : Value) (D : Addr) (env : Env) : compTurn (.DictComp kx vx [⟨t0, i0, [], 0⟩, ⟨t1, i1, [], 0⟩] scope pos) 1 it (.ref D) env = (do
    standAt i1.pos
    match ← pyNext it with
    | none => pure (.done .next)
    | some v =>
      letOwnedTupleGo t1 it v
      assign t1 env v
      (do
        let kv ← eval kx env
        let vv ← holding [kv] (eval vx env)
        standAt { kx.pos with endLine := vx.pos.endLine, endCol := vx.pos.endCol }
        holding [kv, vv] (dictSet D kv vv))
      again (.compLoop (.DictComp kx vx [⟨t0, i0, [], 0⟩, ⟨t1, i1, [], 0⟩] scope pos) 1 it (.ref D) env)) := by rfl
section
variable {prog : Program} {w : World} {A : Around} {R : Result → Shared → Prop} {s : Shared} {kx vx t0 i0 t1 i1 : Expr} {scope : Scope} {pos : Pos} {it : Value} {D : Addr} {env : Env}
theorem loopD_out (hs : ∀ x, foldedSetIterable i1 env x = pure x) (I : Nat → Shared → Prop)
    (turn : ∀ n s, I n s → wpAny (model prog w) A (pyNext it) (fun r s1 => match r with
      | none => R (.ok .next) s1
      | some v => wpAny (model prog w) A (letOwnedTupleGo t0 it v) (fun _ s2 => wpAny (model prog w) A (assign t0 env v) (fun _ s3 => wpAny (model prog w) A (eval i1 env) (fun x s4 => wpAny (model prog w) A (pyIter x) (fun it1 s5 =>
          codeAny (model prog w) A (.compStart (.DictComp kx vx [⟨t0, i0, [], 0⟩, ⟨t1, i1, [], 0⟩] scope pos) 1 it1 (.ref D) env) (fun r s' => match r with
            | .ok _ => ∃ m, m < n ∧ I m s'
            | .error _ => False) s5) (fun _ _ => False) s4) (fun _ _ => False) s3) (fun _ _ => False) s2) (fun _ _ => False) s1) (fun _ _ => False) s)
    (n : Nat) (h : I n s) : codeAny (model prog w) A (.compLoop (.DictComp kx vx [⟨t0, i0, [], 0⟩, ⟨t1, i1, [], 0⟩] scope pos) 0 it (.ref D) env) R s := by
  refine codeAny_loop rfl I (fun n s hI => ?_) n h
  show wpAny _ A ((compTurn (.DictComp kx vx [⟨t0, i0, [], 0⟩, ⟨t1, i1, [], 0⟩] scope pos) 0 it (.ref D) env).onRaise (fun x => do noteFrame x env; theTreesLotGoes x)) _ _ s
  refine wpAny_noted ?_
  rw [turnD_out]
  refine wpAny_bind (wpAny_standAt (wpAny_bind (thnF (turn n s hI) fun r s1 h1 => ?_)))
  cases r with
  | none => exact wpAny_pure h1
  | some v =>
    refine wpAny_bind (thnF h1 fun _ s2 h2 => wpAny_bind (thnF h2 fun _ s3 h3 => wpAny_bind (thnF h3 fun x s4 h4 => ?_)))
    refine wpAny_bind (wpAny_standAt (wpAny_bind (wpAny_of_eq (hs x) (wpAny_bind (wpAny_holding (thnF h4 fun it1 s5 h5 => ?_))))))
    refine wpAny_bind (wpAny_runOwn ?_)
    rw [Around.mark_none]
    refine codeAny_mono h5 fun r s' hr => ?_
    cases r with
    | ok f => exact wpAny_pure ⟨rfl, hr⟩
    | error e => exact hr.elim
theorem loopD_in (I : Nat → Shared → Prop)
    (turn : ∀ n s, I n s → wpAny (model prog w) A (pyNext it) (fun r s1 => match r with
      | none => R (.ok .next) s1
      | some v => wpAny (model prog w) A (letOwnedTupleGo t1 it v) (fun _ s2 => wpAny (model prog w) A (assign t1 env v) (fun _ s3 => wpAny (model prog w) A (eval kx env) (fun kv s4 => wpAny (model prog w) A (eval vx env) (fun vv s5 =>
          wpAny (model prog w) A (dictSet D kv vv) (fun _ s6 => ∃ m, m < n ∧ I m s6) (fun _ _ => False) s5) (fun _ _ => False) s4) (fun _ _ => False) s3) (fun _ _ => False) s2) (fun _ _ => False) s1) (fun _ _ => False) s)
    (n : Nat) (h : I n s) : codeAny (model prog w) A (.compLoop (.DictComp kx vx [⟨t0, i0, [], 0⟩, ⟨t1, i1, [], 0⟩] scope pos) 1 it (.ref D) env) R s := by
  refine codeAny_loop rfl I (fun n s hI => ?_) n h
  show wpAny _ A ((compTurn (.DictComp kx vx [⟨t0, i0, [], 0⟩, ⟨t1, i1, [], 0⟩] scope pos) 1 it (.ref D) env).onRaise (fun x => do noteFrame x env; theTreesLotGoes x)) _ _ s
  refine wpAny_noted ?_
  rw [turnD_in]
  refine wpAny_bind (wpAny_standAt (wpAny_bind (thnF (turn n s hI) fun r s1 h1 => ?_)))
  cases r with
  | none => exact wpAny_pure h1
  | some v =>
    refine wpAny_bind (thnF h1 fun _ s2 h2 => wpAny_bind (thnF h2 fun _ s3 h3 => ?_))
    exact wpAny_bind (wpAny_bind (thnF h3 fun kv s4 h4 => wpAny_bind (wpAny_holding (thnF h4 fun vv s5 h5 => wpAny_bind (wpAny_standAt (wpAny_holding (thnF h5 fun _ s6 h6 => wpAny_pure ⟨rfl, h6⟩)))))))
theorem startD_in (h0 : codeAny (model prog w) A (.compLoop (.DictComp kx vx [⟨t0, i0, [], 0⟩, ⟨t1, i1, [], 0⟩] scope pos) 1 it (.ref D) env) R s)
    (h : wpAny (model prog w) A (pyIter it) (fun it' s' => codeAny (model prog w) A (.compLoop (.DictComp kx vx [⟨t0, i0, [], 0⟩, ⟨t1, i1, [], 0⟩] scope pos) 1 it' (.ref D) env) R s') (fun _ _ => False) s) :
    codeAny (model prog w) A (.compStart (.DictComp kx vx [⟨t0, i0, [], 0⟩, ⟨t1, i1, [], 0⟩] scope pos) 1 it (.ref D) env) R s := by
  refine codeAny_of_tree ?_
  show wpAny _ _ ((compStart (.DictComp kx vx [⟨t0, i0, [], 0⟩, ⟨t1, i1, [], 0⟩] scope pos) 1 it (.ref D) env).onRaise (fun x => do noteFrame x env; standAt theWindowsPlace)) _ _ s
  refine wpAny_notedAt ?_
  unfold compStart
  show wpAny _ _ (ask >>= _) _ _ s
  refine wpAny_bind (wpAny_askSetting (wpAny_ite ?_))
  split
  · first
      | exact wpAny_bind (wpAny_pure (wpAny_pure (And.intro rfl h0)))
      | exact wpAny_pure (And.intro rfl h0)
  · first
      | exact wpAny_bind (wpAny_rule (wpAny_bind (wpAny_standAt (wpAny_bind (thnF h fun it' s' h' => wpAny_pure (And.intro rfl h'))))))
      | (refine wpAny_bind (wpAny_rule ?_); show wpAny _ _ (standAt i1.pos >>= _) _ _ s; exact wpAny_bind (wpAny_standAt (wpAny_bind (thnF h fun it' s' h' => wpAny_pure (And.intro rfl h')))))
end

def wDT2 (g : TG) (wi1 : TI) (g1 : TG) (tk tv : TE) (vs vs1 : List Nat) (σ : L2.St) (Q : VK) (D : Addr) (J : It) (H0 : Hp) : Prop := ∃ W : Nat → Nat → Hp → Prop, (∃ m, W 0 m H0) ∧ ∀ i m H, W i m H →
  (J.stop i H ∧ Q (.ref D) H) ∨ (J.go i H ∧ ∃ Nx : Hp → Prop, (∀ H', Nx H' → ∃ m', m' < m ∧ W (i + 1) m' H') ∧ ∀ x H', J.yld i H x H' → g x (wipe σ vs) H' fun σ2 H2 => wipe σ2 vs = wipe σ vs ∧
    wi1 σ2 H2 fun J1 H4 => ∃ W1 : Nat → Nat → Hp → Prop, (∃ m, W1 0 m H4) ∧ ∀ j k H, W1 j k H →
      (J1.stop j H ∧ Nx H) ∨ (J1.go j H ∧ ∃ Nx1 : Hp → Prop, (∀ H', Nx1 H' → ∃ k', k' < k ∧ W1 (j + 1) k' H') ∧ ∀ x H', J1.yld j H x H' → g1 x (wipe σ2 vs1) H' fun σ3 H5 => wipe σ3 vs1 = wipe σ2 vs1 ∧
        tk σ3 H5 fun y H6 => tv σ3 H6 fun z H7 => ∃ kvs k c, y = .ref c ∧ H7 c = some (.tup (k.map kV)) ∧ H7 D = some (.dT kvs) ∧ kvs.length < sizeLine ∧ Nx1 (upd H7 D (.dT (putK kvs k z)))))
/-- {k: v for target in iter for target1 in iter1} -/
def tDT2 (wi : TI) (g : TG) (wi1 : TI) (g1 : TG) (tk tv : TE) (vs vs1 : List Nat) : TE := fun σ H Q => wi σ H fun J H1 => ∀ D, H1 D = none → wDT2 g wi1 g1 tk tv vs vs1 σ Q D J (upd H1 D (.dT []))
theorem pe_dT2 {kx vx tg iter tg1 iter1 : Expr} {scope : Scope} {own : List (Str × Nat)} {vs1 : List Nat} {pos : Pos} {wi wi1 : TI} {g g1 : TG} {tk tv : TE} (hu : X.A.units < cLine) (hc : X.calm = true) (hN : X.N.Nodup) (hi : PI X tg iter wi) (ok : BlkOk X.N X.env.scope scope own) (hv : ∀ i ∈ vs1, i ∈ own.map (·.2))
    (hg : ∀ s H C cl fp, PG (bx X s H scope C cl fp) tg g) (hi1 : ∀ s H C cl fp, PI (bx X s H scope C cl fp) tg1 iter1 wi1) (hg1 : ∀ s H C cl fp, PG (bx X s H scope C cl fp) tg1 g1)
    (hk : ∀ s H C cl fp, PE (bx X s H scope C cl fp) kx tk) (he : ∀ s H C cl fp, PE (bx X s H scope C cl fp) vx tv)
    (hs : ∀ x, foldedSetIterable iter X.env x = pure x := by intro _; rfl) (hs1 : ∀ env x, foldedSetIterable iter1 env x = pure x := by intro _ _; rfl) :
    PE X (.DictComp kx vx [⟨tg, iter, [], 0⟩, ⟨tg1, iter1, [], 0⟩] scope pos) (tDT2 wi g wi1 g1 tk tv (own.map (·.2)) vs1) := by
  refine ⟨fun pins s σ H Q I h => ?_⟩
  rw [arm_eval_DictComp]
  refine block_dT (P := wDT2 g wi1 g1 tk tv (own.map fun x : Str × Nat => x.2) vs1 σ Q) hc hN I hi ok hs h fun s3 s4 H3 C cl fp it D tn J T I4 st4 n4 q => ?_
  obtain ⟨W, ⟨m0, w0⟩, turn⟩ := q
  have stat : ∀ {σ' : L2.St} {H' : Hp} {s' : Shared}, Inv (bx X s3 H3 scope C cl fp) [] σ' H' s' → (∀ b ∈ fp, H' b = none) → ∀ b ∈ fp, FpOk (bx X s3 H3 scope C cl fp) [] H' b := fun I' hn b hb =>
    ⟨hn b hb, (I'.ok.exf b hb).1, I'.ok.exfs b hb, .inl hb, fun x c e => (I'.ok.exf b hb).2 x c e, fun p hp => absurd (show p ∈ ([] : List (Addr × Obj)) ++ [] from hp) (by simp)⟩
  refine loopD_out (hs1 _) (fun n s' => ∃ i H', Inv (bx X s3 H3 scope C cl fp) [] (wipe σ (own.map (·.2))) H' s' ∧ tn i s'.heap ∧ (∀ b ∈ fp, H' b = none) ∧ W i n H') ?_ m0 ⟨0, H3, I4, st4, n4, w0⟩
  rintro n s5 ⟨i, H5, I5, st5, n5, w5⟩
  rcases turn i n H5 w5 with ⟨stop, qq⟩ | ⟨go, Nx, hNx, step⟩
  · refine thnF (T.done (bx X s3 H3 scope C cl fp) rfl rfl rfl hc i [] s5 _ H5 (fun _ _ => False) I5 (stat I5 n5) st5 stop) fun r s6 ⟨hr, I6⟩ => ?_
    subst hr
    exact ⟨rfl, H5, I6, qq⟩
  · refine thnF (T.item (bx X s3 H3 scope C cl fp) rfl rfl rfl hc i [] s5 _ H5 (fun _ _ => False) I5 (stat I5 n5) st5 go) fun r s6 ⟨u, hr, h6⟩ => ?_
    subst hr
    refine thnF h6 fun _ s7 ⟨x, H7, I7, r7, y7, st7, n7⟩ => ?_
    refine thnF ((hg s3 H3 C cl fp).run _ s7 _ H7 x u _ (I7.pinned (stat I7 n7) (T.obj _ _ st7)) r7 (step x H7 y7)) fun _ s8 ⟨σ8, H8, I8, hw8, q8⟩ => ?_
    have fin : ∀ {σ9 : L2.St} {s' : Shared} {H' : Hp}, Inv (bx X s3 H3 scope C cl fp) ([] ++ pinsAt fp s7.heap) σ9 H' s' → (wipe σ (own.map (·.2))).length = σ9.length → (∀ (j : Nat) v, (wipe σ (own.map (·.2)))[j]? = some (some v) → σ9[j]? = some (some v)) → Nx H' →
        ∃ m, m < n ∧ ∃ i H', Inv (bx X s3 H3 scope C cl fp) [] (wipe σ (own.map (·.2))) H' s' ∧ tn i s'.heap ∧ (∀ b ∈ fp, H' b = none) ∧ W i m H' := fun I' hl hk nx => by
      obtain ⟨m', hm, w'⟩ := hNx _ nx
      obtain ⟨a1, a2, a3⟩ := turn_end (X := X) T st7 I' hl hk
      exact ⟨m', hm, i + 1, _, a1, a2, a3, w'⟩
    have hl8 : (wipe σ (own.map (·.2))).length = σ8.length := by rw [← hw8, wipe_length]
    have hk9 : ∀ (j : Nat) v, (wipe σ (own.map (·.2)))[j]? = some (some v) → (wipe σ8 vs1)[j]? = some (some v) := fun j v e => by
      rw [← hw8] at e
      obtain ⟨e1, e2⟩ := wipe_some e
      rw [wipe_out fun z => e2 (hv j z)]
      exact e1
    refine thnF ((hi1 s3 H3 C cl fp).run _ s8 σ8 H8 _ I8 q8) fun xv s10 hx => thnF hx fun itv s11 h11 => ?_
    obtain ⟨it1, fp1, tn1, J1, H11, rfl, I11, T1, st11, f11, W1, ⟨m1, w1⟩, turn1⟩ := h11
    have stat1 : ∀ {H' : Hp}, (∀ b ∈ fp1, H' b = none) → ∀ b ∈ fp1, FpOk (bx X s3 H3 scope C cl fp) ([] ++ pinsAt fp s7.heap) H' b := fun hn b hb => ⟨hn b hb, (f11 b hb).2⟩
    have loop1 : codeAny (model X.prog X.w) X.A (.compLoop (.DictComp kx vx [⟨tg, iter, [], 0⟩, ⟨tg1, iter1, [], 0⟩] scope pos) 1 (.ref it1) (.ref D) (compEnvC scope cl C X.env))
        (fun r s' => match r with
          | .ok _ => ∃ m, m < n ∧ ∃ i H', Inv (bx X s3 H3 scope C cl fp) [] (wipe σ (own.map (·.2))) H' s' ∧ tn i s'.heap ∧ (∀ b ∈ fp, H' b = none) ∧ W i m H'
          | .error _ => False) s11 := by
      refine loopD_in (fun k s' => ∃ j H', Inv (bx X s3 H3 scope C cl fp) ([] ++ pinsAt fp s7.heap) (wipe σ8 vs1) H' s' ∧ tn1 j s'.heap ∧ (∀ b ∈ fp1, H' b = none) ∧ W1 j k H') ?_ m1
        ⟨0, H11, I11.weak (wipe_length _ _) (fun j v e => (wipe_some e).1), st11, fun b hb => (f11 b hb).1, w1⟩
      rintro k s12 ⟨j, H12, I12, st12, n12, w12⟩
      rcases turn1 j k H12 w12 with ⟨stop1, nx1⟩ | ⟨go1, Nx1, hNx1, step1⟩
      · refine thnF (T1.done (bx X s3 H3 scope C cl fp) rfl rfl rfl hc j _ s12 (wipe σ8 vs1) H12 (fun _ _ => False) I12 (stat1 n12) st12 stop1) fun r s13 ⟨hr, I13⟩ => ?_
        subst hr
        exact fin I13 (hl8.trans (wipe_length σ8 vs1).symm) hk9 nx1
      · refine thnF (T1.item (bx X s3 H3 scope C cl fp) rfl rfl rfl hc j _ s12 (wipe σ8 vs1) H12 (fun _ _ => False) I12 (stat1 n12) st12 go1) fun r s13 ⟨u1, hr, h13⟩ => ?_
        subst hr
        refine thnF h13 fun _ s14 ⟨x1, H14, I14, r14, y14, st14, n14⟩ => ?_
        refine thnF ((hg1 s3 H3 C cl fp).run _ s14 (wipe σ8 vs1) H14 x1 u1 _ (I14.pinned (stat1 n14) (T1.obj _ _ st14)) r14 (step1 x1 H14 y14)) fun _ s15 ⟨σ15, H15, I15, hw15, q15⟩ => ?_
        refine thnF ((hk s3 H3 C cl fp).run _ s15 σ15 H15 _ I15 q15) fun z s16 ⟨yk, H16, I16, r16, q16⟩ => ?_
        refine thnF ((he s3 H3 C cl fp).run _ s16 σ15 H16 _ I16 q16) fun z2 s17 ⟨yv, H17, I17, r17, kvs, kk, c, ek, hc17, hD17, hz17, nx⟩ => ?_
        subst ek
        cases r16
        refine dT_set (X := bx X s3 H3 scope C cl fp) hu I17 hD17 hc17 hz17 r17 fun s18 I18 => ?_
        obtain ⟨m', hm, w'⟩ := hNx1 _ nx
        obtain ⟨a1, a2, a3⟩ := turn_end (X := X) T1 st14 I18 (τ := wipe σ8 vs1) (by rw [← hw15, wipe_length]) fun j v e => by
          rw [← hw15] at e
          exact (wipe_some e).1
        exact ⟨m', hm, j + 1, _, a1, a2, a3, w'⟩
    exact startD_in loop1 (T1.self X.A 0 _ _ _ st11 loop1)
end
end WR
set_option Elab.async false
set_option linter.all false
set_option maxRecDepth 100000
/-! dicts with pairs of small numbers as keys: tables, sets, update; sets of small numbers -/
namespace WR
open PySem PySem.Spec PyProof.Rows L2
abbrev Sd := Nat × Nat
def ky (x : Sd) : List Key := [.inl (x.1 : Int), .inl (x.2 : Int)]
theorem ky_inj {x y : Sd} (h : ky x = ky y) : x = y := by
  obtain ⟨a, b⟩ := x
  obtain ⟨c, d⟩ := y
  unfold ky at h
  simp only [List.cons.injEq, Sum.inl.injEq, and_true] at h
  have h1 : a = c := by omega
  have h2 : b = d := by omega
  rw [h1, h2]
theorem ky_iff {x y : Sd} : ky x = ky y ↔ x = y := ⟨ky_inj, fun h => by rw [h]⟩
def Gr (x : Sd) : Prop := x.1 < 8 ∧ x.2 < 8
structure KD (kvs : List (List Key × V)) : Prop where
  nd : (kvs.map (·.1)).Nodup
  gr : ∀ k ∈ kvs.map (·.1), ∃ x, Gr x ∧ k = ky x
def grid : List Sd := (List.range 8).flatMap fun a => (List.range 8).map fun b => (a, b)
theorem mem_grid {x : Sd} (h : Gr x) : x ∈ grid := by
  unfold grid
  rw [List.mem_flatMap]
  exact ⟨x.1, List.mem_range.mpr h.1, List.mem_map.mpr ⟨x.2, List.mem_range.mpr h.2, rfl⟩⟩
theorem KD.len {kvs : List (List Key × V)} (h : KD kvs) : kvs.length ≤ 64 := by
  have e : (kvs.map (·.1)).length ≤ (grid.map ky).length := List.Nodup.length_le_of_subset h.nd fun k hk => by
    obtain ⟨x, hx, rfl⟩ := h.gr k hk
    exact List.mem_map.mpr ⟨x, mem_grid hx, rfl⟩
  rw [List.length_map, List.length_map] at e
  have : grid.length = 64 := by decide
  omega
theorem KD.lt {kvs : List (List Key × V)} (h : KD kvs) : kvs.length < sizeLine := Nat.lt_of_le_of_lt h.len (by decide)
theorem KD.nil : KD [] := ⟨List.nodup_nil, fun k h => by cases h⟩
theorem keys_put {κ : Type} [DecidableEq κ] (kvs : List (κ × V)) (k : κ) (v : V) : (putK kvs k v).map (·.1) = if k ∈ kvs.map (·.1) then kvs.map (·.1) else kvs.map (·.1) ++ [k] := by
  unfold putK
  by_cases h : k ∈ kvs.map (·.1)
  · have q : (kvs.any fun kv => decide (kv.1 = k)) = true := by
      obtain ⟨p, hp, e⟩ := List.mem_map.mp h
      exact List.any_eq_true.mpr ⟨p, hp, decide_eq_true e⟩
    rw [if_pos q, if_pos h, List.map_map]
    refine List.map_congr_left fun p _ => ?_
    show (if p.1 = k then (p.1, v) else p).1 = p.1
    split <;> rfl
  · have q : ¬ (kvs.any fun kv => decide (kv.1 = k)) = true := by
      rw [List.any_eq_true]
      rintro ⟨p, hp, e⟩
      exact h (List.mem_map.mpr ⟨p, hp, of_decide_eq_true e⟩)
    rw [if_neg q, if_neg h, List.map_append]
    rfl
theorem KD.put {kvs : List (List Key × V)} (h : KD kvs) {x : Sd} (hx : Gr x) (v : V) : KD (putK kvs (ky x) v) := by
  have e := keys_put kvs (ky x) v
  by_cases m : ky x ∈ kvs.map (·.1)
  · rw [if_pos m] at e
    exact ⟨by rw [e]; exact h.nd, by rw [e]; exact h.gr⟩
  · rw [if_neg m] at e
    refine ⟨by rw [e]; exact nd_snoc h.nd m, fun k hk => ?_⟩
    rw [e] at hk
    rcases List.mem_append.mp hk with q | q
    · exact h.gr k q
    · rw [List.mem_singleton] at q
      exact ⟨x, hx, q⟩
theorem some_iff {κ : Type} [DecidableEq κ] {kvs : List (κ × V)} {k : κ} : (valV kvs k).isSome = true ↔ k ∈ kvs.map (·.1) := by
  rw [← valV_any, List.any_eq_true, List.mem_map]
  exact ⟨fun ⟨p, hp, e⟩ => ⟨p, hp, of_decide_eq_true e⟩, fun ⟨p, hp, e⟩ => ⟨p, hp, decide_eq_true e⟩⟩

/-! ### hashes -/
def hs2 (x : Sd) : Int := reduceHash (Builtin.Tuple.tupleHashOf [hashInt (x.1 : Int), hashInt (x.2 : Int)])
theorem hash_apart : (grid.map hs2).Nodup := by decide +kernel
theorem hash_inj {x y : Sd} (hx : Gr x) (hy : Gr y) (e : hs2 x = hs2 y) : x = y := by
  obtain ⟨i, hi, e1⟩ := List.mem_iff_getElem.mp (mem_grid hx)
  obtain ⟨j, hj, e2⟩ := List.mem_iff_getElem.mp (mem_grid hy)
  have li : i < (grid.map hs2).length := by rw [List.length_map]; exact hi
  have lj : j < (grid.map hs2).length := by rw [List.length_map]; exact hj
  have : (grid.map hs2)[i] = (grid.map hs2)[j] := by
    rw [List.getElem_map, List.getElem_map, e1, e2, e]
  have := (List.getElem_inj hash_apart).mp this
  subst this
  rw [← e1, ← e2]
theorem hash_ky (P : Program) (w : World) (x : Sd) : (tupleKind (mixKind P w)).hash (ky x) = hs2 x := by
  show reduceHash (Builtin.Tuple.tupleHashOf ((ky x).map (mixKind P w).hash)) = reduceHash _
  congr 1
theorem KD.hash {kvs : List (List Key × V)} (h : KD kvs) (P : Program) (w : World) : ((kvs.map (·.1)).map (tupleKind (mixKind P w)).hash).Nodup := by
  unfold List.Nodup
  rw [List.pairwise_map]
  refine List.Pairwise.imp_of_mem ?_ h.nd
  intro a b ha hb ne e
  obtain ⟨x, hx, rfl⟩ := h.gr a ha
  obtain ⟨y, hy, rfl⟩ := h.gr b hb
  rw [hash_ky, hash_ky] at e
  exact ne (by rw [hash_inj hx hy e])

/-! ### d.update(e) -/
def mergeT (kvs more : List (List Key × V)) : List (List Key × V) := more.foldl (fun acc p => putK acc p.1 p.2) kvs
theorem KT.merge {H : Hp} : ∀ {more : List (List Key × V)} {ys : List (List Key × Addr × Value)} {kvs : List (List Key × V)} {xs : List (List Key × Addr × Value)}, KT H more ys → KT H kvs xs → KT H (mergeT kvs more) (storedAllH xs ys)
  | _, _, _, _, .nil, h => h
  | (k, v) :: more, (k', b, u) :: ys, kvs, xs, .cons r t, h => by
    obtain ⟨e, hb, rv⟩ := r
    have e : k = k' := e
    subst e
    exact KT.merge (kvs := putK kvs k v) (xs := storedH xs k b u) t (L2.KT.put h k hb rv)
theorem KD.merge : ∀ {more kvs : List (List Key × V)}, KD more → KD kvs → KD (mergeT kvs more)
  | [], _, _, h => h
  | (k, v) :: more, kvs, m, h => by
    obtain ⟨x, hx, e⟩ := m.gr k (by simp)
    have e : k = ky x := e
    subst e
    exact KD.merge (more := more) (kvs := putK kvs (ky x) v) ⟨(List.nodup_cons.mp m.nd).2, fun k hk => m.gr k (List.mem_cons_of_mem _ hk)⟩ (h.put hx v)
theorem keys_merge : ∀ (more kvs : List (List Key × V)) (k : List Key), k ∈ (mergeT kvs more).map (·.1) ↔ k ∈ kvs.map (·.1) ∨ k ∈ more.map (·.1)
  | [], kvs, k => by simp [mergeT]
  | (a, v) :: more, kvs, k => by
    have ih := keys_merge more (putK kvs a v) k
    show k ∈ (mergeT (putK kvs a v) more).map (·.1) ↔ _
    rw [ih, keys_put]
    by_cases m : a ∈ kvs.map (·.1)
    · rw [if_pos m, List.map_cons, List.mem_cons]
      constructor
      · rintro (h | h)
        · exact .inl h
        · exact .inr (.inr h)
      · rintro (h | h | h)
        · exact .inl h
        · have h : k = a := h
          exact .inl (h ▸ m)
        · exact .inr h
    · rw [if_neg m, List.map_cons, List.mem_cons, List.mem_append, List.mem_singleton]
      constructor
      · rintro ((h | h) | h)
        · exact .inl h
        · exact .inr (.inl h)
        · exact .inr (.inr h)
      · rintro (h | h | h)
        · exact .inl (.inl h)
        · exact .inl (.inr h)
        · exact .inr h
theorem KT.keysE {H : Hp} : ∀ {kvs : List (List Key × V)} {xs : List (List Key × Addr × Value)}, KT H kvs xs → xs.map (·.1) = kvs.map (·.1)
  | _, _, .nil => rfl
  | _, _, .cons r t => by rw [List.map_cons, List.map_cons, r.1, KT.keysE t]
theorem KT.tupsE {X : Cx} {pins : List (Addr × Obj)} {σ : L2.St} {H : Hp} {s : Shared} (I : Inv X pins σ H s) : ∀ {kvs : List (List Key × V)} {xs : List (List Key × Addr × Value)}, KT H kvs xs → ∀ y ∈ xs, s.TypeIs (.ref y.2.1) "tuple"
  | _, _, .nil => fun y hy => by cases hy
  | _, _, .cons r t => fun y hy => by
    rcases List.mem_cons.mp hy with e | hy
    · rw [e]
      obtain ⟨_, _, ⟨o, ho, hc, _⟩, _⟩ := I.tuple (SqT.of r.2.1)
      exact ⟨o, ho, hc⟩
    · exact KT.tupsE I t y hy
section
variable {X : Cx}
def rUpdT : V → List V → Hp → VK → Prop := fun x vs H Q => ∃ d o kvs more, x = .ref d ∧ vs = [.ref o] ∧ H d = some (.dT kvs) ∧ H o = some (.dT more) ∧ d ≠ o ∧ KD kvs ∧ KD more ∧ Q .non (upd H d (.dT (mergeT kvs more)))
theorem mt_updT (hu : X.A.units + 1 < cLine) : MtR X "dict.update" rUpdT := by
  intro pins s σ H x vs v us Q I rx rvs h
  obtain ⟨d, o, kvs, more, rfl, rfl, hd, ho, ne, kd, km, q⟩ := h
  cases rx
  rw [Vals.ref1 rvs]
  obtain ⟨z, hz, xs, rel, dd⟩ := dt_of I.hok hd
  obtain ⟨z2, hz2, ys, rel2, dd2⟩ := dt_of I.hok ho
  have l1 := Paired.length rel
  have l2 := Paired.length rel2
  have b1 := kd.len
  have b2 := km.len
  have keysOf := KT.keysE rel2
  have tup := KT.tupsE I rel2
  have hap : (ys.map fun y => (tupleKind (mixKind X.prog X.w)).hash y.1).Nodup := by
    have e : (ys.map fun y => (tupleKind (mixKind X.prog X.w)).hash y.1) = (ys.map (·.1)).map (tupleKind (mixKind X.prog X.w)).hash := by rw [List.map_map]; rfl
    rw [e, keysOf]
    exact km.hash _ _
  have sl : 128 ≤ sizeLine := by decide
  refine call_update_dictH (knd := tupleKind (mixKind X.prog X.w)) hu ne hz2 dd dd2 (.inr ⟨tup, hap⟩) (by omega) fun h' dd' _ hs => ?_
  obtain ⟨q1, es, ep, hq, h2, h3, h4, _, h5⟩ := dd'
  have kmg := KD.merge km kd
  have I' := d_write (t' := s.toks) I (by rw [hd]; exact True.intro) hs ⟨q1, hq⟩ (ob := .dT (mergeT kvs more)) ⟨Nat.le_of_lt kmg.lt, hz, _, (KT.merge rel2 rel).keeps fun c ys ec => by
    rw [upd_ne (ne_of ec hd fun z => HO.noConfusion z)]
    exact ec, q1, es, ep, hq, h2, h3, h4, h5⟩
  exact ⟨.non, _, I', rfl, q⟩
def rUpdK : V → List V → Hp → VK → Prop := fun x vs H Q => ∃ d o kvs more, x = .ref d ∧ vs = [.ref o] ∧ H d = some (.dK kvs) ∧ H o = some (.dK more) ∧ d ≠ o ∧ kvs.length + more.length ≤ sizeLine ∧ Q .non (upd H d (.dK (mergeK kvs more)))
theorem mt_updK : MtR X "dict.update" rUpdK := by
  intro pins s σ H x vs v us Q I rx rvs h
  obtain ⟨d, o, kvs, more, rfl, rfl, hd, ho, ne, hl, q⟩ := h
  cases rx
  rw [Vals.ref1 rvs]
  obtain ⟨z, hz, xs, rel, dd⟩ := dk_of I.hok hd
  obtain ⟨z2, hz2, ys, rel2, dd2⟩ := dk_of I.hok ho
  have l1 := rel.length
  have l2 := rel2.length
  refine call_meetsIn F.slot_dict_update dd.typeIs F.entry_dict_update (F.args_dict_update_2 _ _) (meets_dict_update (mixKind X.prog X.w) d o ne hz2) ⟨xs, ys, dd, dd2, by omega, fun h' dd' _ hs => ?_⟩
  have he : ∃ q, h'.get? d = some q := let ⟨q, _, _, hq, _⟩ := dd'; ⟨q, hq⟩
  have lm := length_mergeK more kvs
  exact ⟨.non, _, d_write (t' := s.toks) I (by rw [hd]; exact True.intro) hs he (dk_new (by omega) hz (rel2.merge rel) dd'), rfl, q⟩
end

/-! ### tables and sets -/
/-- the table at d: x has what F tells -/
def rM {β : Type} (R : Rl β) (H : Hp) (d : Addr) (F : Sd → β → Prop) : Prop := ∃ kvs, H d = some (.dT kvs) ∧ KD kvs ∧ ∀ x, match valV kvs (ky x) with
  | none => ∀ y, ¬ F x y
  | some v => ∃ y, F x y ∧ R H v y
def rS (H : Hp) (d : Addr) (S : Sd → Prop) : Prop := ∃ kvs, H d = some (.dT kvs) ∧ KD kvs ∧ ∀ x, ky x ∈ kvs.map (·.1) ↔ S x
/-- sets of small numbers -/
def IsK (kvs : List (Key × V)) (ks : List Nat) : Prop := kvs.map (·.1) = ks.map (fun n : Nat => (Sum.inl (n : Int) : Key)) ∧ ks.Nodup
theorem isK_nil : IsK [] [] := ⟨rfl, List.nodup_nil⟩
theorem nat_key {ks : List Nat} {n : Nat} : (Sum.inl (n : Int) : Key) ∈ ks.map (fun n : Nat => (Sum.inl (n : Int) : Key)) ↔ n ∈ ks := by
  rw [List.mem_map]
  constructor
  · rintro ⟨m, hm, e⟩
    have q : (m : Int) = (n : Int) := Sum.inl.inj e
    have : m = n := by omega
    rw [← this]
    exact hm
  · exact fun h => ⟨n, h, rfl⟩
theorem IsK.some {kvs : List (Key × V)} {ks : List Nat} (h : IsK kvs ks) (n : Nat) : (valV kvs (Sum.inl (n : Int) : Key)).isSome = decide (n ∈ ks) := by
  have e : (valV kvs (Sum.inl (n : Int) : Key)).isSome = true ↔ n ∈ ks := by
    rw [some_iff, h.1]
    exact nat_key
  by_cases m : n ∈ ks
  · rw [decide_eq_true m, e.mpr m]
  · rw [decide_eq_false m]
    cases q : (valV kvs (Sum.inl (n : Int) : Key)).isSome with
    | false => rfl
    | true => exact absurd (e.mp q) m
theorem IsK.put {kvs : List (Key × V)} {ks : List Nat} (h : IsK kvs ks) (n : Nat) (v : V) : ∃ ks', IsK (putK kvs (Sum.inl (n : Int)) v) ks' ∧ ∀ m, m ∈ ks' ↔ m = n ∨ m ∈ ks := by
  have e := keys_put kvs (Sum.inl (n : Int) : Key) v
  by_cases m : n ∈ ks
  · rw [if_pos (by rw [h.1]; exact nat_key.mpr m), h.1] at e
    exact ⟨ks, ⟨e, h.2⟩, fun k => ⟨.inr, fun z => z.elim (fun z => z ▸ m) id⟩⟩
  · rw [if_neg (by rw [h.1]; exact fun z => m (nat_key.mp z)), h.1] at e
    refine ⟨ks ++ [n], ⟨by rw [e, List.map_append]; rfl, nd_snoc h.2 m⟩, fun k => ?_⟩
    rw [List.mem_append, List.mem_singleton]
    exact Or.comm
theorem IsK.merge : ∀ {more kvs : List (Key × V)} {ms ks : List Nat}, IsK more ms → IsK kvs ks → ∃ ks', IsK (mergeK kvs more) ks' ∧ ∀ m, m ∈ ks' ↔ m ∈ ks ∨ m ∈ ms
  | [], kvs, ms, ks, h, h' => by
    have : ms = [] := by
      cases ms with
      | nil => rfl
      | cons a b =>
        have := congrArg List.length h.1
        simp at this
    subst this
    exact ⟨ks, h', fun m => by simp⟩
  | (k, v) :: more, kvs, [], ks, h, h' => by
    have := congrArg List.length h.1
    simp at this
  | (k, v) :: more, kvs, n :: ms, ks, h, h' => by
    have h1 := h.1
    rw [List.map_cons, List.map_cons, List.cons.injEq] at h1
    have e : k = Sum.inl (n : Int) := h1.1
    subst e
    obtain ⟨k1, a1, b1⟩ := h'.put n v
    obtain ⟨k2, a2, b2⟩ := IsK.merge (more := more) (ms := ms) ⟨h1.2, (List.nodup_cons.mp h.2).2⟩ a1
    exact ⟨k2, a2, fun m => by rw [b2, b1, List.mem_cons]; exact ⟨fun z => z.elim (fun z => z.elim (fun z => .inr (.inl z)) .inl) fun z => .inr (.inr z), fun z => z.elim (fun z => .inl (.inr z)) fun z => z.elim (fun z => .inl (.inl z)) .inr⟩⟩
theorem IsK.len {kvs : List (Key × V)} {ks : List Nat} (h : IsK kvs ks) : kvs.length = ks.length := by
  have := congrArg List.length h.1
  simpa using this
theorem IsK.few {kvs : List (Key × V)} {ks : List Nat} (h : IsK kvs ks) {n : Nat} (b : ∀ m ∈ ks, m < n) : kvs.length ≤ n := by
  rw [h.len]
  have := List.Nodup.length_le_of_subset h.2 fun m hm => List.mem_range.mpr (b m hm)
  rwa [List.length_range] at this
end WR
set_option Elab.async false
set_option linter.all false
set_option maxRecDepth 100000
/-! what the program's values are; tables by what they hold -/
namespace WP
open PySem L2 WR WM
def topS (i : Nat) : Stmt := PySem.Challenge.pw_whatrims_k19_whole_layings.main.body.getD i (.Pass ⟨0, 0, 0, 0⟩)
abbrev rSd : Rl WM.Sd := rP rN rN
abbrev rTie : Rl Tie := rP rSd rSd
abbrev rSz : Rl (List Nat) := rT rN
abbrev rG : Rl Gl := rP rSz (rT rTie)
abbrev rCo : Rl (List WM.Sd) := rT rSd
theorem moSd : Mo rSd := moP moN moN
theorem moTie : Mo rTie := moP moSd moSd
theorem moSz : Mo rSz := moT moN
theorem moG : Mo rG := moP moSz (moT moTie)
theorem moCo : Mo rCo := moT moSd
abbrev eSd : WM.Sd → PyData := eP eN eN
abbrev eTie : Tie → PyData := eP eSd eSd
theorem enSd : En rSd eSd 1 := enP enN enN (by decide) (by decide)
theorem enTie : En rTie eTie 2 := enP enSd enSd (by decide) (by decide)
theorem enSz : En rSz (eT eN) 1 := enT enN (by decide)
theorem enG : En rG (eP (eT eN) (eT eTie)) 4 := enP enSz (enT enTie (k := 3) (by decide)) (by decide) (by decide)

/-! ### tables -/
def Tb {β : Type} (R : Rl β) (H : Hp) (kvs : List (List Key × V)) (F : WM.Sd → β → Prop) : Prop := KD kvs ∧ ∀ x, match valV kvs (ky x) with
  | none => ∀ y, ¬ F x y
  | some v => ∃ y, F x y ∧ R H v y
section
variable {β : Type} {R : Rl β} {H H' : Hp} {kvs : List (List Key × V)} {F G : WM.Sd → β → Prop} {x : WM.Sd}
theorem Tb.nil : Tb R H [] (fun _ _ => False) := ⟨KD.nil, fun x => by
  rw [valV_nil]
  exact fun _ h => h⟩
theorem Tb.put (t : Tb R H kvs F) (hx : Gr x) {v : V} {y : β} (r : R H v y) (hG : ∀ z w, G z w ↔ if z = x then w = y else F z w) : Tb R H (putK kvs (ky x) v) G := by
  refine ⟨t.1.put hx v, fun z => ?_⟩
  rw [valV_put]
  by_cases e : z = x
  · rw [if_pos (by rw [e])]
    exact ⟨y, (hG z y).mpr (by rw [if_pos e]), r⟩
  · rw [if_neg fun q => e (ky_inj q)]
    have h := t.2 z
    have hG : ∀ w, G z w ↔ F z w := fun w => by rw [hG, if_neg e]
    cases q : valV kvs (ky z) with
    | none =>
      rw [q] at h
      exact fun w hw => h w ((hG w).mp hw)
    | some u =>
      rw [q] at h
      obtain ⟨w, h1, h2⟩ := h
      exact ⟨w, (hG w).mpr h1, h2⟩
theorem Tb.mo (m : Mo R) (t : TS H H') (h : Tb R H kvs F) : Tb R H' kvs F := by
  refine ⟨h.1, fun x => ?_⟩
  have q := h.2 x
  cases e : valV kvs (ky x) with
  | none =>
    rw [e] at q
    exact q
  | some v =>
    rw [e] at q
    obtain ⟨y, a, b⟩ := q
    exact ⟨y, a, m.mo t b⟩
theorem Tb.imp (hG : ∀ z w, G z w ↔ F z w) (h : Tb R H kvs F) : Tb R H kvs G := by
  refine ⟨h.1, fun x => ?_⟩
  have q := h.2 x
  cases e : valV kvs (ky x) with
  | none =>
    rw [e] at q
    exact fun y hy => q y ((hG x y).mp hy)
  | some v =>
    rw [e] at q
    obtain ⟨y, a, b⟩ := q
    exact ⟨y, (hG x y).mpr a, b⟩
/-- what is read at x -/
theorem Tb.at (h : Tb R H kvs F) (x : WM.Sd) : (valV kvs (ky x) = none ∧ ∀ y, ¬ F x y) ∨ ∃ v y, valV kvs (ky x) = some v ∧ F x y ∧ R H v y := by
  have q := h.2 x
  cases e : valV kvs (ky x) with
  | none =>
    rw [e] at q
    exact .inl ⟨rfl, q⟩
  | some v =>
    rw [e] at q
    obtain ⟨y, a, b⟩ := q
    exact .inr ⟨v, y, rfl, a, b⟩
theorem Tb.has (h : Tb R H kvs F) (x : WM.Sd) : (valV kvs (ky x)).isSome = true ↔ ∃ y, F x y := by
  rcases h.at x with ⟨e, n⟩ | ⟨v, y, e, f, _⟩
  · rw [e]
    exact ⟨fun z => Bool.noConfusion z, fun ⟨y, hy⟩ => absurd hy (n y)⟩
  · rw [e]
    exact ⟨fun _ => ⟨y, f⟩, fun _ => rfl⟩
end
/-- the table at d holds F -/
def tbl {β : Type} (R : Rl β) (H : Hp) (d : Addr) (F : WM.Sd → β → Prop) : Prop := ∃ kvs, H d = some (.dT kvs) ∧ Tb R H kvs F
theorem tbl_mo {β : Type} {R : Rl β} (m : Mo R) {H H' : Hp} {d : Addr} {F : WM.Sd → β → Prop} (s : Same H H') (h : tbl R H d F) : tbl R H' d F := by
  obtain ⟨kvs, h1, h2⟩ := h
  exact ⟨kvs, s _ _ h1, h2.mo m (Same.ts s)⟩

/-! ### small readings -/
theorem va_gr {g : Gl} (ok : Ok g) {x : WM.Sd} (h : Va g x) : Gr x := by
  have h1 := h.1
  have h2 := h.2
  have := ok.few
  have := (ok.sz h1).2
  exact ⟨by omega, by omega⟩
theorem sd_tup {H : Hp} {v : V} {x : WM.Sd} (h : rSd H v x) : ∃ a, v = .ref a ∧ H a = some (.tup ((ky x).map kV)) := by
  obtain ⟨a, p, q, e, h, rfl, rfl⟩ := h
  exact ⟨a, e, h⟩
theorem sd_is {H : Hp} {v : V} {x : WM.Sd} (h : rSd H v x) : ∃ a, v = .ref a ∧ H a = some (.tup [.int (x.1 : Int), .int (x.2 : Int)]) := sd_tup h
theorem mk_sd {H : Hp} {a : Addr} {x : WM.Sd} (h : H a = some (.tup [.int (x.1 : Int), .int (x.2 : Int)])) : rSd H (.ref a) x := ⟨a, _, _, rfl, h, rfl, rfl⟩
theorem sz_is {H : Hp} {v : V} {l : List Nat} (h : rSz H v l) : ∃ a, v = .ref a ∧ H a = some (.tup (l.map fun n : Nat => V.int (n : Int))) := by
  obtain ⟨a, vs, e, h, al⟩ := h
  rw [al.eq_map (f := fun n : Nat => V.int (n : Int)) fun v x r => r] at h
  exact ⟨a, e, h⟩
theorem sz_at {g : Gl} {t : Nat} (h : t < g.1.length) : (g.1.map fun n : Nat => V.int (n : Int))[t]? = some (.int (sz g t : Int)) := by
  rw [List.getElem?_map, List.getElem?_eq_getElem h]
  unfold sz
  rw [List.getD_eq_getElem?_getD, List.getElem?_eq_getElem h]
  rfl
theorem at_nat {xs : List V} {n : Nat} {v : V} (h : xs[n]? = some v) : atI xs (n : Int) = some v := atI_nat h
theorem mod_cast_ (a b : Nat) : ((a : Int) + 1) % (b : Int) = (((a + 1) % b : Nat) : Int) := by rw [Int.natCast_emod, Int.natCast_add]; rfl
theorem mod_cast2 (a b c : Nat) : ((a : Int) + (c : Int)) % (b : Int) = (((a + c) % b : Nat) : Int) := by rw [Int.natCast_emod, Int.natCast_add]
theorem pv_cast {a b : Nat} (h : 0 < b) : ((a : Int) - 1) % (b : Int) = (((a + (b - 1)) % b : Nat) : Int) := by
  have e : ((a : Int) - 1) = ((a + (b - 1) : Nat) : Int) - (b : Int) := by omega
  rw [e, Int.sub_emod_right, Int.natCast_emod]
end WP
set_option Elab.async false
set_option linter.all false
set_option maxRecDepth 100000
/-! corners: mates, step_on, step_back, onward -/
namespace WP
open PySem L2 WR WM
/-- a def that can be called: its promise, where it stands -/
def Cal (P : Program) (w : World) (K : PySem.W.Frag) (mg : Str → Option Value) (base : Heap) (x : Str) (k : Nat) (ps : List Str) (sp : Sp) : Prop :=
  ∃ f fd, FnOk P w K mg base CX0 k f fd ps sp ∧ mg x = some (.ref f) ∧ PySem.W.keepIn K (.ref f) = true ∧ Binds K fd ps []
/-- the built-in names are not the module's own -/
structure Bl (mg : Str → Option Value) : Prop where
  enu : mg "enumerate" = none
  ran : mg "range" = none
  tup : mg "tuple" = none
  len : mg "len" = none
  sum : mg "sum" = none
  srt : mg "sorted" = none
  min : mg "min" = none
  max : mg "max" = none
  lst : mg "list" = none
  int : mg "int" = none
  all : mg "all" = none
  abs : mg "abs" = none
section
variable {P : Program} {w : World} {K : PySem.W.Frag} {mg : Str → Option Value} {base : Heap}

/-! ### mates -/
abbrev sMates : Stmt := topS 1
theorem scMates : FnScope ["gluing", "found", "one", "other"] ["gluing"] (defScope sMates) := ⟨rfl, rfl, rfl, by decide +kernel, rfl, by decide +kernel, by decide +kernel⟩
def spMates : Sp := fun vs H Q _ => ∃ v g, vs = [v] ∧ rG H v g ∧ Ok g ∧ ∀ H' d, Same H H' → H d = none → tbl rSd H' d (Mt g) → Q (.ref d) H'
theorem mt_step {g : Gl} (ok : Ok g) {i : Nat} {p : Tie} (h : g.2[i]? = some p) (z y : WM.Sd) : ((z, y) ∈ g.2.take (i + 1) ∨ (y, z) ∈ g.2.take (i + 1)) ↔ (if z = p.2 then y = p.1 else if z = p.1 then y = p.2 else (z, y) ∈ g.2.take i ∨ (y, z) ∈ g.2.take i) := by
  have e : g.2.take (i + 1) = g.2.take i ++ [p] := by rw [List.take_add_one, h]; rfl
  have hp : p ∈ g.2 := List.mem_of_getElem? h
  have ms : ∀ {u v : WM.Sd}, (u, v) ∈ g.2.take i → (u, v) ∈ g.2 := fun m => List.mem_of_mem_take m
  have one : Mt g p.1 p.2 := .inl hp
  rw [e, List.mem_append, List.mem_append, List.mem_singleton, List.mem_singleton]
  have ne : p.1 ≠ p.2 := fun q => ltS_irrefl p.2 (by have := ok.lt p hp; rw [q] at this; exact this)
  by_cases h1 : z = p.2
  · rw [if_pos h1]
    subst h1
    constructor
    · rintro ((m | m) | (m | m))
      · exact ok.once _ _ _ (.inl (ms m)) one.symm
      · exact absurd (congrArg Prod.fst m).symm ne
      · exact ok.once _ _ _ (.inr (ms m)) one.symm
      · exact congrArg Prod.fst m
    · rintro rfl
      exact .inr (.inr rfl)
  · rw [if_neg h1]
    by_cases h2 : z = p.1
    · rw [if_pos h2]
      subst h2
      constructor
      · rintro ((m | m) | (m | m))
        · exact ok.once _ _ _ (.inl (ms m)) one
        · exact congrArg Prod.snd m
        · exact ok.once _ _ _ (.inr (ms m)) one
        · exact absurd (congrArg Prod.snd m) ne
      · rintro rfl
        exact .inl (.inr rfl)
    · rw [if_neg h2]
      constructor
      · rintro ((m | m) | (m | m))
        · exact .inl m
        · exact absurd (congrArg Prod.fst m) h2
        · exact .inr m
        · exact absurd (congrArg Prod.snd m) h1
      · rintro (m | m)
        · exact .inl (.inl m)
        · exact .inr (.inl m)
theorem ok_mates {f : Addr} {fd : FuncData} (F : Fun K "mates" "mates" sMates f fd) : FnOk P w K mg base CX0 1 f fd ["gluing"] spMates := by
  refine F.ok scMates (fun vs H Q E h => ?_) (fun cdv A outer s H vs Q E hr h => ?_)
  · obtain ⟨v, g, rfl, _⟩ := h
    rfl
  · obtain ⟨v, g, rfl, hg, ok, q⟩ := h
    have hu := hu_of hr
    refine ⟨_, pss_cons (ps_set (i := 1) scMates.nd rfl (.inl rfl) pe_dnewT)
      (pss_cons (ps_for PassesOwn.never rfl (pi_tup (pe_ix ix_tup (pv 0) pe_int (fun _ _ => rfl)))
          (pg_tup rfl (pgs_cons (pg_name (i := 2) scMates.nd rfl (.inl rfl)) (pgs_cons (pg_name (i := 3) scMates.nd rfl (.inl rfl)) pgs_nil)))
        (pss_cons (ps_dput hu (pv 1) (pv 2) (pv 3) rfl) (pss_one (ps_dput hu (pv 1) (pv 3) (pv 2) rfl))))
      (pss_one (ps_ret (pv 1)))), ?_⟩
    intro d nd
    obtain ⟨a, p1, p2, rfl, ha, h1, h2⟩ := hg
    obtain ⟨c, ts, rfl, hc, al⟩ := h2
    have s1 : Same H (upd H d (.dT [])) := same_new nd
    refine ⟨_, rfl, a, [p1, .ref c], 1, .ref c, rfl, rfl, SqT.of (s1 _ _ ha), at_nat (n := 1) rfl, c, rfl, ⟨_, SqT.of (s1 _ _ hc)⟩, for_tup (xs := ts) (fun i σ H2 => ∃ o1 o2, σ = [some (.ref a), some (.ref d), o1, o2] ∧ Same H H2 ∧
      tbl rSd H2 d (fun x y => (x, y) ∈ g.2.take i ∨ (y, x) ∈ g.2.take i))
      ⟨none, none, rfl, s1, [], upd_same, Tb.nil.imp fun z y => by simp⟩ (fun i σ H2 _ ⟨_, _, _, sm, _⟩ => SqT.of (sm _ _ hc)) ?_ ?_⟩
    · rintro i x σ H2 hx ⟨o1, o2, rfl, sm, kvs, hd, tb⟩
      obtain ⟨t, ht, hr⟩ := al.get hx
      obtain ⟨b, u1, u2, rfl, hb, r1, r2⟩ := moTie.mo (Same.ts sm) hr
      obtain ⟨b1, rfl, hb1⟩ := sd_tup r1
      obtain ⟨b2, rfl, hb2⟩ := sd_tup r2
      have hm : t ∈ g.2 := List.mem_of_getElem? ht
      have v1 := va_gr ok (ok.val t hm).1
      have v2 := va_gr ok (ok.val t hm).2
      refine ⟨b, [.ref b1, .ref b2], rfl, SqT.of hb, rfl, .ref b1, [.ref b2], rfl, .ref b2, [], rfl, rfl, ?_⟩
      -- found[one] = other
      have t1 := ts_put (o := .dT (putK kvs (ky t.1) (.ref b2))) hd (fun _ e => HO.noConfusion e)
      refine ⟨_, rfl, _, rfl, _, rfl, d, _, rfl, DPut.t hd hb1 tb.1.lt, ?_⟩
      have tb1 : Tb rSd (upd H2 d (.dT (putK kvs (ky t.1) (.ref b2)))) (putK kvs (ky t.1) (.ref b2)) _ := Tb.mo moSd t1 (tb.put v1 r2 fun z y => Iff.rfl)
      have t2 := ts_put (o := .dT (putK (putK kvs (ky t.1) (.ref b2)) (ky t.2) (.ref b1))) (upd_same (H := H2) (a := d) (o := .dT (putK kvs (ky t.1) (.ref b2)))) (fun _ e => HO.noConfusion e)
      -- found[other] = one
      refine ⟨_, rfl, _, rfl, _, rfl, d, _, rfl, DPut.t upd_same (t1 _ _ hb2) tb1.1.lt, ?_⟩
      have tb2 := Tb.mo moSd t2 (tb1.put v2 (moSd.mo t1 r1) (G := fun x y => (x, y) ∈ g.2.take (i + 1) ∨ (y, x) ∈ g.2.take (i + 1)) fun z y => mt_step ok ht z y)
      refine ⟨_, _, rfl, fun b o e => ?_, _, upd_same, tb2⟩
      have nb : b ≠ d := ne_of_none e nd
      rw [upd_ne nb, upd_ne nb]
      exact sm _ _ e
    · rintro σ H2 ⟨o1, o2, rfl, sm, kvs, hd, tb⟩
      rw [al.length, List.take_length] at tb
      exact ⟨_, rfl, q H2 d sm nd ⟨kvs, hd, tb⟩⟩

/-! ### step_on -/
abbrev sOn : Stmt := topS 2
theorem scOn : FnScope ["sizes", "ties", "share", "mate"] ["sizes", "ties", "share"] (defScope sOn) := ⟨rfl, rfl, rfl, by decide +kernel, rfl, by decide +kernel, by decide +kernel⟩
def spOn : Sp := fun vs H Q _ => ∃ v d u g x, vs = [v, .ref d, u] ∧ rSz H v g.1 ∧ tbl rSd H d (Mt g) ∧ rSd H u x ∧ Ok g ∧ ∀ H' r o, Same H H' → (∀ z, o = some z ↔ Ph g x z) → rO rSd H' r o → Q r H'
theorem ok_on {f : Addr} {fd : FuncData} (F : Fun K "step_on" "step_on" sOn f fd) : FnOk P w K mg base CX0 1 f fd ["sizes", "ties", "share"] spOn := by
  refine F.ok scOn (fun vs H Q E h => ?_) (fun cdv A outer s H vs Q E hr h => ?_)
  · obtain ⟨v, d, u, g, x, rfl, _⟩ := h
    rfl
  · obtain ⟨v, d, u, g, x, rfl, hv, ⟨kvs, hd, tb⟩, hx, ok, q⟩ := h
    have hu := hu_of hr
    refine ⟨_, pss_cons (ps_set (i := 3) scOn.nd rfl (.inl rfl) (pe_dget2 hu (pv 1) (pv 2) pe_non ⟨rfl, rfl, rfl, rfl⟩))
      (pss_one (ps_ret (pe_ifExp (pt_cmpR op_isN (pv 3) pe_non (nomark _)) pe_non
        (pe_tup (pa_cons (pe_ix ix_tup (pv 3) pe_int (fun _ _ => rfl)) (pa_cons (pe_op op_mod (pe_op op_add (pe_ix ix_tup (pv 3) pe_int (fun _ _ => rfl)) pe_int)
          (pe_ix ix_tup (pv 0) (pe_ix ix_tup (pv 3) pe_int (fun _ _ => rfl)) (fun _ _ => rfl))) pa_nil)))))), ?_⟩
    obtain ⟨b, rfl, hb⟩ := sd_tup hx
    obtain ⟨c, rfl, hc⟩ := sz_is hv
    refine ⟨_, rfl, d, rfl, .inr ⟨kvs, .inl hd⟩, _, rfl, _, DGet.t hd hb, ?_⟩
    rcases tb.at x with ⟨e, n⟩ | ⟨m, y, e, hm, rm⟩
    · rw [e]
      refine ⟨_, rfl, rfl, _, rfl, iteT ?_⟩
      exact q H _ none (Same.refl H) (fun z => ⟨fun h => (by cases h), fun ⟨y, hy, _⟩ => absurd hy (n y)⟩) rfl
    · rw [e]
      obtain ⟨e1, rfl, he⟩ := sd_is rm
      have vy := (ok.mval hm).2
      refine ⟨_, rfl, rfl, _, rfl, iteF ?_⟩
      refine ⟨_, rfl, e1, _, 0, _, rfl, rfl, SqT.of he, at_nat (n := 0) rfl, _, rfl, e1, _, 1, _, rfl, rfl, SqT.of he, at_nat (n := 1) rfl, _, _, rfl, rfl, ?_⟩
      refine ⟨_, rfl, _, rfl, e1, _, 0, _, rfl, rfl, SqT.of he, at_nat (n := 0) rfl, c, _, _, _, rfl, rfl, SqT.of hc, at_nat (sz_at vy.1), _, _, rfl, rfl, ?_, ?_⟩
      · show (0 : Int) < (sz g y.1 : Int)
        have := (ok.sz vy.1).1
        omega
      · refine ⟨by show 2 ≤ sizeLine; decide, fun p np => ?_⟩
        refine q _ _ (some (nx g y)) (same_new np) (fun z => ⟨fun h => ⟨y, hm, (Option.some.inj h).symm⟩, fun ⟨y', hy', ez⟩ => by rw [ez, ok.once x y y' hm hy']⟩) (mk_sd ?_)
        rw [upd_same]
        show some (HO.tup [V.int (y.1 : Int), V.int (((y.2 : Int) + 1) % (sz g y.1 : Int))]) = _
        rw [mod_cast_]
        rfl

/-! ### step_back -/
abbrev sBack : Stmt := topS 3
theorem scBack : FnScope ["sizes", "ties", "share"] ["sizes", "ties", "share"] (defScope sBack) := ⟨rfl, rfl, rfl, by decide +kernel, rfl, by decide +kernel, by decide +kernel⟩
def spBack : Sp := fun vs H Q _ => ∃ v d u g x, vs = [v, .ref d, u] ∧ rSz H v g.1 ∧ tbl rSd H d (Mt g) ∧ rSd H u x ∧ Ok g ∧ Va g x ∧ ∀ H' r o, Same H H' → (∀ z, o = some z ↔ Ph g z x) → rO rSd H' r o → Q r H'
theorem ph_back {g : Gl} (ok : Ok g) {x : WM.Sd} (h : Va g x) (z : WM.Sd) : Ph g z x ↔ Mt g (bk g x) z := by
  constructor
  · rintro ⟨y, hy, e⟩
    rw [e, pv_nx (ok.mval hy).2]
    exact hy.symm
  · exact fun m => ⟨bk g x, m.symm, (nx_pv h).symm⟩
theorem ok_back {f : Addr} {fd : FuncData} (F : Fun K "step_back" "step_back" sBack f fd) : FnOk P w K mg base CX0 1 f fd ["sizes", "ties", "share"] spBack := by
  refine F.ok scBack (fun vs H Q E h => ?_) (fun cdv A outer s H vs Q E hr h => ?_)
  · obtain ⟨v, d, u, g, x, rfl, _⟩ := h
    rfl
  · obtain ⟨v, d, u, g, x, rfl, hv, ⟨kvs, hd, tb⟩, hx, ok, va, q⟩ := h
    have hu := hu_of hr
    refine ⟨_, pss_one (ps_ret (pe_dget2 hu (pv 1) (pe_tup (pa_cons (pe_ix ix_tup (pv 2) pe_int (fun _ _ => rfl)) (pa_cons (pe_op op_mod (pe_op op_sub (pe_ix ix_tup (pv 2) pe_int (fun _ _ => rfl)) pe_int)
          (pe_ix ix_tup (pv 0) (pe_ix ix_tup (pv 2) pe_int (fun _ _ => rfl)) (fun _ _ => rfl))) pa_nil))) pe_non ⟨rfl, rfl, rfl, rfl⟩)), ?_⟩
    obtain ⟨b, rfl, hb⟩ := sd_is hx
    obtain ⟨c, rfl, hc⟩ := sz_is hv
    have s3 := (ok.sz va.1).1
    refine ⟨_, rfl, d, rfl, .inr ⟨kvs, .inl hd⟩, _, rfl, b, _, 0, _, rfl, rfl, SqT.of hb, at_nat (n := 0) rfl, _, rfl, b, _, 1, _, rfl, rfl, SqT.of hb, at_nat (n := 1) rfl, _, _, rfl, rfl, ?_⟩
    refine ⟨_, rfl, _, rfl, b, _, 0, _, rfl, rfl, SqT.of hb, at_nat (n := 0) rfl, c, _, _, _, rfl, rfl, SqT.of hc, at_nat (sz_at va.1), _, _, rfl, rfl, ?_, ?_⟩
    · show (0 : Int) < (sz g x.1 : Int)
      omega
    · refine ⟨by show 2 ≤ sizeLine; decide, fun p np => ?_⟩
      have hp : (upd H p (.tup [V.int (x.1 : Int), V.int (((x.2 : Int) - 1) % (sz g x.1 : Int))])) p = some (.tup ((ky (bk g x)).map kV)) := by
        rw [upd_same, pv_cast (by omega)]
        rfl
      have tb := tb.mo moSd (ts_new (o := .tup [V.int (x.1 : Int), V.int (((x.2 : Int) - 1) % (sz g x.1 : Int))]) np)
      have hd' := same_new (o := .tup [V.int (x.1 : Int), V.int (((x.2 : Int) - 1) % (sz g x.1 : Int))]) np _ _ hd
      refine ⟨_, DGet.t hd' hp, ?_⟩
      rcases tb.at (bk g x) with ⟨e, n⟩ | ⟨m, y, e, hm, rm⟩
      · rw [e]
        exact q _ _ none (same_new np) (fun z => ⟨fun h => (by cases h), fun h => absurd ((ph_back ok va z).mp h) (n z)⟩) rfl
      · rw [e]
        exact q _ _ (some y) (same_new np) (fun z => ⟨fun h => by cases h; exact (ph_back ok va y).mpr hm, fun h => by rw [ok.once _ _ _ hm ((ph_back ok va z).mp h)]⟩) rm

/-! ### onward -/
abbrev sOnw : Stmt := topS 4
theorem scOnw : FnScope ["gluing", "share"] ["gluing", "share"] (defScope sOnw) := ⟨rfl, rfl, rfl, by decide +kernel, rfl, by decide +kernel, by decide +kernel⟩
def spOnw : Sp := fun vs H Q _ => ∃ v u g x, vs = [v, u] ∧ rG H v g ∧ rSd H u x ∧ Ok g ∧ ∀ H' r o, Same H H' → (∀ z, o = some z ↔ Ph g x z) → rO rSd H' r o → Q r H'
theorem ok_onw {f : Addr} {fd : FuncData} (F : Fun K "onward" "onward" sOnw f fd) (cO : Cal P w K mg base "step_on" 1 ["sizes", "ties", "share"] spOn) (cM : Cal P w K mg base "mates" 1 ["gluing"] spMates) : FnOk P w K mg base CX0 2 f fd ["gluing", "share"] spOnw := by
  obtain ⟨fO, dO, GO, gO, kO, bO⟩ := cO
  obtain ⟨fM, dM, GM, gM, kM, bM⟩ := cM
  refine F.ok scOnw (fun vs H Q E h => ?_) (fun cdv A outer s H vs Q E hr h => ?_)
  · obtain ⟨v, u, g, x, rfl, _⟩ := h
    rfl
  · obtain ⟨v, u, g, x, rfl, hg, hx, ok, q⟩ := h
    refine ⟨_, pss_one (ps_ret (pe_call GO hr (by rfl) gO kO bO .nil pass0 (pa_cons (pe_ix ix_tup (pv 0) pe_int (fun _ _ => rfl))
      (pa_cons (pe_call GM hr (by rfl) gM kM bM .nil pass0 (pa_cons (pv 0) pa_nil)) (pa_cons (pv 1) pa_nil))))), ?_⟩
    have hg0 := hg
    obtain ⟨a, p1, p2, rfl, ha, h1, h2⟩ := hg
    refine ⟨_, rfl, a, _, 0, _, rfl, rfl, SqT.of ha, at_nat (n := 0) rfl, _, rfl, _, g, rfl, hg0, ok, fun H1 d s1 nd td => ⟨_, rfl, ?_⟩⟩
    exact ⟨_, d, _, g, x, rfl, moSz.mo (Same.ts s1) h1, td, moSd.mo (Same.ts s1) hx, ok, fun H2 r o s2 ho hr => q H2 r o (s1.trans s2) ho hr⟩
end
end WP
set_option Elab.async false
set_option linter.all false
set_option maxRecDepth 100000
/-! corners: walked, corner_at, is_inner -/
namespace WP
open PySem L2 WR WM
section
variable {P : Program} {w : World} {K : PySem.W.Frag} {mg : Str → Option Value} {base : Heap}

theorem va_few {g : Gl} (ok : Ok g) {c : List WM.Sd} (nd : c.Nodup) (va : ∀ y ∈ c, Va g y) : c.length ≤ 64 := by
  have := List.Nodup.length_le_of_subset nd fun y hy => mem_grid (va_gr ok (va y hy))
  have e : grid.length = 64 := by decide
  omega
theorem rO_some {α : Type} {R : Rl α} {H : Hp} {r : V} {x : α} (h : rO R H r (some x)) : R H r x := h
theorem sd_non {H : Hp} {r : V} {x : WM.Sd} (h : rSd H r x) : r ≠ .non := by
  obtain ⟨a, _, _, rfl, _⟩ := h
  exact fun e => V.noConfusion e
theorem head_app {α : Type} {c : List α} {x z : α} (h : c.head? = some x) : (c ++ [z]).head? = some x := by
  rw [List.head?_append, h]
  rfl

/-! ### walked -/
abbrev sWalk : Stmt := topS 5
theorem scWalk : FnScope ["sizes", "ties", "share", "found", "here"] ["sizes", "ties", "share"] (defScope sWalk) := ⟨rfl, rfl, rfl, by decide +kernel, rfl, by decide +kernel, by decide +kernel⟩
/-- a walk from x on -/
structure Wk (g : Gl) (x : WM.Sd) (c : List WM.Sd) : Prop where
  hd : c.head? = some x
  nd : c.Nodup
  va : ∀ y ∈ c, Va g y
  ch : Ch (Ph g) c
def spWalk : Sp := fun vs H Q _ => ∃ v d u g x, vs = [v, .ref d, u] ∧ rSz H v g.1 ∧ tbl rSd H d (Mt g) ∧ rSd H u x ∧ Ok g ∧ Va g x ∧
  ∀ H' p c z, Same H H' → H p = none → rL rSd H' p c → Wk g x c → c.getLast? = some z → ((∀ y, ¬ Ph g z y) ∨ Ph g z x) → Q (.ref p) H'
theorem Wk.more {g : Gl} (ok : Ok g) {x z y : WM.Sd} {c : List WM.Sd} (k : Wk g x c) (hz : c.getLast? = some z) (h : Ph g z y) (ne : y ≠ x) : Wk g x (c ++ [y]) := by
  have vz := k.va z (List.mem_of_getLast? hz)
  have vy := ok.bi.val vz h
  have nin : y ∉ c := by
    intro hy
    obtain ⟨p, q, e⟩ := List.append_of_mem hy
    rcases List.eq_nil_or_concat p with e2 | ⟨p', u, e2⟩
    · subst e2
      have h1 := k.hd
      rw [e] at h1
      exact ne (Option.some.inj h1)
    · rw [List.concat_eq_append] at e2
      subst e2
      have e3 : p' ++ [u] ++ y :: q = p' ++ u :: y :: q := by simp
      have ch := k.ch
      rw [e, e3] at ch
      have hu : u ∈ c := by rw [e]; simp
      have eu := ok.bi.inj (k.va u hu) vz ch.mid h
      subst eu
      -- u is the last and is followed
      rw [e, e3] at hz
      have nd := k.nd
      rw [e, e3] at nd
      have : u ∈ y :: q := by
        rw [List.getLast?_append] at hz
        have hz2 : (u :: y :: q).getLast? = some u := by simpa using hz
        rw [List.getLast?_cons_cons] at hz2
        exact List.mem_of_getLast? hz2
      exact (List.nodup_cons.mp (List.nodup_append.mp nd).2.1).1 this
  refine ⟨head_app k.hd, nd_snoc k.nd nin, fun a ha => ?_, ?_⟩
  · rcases List.mem_append.mp ha with q | q
    · exact k.va a q
    · rw [List.mem_singleton] at q
      exact q ▸ vy
  · refine k.ch.join trivial fun a b h1 h2 => ?_
    rw [hz] at h1
    cases h1
    have : y = b := by simpa using h2
    exact this ▸ h
theorem ok_walk {f : Addr} {fd : FuncData} (F : Fun K "walked" "walked" sWalk f fd) (cO : Cal P w K mg base "step_on" 1 ["sizes", "ties", "share"] spOn) : FnOk P w K mg base CX0 2 f fd ["sizes", "ties", "share"] spWalk := by
  obtain ⟨fO, dO, GO, gO, kO, bO⟩ := cO
  refine F.ok scWalk (fun vs H Q E h => ?_) (fun cdv A outer s H vs Q E hr h => ?_)
  · obtain ⟨v, d, u, g, x, rfl, _⟩ := h
    rfl
  · obtain ⟨v, d, u, g, x, rfl, hv, td, hx, ok, va, q⟩ := h
    have hu := hr.units
    refine ⟨_, pss_cons (ps_par (i := 3) (j := 4) (by rfl) scWalk.nd rfl rfl (by decide) rfl rfl (pa_cons (pe_lst (pa_cons (pv 2) pa_nil)) (pa_cons (pe_call GO hr (by rfl) gO kO bO .nil pass0 (pa_cons (pv 0) (pa_cons (pv 1) (pa_cons (pv 2) pa_nil)))) pa_nil)) (by rfl))
      (pss_cons (ps_while PassesOwn.never (PW.pt (pw_and (pt_cmpR op_notN (pv 4) pe_non (nomark _)) (pw_and1 (pt_cmpR (op_neE enSd (by decide) hu) (pv 4) (pv 2) (nomark _)))))
        (pss_cons (ps_expr (pe_bm PySem.F.plainAttrs_list PySem.F.slot_list_append PySem.F.type_list_append mt_append (pv 3) (pa_cons (pv 4) pa_nil)))
          (pss_one (ps_set (i := 4) scWalk.nd rfl (.inl rfl) (pe_call GO hr (by rfl) gO kO bO .nil pass0 (pa_cons (pv 0) (pa_cons (pv 1) (pa_cons (pv 4) pa_nil))))))))
      (pss_one (ps_ret (pv 3)))), ?_⟩
    refine ⟨_, rfl, by show 1 ≤ sizeLine; decide, fun p np => ?_⟩
    have s1 := same_new (o := .lst [u]) np
    refine ⟨_, rfl, _, rfl, _, rfl, v, d, u, g, x, rfl, moSz.mo (Same.ts s1) hv, tbl_mo moSd s1 td, moSd.mo (Same.ts s1) hx, ok, fun H1 r o s2 ho hro => ⟨.ref p, r, rfl, ?_⟩⟩
    refine ⟨fun m σ H2 => ∃ c z o r, σ = [some v, some (.ref d), some u, some (.ref p), some r] ∧ Same H H2 ∧ rL rSd H2 p c ∧ Wk g x c ∧ c.getLast? = some z ∧ (∀ y, o = some y ↔ Ph g z y) ∧ rO rSd H2 r o ∧ m + c.length = 65,
      ⟨64, [x], x, o, r, rfl, s1.trans s2, ⟨[u], s2 _ _ upd_same, .cons (moSd.mo (Same.ts (s1.trans s2)) hx) .nil⟩, ⟨rfl, by simp, fun y hy => by rw [List.mem_singleton] at hy; exact hy ▸ va, trivial⟩, rfl, ho, hro, rfl⟩, ?_⟩
    rintro m σ H2 ⟨c, z, o, r, rfl, sm, ⟨us, hp, al⟩, wk, hz, ho, hro, hm⟩
    refine ⟨_, rfl, rfl, _, rfl, ?_⟩
    cases o with
    | none =>
      have : r = .non := hro
      subst this
      refine iteF (iteF ⟨_, rfl, ?_⟩)
      exact q H2 p c z sm np ⟨us, hp, al⟩ wk hz (.inl fun y hy => by cases (ho y).mpr hy)
    | some y =>
      have ry : rSd H2 r y := hro
      rw [decide_eq_false (sd_non ry)]
      have hy := (ho y).mp rfl
      refine iteT ⟨_, rfl, _, rfl, y, x, ry, moSd.mo (Same.ts sm) hx, _, rfl, ?_⟩
      by_cases e : y = x
      · rw [decide_eq_true e]
        refine iteF ⟨_, rfl, ?_⟩
        exact q H2 p c z sm np ⟨us, hp, al⟩ wk hz (.inr (e ▸ hy))
      · rw [decide_eq_false e]
        have wk' := wk.more ok hz hy e
        have fw := va_few ok wk'.nd wk'.va
        rw [List.length_append, List.length_singleton] at fw
        refine iteT ⟨fun σ' H' => ∃ m', m' < m ∧ ∃ c z o r, σ' = [some v, some (.ref d), some u, some (.ref p), some r] ∧ Same H H' ∧ rL rSd H' p c ∧ Wk g x c ∧ c.getLast? = some z ∧ (∀ y, o = some y ↔ Ph g z y) ∧ rO rSd H' r o ∧ m' + c.length = 65, fun σ' H' h => h, ?_⟩
        have hl := al.length
        refine ⟨_, rfl, .inl ⟨rfl, _, SqL.of hp⟩, _, rfl, p, us, r, rfl, rfl, hp, Nat.lt_of_le_of_lt (by omega : us.length ≤ 64) (by decide), ?_⟩
        have t3 := ts_put (o := .lst (us ++ [r])) hp (fun _ e => HO.noConfusion e)
        have s3 : Same H (upd H2 p (.lst (us ++ [r]))) := fun b o e => by
          rw [upd_ne (ne_of_none e np)]
          exact sm _ _ e
        refine ⟨_, rfl, _, rfl, _, rfl, v, d, r, g, y, rfl, moSz.mo (Same.ts s3) hv, tbl_mo moSd s3 td, moSd.mo t3 ry, ok, fun H4 r' o' s4 ho' hro' => ?_⟩
        exact ⟨m - 1, by omega, c ++ [y], y, o', r', rfl, s3.trans s4, ⟨_, s4 _ _ upd_same, (moSd.al (t3.trans (Same.ts s4)) al).snoc (moSd.mo (t3.trans (Same.ts s4)) ry)⟩, wk', by simp, ho', hro', by rw [List.length_append, List.length_singleton]; omega⟩
end
end WP
set_option Elab.async false
set_option linter.all false
set_option maxRecDepth 100000
/-! corners: corner_at, is_inner, shares -/
namespace WP
open PySem L2 WR WM
theorem cut_from (xs : List V) (n : Nat) : cutV xs (some (n : Int)) none = xs.drop n := by
  unfold cutV
  rw [HT.sIx_nat, HT.sIx_none]
  by_cases h : n ≤ xs.length
  · rw [Nat.min_eq_left h, List.take_of_length_le (by rw [List.length_drop]; exact Nat.le_refl _)]
  · rw [Nat.min_eq_right (by omega), List.drop_of_length_le (Nat.le_refl _), List.drop_of_length_le (i := n) (by omega)]
    simp
theorem cut_to (xs : List V) (n : Nat) : cutV xs none (some (n : Int)) = xs.take n := by
  unfold cutV
  rw [HT.sIx_nat, HT.sIx_none, List.drop_zero, Nat.sub_zero]
  by_cases h : n ≤ xs.length
  · rw [Nat.min_eq_left h]
  · rw [Nat.min_eq_right (by omega), List.take_of_length_le (Nat.le_refl _), List.take_of_length_le (by omega)]

/-! ### paths backwards; cycles turned -/
structure Bk (g : Gl) (y x : WM.Sd) (p : List WM.Sd) : Prop where
  hd : p.head? = some y
  lt : p.getLast? = some x
  nd : p.Nodup
  va : ∀ z ∈ p, Va g z
  ch : Ch (Ph g) p
theorem Bk.more {g : Gl} (ok : Ok g) {x y z : WM.Sd} {p : List WM.Sd} (k : Bk g y x p) (h : Ph g z y) (ne : z ≠ x) : Bk g z x (z :: p) := by
  have vz := ok.bi.lav (k.va y (List.mem_of_mem_head? k.hd)) h
  have nin : z ∉ p := by
    intro hz
    obtain ⟨a, b, e⟩ := List.append_of_mem hz
    cases b with
    | nil =>
      have := k.lt
      rw [e, List.getLast?_append] at this
      exact ne (by simpa using this)
    | cons u b =>
      have ch := k.ch
      rw [e] at ch
      have eu := ok.bi.fn vz ch.mid h
      subst eu
      have nd := k.nd
      have hd := k.hd
      rw [e] at nd hd
      cases a with
      | nil =>
        have : z = u := by simpa using hd
        subst this
        simp at nd
      | cons a1 a =>
        have : a1 = u := by simpa using hd
        subst this
        simp at nd
  refine ⟨rfl, ?_, List.nodup_cons.mpr ⟨nin, k.nd⟩, fun u hu => ?_, ?_⟩
  · rw [List.getLast?_cons, k.lt]
    rfl
  · rcases List.mem_cons.mp hu with rfl | hu
    · exact vz
    · exact k.va u hu
  · have hd := k.hd
    have ch := k.ch
    cases p with
    | nil => trivial
    | cons a p =>
      have : a = y := by simpa using hd
      exact ⟨this ▸ h, ch⟩
theorem Co.turn {g : Gl} {c : List WM.Sd} (o : Co g c) {a z : WM.Sd} (ha : c.head? = some a) (hz : c.getLast? = some z) (h : Ph g z a) (k : Nat) (hk : k < c.length) : Co g (c.drop k ++ c.take k) := by
  by_cases k0 : k = 0
  · subst k0
    simpa using o
  have e : c = c.take k ++ c.drop k := (List.take_append_drop k c).symm
  have hd : (c.drop k).head? = some c[k] := by rw [List.head?_drop, List.getElem?_eq_getElem hk]
  have hl : (c.take k).getLast? = some (c[k - 1]'(by omega)) := by
    rw [List.getLast?_eq_getElem?, List.length_take, Nat.min_eq_left (Nat.le_of_lt hk), List.getElem?_take_of_lt (by omega), List.getElem?_eq_getElem (by omega)]
  have hl2 : (c.drop k).getLast? = some z := by
    rw [List.getLast?_drop, if_neg (by omega), hz]
  have hd2 : (c.take k).head? = some a := by
    rw [List.head?_take, if_neg k0, ha]
  have st : Ph g (c[k - 1]'(by omega)) c[k] := by
    have ch := o.ch
    have e2 : c = c.take (k - 1) ++ (c[k - 1]'(by omega)) :: c[k] :: c.drop (k + 1) := by
      have h1 : c.drop k = c[k] :: c.drop (k + 1) := (List.getElem_cons_drop hk).symm
      have h2 : c.drop (k - 1) = (c[k - 1]'(by omega)) :: c.drop (k - 1 + 1) := (List.getElem_cons_drop (by omega)).symm
      rw [← h1]
      have : k - 1 + 1 = k := by omega
      rw [this] at h2
      rw [← h2, List.take_append_drop]
    rw [e2] at ch
    exact ch.mid
  refine ⟨?_, fun x hx => ?_, ?_, c[k], c[k - 1]'(by omega), ?_, ?_, .inr st⟩
  · have p : (c.drop k ++ c.take k).Perm c := (List.perm_append_comm).trans (by rw [List.take_append_drop])
    exact p.nodup_iff.mpr o.nd
  · rcases List.mem_append.mp hx with q | q
    · exact o.val x (List.mem_of_mem_drop q)
    · exact o.val x (List.mem_of_mem_take q)
  · have ch := o.ch
    rw [e] at ch
    refine ch.right.join ch.left fun u v e1 e2 => ?_
    rw [hl2] at e1
    rw [hd2] at e2
    cases e1
    cases e2
    exact h
  · rw [List.head?_append, hd]
    rfl
  · rw [List.getLast?_append, hl]
    rfl
theorem Bk.path {g : Gl} (ok : Ok g) {x y z : WM.Sd} {p c : List WM.Sd} (k : Bk g y x p) (n : ∀ u, ¬ Ph g u y) (wk : Wk g y c) (hz : c.getLast? = some z) (f : (∀ u, ¬ Ph g z u) ∨ Ph g z y) : Co g c ∧ x ∈ c := by
  have o : Co g c := ⟨wk.nd, wk.va, wk.ch, y, z, wk.hd, hz, .inl ⟨f.elim id fun q => absurd q (n z), n⟩⟩
  refine ⟨o, ?_⟩
  have hd := k.hd
  have ch := k.ch
  have lt := k.lt
  cases p with
  | nil => cases hd
  | cons a p =>
    have : a = y := by simpa using hd
    subst this
    exact ch_all (S := fun u => u ∈ c) (fun u v h r => o.fwd ok.bi h r) ch (List.mem_of_mem_head? wk.hd) x (List.mem_of_getLast? lt)
theorem Bk.cycle {g : Gl} (ok : Ok g) {x y z : WM.Sd} {p c : List WM.Sd} (k : Bk g y x p) (h : Ph g x y) (wk : Wk g x c) (hz : c.getLast? = some z) (f : (∀ u, ¬ Ph g z u) ∨ Ph g z x) : Co g c ∧ Ph g z x := by
  have o : Co g p := ⟨k.nd, k.va, k.ch, y, x, k.hd, k.lt, .inr h⟩
  have hx : Ph g z x := by
    rcases f with f | f
    · have hd := wk.hd
      have ch := wk.ch
      have mz : z ∈ p := by
        cases c with
        | nil => cases hd
        | cons a c =>
          have : a = x := by simpa using hd
          subst this
          exact ch_all (S := fun u => u ∈ p) (fun u v h r => o.fwd ok.bi h r) ch (List.mem_of_getLast? k.lt) z (List.mem_of_getLast? hz)
      have e := o.last mz f
      rw [k.lt] at e
      cases e
      exact absurd h (f y)
    · exact f
  exact ⟨⟨wk.nd, wk.va, wk.ch, x, z, wk.hd, hz, .inr hx⟩, hx⟩
section
variable {P : Program} {w : World} {K : PySem.W.Frag} {mg : Str → Option Value} {base : Heap}
/-! ### corner_at -/
abbrev sCat : Stmt := topS 6
theorem scCat : FnScope ["sizes", "ties", "share", "first", "back", "found", "place"] ["sizes", "ties", "share"] (defScope sCat) := ⟨rfl, rfl, rfl, by decide +kernel, rfl, by decide +kernel, by decide +kernel⟩
def spCat : Sp := fun vs H Q _ => ∃ v d u g x, vs = [v, .ref d, u] ∧ rSz H v g.1 ∧ tbl rSd H d (Mt g) ∧ rSd H u x ∧ Ok g ∧ Va g x ∧ ∀ H' r c, Same H H' → rCo H' r c → Co g c → x ∈ c → Q r H'
theorem ok_cat {f : Addr} {fd : FuncData} (F : Fun K "corner_at" "corner_at" sCat f fd) (B : Bl mg) (cB : Cal P w K mg base "step_back" 1 ["sizes", "ties", "share"] spBack) (cW : Cal P w K mg base "walked" 2 ["sizes", "ties", "share"] spWalk) :
    FnOk P w K mg base CX0 3 f fd ["sizes", "ties", "share"] spCat := by
  obtain ⟨fB, dB, GB, gB, kB, bB⟩ := cB
  obtain ⟨fW, dW, GW, gW, kW, bW⟩ := cW
  refine F.ok scCat (fun vs H Q E h => ?_) (fun cdv A outer s H vs Q E hr h => ?_)
  · obtain ⟨v, d, u, g, x, rfl, _⟩ := h
    rfl
  · obtain ⟨v, d, u, g, x, rfl, hv, td, hx, ok, va, q⟩ := h
    have hu := hr.units
    have hu2 : (A.deeper (PyProof.Rows.envOfC "corner_at" (defScope sCat) s.heap.objs.size f cdv)).units + 65 < cLine := by have := hr.un; omega
    have hr1 : Room 1 (A.deeper (PyProof.Rows.envOfC "corner_at" (defScope sCat) s.heap.objs.size f cdv)) := hr.mono (by decide)
    refine ⟨_, pss_cons (ps_par (i := 3) (j := 4) (by rfl) scCat.nd rfl rfl (by decide) rfl rfl (pa_cons (pv 2) (pa_cons (pe_call GB hr1 (by rfl) gB kB bB .nil pass0 (pa_cons (pv 0) (pa_cons (pv 1) (pa_cons (pv 2) pa_nil)))) pa_nil)) (by rfl))
      (pss_cons (ps_while PassesOwn.never (PW.pt (pw_and (pt_cmpR op_notN (pv 4) pe_non (nomark _)) (pw_and1 (pt_cmpR (op_neE enSd (by decide) hu) (pv 4) (pv 2) (nomark _)))))
        (pss_one (ps_par (i := 3) (j := 4) (by rfl) scCat.nd rfl rfl (by decide) rfl rfl (pa_cons (pv 4) (pa_cons (pe_call GB hr1 (by rfl) gB kB bB .nil pass0 (pa_cons (pv 0) (pa_cons (pv 1) (pa_cons (pv 4) pa_nil)))) pa_nil)) (by rfl))))
      (pss_cons (ps_if (pt_cmpR op_isN (pv 4) pe_non (nomark _))
        (pss_one (ps_ret (pe_callTy call_tuple_of (by rfl) B.tup (by decide +kernel) (pa_cons (pe_call GW hr (by rfl) gW kW bW .nil pass0 (pa_cons (pv 0) (pa_cons (pv 1) (pa_cons (pv 3) pa_nil)))) pa_nil)))) pss_nil)
      (pss_cons (ps_set (i := 5) scCat.nd rfl (.inl rfl) (pe_call GW hr (by rfl) gW kW bW .nil pass0 (pa_cons (pv 0) (pa_cons (pv 1) (pa_cons (pv 2) pa_nil)))))
      (pss_cons (ps_set (i := 6) scCat.nd rfl (.inl rfl) (pe_bm PySem.F.plainAttrs_list PySem.F.slot_list_index PySem.F.type_list_index (mt_idxE enSd (by decide) hu2) (pv 5)
        (pa_cons (pe_callB (cr_minL enSd (by decide) (by rfl) hu) (by rfl) B.min (by decide +kernel) (pa_cons (pv 5) pa_nil)) pa_nil)))
      (pss_one (ps_ret (pe_callTy call_tuple_of (by rfl) B.tup (by decide +kernel) (pa_cons (pe_op op_cat (pe_slice sl_list (pv 5) (po_some (pv 6)) po_none) (pe_slice sl_list (pv 5) po_none (po_some (pv 6)))) pa_nil)))))))), ?_⟩
    refine ⟨u, rfl, _, rfl, _, rfl, _, rfl, v, d, u, g, x, rfl, hv, td, hx, ok, va, fun H1 r o s1 ho hro => ⟨u, r, rfl, ?_⟩⟩
    refine ⟨fun m σ H2 => ∃ p y r1 r2 o, σ = [some v, some (.ref d), some u, some r1, some r2, none, none] ∧ Same H H2 ∧ Bk g y x p ∧ rSd H2 r1 y ∧ (∀ z, o = some z ↔ Ph g z y) ∧ rO rSd H2 r2 o ∧ m + p.length = 65,
      ⟨64, [x], x, u, r, o, rfl, s1, ⟨rfl, rfl, by simp, fun y hy => by rw [List.mem_singleton] at hy; exact hy ▸ va, trivial⟩, moSd.mo (Same.ts s1) hx, ho, hro, rfl⟩, ?_⟩
    rintro m σ H2 ⟨p, y, r1, r2, o, rfl, sm, bk, hr1', ho, hro, hm⟩
    have hv2 := moSz.mo (Same.ts sm) hv
    have td2 := tbl_mo moSd sm td
    have hx2 := moSd.mo (Same.ts sm) hx
    have vy := bk.va y (List.mem_of_mem_head? bk.hd)
    refine ⟨_, rfl, rfl, _, rfl, ?_⟩
    cases o with
    | none =>
      have : r2 = .non := hro
      subst this
      refine iteF (iteF ⟨_, rfl, rfl, _, rfl, iteT ?_⟩)
      refine ⟨_, rfl, _, rfl, _, rfl, v, d, r1, g, y, rfl, hv2, td2, hr1', ok, vy, fun H3 p3 c z s3 np ⟨us, hp, al⟩ wk hz f => ?_⟩
      refine ⟨p3, us, rfl, .inl ⟨SqL.of hp, fun l nl => ?_⟩⟩
      obtain ⟨oc, xc⟩ := bk.path ok (fun z h => by cases (ho z).mpr h) wk hz f
      have t4 := ts_new (o := .tup us) nl
      exact q _ _ c ((sm.trans s3).trans (same_new nl)) ⟨l, us, rfl, upd_same, moSd.al t4 al⟩ oc xc
    | some z =>
      have rz : rSd H2 r2 z := hro
      rw [decide_eq_false (sd_non rz)]
      have hzy := (ho z).mp rfl
      refine iteT ⟨_, rfl, _, rfl, z, x, rz, hx2, _, rfl, ?_⟩
      by_cases e : z = x
      · rw [decide_eq_true e]
        subst e
        refine iteF ⟨_, rfl, rfl, _, rfl, ?_⟩
        rw [decide_eq_false (sd_non rz)]
        refine iteF ⟨_, rfl, _, rfl, _, rfl, v, d, u, g, z, rfl, hv2, td2, hx2, ok, va, fun H3 p3 c zz s3 np ⟨us, hp, al⟩ wk hz f => ?_⟩
        obtain ⟨oc, hcl⟩ := bk.cycle ok hzy wk hz f
        have zc : z ∈ c := List.mem_of_mem_head? wk.hd
        cases c with
        | nil => cases zc
        | cons c0 c =>
          refine ⟨_, rfl, .inl ⟨rfl, _, SqL.of hp⟩, _, rfl, p3, c0, c, rfl, ⟨us, hp, al⟩, fun vm ym hym rym => ?_⟩
          refine ⟨p3, vm, ym, c0 :: c, rfl, rfl, ⟨us, hp, al⟩, rym, hym, fun k hk => ?_⟩
          have hk : k < (c0 :: c).length := (List.getElem?_eq_some_iff.mp hk).1
          have few := va_few ok oc.nd oc.val
          refine ⟨_, rfl, _, rfl, _, rfl, p3, us, rfl, SqL.of hp, fun q1 n1 => ?_⟩
          have h31 := same_new (o := .lst (cutV us (some (k : Int)) none)) n1
          refine ⟨_, rfl, _, rfl, _, rfl, p3, us, rfl, SqL.of (h31 _ _ hp), fun q2 n2 => ?_⟩
          have h32 := same_new (o := .lst (cutV us none (some (k : Int)))) n2
          refine ⟨q1, q2, _, _, rfl, rfl, h32 _ _ upd_same, upd_same, ?_, fun q3 n3 => ?_⟩
          · rw [cut_from, cut_to, List.length_drop, List.length_take, al.length]
            have : (64 : Nat) ≤ sizeLine := by decide
            omega
          · refine ⟨q3, _, rfl, .inl ⟨SqL.of upd_same, fun l nl => ?_⟩⟩
            have st : Same H3 _ := (h31.trans h32).trans ((same_new n3).trans (same_new (o := .tup (cutV us (some (k : Int)) none ++ cutV us none (some (k : Int)))) nl))
            refine q _ _ ((c0 :: c).drop k ++ (c0 :: c).take k) ((sm.trans s3).trans st) ⟨l, _, rfl, upd_same, ?_⟩ (Co.turn oc wk.hd hz hcl k hk) ?_
            · have al' := moSd.al (Same.ts st) al
              have al'' := (al'.drop k).app (al'.take k)
              rw [← cut_from, ← cut_to] at al''
              exact al''
            · have pm : ((c0 :: c).drop k ++ (c0 :: c).take k).Perm (c0 :: c) := List.perm_append_comm.trans (by rw [List.take_append_drop])
              exact pm.mem_iff.mpr zc
      · rw [decide_eq_false e]
        have bk' := bk.more ok hzy e
        have fw := va_few ok bk'.nd bk'.va
        rw [List.length_cons] at fw
        refine iteT ⟨fun σ' H' => ∃ m', m' < m ∧ ∃ p y r1 r2 o, σ' = [some v, some (.ref d), some u, some r1, some r2, none, none] ∧ Same H H' ∧ Bk g y x p ∧ rSd H' r1 y ∧ (∀ z, o = some z ↔ Ph g z y) ∧ rO rSd H' r2 o ∧ m' + p.length = 65, fun σ' H' h => h, ?_⟩
        refine ⟨r2, rfl, _, rfl, _, rfl, _, rfl, v, d, r2, g, z, rfl, hv2, td2, rz, ok, bk'.va z (by simp), fun H3 r o s3 ho' hro' => ⟨r2, r, rfl, ?_⟩⟩
        exact ⟨m - 1, by omega, z :: p, z, r2, r, o, rfl, sm.trans s3, bk', moSd.mo (Same.ts s3) rz, ho', hro', by rw [List.length_cons]; omega⟩
end
end WP
set_option Elab.async false
set_option linter.all false
set_option maxRecDepth 100000
/-! corners: is_inner, shares, corners -/
namespace WP
open PySem L2 WR WM
/-- a walk, by what holds between two turns (of the heap alone) -/
theorem it_w {J : It} {n : Nat} {G : Hp → Prop} {Y : Nat → Hp → V → Hp → Prop} (w : Walk J n G Y) {Body : (Hp → Prop) → V → Hp → Prop} {Done : Hp → Prop} {H0 : Hp} (Pv : Nat → Hp → Prop) (h0 : Pv 0 H0) (hG : ∀ i H, i ≤ n → Pv i H → G H)
    (hs : ∀ i x H H', i < n → Pv i H → Y i H x H' → Body (Pv (i + 1)) x H') (hd : ∀ H, Pv n H → Done H) :
    ∃ W : Nat → Nat → Hp → Prop, (∃ m, W 0 m H0) ∧ ∀ i m H, W i m H → (J.stop i H ∧ Done H) ∨ (J.go i H ∧ ∃ Nx : Hp → Prop, (∀ H', Nx H' → ∃ m', m' < m ∧ W (i + 1) m' H') ∧ ∀ x H', J.yld i H x H' → Body Nx x H') := by
  refine ⟨fun i m H => m = n - i ∧ i ≤ n ∧ Pv i H, ⟨n, by simp, Nat.zero_le _, h0⟩, ?_⟩
  rintro i m H ⟨rfl, hi, p⟩
  by_cases hlt : i < n
  · exact .inr ⟨w.goes i H hlt (hG i H hi p), Pv (i + 1), fun H' p' => ⟨n - (i + 1), by omega, rfl, hlt, p'⟩, fun x H' y => hs i x H H' hlt p (w.yields i H x H' hlt (hG i H hi p) y)⟩
  · have e : i = n := by omega
    subst e
    exact .inl ⟨w.stops H (hG _ H hi p), hd H p⟩
theorem al_last {α : Type} {R : V → α → Prop} {vs : List V} {xs : List α} (h : Al R vs xs) {z : α} (e : xs.getLast? = some z) : ∃ v, atI vs (-1) = some v ∧ R v z := by
  rw [List.getLast?_eq_getElem?] at e
  obtain ⟨v, hv, r⟩ := h.at e
  have hl := h.length
  have h0 : 0 < xs.length := by
    have := (List.getElem?_eq_some_iff.mp e).1
    omega
  refine ⟨v, ?_, r⟩
  unfold atI ixN
  rw [if_neg (by omega), if_pos (by omega)]
  show vs[(-1 + (vs.length : Int)).toNat]? = some v
  rw [← hv]
  congr 1
  omega
/-- all sides, in order -/
def allS (g : Gl) : List WM.Sd := (List.range g.1.length).flatMap fun t => (List.range (sz g t)).map fun i => (t, i)
theorem mem_allS {g : Gl} {x : WM.Sd} : x ∈ allS g ↔ Va g x := by
  unfold allS Va
  rw [List.mem_flatMap]
  constructor
  · rintro ⟨t, ht, h⟩
    obtain ⟨i, hi, rfl⟩ := List.mem_map.mp h
    exact ⟨List.mem_range.mp ht, List.mem_range.mp hi⟩
  · exact fun ⟨h1, h2⟩ => ⟨x.1, List.mem_range.mpr h1, List.mem_map.mpr ⟨x.2, List.mem_range.mpr h2, rfl⟩⟩
theorem nodup_allS (g : Gl) : (allS g).Nodup := by
  unfold allS
  rw [List.flatMap_def, nodup_fl]
  refine ⟨fun l hl => ?_, ?_⟩
  · obtain ⟨t, _, rfl⟩ := List.mem_map.mp hl
    unfold List.Nodup
    rw [List.pairwise_map]
    exact List.Pairwise.imp (fun {a b} h e => h (Prod.mk.inj e).2) List.nodup_range
  · rw [List.pairwise_map]
    refine List.Pairwise.imp (fun {a b} h x h1 h2 => ?_) List.nodup_range
    obtain ⟨i, _, rfl⟩ := List.mem_map.mp h1
    obtain ⟨j, _, e⟩ := List.mem_map.mp h2
    exact h (Prod.mk.inj e).1.symm
theorem allS_few {g : Gl} (ok : Ok g) : (allS g).length ≤ 64 := va_few ok (nodup_allS g) fun y hy => mem_allS.mp hy
section
variable {P : Program} {w : World} {K : PySem.W.Frag} {mg : Str → Option Value} {base : Heap}
/-! ### is_inner -/
abbrev sInn : Stmt := topS 7
theorem scInn : FnScope ["gluing", "corner"] ["gluing", "corner"] (defScope sInn) := ⟨rfl, rfl, rfl, by decide +kernel, rfl, by decide +kernel, by decide +kernel⟩
def spInn : Sp := fun vs H Q _ => ∃ v u g c, vs = [v, u] ∧ rG H v g ∧ rCo H u c ∧ Ok g ∧ Co g c ∧ ∀ H', Same H H' → Q (.bl (inn g c)) H'
theorem ok_inn {f : Addr} {fd : FuncData} (F : Fun K "is_inner" "is_inner" sInn f fd) (cO : Cal P w K mg base "onward" 2 ["gluing", "share"] spOnw) : FnOk P w K mg base CX0 3 f fd ["gluing", "corner"] spInn := by
  obtain ⟨fO, dO, GO, gO, kO, bO⟩ := cO
  refine F.ok scInn (fun vs H Q E h => ?_) (fun cdv A outer s H vs Q E hr h => ?_)
  · obtain ⟨v, u, g, c, rfl, _⟩ := h
    rfl
  · obtain ⟨v, u, g, c, rfl, hg, ⟨a, us, rfl, ha, al⟩, ok, co, q⟩ := h
    refine ⟨_, pss_one (ps_ret (pe_cmpR op_notN (pe_call GO hr (by rfl) gO kO bO .nil pass0 (pa_cons (pv 0) (pa_cons (pe_ix ix_tup (pv 1) (pe_un un_neg pe_int) (fun _ _ => rfl)) pa_nil))) pe_non (nomark _))), ?_⟩
    obtain ⟨_, z, _, hz, _⟩ := co.fin
    obtain ⟨r, hr', rz⟩ := al_last al hz
    refine ⟨_, rfl, _, rfl, 1, rfl, a, us, -1, r, rfl, rfl, SqT.of ha, hr', v, r, g, z, rfl, hg, rz, ok, fun H' r' o sm ho hro => ⟨rfl, ?_⟩⟩
    have e : (!decide (r' = V.non)) = inn g c := by
      rw [inn_of hz]
      cases o with
      | none =>
        have : r' = .non := hro
        rw [decide_eq_true this]
        refine (hasM_false fun y hy => ?_).symm
        cases (ho _).mpr ⟨y, hy, rfl⟩
      | some y =>
        rw [decide_eq_false (sd_non hro)]
        obtain ⟨u, hu, _⟩ := (ho y).mp rfl
        exact (hasM_iff.mpr ⟨u, hu⟩).symm
    rw [e]
    exact q H' sm

/-! ### shares -/
abbrev sShr : Stmt := topS 8
theorem scShr : FnScope ["gluing", "t", "many", "i"] ["gluing"] (defScope sShr) := ⟨rfl, rfl, rfl, by decide +kernel, rfl, by decide +kernel, by decide +kernel⟩
def spShr : Sp := fun vs H Q _ => ∃ v g, vs = [v] ∧ rG H v g ∧ Ok g ∧ ∀ H' p, Same H H' → H p = none → rL rSd H' p (allS g) → Q (.ref p) H'
theorem flat_take {α β : Type} (f : α → List β) (l : List α) (i : Nat) {x : α} (h : l[i]? = some x) : (l.take (i + 1)).flatMap f = (l.take i).flatMap f ++ f x := by
  rw [List.take_add_one, h, List.flatMap_append]
  simp
theorem ok_shr {f : Addr} {fd : FuncData} (F : Fun K "shares" "shares" sShr f fd) (B : Bl mg) : FnOk P w K mg base CX0 1 f fd ["gluing"] spShr := by
  refine F.ok scShr (fun vs H Q E h => ?_) (fun cdv A outer s H vs Q E hr h => ?_)
  · obtain ⟨v, g, rfl, _⟩ := h
    rfl
  · obtain ⟨v, g, rfl, hg, ok, q⟩ := h
    refine ⟨_, pss_one (ps_ret (pe_lc2 (own := [("t", 1), ("many", 2), ("i", 3)]) (vs1 := [3]) (g := gTup K 2 (gCons (gName 1) (gCons (gName 2) gNil))) (g1 := gName 3) (tt := tYes) (tt1 := tYes) rfl scShr.nd
      (pi_enumT (by rfl) B.enu (pa_cons (pe_ix ix_tup (pv 0) pe_int (fun _ _ => rfl)) pa_nil)) (blkOk_by (N := ["gluing", "t", "many", "i"]) (sc := defScope sShr) (by decide +kernel)) (by decide)
      (fun _ _ _ _ _ => pg_tup rfl (pgs_cons (pg_name (i := 1) scShr.nd rfl (Or.inl rfl)) (pgs_cons (pg_name (i := 2) scShr.nd rfl (Or.inl rfl)) pgs_nil))) (fun _ _ _ _ _ => pts_nil)
      (fun _ _ _ _ _ => pi_range1 (by rfl) B.ran (pa_cons (pv 2) pa_nil)) (fun _ _ _ _ _ => pg_name (i := 3) scShr.nd rfl (Or.inl rfl)) (fun _ _ _ _ _ => pts_nil)
      (fun _ _ _ _ _ => pe_tup (pa_cons (pv 1) (pa_cons (pv 3) pa_nil))))), ?_⟩
    obtain ⟨a, p1, p2, rfl, ha, h1, _⟩ := hg
    obtain ⟨c, rfl, hc⟩ := sz_is h1
    have hl := allS_few ok
    refine ⟨_, rfl, a, _, 0, _, rfl, rfl, SqT.of ha, at_nat (n := 0) rfl, c, _, rfl, hc, fun D nD => ?_⟩
    let pre : Nat → Nat → List WM.Sd := fun t i => ((List.range g.1.length).take t).flatMap (fun t => (List.range (sz g t)).map fun i => (t, i)) ++ (List.range i).map fun i => (t, i)
    have hpre : ∀ t i, t < g.1.length → i ≤ sz g t → (pre t i).length ≤ 64 := fun t i ht hi => by
      refine va_few ok ?_ fun y hy => ?_
      · have sub : (pre t i).Sublist (allS g) := by
          have e : allS g = ((List.range g.1.length).take (t + 1)).flatMap (fun t => (List.range (sz g t)).map fun i => (t, i)) ++ ((List.range g.1.length).drop (t + 1)).flatMap (fun t => (List.range (sz g t)).map fun i => (t, i)) := by
            rw [← List.flatMap_append, List.take_append_drop]
            rfl
          rw [e, flat_take _ _ _ (show (List.range g.1.length)[t]? = some t by rw [List.getElem?_range ht])]
          refine List.Sublist.trans ?_ (List.sublist_append_left _ _)
          refine (List.Sublist.refl _).append ?_
          refine List.Sublist.map _ ?_
          have : List.range i = (List.range (sz g t)).take i := by rw [List.take_range, Nat.min_eq_left hi]
          rw [this]
          exact List.take_sublist _ _
        exact sub.nodup (nodup_allS g)
      · rcases List.mem_append.mp hy with h | h
        · obtain ⟨t', ht', h⟩ := List.mem_flatMap.mp h
          obtain ⟨i', hi', rfl⟩ := List.mem_map.mp h
          exact ⟨List.mem_range.mp (List.mem_of_mem_take ht'), List.mem_range.mp hi'⟩
        · obtain ⟨i', hi', rfl⟩ := List.mem_map.mp h
          exact ⟨ht, Nat.lt_of_lt_of_le (List.mem_range.mp hi') hi⟩
    refine it_w (n := (g.1.map fun n : Nat => V.int (n : Int)).length) walk_enT (fun t H2 => Same H H2 ∧ rL rSd H2 D (pre t 0)) ⟨same_new nD, [], upd_same, .nil⟩ (fun t H2 _ p => p.1 _ _ hc) ?_ ?_
    · rintro t x H2 H3 ht ⟨sm, us, hD, al⟩ ⟨T, x1, x2, rfl, nT, rfl, e1, e2⟩
      rw [List.length_map] at ht
      have e1 : x1 = .int (t : Nat) := (Option.some.inj e1).symm
      have e2 : x2 = .int (sz g t : Int) := Option.some.inj (e2.symm.trans (sz_at ht))
      subst e1
      subst e2
      have sT := same_new (o := .tup [.int (t : Nat), .int (sz g t : Int)]) nT
      have h7 := (ok.sz ht).2
      refine ⟨T, _, rfl, SqT.of upd_same, rfl, _, _, rfl, _, _, rfl, rfl, rfl, ?_⟩
      refine ⟨_, rfl, _, rfl, by omega, by omega, ?_⟩
      refine it_w (n := ((sz g t : Int)).toNat) walk_range (fun i H4 => Same H H4 ∧ rL rSd H4 D (pre t i)) ⟨sm.trans sT, us, sT _ _ hD, moSd.al (Same.ts sT) al⟩ (fun i H4 _ _ => trivial) ?_ ?_
      · rintro i x H4 H5 hi ⟨sm4, us4, hD4, al4⟩ ⟨rfl, rfl⟩
        have hi : i < sz g t := by simpa using hi
        refine ⟨rfl, _, rfl, _, rfl, by show 2 ≤ sizeLine; decide, fun p np => ?_⟩
        have sp := same_new (o := .tup [.int (t : Nat), .int (0 + (i : Nat) : Int)]) np
        have nDp : D ≠ p := ne_of_none hD4 np
        have hl4 := al4.length
        have := hpre t i ht (Nat.le_of_lt hi)
        refine ⟨us4, sp _ _ hD4, Nat.lt_of_le_of_lt (by omega : us4.length ≤ 64) (by decide), fun b o e => ?_, _, upd_same, ?_⟩
        · rw [upd_ne (ne_of_none e nD), upd_ne (ne_of_none (sm4 _ _ e) np)]
          exact sm4 _ _ e
        · have tD := ts_put (o := .lst (us4 ++ [V.ref p])) (sp _ _ hD4) (fun _ e => HO.noConfusion e)
          have e : pre t (i + 1) = pre t i ++ [(t, i)] := by
            show _ ++ (List.range (i + 1)).map _ = (_ ++ (List.range i).map _) ++ [_]
            rw [List.range_succ, List.map_append, List.append_assoc]
            rfl
          rw [e]
          refine (moSd.al ((Same.ts sp).trans tD) al4).snoc (mk_sd (x := (t, i)) (tD _ _ ?_))
          rw [upd_same, Int.zero_add]
      · rintro H4 ⟨sm4, us4, hD4, al4⟩
        refine ⟨sm4, us4, hD4, ?_⟩
        have e : pre (t + 1) 0 = pre t ((sz g t : Int)).toNat := by
          show ((List.range g.1.length).take (t + 1)).flatMap _ ++ [] = _
          rw [List.append_nil, flat_take _ _ _ (show (List.range g.1.length)[t]? = some t by rw [List.getElem?_range ht]), Int.toNat_natCast]
        rw [e]
        exact al4
    · rintro H2 ⟨sm, us, hD, al⟩
      refine q H2 D sm nD ⟨us, hD, ?_⟩
      rw [List.length_map] at al
      have e : pre g.1.length 0 = allS g := by
        show ((List.range g.1.length).take g.1.length).flatMap _ ++ [] = _
        rw [List.append_nil, List.take_of_length_le (by simp)]
        rfl
      rw [e] at al
      exact al
end
end WP
set_option Elab.async false
set_option linter.all false
set_option maxRecDepth 100000
/-! corners: corners, corner_table -/
namespace WP
open PySem L2 WR WM
/-- the keys of a dict of sides -/
def Ks (kvs : List (List Key × V)) (S : WM.Sd → Prop) : Prop := KD kvs ∧ ∀ x, ky x ∈ kvs.map (·.1) ↔ S x
theorem Ks.nil : Ks [] (fun _ => False) := ⟨KD.nil, fun x => by simp⟩
theorem Ks.imp {kvs : List (List Key × V)} {S T : WM.Sd → Prop} (h : Ks kvs S) (k : ∀ x, S x ↔ T x) : Ks kvs T := ⟨h.1, fun x => (h.2 x).trans (k x)⟩
theorem Ks.put {kvs : List (List Key × V)} {S : WM.Sd → Prop} (h : Ks kvs S) {x : WM.Sd} (hx : Gr x) (v : V) : Ks (putK kvs (ky x) v) (fun z => z = x ∨ S z) := by
  refine ⟨h.1.put hx v, fun z => ?_⟩
  rw [keys_put]
  by_cases m : ky x ∈ kvs.map (·.1)
  · rw [if_pos m, h.2]
    exact ⟨.inr, fun q => q.elim (fun e => by rw [e]; exact (h.2 x).mp m) id⟩
  · rw [if_neg m, List.mem_append, List.mem_singleton, h.2]
    exact ⟨fun q => q.elim .inr fun e => .inl (ky_inj e), fun q => q.elim (fun e => .inr (by rw [e])) .inl⟩
theorem Ks.merge {kvs more : List (List Key × V)} {S T : WM.Sd → Prop} (h : Ks kvs S) (k : Ks more T) : Ks (mergeT kvs more) (fun z => S z ∨ T z) :=
  ⟨KD.merge k.1 h.1, fun z => by rw [keys_merge, h.2, k.2]⟩
theorem Ks.some {kvs : List (List Key × V)} {S : WM.Sd → Prop} (h : Ks kvs S) (x : WM.Sd) : (valV kvs (ky x)).isSome = true ↔ S x := by rw [some_iff, h.2]

theorem take_one {α : Type} {l : List α} {i : Nat} {x : α} (h : l[i]? = some x) : l.take (i + 1) = l.take i ++ [x] := by
  rw [List.take_add_one, h]
  rfl
theorem wipe_set {σ : L2.St} {j : Nat} {v : V} (h : j < σ.length) : (wipe ((wipe σ [j]).set j (some v)) [j] = wipe σ [j]) ∧ ((wipe σ [j]).set j (some v))[j]? = some (some v) := by
  constructor
  · show (((σ.set j none).set j (some v)).set j none) = σ.set j none
    rw [List.set_set, List.set_set]
  · show ((σ.set j none).set j (some v))[j]? = some (some v)
    rw [List.getElem?_set_self]
    rw [List.length_set]
    exact h
/-- {one: True for one in c} -/
theorem set_comp {K : PySem.W.Frag} {g : Gl} (ok : Ok g) {σ : L2.St} {H : Hp} {Q : VK} {k j : Nat} {a : Addr} {vs : List V} {c : List WM.Sd} (hk : σ[k]? = some (some (.ref a))) (hj : j < σ.length) (ha : H a = some (.tup vs)) (al : Al (rSd H) vs c) (hv : ∀ x ∈ c, Va g x)
    (q : ∀ D kvs, H D = none → Ks kvs (fun z => z ∈ c) → Q (.ref D) (upd H D (.dT kvs))) : tDT (iTup K (tVar k)) (gName j) tYes (tVar j) (tC (.bl true)) [j] σ H Q := by
  refine ⟨_, hk, a, rfl, ⟨vs, SqT.of ha⟩, fun D nD => ?_⟩
  have up : ∀ {o : HO}, (upd H D o) a = some (.tup vs) := fun {o} => same_new nD _ _ ha
  refine it_w (n := vs.length) walk_tup (fun i H2 => ∃ kvs, H2 = upd H D (.dT kvs) ∧ Ks kvs (fun z => z ∈ c.take i)) ⟨[], rfl, Ks.nil.imp fun x => by simp⟩ ?_ ?_ ?_
  · rintro i H2 _ ⟨kvs, rfl, _⟩
    exact SqT.of up
  · rintro i x H2 H3 hi ⟨kvs, rfl, hs⟩ ⟨rfl, hx⟩
    obtain ⟨y, hy, ry⟩ := al.get hx
    obtain ⟨b, rfl, hb⟩ := sd_tup ry
    obtain ⟨w1, w2⟩ := wipe_set (σ := σ) (v := V.ref b) hj
    refine ⟨w1, _, w2, kvs, ky y, b, rfl, same_new nD _ _ hb, upd_same, hs.1.lt, _, upd_upd, ?_⟩
    refine (hs.put (va_gr ok (hv y (List.mem_of_getElem? hy))) _).imp fun z => ?_
    rw [take_one hy, List.mem_append, List.mem_singleton]
    exact Or.comm
  · rintro H2 ⟨kvs, rfl, hs⟩
    rw [al.length, List.take_length] at hs
    exact q D kvs nD hs
theorem len_flat {α : Type} : ∀ {C : List (List α)}, (∀ c ∈ C, c ≠ []) → C.length ≤ C.flatten.length
  | [], _ => Nat.le_refl _
  | c :: C, h => by
    have h1 := len_flat (C := C) fun d hd => h d (List.mem_cons_of_mem _ hd)
    have h2 : 0 < c.length := List.length_pos_iff.mpr (h c (by simp))
    rw [List.flatten_cons, List.length_append, List.length_cons]
    omega
section
variable {P : Program} {w : World} {K : PySem.W.Frag} {mg : Str → Option Value} {base : Heap}
/-! ### corners -/
abbrev sCor : Stmt := topS 9
theorem scCor : FnScope ["gluing", "ties", "seen", "found", "share", "corner", "one"] ["gluing"] (defScope sCor) := ⟨rfl, rfl, rfl, by decide +kernel, rfl, by decide +kernel, by decide +kernel⟩
def spCor : Sp := fun vs H Q _ => ∃ v g, vs = [v] ∧ rG H v g ∧ Ok g ∧ ∀ H' p C, Same H H' → H p = none → rL rCo H' p C → Cov (Va g) (Ph g) C → Q (.ref p) H'
theorem ok_cor {f : Addr} {fd : FuncData} (F : Fun K "corners" "corners" sCor f fd) (cM : Cal P w K mg base "mates" 1 ["gluing"] spMates) (cS : Cal P w K mg base "shares" 1 ["gluing"] spShr) (cC : Cal P w K mg base "corner_at" 3 ["sizes", "ties", "share"] spCat) :
    FnOk P w K mg base CX0 4 f fd ["gluing"] spCor := by
  obtain ⟨fM, dM, GM, gM, kM, bM⟩ := cM
  obtain ⟨fS, dS, GS, gS, kS, bS⟩ := cS
  obtain ⟨fC, dC, GC, gC, kC, bC⟩ := cC
  refine F.ok scCor (fun vs H Q E h => ?_) (fun cdv A outer s H vs Q E hr h => ?_)
  · obtain ⟨v, g, rfl, _⟩ := h
    rfl
  · obtain ⟨v, g, rfl, hg, ok, q⟩ := h
    have hu := hu_of hr
    refine ⟨_, pss_cons (ps_par3 (i := 1) (j := 2) (l := 3) (by rfl) scCor.nd rfl rfl rfl (by decide) (by decide) (by decide) rfl rfl rfl
        (pa_cons (pe_call GM (hr.mono (by decide)) (by rfl) gM kM bM .nil pass0 (pa_cons (pv 0) pa_nil)) (pa_cons pe_dnewT (pa_cons (pe_lst pa_nil) pa_nil))) (by rfl))
      (pss_cons (ps_for PassesOwn.never rfl (pi_list (pe_call GS (hr.mono (by decide)) (by rfl) gS kS bS .nil pass0 (pa_cons (pv 0) pa_nil))) (pg_name (i := 4) scCor.nd rfl (Or.inl rfl))
        (pss_one (ps_if (pt_cmp (pc_dnotin hu (pv 4) (pv 2)))
          (pss_cons (ps_set (i := 5) scCor.nd rfl (.inl rfl) (pe_call GC hr (by rfl) gC kC bC .nil pass0 (pa_cons (pe_ix ix_tup (pv 0) pe_int (fun _ _ => rfl)) (pa_cons (pv 1) (pa_cons (pv 4) pa_nil)))))
          (pss_cons (ps_expr (pe_bm PySem.F.plainAttrs_dict PySem.F.slot_dict_update PySem.F.type_dict_update (mt_updT hu) (pv 2) (pa_cons
            (pe_dT (own := [("one", 6)]) (g := gName 6) (tt := tYes) hr.units0 rfl scCor.nd (pi_tup (pv 5)) (blkOk_by (N := ["gluing", "ties", "seen", "found", "share", "corner", "one"]) (sc := defScope sCor) (by decide +kernel))
              (fun _ _ _ _ _ => pg_name (i := 6) scCor.nd rfl (Or.inl rfl)) (fun _ _ _ _ _ => pts_nil) (fun _ _ _ _ _ => pv 6) (fun _ _ _ _ _ => pe_bl)) pa_nil)))
          (pss_one (ps_expr (pe_bm PySem.F.plainAttrs_list PySem.F.slot_list_append PySem.F.type_list_append mt_append (pv 3) (pa_cons (pv 5) pa_nil)))))) pss_nil)))
      (pss_one (ps_ret (pv 3)))), ?_⟩
    refine ⟨v, rfl, v, g, rfl, hg, ok, fun H1 d s1 nd td d2 n2 => ⟨Nat.zero_le _, fun p np => ⟨_, _, _, rfl, ?_⟩⟩⟩
    have s2 := same_new (o := .dT []) n2
    have s3 := same_new (o := .lst []) np
    have s13 : Same H (upd (upd H1 d2 (.dT [])) p (.lst [])) := s1.trans (s2.trans s3)
    refine ⟨v, rfl, v, g, rfl, moG.mo (Same.ts s13) hg, ok, fun H4 a s4 na ha => ?_⟩
    have nd2 : H d2 = none := s1.free n2
    have np0 : H p = none := (s1.trans s2).free np
    have nap : a ≠ p := fun e => by rw [e, upd_same] at na; cases na
    have na2 : (upd H1 d2 (.dT [])) a = none := by rw [upd_ne nap] at na; exact na
    have nad2 : a ≠ d2 := fun e => by rw [e, upd_same] at na2; cases na2
    have npd2 : p ≠ d2 := fun e => by rw [e, upd_same] at np; cases np
    have nd1 : ∀ o, H1 d = some o → d ≠ d2 ∧ d ≠ p ∧ d ≠ a := fun o e => ⟨ne_of_none e n2, ne_of_none (s2 _ _ e) np, ne_of_none ((s2.trans s3) _ _ e) na⟩
    obtain ⟨us, ha, al⟩ := ha
    refine ⟨a, rfl, ⟨_, SqL.of ha⟩, for_list (xs := us) (fun i σ H5 => ∃ o4 o5 C kvs ws, σ = [some v, some (.ref d), some (.ref d2), some (.ref p), o4, o5, none] ∧ Same H H5 ∧ tbl rSd H5 d (Mt g) ∧ H5 a = some (.lst us) ∧ Al (rSd H5) us (allS g) ∧
      H5 d2 = some (.dT kvs) ∧ Ks kvs (fun z => z ∈ C.flatten) ∧ H5 p = some (.lst ws) ∧ Al (rCo H5) ws C ∧ (∀ c ∈ C, Co g c) ∧ C.flatten.Nodup ∧ ∀ x ∈ (allS g).take i, x ∈ C.flatten)
      ⟨none, none, [], [], [], rfl, s13.trans s4, tbl_mo moSd ((s2.trans s3).trans s4) td, ha, al, s4 _ _ (s3 _ _ upd_same), Ks.nil.imp fun x => by simp, s4 _ _ upd_same, .nil, fun c hc => (by cases hc), List.nodup_nil, fun x hx => (by simp at hx)⟩ ?_ ?_ ?_⟩
    · rintro i σ H5 _ ⟨o4, o5, C, kvs, ws, rfl, sm, tt, h1, _⟩
      exact SqL.of h1
    · rintro i x σ H5 hx ⟨o4, o5, C, kvs, ws, rfl, sm, tt, h1, al5, h2, ks, h3, alC, hC, ndC, cov⟩
      obtain ⟨y, hy, ry⟩ := al5.get hx
      have vy : Va g y := mem_allS.mp (List.mem_of_getElem? hy)
      obtain ⟨b, rfl, hb⟩ := sd_tup ry
      refine ⟨_, rfl, _, rfl, d2, _, rfl, DGet.t h2 hb, _, rfl, ?_⟩
      by_cases m : y ∈ C.flatten
      · rw [(ks.some y).mpr m]
        refine iteF ⟨_, o5, C, kvs, ws, rfl, sm, tt, h1, al5, h2, ks, h3, alC, hC, ndC, fun z hz => ?_⟩
        rw [take_one hy] at hz
        rcases List.mem_append.mp hz with q | q
        · exact cov z q
        · rw [List.mem_singleton] at q
          exact q ▸ m
      · have e : (valV kvs (ky y)).isSome = false := by
          cases q : (valV kvs (ky y)).isSome with
          | false => rfl
          | true => exact absurd ((ks.some y).mp q) m
        rw [e]
        refine iteT ?_
        have hg5 := moG.mo (Same.ts sm) hg
        obtain ⟨ga, p1, p2, rfl, hga, hs1, _⟩ := hg5
        refine ⟨_, rfl, ga, _, 0, _, rfl, rfl, SqT.of hga, at_nat (n := 0) rfl, _, rfl, _, rfl, _, d, _, g, y, rfl, hs1, tt, ry, ok, vy, fun H6 r c s6 hr6 co yc => ?_⟩
        obtain ⟨ca, cs, rfl, hca, alc⟩ := hr6
        refine ⟨_, rfl, .inr (.inr (.inl ⟨rfl, .inr ⟨kvs, s6 _ _ h2⟩⟩)), ?_⟩
        refine set_comp ok (k := 5) (j := 6) rfl (by show 6 < 7; decide) hca alc co.val fun D more nD km => ?_
        have sD := same_new (o := .dT more) nD
        have nd2D : d2 ≠ D := ne_of_none (s6 _ _ h2) nD
        refine ⟨d2, D, kvs, more, rfl, rfl, sD _ _ (s6 _ _ h2), upd_same, nd2D, ks.1, km.1, ?_⟩
        have tS := ts_put (o := .dT (mergeT kvs more)) (sD _ _ (s6 _ _ h2)) (fun _ e => HO.noConfusion e)
        have hl := alC.length
        have ndC' : (C ++ [c]).flatten.Nodup := by
          rw [List.flatten_append]
          refine List.nodup_append.mpr ⟨ndC, by simpa using co.nd, fun u hu u' hu' e => ?_⟩
          subst e
          obtain ⟨d', hd', hud⟩ := List.mem_flatten.mp hu
          have huc : u ∈ c := by simpa using hu'
          exact m (List.mem_flatten.mpr ⟨d', hd', ((hC d' hd').same ok.bi co hud huc y).mpr yc⟩)
        have hC' : ∀ e ∈ C ++ [c], Co g e := fun e he => by
          rcases List.mem_append.mp he with q | q
          · exact hC e q
          · rw [List.mem_singleton] at q
            exact q ▸ co
        have few : (C ++ [c]).length ≤ 64 := Nat.le_trans (len_flat fun e he => (hC' e he).ne) (va_few ok ndC' fun z hz => by
          obtain ⟨e, he, hze⟩ := List.mem_flatten.mp hz
          exact (hC' e he).val z hze)
        rw [List.length_append, List.length_singleton] at few
        have pd2 : p ≠ d2 := npd2
        have hp7 : (upd (upd H6 D (.dT more)) d2 (.dT (mergeT kvs more))) p = some (.lst ws) := by
          rw [upd_ne pd2]
          exact sD _ _ (s6 _ _ h3)
        refine ⟨_, rfl, .inl ⟨rfl, _, SqL.of hp7⟩, _, rfl, p, ws, _, rfl, rfl, hp7, Nat.lt_of_le_of_lt (by omega : ws.length ≤ 64) (by decide), ?_⟩
        have tP := ts_put (o := .lst (ws ++ [V.ref ca])) hp7 (fun _ e => HO.noConfusion e)
        have tAll : TS H5 (upd (upd (upd H6 D (.dT more)) d2 (.dT (mergeT kvs more))) p (.lst (ws ++ [V.ref ca]))) := (Same.ts s6).trans ((Same.ts sD).trans (tS.trans tP))
        have keep : ∀ c o, H5 c = some o → c ≠ d2 → c ≠ p → (upd (upd (upd H6 D (.dT more)) d2 (.dT (mergeT kvs more))) p (.lst (ws ++ [V.ref ca]))) c = some o := fun c o e n1 n2 => by
          rw [upd_ne n2, upd_ne n1]
          exact sD _ _ (s6 _ _ e)
        refine ⟨_, _, C ++ [c], mergeT kvs more, ws ++ [V.ref ca], rfl, fun b o e => keep b o (sm _ _ e) (ne_of_none e nd2) (ne_of_none e np0), ?_, keep _ _ h1 nad2 nap, moSd.al tAll al5, ?_, ?_, upd_same, ?_, hC', ndC', fun z hz => ?_⟩
        · obtain ⟨tk, ht1, ht2⟩ := tt
          have hd' : ∃ o, H1 d = some o := ⟨_, td.choose_spec.1⟩
          obtain ⟨o, ho⟩ := hd'
          obtain ⟨q1, q2, _⟩ := nd1 o ho
          exact ⟨tk, keep _ _ ht1 q1 q2, ht2.mo moSd tAll⟩
        · rw [upd_ne pd2.symm, upd_same]
        · refine (ks.merge km).imp fun z => ?_
          rw [List.flatten_append, List.mem_append]
          simp
        · refine ((moCo.al tAll alC).snoc ?_)
          exact ⟨ca, cs, rfl, (tS.trans tP) _ _ (sD _ _ hca), moSd.al ((Same.ts sD).trans (tS.trans tP)) alc⟩
        · rw [take_one hy] at hz
          rw [List.flatten_append, List.mem_append]
          rcases List.mem_append.mp hz with q | q
          · exact .inl (cov z q)
          · rw [List.mem_singleton] at q
            exact .inr (by simpa using q ▸ yc)
    · rintro σ H5 ⟨o4, o5, C, kvs, ws, rfl, sm, tt, h1, al5, h2, ks, h3, alC, hC, ndC, cov⟩
      refine ⟨_, rfl, q H5 p C sm np0 ⟨ws, h3, alC⟩ ⟨hC, ndC, fun x => ⟨fun hx => ?_, fun hx => ?_⟩⟩⟩
      · obtain ⟨c, hc, hxc⟩ := List.mem_flatten.mp hx
        exact (hC c hc).val x hxc
      · refine cov x ?_
        rw [al5.length, List.take_length]
        exact mem_allS.mpr hx
end
end WP
set_option Elab.async false
set_option linter.all false
set_option maxRecDepth 100000
/-! corner_table, following, round_from, rim_of -/
namespace WP
open PySem L2 WR WM
/-- the dict from each share to a corner -/
def Ct (g : Gl) (H : Hp) (kvs : List (List Key × V)) (S : WM.Sd → Prop) : Prop := Ks kvs S ∧ ∀ x v, valV kvs (ky x) = some v → ∃ c, Co g c ∧ x ∈ c ∧ rCo H v c
theorem Ct.mo {g : Gl} {H H' : Hp} {kvs : List (List Key × V)} {S : WM.Sd → Prop} (t : TS H H') (h : Ct g H kvs S) : Ct g H' kvs S :=
  ⟨h.1, fun x v e => let ⟨c, a, b, r⟩ := h.2 x v e; ⟨c, a, b, moCo.mo t r⟩⟩
theorem Ct.put {g : Gl} {H : Hp} {kvs : List (List Key × V)} {S : WM.Sd → Prop} (h : Ct g H kvs S) {x : WM.Sd} (hx : Gr x) {v : V} {c : List WM.Sd} (o : Co g c) (m : x ∈ c) (r : rCo H v c) : Ct g H (putK kvs (ky x) v) (fun z => z = x ∨ S z) := by
  refine ⟨h.1.put hx v, fun z u e => ?_⟩
  rw [valV_put] at e
  by_cases q : z = x
  · rw [if_pos (by rw [q])] at e
    cases e
    exact ⟨c, o, q ▸ m, r⟩
  · rw [if_neg fun z => q (ky_inj z)] at e
    exact h.2 z u e
def ctab (g : Gl) (H : Hp) (d : Addr) : Prop := ∃ kvs, H d = some (.dT kvs) ∧ Ct g H kvs (Va g)
theorem ctab_mo {g : Gl} {H H' : Hp} {d : Addr} (s : Same H H') (h : ctab g H d) : ctab g H' d := by
  obtain ⟨kvs, a, b⟩ := h
  exact ⟨kvs, s _ _ a, b.mo (Same.ts s)⟩
theorem ctab_at {g : Gl} {H : Hp} {kvs : List (List Key × V)} (h : Ct g H kvs (Va g)) {x : WM.Sd} (va : Va g x) : ∃ v c, valV kvs (ky x) = some v ∧ Co g c ∧ x ∈ c ∧ rCo H v c := by
  have e := (h.1.some x).mpr va
  cases q : valV kvs (ky x) with
  | none =>
    rw [q] at e
    cases e
  | some v =>
    obtain ⟨c, a, b, r⟩ := h.2 x v q
    exact ⟨v, c, rfl, a, b, r⟩
section
variable {P : Program} {w : World} {K : PySem.W.Frag} {mg : Str → Option Value} {base : Heap}
/-! ### corner_table -/
abbrev sCtb : Stmt := topS 10
theorem scCtb : FnScope ["gluing", "corner", "share"] ["gluing"] (defScope sCtb) := ⟨rfl, rfl, rfl, by decide +kernel, rfl, by decide +kernel, by decide +kernel⟩
def spCtb : Sp := fun vs H Q _ => ∃ v g, vs = [v] ∧ rG H v g ∧ Ok g ∧ ∀ H' d, Same H H' → H d = none → ctab g H' d → Q (.ref d) H'
theorem ok_ctb {f : Addr} {fd : FuncData} (F : Fun K "corner_table" "corner_table" sCtb f fd) (cC : Cal P w K mg base "corners" 4 ["gluing"] spCor) : FnOk P w K mg base CX0 5 f fd ["gluing"] spCtb := by
  obtain ⟨fC, dC, GC, gC, kC, bC⟩ := cC
  refine F.ok scCtb (fun vs H Q E h => ?_) (fun cdv A outer s H vs Q E hr h => ?_)
  · obtain ⟨v, g, rfl, _⟩ := h
    rfl
  · obtain ⟨v, g, rfl, hg, ok, q⟩ := h
    refine ⟨_, pss_one (ps_ret (pe_dT2 (own := [("corner", 1), ("share", 2)]) (vs1 := [2]) (g := gName 1) (g1 := gName 2) (wi1 := iTup K (tVar 1)) hr.units0 rfl scCtb.nd
      (pi_list (pe_call GC hr (by rfl) gC kC bC .nil pass0 (pa_cons (pv 0) pa_nil))) (blkOk_by (N := ["gluing", "corner", "share"]) (sc := defScope sCtb) (by decide +kernel)) (by decide)
      (fun _ _ _ _ _ => pg_name (i := 1) scCtb.nd rfl (Or.inl rfl)) (fun _ _ _ _ _ => pi_tup (pv 1)) (fun _ _ _ _ _ => pg_name (i := 2) scCtb.nd rfl (Or.inl rfl))
      (fun _ _ _ _ _ => pv 2) (fun _ _ _ _ _ => pv 1))), ?_⟩
    refine ⟨v, rfl, v, g, rfl, hg, ok, fun H1 p C s1 np hC cov => ?_⟩
    obtain ⟨us, hp, al⟩ := hC
    refine ⟨p, rfl, ⟨us, SqL.of hp⟩, fun D nD => ?_⟩
    have sD := same_new (o := .dT []) nD
    refine it_w (n := us.length) walk_list (fun i H2 => ∃ kvs, H2 = upd H1 D (.dT kvs) ∧ Ct g H2 kvs (fun z => z ∈ (C.take i).flatten)) ⟨[], rfl, Ks.nil.imp fun x => by simp, fun x v e => by rw [valV_nil] at e; cases e⟩ ?_ ?_ ?_
    · rintro i H2 _ ⟨kvs, rfl, _⟩
      exact SqL.of (same_new nD _ _ hp)
    · rintro i x H2 H3 hi ⟨kvs, rfl, ct⟩ ⟨rfl, hx⟩
      obtain ⟨c, hc, rc⟩ := al.get hx
      have co := cov.orb c (List.mem_of_getElem? hc)
      obtain ⟨a, cs, rfl, ha, alc⟩ := rc
      refine ⟨rfl, _, rfl, a, rfl, ⟨cs, SqT.of (same_new nD _ _ ha)⟩, ?_⟩
      refine it_w (n := cs.length) walk_tup (fun j H4 => ∃ kvs, H4 = upd H1 D (.dT kvs) ∧ Ct g H4 kvs (fun z => z ∈ (C.take i).flatten ∨ z ∈ c.take j)) ⟨kvs, rfl, ct.1.imp fun z => by simp, ct.2⟩ ?_ ?_ ?_
      · rintro j H4 _ ⟨kvs, rfl, _⟩
        exact SqT.of (same_new nD _ _ ha)
      · rintro j y H4 H5 hj ⟨kvs, rfl, ct⟩ ⟨rfl, hy⟩
        obtain ⟨z, hz, rz⟩ := alc.get hy
        obtain ⟨b, rfl, hb⟩ := sd_tup rz
        have mz : z ∈ c := List.mem_of_getElem? hz
        refine ⟨rfl, _, rfl, _, rfl, kvs, ky z, b, rfl, same_new nD _ _ hb, upd_same, ct.1.1.lt, _, upd_upd, ?_⟩
        have rc : rCo (upd H1 D (.dT kvs)) (.ref a) c := moCo.mo (ts_new nD) ⟨a, cs, rfl, ha, alc⟩
        have ct2 := (ct.put (va_gr ok (co.val z mz)) co mz rc).mo (ts_put (o := .dT (putK kvs (ky z) (.ref a))) upd_same (fun _ e => HO.noConfusion e))
        refine ⟨ct2.1.imp fun y => ?_, ct2.2⟩
        rw [take_one hz, List.mem_append, List.mem_singleton]
        exact ⟨fun h => h.elim (fun h => .inr (.inr h)) fun h => h.elim .inl fun h => .inr (.inl h), fun h => h.elim (fun h => .inr (.inl h)) fun h => h.elim (fun h => .inr (.inr h)) .inl⟩
      · rintro H4 ⟨kvs, rfl, ct⟩
        refine ⟨kvs, rfl, ct.1.imp fun y => ?_, ct.2⟩
        rw [alc.length, List.take_length, take_one hc, List.flatten_append, List.mem_append]
        simp
    · rintro H2 ⟨kvs, rfl, ct⟩
      refine q _ D (s1.trans (same_new nD)) (s1.free nD) ⟨kvs, upd_same, ct.1.imp fun y => ?_, ct.2⟩
      rw [al.length, List.take_length]
      exact cov.all y

/-! ### following -/
abbrev sFol : Stmt := topS 12
theorem scFol : FnScope ["sizes", "table", "side"] ["sizes", "table", "side"] (defScope sFol) := ⟨rfl, rfl, rfl, by decide +kernel, rfl, by decide +kernel, by decide +kernel⟩
def spFol : Sp := fun vs H Q _ => ∃ v d u g x, vs = [v, .ref d, u] ∧ rSz H v g.1 ∧ ctab g H d ∧ rSd H u x ∧ Ok g ∧ Rim g x ∧ ∀ H' r y, Same H H' → rSd H' r y → Fo g x y → Q r H'
theorem ok_fol {f : Addr} {fd : FuncData} (F : Fun K "following" "following" sFol f fd) : FnOk P w K mg base CX0 1 f fd ["sizes", "table", "side"] spFol := by
  refine F.ok scFol (fun vs H Q E h => ?_) (fun cdv A outer s H vs Q E hr h => ?_)
  · obtain ⟨v, d, u, g, x, rfl, _⟩ := h
    rfl
  · obtain ⟨v, d, u, g, x, rfl, hv, ⟨kvs, hd, ct⟩, hx, ok, rx, q⟩ := h
    have hu := hu_of hr
    refine ⟨_, pss_one (ps_ret (pe_ix ix_tup (pe_dget hu (pv 1) (pe_tup (pa_cons (pe_ix ix_tup (pv 2) pe_int (fun _ _ => rfl)) (pa_cons (pe_op op_mod (pe_op op_add (pe_ix ix_tup (pv 2) pe_int (fun _ _ => rfl)) pe_int)
          (pe_ix ix_tup (pv 0) (pe_ix ix_tup (pv 2) pe_int (fun _ _ => rfl)) (fun _ _ => rfl))) pa_nil))) (fun _ _ => rfl)) (pe_un un_neg pe_int) (fun _ _ => rfl))), ?_⟩
    obtain ⟨b, rfl, hb⟩ := sd_is hx
    obtain ⟨c, rfl, hc⟩ := sz_is hv
    have va := rx.va
    have s3 := (ok.sz va.1).1
    refine ⟨_, rfl, _, rfl, b, _, 0, _, rfl, rfl, SqT.of hb, at_nat (n := 0) rfl, _, rfl, b, _, 1, _, rfl, rfl, SqT.of hb, at_nat (n := 1) rfl, _, _, rfl, rfl, ?_⟩
    refine ⟨_, rfl, _, rfl, b, _, 0, _, rfl, rfl, SqT.of hb, at_nat (n := 0) rfl, c, _, _, _, rfl, rfl, SqT.of hc, at_nat (sz_at va.1), _, _, rfl, rfl, ?_, ?_⟩
    · show (0 : Int) < (sz g x.1 : Int)
      omega
    · refine ⟨by show 2 ≤ sizeLine; decide, fun p np => ?_⟩
      have hp : (upd H p (.tup [V.int (x.1 : Int), V.int (((x.2 : Int) + 1) % (sz g x.1 : Int))])) p = some (.tup ((ky (nx g x)).map kV)) := by
        rw [upd_same, mod_cast_]
        rfl
      have sp := same_new (o := .tup [V.int (x.1 : Int), V.int (((x.2 : Int) + 1) % (sz g x.1 : Int))]) np
      obtain ⟨v, cc, e, co, mc, a, us, rfl, ha, al⟩ := ctab_at (ct.mo (Same.ts sp)) (nx_va va)
      obtain ⟨_, z, _, hz, _⟩ := co.fin
      obtain ⟨r, hr', rz⟩ := al_last al hz
      refine ⟨d, .ref a, rfl, ?_, 1, rfl, a, us, -1, r, rfl, rfl, SqT.of ha, hr', ?_⟩
      · rw [← e]
        exact DGet.t (sp _ _ hd) hp
      · exact q _ r z sp rz ⟨va, cc, co, co.first mc (ok.start rx), hz⟩

/-! ### round_from -/
abbrev sRnd : Stmt := topS 13
theorem scRnd : FnScope ["sizes", "table", "side", "found", "here"] ["sizes", "table", "side"] (defScope sRnd) := ⟨rfl, rfl, rfl, by decide +kernel, rfl, by decide +kernel, by decide +kernel⟩
def spRnd : Sp := fun vs H Q _ => ∃ v d u g x, vs = [v, .ref d, u] ∧ rSz H v g.1 ∧ ctab g H d ∧ rSd H u x ∧ Ok g ∧ Rim g x ∧ ∀ H' r c, Same H H' → rCo H' r c → IsRim g c → c.head? = some x → Q r H'
/-- rim sides one behind another -/
structure Rw (g : Gl) (x : WM.Sd) (c : List WM.Sd) : Prop where
  hd : c.head? = some x
  nd : c.Nodup
  va : ∀ y ∈ c, Rim g y
  ch : Ch (Fo g) c
theorem Rw.more {g : Gl} (ok : Ok g) {x z y : WM.Sd} {c : List WM.Sd} (k : Rw g x c) (hz : c.getLast? = some z) (h : Fo g z y) (ne : y ≠ x) : Rw g x (c ++ [y]) := by
  have vz := k.va z (List.mem_of_getLast? hz)
  have vy := ok.fo_end vz h
  have nin : y ∉ c := by
    intro hy
    obtain ⟨p, q, e⟩ := List.append_of_mem hy
    rcases List.eq_nil_or_concat p with e2 | ⟨p', u, e2⟩
    · subst e2
      have h1 := k.hd
      rw [e] at h1
      exact ne (Option.some.inj h1)
    · rw [List.concat_eq_append] at e2
      subst e2
      have e3 : p' ++ [u] ++ y :: q = p' ++ u :: y :: q := by simp
      have ch := k.ch
      rw [e, e3] at ch
      have hu : u ∈ c := by rw [e]; simp
      have eu := ok.biF.inj (k.va u hu) vz ch.mid h
      subst eu
      rw [e, e3] at hz
      have nd := k.nd
      rw [e, e3] at nd
      have : u ∈ y :: q := by
        rw [List.getLast?_append] at hz
        have hz2 : (u :: y :: q).getLast? = some u := by simpa using hz
        rw [List.getLast?_cons_cons] at hz2
        exact List.mem_of_getLast? hz2
      exact (List.nodup_cons.mp (List.nodup_append.mp nd).2.1).1 this
  refine ⟨head_app k.hd, nd_snoc k.nd nin, fun a ha => ?_, ?_⟩
  · rcases List.mem_append.mp ha with q | q
    · exact k.va a q
    · rw [List.mem_singleton] at q
      exact q ▸ vy
  · refine k.ch.join trivial fun a b h1 h2 => ?_
    rw [hz] at h1
    cases h1
    have : y = b := by simpa using h2
    exact this ▸ h
theorem Rw.rim {g : Gl} {x z : WM.Sd} {c : List WM.Sd} (k : Rw g x c) (hz : c.getLast? = some z) (h : Fo g z x) : IsRim g c := ⟨⟨k.nd, k.va, k.ch, x, z, k.hd, hz, .inr h⟩, x, z, k.hd, hz, h⟩
theorem ok_rnd {f : Addr} {fd : FuncData} (F : Fun K "round_from" "round_from" sRnd f fd) (B : Bl mg) (cF : Cal P w K mg base "following" 1 ["sizes", "table", "side"] spFol) : FnOk P w K mg base CX0 2 f fd ["sizes", "table", "side"] spRnd := by
  obtain ⟨fO, dO, GO, gO, kO, bO⟩ := cF
  refine F.ok scRnd (fun vs H Q E h => ?_) (fun cdv A outer s H vs Q E hr h => ?_)
  · obtain ⟨v, d, u, g, x, rfl, _⟩ := h
    rfl
  · obtain ⟨v, d, u, g, x, rfl, hv, td, hx, ok, rx, q⟩ := h
    have hu := hr.units
    refine ⟨_, pss_cons (ps_par (i := 3) (j := 4) (by rfl) scRnd.nd rfl rfl (by decide) rfl rfl (pa_cons (pe_lst (pa_cons (pv 2) pa_nil)) (pa_cons (pe_call GO hr (by rfl) gO kO bO .nil pass0 (pa_cons (pv 0) (pa_cons (pv 1) (pa_cons (pv 2) pa_nil)))) pa_nil)) (by rfl))
      (pss_cons (ps_while PassesOwn.never (pt_cmpR (op_neE enSd (by decide) hu) (pv 4) (pv 2) (nomark _))
        (pss_cons (ps_expr (pe_bm PySem.F.plainAttrs_list PySem.F.slot_list_append PySem.F.type_list_append mt_append (pv 3) (pa_cons (pv 4) pa_nil)))
          (pss_one (ps_set (i := 4) scRnd.nd rfl (.inl rfl) (pe_call GO hr (by rfl) gO kO bO .nil pass0 (pa_cons (pv 0) (pa_cons (pv 1) (pa_cons (pv 4) pa_nil))))))))
      (pss_one (ps_ret (pe_callTy call_tuple_of (by rfl) B.tup (by decide +kernel) (pa_cons (pv 3) pa_nil))))), ?_⟩
    refine ⟨_, rfl, by show 1 ≤ sizeLine; decide, fun p np => ?_⟩
    have s1 := same_new (o := .lst [u]) np
    refine ⟨_, rfl, _, rfl, _, rfl, v, d, u, g, x, rfl, moSz.mo (Same.ts s1) hv, ctab_mo s1 td, moSd.mo (Same.ts s1) hx, ok, rx, fun H1 r y s2 hry hfo => ⟨.ref p, r, rfl, ?_⟩⟩
    refine ⟨fun m σ H2 => ∃ c z y r, σ = [some v, some (.ref d), some u, some (.ref p), some r] ∧ Same H H2 ∧ rL rSd H2 p c ∧ Rw g x c ∧ c.getLast? = some z ∧ Fo g z y ∧ rSd H2 r y ∧ m + c.length = 65,
      ⟨64, [x], x, y, r, rfl, s1.trans s2, ⟨[u], s2 _ _ upd_same, .cons (moSd.mo (Same.ts (s1.trans s2)) hx) .nil⟩, ⟨rfl, by simp, fun y hy => by rw [List.mem_singleton] at hy; exact hy ▸ rx, trivial⟩, rfl, hfo, hry, rfl⟩, ?_⟩
    rintro m σ H2 ⟨c, z, y, r, rfl, sm, ⟨us, hp, al⟩, wk, hz, hfo, hry, hm⟩
    refine ⟨_, rfl, _, rfl, y, x, hry, moSd.mo (Same.ts sm) hx, _, rfl, ?_⟩
    by_cases e : y = x
    · rw [decide_eq_true e]
      refine iteF ⟨_, rfl, p, us, rfl, .inl ⟨SqL.of hp, fun l nl => ?_⟩⟩
      rw [e] at hfo
      exact q _ _ c (sm.trans (same_new nl)) ⟨l, us, rfl, upd_same, moSd.al (ts_new nl) al⟩ (wk.rim hz hfo) wk.hd
    · rw [decide_eq_false e]
      have wk' := wk.more ok hz hfo e
      have fw := va_few ok wk'.nd (fun y hy => (wk'.va y hy).va)
      rw [List.length_append, List.length_singleton] at fw
      refine iteT ⟨fun σ' H' => ∃ m', m' < m ∧ ∃ c z y r, σ' = [some v, some (.ref d), some u, some (.ref p), some r] ∧ Same H H' ∧ rL rSd H' p c ∧ Rw g x c ∧ c.getLast? = some z ∧ Fo g z y ∧ rSd H' r y ∧ m' + c.length = 65, fun σ' H' h => h, ?_⟩
      have hl := al.length
      refine ⟨_, rfl, .inl ⟨rfl, _, SqL.of hp⟩, _, rfl, p, us, r, rfl, rfl, hp, Nat.lt_of_le_of_lt (by omega : us.length ≤ 64) (by decide), ?_⟩
      have t3 := ts_put (o := .lst (us ++ [r])) hp (fun _ e => HO.noConfusion e)
      have s3 : Same H (upd H2 p (.lst (us ++ [r]))) := fun b o e => by
        rw [upd_ne (ne_of_none e np)]
        exact sm _ _ e
      refine ⟨_, rfl, _, rfl, _, rfl, v, d, r, g, y, rfl, moSz.mo (Same.ts s3) hv, ctab_mo s3 td, moSd.mo t3 hry, ok, wk'.va y (by simp), fun H4 r' y' s4 hry' hfo' => ?_⟩
      exact ⟨m - 1, by omega, c ++ [y], y, y', r', rfl, s3.trans s4, ⟨_, s4 _ _ upd_same, (moSd.al (t3.trans (Same.ts s4)) al).snoc (moSd.mo (t3.trans (Same.ts s4)) hry)⟩, wk', by simp, hfo', hry', by rw [List.length_append, List.length_singleton]; omega⟩

/-! ### rim_of -/
abbrev sRof : Stmt := topS 14
theorem scRof : FnScope ["gluing", "side"] ["gluing", "side"] (defScope sRof) := ⟨rfl, rfl, rfl, by decide +kernel, rfl, by decide +kernel, by decide +kernel⟩
def spRof : Sp := fun vs H Q _ => ∃ v u g x, vs = [v, u] ∧ rG H v g ∧ rSd H u x ∧ Ok g ∧ Rim g x ∧ ∀ H' r c, Same H H' → rCo H' r c → IsRim g c → c.head? = some x → Q r H'
theorem ok_rof {f : Addr} {fd : FuncData} (F : Fun K "rim_of" "rim_of" sRof f fd) (cR : Cal P w K mg base "round_from" 2 ["sizes", "table", "side"] spRnd) (cT : Cal P w K mg base "corner_table" 5 ["gluing"] spCtb) : FnOk P w K mg base CX0 6 f fd ["gluing", "side"] spRof := by
  obtain ⟨fR, dR, GR, gR, kR, bR⟩ := cR
  obtain ⟨fT, dT, GT, gT, kT, bT⟩ := cT
  refine F.ok scRof (fun vs H Q E h => ?_) (fun cdv A outer s H vs Q E hr h => ?_)
  · obtain ⟨v, u, g, x, rfl, _⟩ := h
    rfl
  · obtain ⟨v, u, g, x, rfl, hg, hx, ok, rx, q⟩ := h
    refine ⟨_, pss_one (ps_ret (pe_call GR (hr.mono (by decide)) (by rfl) gR kR bR .nil pass0 (pa_cons (pe_ix ix_tup (pv 0) pe_int (fun _ _ => rfl))
      (pa_cons (pe_call GT hr (by rfl) gT kT bT .nil pass0 (pa_cons (pv 0) pa_nil)) (pa_cons (pv 1) pa_nil))))), ?_⟩
    have hg0 := hg
    obtain ⟨a, p1, p2, rfl, ha, h1, h2⟩ := hg
    refine ⟨_, rfl, a, _, 0, _, rfl, rfl, SqT.of ha, at_nat (n := 0) rfl, _, rfl, _, g, rfl, hg0, ok, fun H1 d s1 nd td => ⟨_, rfl, ?_⟩⟩
    exact ⟨_, d, _, g, x, rfl, moSz.mo (Same.ts s1) h1, td, moSd.mo (Same.ts s1) hx, ok, rx, fun H2 r c s2 hc ir hd => q H2 r c (s1.trans s2) hc ir hd⟩
end
end WP
set_option Elab.async false
set_option linter.all false
set_option maxRecDepth 100000
/-! rules with the frag told apart (for the blocks of comprehensions) -/
namespace WP
open PySem L2 WR WM
section
variable {X : Cx} {K : PySem.W.Frag}
theorem len_seqK (e : X.K = K) : CallR X (.builtin "len") (fun xs H Q => ∃ p ys, xs = [.ref p] ∧ (SqL K H p ys ∨ SqT K H p ys) ∧ Q (.int ys.length) H) := e ▸ call_len_seq
theorem ix_tupK (e : X.K = K) : IxR X (rIxT K) := e ▸ ix_tup
theorem ix_listK (e : X.K = K) : IxR X (rIxL K) := e ▸ ix_list
theorem sl_tupAK (e : X.K = K) : SlR X (rSlA K) := e ▸ sl_tupA
theorem op_catAK (e : X.K = K) : OpR X (binaryOp .Add) (rCatA K) := e ▸ op_catA
theorem call_tuple_ofK (e : X.K = K) : CallR X (.type "tuple") (fun xs H Q => ∃ p ys, xs = [V.ref p] ∧ ((SqL K H p ys ∧ ∀ (l : Addr), H l = none → Q (V.ref l) (upd H l (HO.tup ys))) ∨ SqT K H p ys ∧ Q (V.ref p) H)) := e ▸ call_tuple_of
theorem pi_tupK (e : X.K = K) {tg l : Expr} {tl : TE} (h : PE X l tl) : PI X tg l (iTup K tl) := e ▸ pi_tup h
theorem pi_listK (e : X.K = K) {tg l : Expr} {tl : TE} (h : PE X l tl) : PI X tg l (iList K tl) := e ▸ pi_list h
theorem pg_tupK (e : X.K = K) {pos : Pos} {es : List Expr} {k : Nat} {t : TGs} {n : Nat} (hc : X.calm = true) (h : PGs X es t) (h1 : (assignEach es X.env).length = n := by rfl) (h2 : List.findIdx? (fun x => x.fst) (assignEach es X.env) = none := by rfl) : PG X (Expr.Tuple es k pos) (gTup K n t) := e ▸ pg_tup hc h h1 h2
end
end WP
set_option Elab.async false
set_option linter.all false
set_option maxRecDepth 100000
/-! rims, letters_along, rim_word -/
namespace WP
open PySem L2 WR WM
/-- all rims -/
structure Rs (g : Gl) (R : List (List WM.Sd)) : Prop where
  rim : ∀ r ∈ R, IsRim g r
  nd : R.flatten.Nodup
  all : ∀ x, x ∈ R.flatten ↔ Rim g x
theorem Rs.one {g : Gl} (ok : Ok g) {R : List (List WM.Sd)} (h : Rs g R) : R.length = 1 ↔ OneRim g := by
  constructor
  · intro e
    match R, e with
    | [r], _ => exact ⟨r, h.rim r (by simp), fun x hx => by simpa using (h.all x).mpr hx⟩
  · rintro ⟨q, hq, all⟩
    obtain ⟨x, hx⟩ := List.exists_mem_of_ne_nil q hq.orb.ne
    have hxR := (h.all x).mpr (hq.orb.val x hx)
    match R, h, hxR with
    | [], _, hxR => simp at hxR
    | [r], _, _ => rfl
    | r1 :: r2 :: R, h, _ =>
      have i1 := h.rim r1 (by simp)
      have i2 := h.rim r2 (by simp)
      obtain ⟨a, ha⟩ := List.exists_mem_of_ne_nil r1 i1.orb.ne
      obtain ⟨b, hb⟩ := List.exists_mem_of_ne_nil r2 i2.orb.ne
      have hbq := all b (i2.orb.val b hb)
      have hb1 := (i1.orb.same ok.biF hq.orb ha (all a (i1.orb.val a ha)) b).mpr hbq
      have nd := h.nd
      rw [List.flatten_cons, List.flatten_cons] at nd
      exact absurd rfl ((List.nodup_append.mp nd).2.2 b hb1 b (List.mem_append_left _ hb))
theorem tbl_has {g : Gl} {H : Hp} {kvs : List (List Key × V)} (t : Tb rSd H kvs (Mt g)) {x : WM.Sd} (va : Va g x) : (valV kvs (ky x)).isSome = false ↔ Rim g x := by
  have h := t.has x
  constructor
  · intro e
    refine ⟨va, fun y hy => ?_⟩
    rw [h.mpr ⟨y, hy⟩] at e
    cases e
  · intro r
    cases q : (valV kvs (ky x)).isSome with
    | false => rfl
    | true =>
      obtain ⟨y, hy⟩ := h.mp q
      exact absurd hy (r.no y)
section
variable {P : Program} {w : World} {K : PySem.W.Frag} {mg : Str → Option Value} {base : Heap}
/-! ### rims -/
abbrev sRms : Stmt := topS 15
theorem scRms : FnScope ["gluing", "table", "ties", "seen", "found", "side", "rim", "one"] ["gluing"] (defScope sRms) := ⟨rfl, rfl, rfl, by decide +kernel, rfl, by decide +kernel, by decide +kernel⟩
def spRms : Sp := fun vs H Q _ => ∃ v g, vs = [v] ∧ rG H v g ∧ Ok g ∧ ∀ H' p R, Same H H' → H p = none → rL rCo H' p R → Rs g R → Q (.ref p) H'
theorem ok_rms {f : Addr} {fd : FuncData} (F : Fun K "rims" "rims" sRms f fd) (cT : Cal P w K mg base "corner_table" 5 ["gluing"] spCtb) (cM : Cal P w K mg base "mates" 1 ["gluing"] spMates) (cS : Cal P w K mg base "shares" 1 ["gluing"] spShr)
    (cR : Cal P w K mg base "round_from" 2 ["sizes", "table", "side"] spRnd) : FnOk P w K mg base CX0 6 f fd ["gluing"] spRms := by
  obtain ⟨fT, dT, GT, gT, kT, bT⟩ := cT
  obtain ⟨fM, dM, GM, gM, kM, bM⟩ := cM
  obtain ⟨fS, dS, GS, gS, kS, bS⟩ := cS
  obtain ⟨fC, dC, GC, gC, kC, bC⟩ := cR
  refine F.ok scRms (fun vs H Q E h => ?_) (fun cdv A outer s H vs Q E hr h => ?_)
  · obtain ⟨v, g, rfl, _⟩ := h
    rfl
  · obtain ⟨v, g, rfl, hg, ok, q⟩ := h
    have hu := hu_of hr
    refine ⟨_, pss_cons (ps_asg (pe_tup (pa_cons (pe_call GT hr (by rfl) gT kT bT .nil pass0 (pa_cons (pv 0) pa_nil)) (pa_cons (pe_call GM (hr.mono (by decide)) (by rfl) gM kM bM .nil pass0 (pa_cons (pv 0) pa_nil)) (pa_cons pe_dnewT (pa_cons (pe_lst pa_nil) pa_nil)))))
        (pg_tup (by rfl) (pgs_cons (pg_name (i := 1) scRms.nd rfl (.inl rfl)) (pgs_cons (pg_name (i := 2) scRms.nd rfl (.inl rfl)) (pgs_cons (pg_name (i := 3) scRms.nd rfl (.inl rfl)) (pgs_cons (pg_name (i := 4) scRms.nd rfl (.inl rfl)) pgs_nil))))))
      (pss_cons (ps_for PassesOwn.never rfl (pi_list (pe_call GS (hr.mono (by decide)) (by rfl) gS kS bS .nil pass0 (pa_cons (pv 0) pa_nil))) (pg_name (i := 5) scRms.nd rfl (Or.inl rfl))
        (pss_one (ps_if (PW.pt (pw_and (pt_cmp (pc_dnotin hu (pv 5) (pv 2))) (pw_and1 (pt_cmp (pc_dnotin hu (pv 5) (pv 3))))))
          (pss_cons (ps_set (i := 6) scRms.nd rfl (.inl rfl) (pe_call GC (hr.mono (by decide)) (by rfl) gC kC bC .nil pass0 (pa_cons (pe_ix ix_tup (pv 0) pe_int (fun _ _ => rfl)) (pa_cons (pv 1) (pa_cons (pv 5) pa_nil)))))
          (pss_cons (ps_expr (pe_bm PySem.F.plainAttrs_dict PySem.F.slot_dict_update PySem.F.type_dict_update (mt_updT hu) (pv 3) (pa_cons
            (pe_dT (own := [("one", 7)]) (g := gName 7) (tt := tYes) hr.units0 rfl scRms.nd (pi_tup (pv 6)) (blkOk_by (N := ["gluing", "table", "ties", "seen", "found", "side", "rim", "one"]) (sc := defScope sRms) (by decide +kernel))
              (fun _ _ _ _ _ => pg_name (i := 7) scRms.nd rfl (Or.inl rfl)) (fun _ _ _ _ _ => pts_nil) (fun _ _ _ _ _ => pv 7) (fun _ _ _ _ _ => pe_bl)) pa_nil)))
          (pss_one (ps_expr (pe_bm PySem.F.plainAttrs_list PySem.F.slot_list_append PySem.F.type_list_append mt_append (pv 4) (pa_cons (pv 6) pa_nil)))))) pss_nil)))
      (pss_one (ps_ret (pv 4)))), ?_⟩
    refine ⟨v, rfl, v, g, rfl, hg, ok, fun H0 dt s0 nt ct => ⟨v, rfl, v, g, rfl, moG.mo (Same.ts s0) hg, ok, fun H1 d s1 nd td d2 n2 => ⟨Nat.zero_le _, fun p np => ⟨by show 4 ≤ sizeLine; decide, fun tp nt2 => ?_⟩⟩⟩⟩
    have s2 := same_new (o := .dT []) n2
    have s3 := same_new (o := .lst []) np
    have s4 := same_new (o := .tup [.ref dt, .ref d, .ref d2, .ref p]) nt2
    have sA : Same H1 _ := s2.trans (s3.trans s4)
    have sAll : Same H _ := s0.trans (s1.trans sA)
    refine ⟨tp, _, rfl, SqT.of upd_same, rfl, _, _, rfl, _, _, rfl, _, _, rfl, _, _, rfl, rfl, ?_⟩
    refine ⟨v, rfl, v, g, rfl, moG.mo (Same.ts sAll) hg, ok, fun H4 a s5 na ha => ?_⟩
    have nd2 : H d2 = none := (s0.trans s1).free n2
    have np0 : H p = none := ((s0.trans s1).trans s2).free np
    have nap : a ≠ p := (ne_of_none (s4 _ _ upd_same) na).symm
    have nad2 : a ≠ d2 := (ne_of_none ((s3.trans s4) _ _ upd_same) na).symm
    have npd2 : p ≠ d2 := (ne_of_none upd_same np).symm
    obtain ⟨ck, hck, _⟩ := ctab_mo s1 ct
    have ndt : dt ≠ d2 ∧ dt ≠ p := ⟨ne_of_none hck n2, ne_of_none (s2 _ _ hck) np⟩
    obtain ⟨mk, hmk, _⟩ := id td
    have nd1 : d ≠ d2 ∧ d ≠ p := ⟨ne_of_none hmk n2, ne_of_none (s2 _ _ hmk) np⟩
    obtain ⟨us, ha, al⟩ := ha
    refine ⟨a, rfl, ⟨_, SqL.of ha⟩, for_list (xs := us) (fun i σ H5 => ∃ o4 o5 C kvs ws, σ = [some v, some (.ref dt), some (.ref d), some (.ref d2), some (.ref p), o4, o5, none] ∧ Same H H5 ∧ ctab g H5 dt ∧ tbl rSd H5 d (Mt g) ∧ H5 a = some (.lst us) ∧ Al (rSd H5) us (allS g) ∧
      H5 d2 = some (.dT kvs) ∧ Ks kvs (fun z => z ∈ C.flatten) ∧ H5 p = some (.lst ws) ∧ Al (rCo H5) ws C ∧ (∀ c ∈ C, IsRim g c) ∧ C.flatten.Nodup ∧ ∀ x ∈ (allS g).take i, Rim g x → x ∈ C.flatten)
      ⟨none, none, [], [], [], rfl, sAll.trans s5, ctab_mo (s1.trans (sA.trans s5)) ct, tbl_mo moSd (sA.trans s5) td, ha, al, s5 _ _ ((s3.trans s4) _ _ upd_same), Ks.nil.imp fun x => by simp, s5 _ _ (s4 _ _ upd_same), .nil, fun c hc => (by cases hc), List.nodup_nil, fun x hx => (by simp at hx)⟩ ?_ ?_ ?_⟩
    · rintro i σ H5 _ ⟨o4, o5, C, kvs, ws, rfl, sm, tc, tt, h1, _⟩
      exact SqL.of h1
    · rintro i x σ H5 hx ⟨o4, o5, C, kvs, ws, rfl, sm, tc, tt, h1, al5, h2, ks, h3, alC, hC, ndC, cov⟩
      obtain ⟨y, hy, ry⟩ := al5.get hx
      have vy : Va g y := mem_allS.mp (List.mem_of_getElem? hy)
      obtain ⟨b, rfl, hb⟩ := sd_tup ry
      obtain ⟨tk, ht1, ht2⟩ := tt
      have skip : ∀ z ∈ (allS g).take (i + 1), Rim g z → (Rim g y → y ∈ C.flatten) → z ∈ C.flatten := fun z hz rz k => by
        rw [take_one hy] at hz
        rcases List.mem_append.mp hz with q | q
        · exact cov z q rz
        · rw [List.mem_singleton] at q
          subst q
          exact k rz
      refine ⟨_, rfl, _, rfl, d, _, rfl, DGet.t ht1 hb, _, rfl, ?_⟩
      by_cases hrim : Rim g y
      · rw [(tbl_has ht2 vy).mpr hrim]
        refine iteT ⟨_, rfl, _, rfl, d2, _, rfl, DGet.t h2 hb, _, rfl, ?_⟩
        by_cases m : y ∈ C.flatten
        · rw [(ks.some y).mpr m]
          refine iteF ⟨_, o5, C, kvs, ws, rfl, sm, tc, ⟨tk, ht1, ht2⟩, h1, al5, h2, ks, h3, alC, hC, ndC, fun z hz rz => skip z hz rz fun _ => m⟩
        · have e : (valV kvs (ky y)).isSome = false := by
            cases q : (valV kvs (ky y)).isSome with
            | false => rfl
            | true => exact absurd ((ks.some y).mp q) m
          rw [e]
          refine iteT ?_
          have hg5 := moG.mo (Same.ts sm) hg
          obtain ⟨ga, p1, p2, rfl, hga, hs1, _⟩ := hg5
          refine ⟨_, rfl, ga, _, 0, _, rfl, rfl, SqT.of hga, at_nat (n := 0) rfl, _, rfl, _, rfl, _, dt, _, g, y, rfl, hs1, tc, ry, ok, hrim, fun H6 r c s6 hr6 co yc => ?_⟩
          have yc : y ∈ c := List.mem_of_mem_head? yc
          obtain ⟨ca, cs, rfl, hca, alc⟩ := hr6
          have cva : ∀ x ∈ c, Va g x := fun x hx => (co.orb.val x hx).va
          refine ⟨_, rfl, .inr (.inr (.inl ⟨rfl, .inr ⟨kvs, s6 _ _ h2⟩⟩)), ?_⟩
          refine set_comp ok (k := 6) (j := 7) rfl (by show 7 < 8; decide) hca alc cva fun D more nD km => ?_
          have sD := same_new (o := .dT more) nD
          have nd2D : d2 ≠ D := ne_of_none (s6 _ _ h2) nD
          refine ⟨d2, D, kvs, more, rfl, rfl, sD _ _ (s6 _ _ h2), upd_same, nd2D, ks.1, km.1, ?_⟩
          have tS := ts_put (o := .dT (mergeT kvs more)) (sD _ _ (s6 _ _ h2)) (fun _ e => HO.noConfusion e)
          have hl := alC.length
          have ndC' : (C ++ [c]).flatten.Nodup := by
            rw [List.flatten_append]
            refine List.nodup_append.mpr ⟨ndC, by simpa using co.orb.nd, fun u hu u' hu' e => ?_⟩
            subst e
            obtain ⟨d', hd', hud⟩ := List.mem_flatten.mp hu
            have huc : u ∈ c := by simpa using hu'
            exact m (List.mem_flatten.mpr ⟨d', hd', ((hC d' hd').orb.same ok.biF co.orb hud huc y).mpr yc⟩)
          have hC' : ∀ e ∈ C ++ [c], IsRim g e := fun e he => by
            rcases List.mem_append.mp he with q | q
            · exact hC e q
            · rw [List.mem_singleton] at q
              exact q ▸ co
          have few : (C ++ [c]).length ≤ 64 := Nat.le_trans (len_flat fun e he => (hC' e he).orb.ne) (va_few ok ndC' fun z hz => by
            obtain ⟨e, he, hze⟩ := List.mem_flatten.mp hz
            exact ((hC' e he).orb.val z hze).va)
          rw [List.length_append, List.length_singleton] at few
          have hp7 : (upd (upd H6 D (.dT more)) d2 (.dT (mergeT kvs more))) p = some (.lst ws) := by
            rw [upd_ne npd2]
            exact sD _ _ (s6 _ _ h3)
          refine ⟨_, rfl, .inl ⟨rfl, _, SqL.of hp7⟩, _, rfl, p, ws, _, rfl, rfl, hp7, Nat.lt_of_le_of_lt (by omega : ws.length ≤ 64) (by decide), ?_⟩
          have tP := ts_put (o := .lst (ws ++ [V.ref ca])) hp7 (fun _ e => HO.noConfusion e)
          have tAll : TS H5 (upd (upd (upd H6 D (.dT more)) d2 (.dT (mergeT kvs more))) p (.lst (ws ++ [V.ref ca]))) := (Same.ts s6).trans ((Same.ts sD).trans (tS.trans tP))
          have keep : ∀ c o, H5 c = some o → c ≠ d2 → c ≠ p → (upd (upd (upd H6 D (.dT more)) d2 (.dT (mergeT kvs more))) p (.lst (ws ++ [V.ref ca]))) c = some o := fun c o e n1 n2 => by
            rw [upd_ne n2, upd_ne n1]
            exact sD _ _ (s6 _ _ e)
          refine ⟨_, _, C ++ [c], mergeT kvs more, ws ++ [V.ref ca], rfl, fun b o e => keep b o (sm _ _ e) (ne_of_none e nd2) (ne_of_none e np0), ?_, ⟨tk, keep _ _ ht1 nd1.1 nd1.2, ht2.mo moSd tAll⟩, keep _ _ h1 nad2 nap, moSd.al tAll al5, ?_, ?_, upd_same, ?_, hC', ndC', fun z hz rz => ?_⟩
          · obtain ⟨tk', hc1, hc2⟩ := tc
            exact ⟨tk', keep _ _ hc1 ndt.1 ndt.2, hc2.mo tAll⟩
          · rw [upd_ne npd2.symm, upd_same]
          · refine (ks.merge km).imp fun z => ?_
            rw [List.flatten_append, List.mem_append]
            simp
          · refine ((moCo.al tAll alC).snoc ?_)
            exact ⟨ca, cs, rfl, (tS.trans tP) _ _ (sD _ _ hca), moSd.al ((Same.ts sD).trans (tS.trans tP)) alc⟩
          · rw [take_one hy] at hz
            rw [List.flatten_append, List.mem_append]
            rcases List.mem_append.mp hz with q | q
            · exact .inl (cov z q rz)
            · rw [List.mem_singleton] at q
              exact .inr (by simpa using q ▸ yc)
      · have e : (valV tk (ky y)).isSome = true := by
          cases q : (valV tk (ky y)).isSome with
          | true => rfl
          | false => exact absurd ((tbl_has ht2 vy).mp q) hrim
        rw [e]
        exact iteF (iteF ⟨_, o5, C, kvs, ws, rfl, sm, tc, ⟨tk, ht1, ht2⟩, h1, al5, h2, ks, h3, alC, hC, ndC, fun z hz rz => skip z hz rz fun h => absurd h hrim⟩)
    · rintro σ H5 ⟨o4, o5, C, kvs, ws, rfl, sm, tc, tt, h1, al5, h2, ks, h3, alC, hC, ndC, cov⟩
      refine ⟨_, rfl, q H5 p C sm np0 ⟨ws, h3, alC⟩ ⟨hC, ndC, fun x => ⟨fun hx => ?_, fun hx => ?_⟩⟩⟩
      · obtain ⟨c, hc, hxc⟩ := List.mem_flatten.mp hx
        exact (hC c hc).orb.val x hxc
      · refine cov x ?_ hx
        rw [al5.length, List.take_length]
        exact mem_allS.mpr hx.va

/-! ### letters_along -/
abbrev sLet : Stmt := topS 16
theorem scLet : FnScope ["table", "rim", "side"] ["table", "rim"] (defScope sLet) := ⟨rfl, rfl, rfl, by decide +kernel, rfl, by decide +kernel, by decide +kernel⟩
def spLet : Sp := fun vs H Q _ => ∃ d u g c, vs = [.ref d, u] ∧ ctab g H d ∧ rCo H u c ∧ Ok g ∧ c.Nodup ∧ (∀ x ∈ c, Va g x) ∧ ∀ H' r ws, Same H H' → rSz H' r ws → IsWord g c ws → Q r H'
theorem ok_let {f : Addr} {fd : FuncData} (F : Fun K "letters_along" "letters_along" sLet f fd) (B : Bl mg) : FnOk P w K mg base CX0 1 f fd ["table", "rim"] spLet := by
  refine F.ok scLet (fun vs H Q E h => ?_) (fun cdv A outer s H vs Q E hr h => ?_)
  · obtain ⟨d, u, g, c, rfl, _⟩ := h
    rfl
  · obtain ⟨d, u, g, c, rfl, ⟨kvs, hd, ct⟩, ⟨a, us, rfl, ha, al⟩, ok, nd, va, q⟩ := h
    have hu := hu_of hr
    have few := va_few ok nd va
    have hl := al.length
    refine ⟨_, pss_one (ps_ret (pe_callTy call_tuple_of (by rfl) B.tup (by decide +kernel) (pa_cons (pe_lc (own := [("side", 2)]) (g := gName 2) (tt := tYes) rfl scLet.nd (pi_tup (pv 1)) (blkOk_by (N := ["table", "rim", "side"]) (sc := defScope sLet) (by decide +kernel))
      (fun _ _ _ _ _ => pg_name (i := 2) scLet.nd rfl (Or.inl rfl)) (fun _ _ _ _ _ => pts_nil) (fun _ _ _ _ _ => pe_callB (len_seqK (K := K) rfl) (by rfl) B.len PySem.boot_len (pa_cons (pe_dget hu (pv 0) (pv 2) (fun _ _ => rfl)) pa_nil))) pa_nil))), ?_⟩
    refine ⟨_, rfl, a, rfl, ⟨us, SqT.of ha⟩, fun D nD => ?_⟩
    refine it_w (n := us.length) walk_tup (fun i H2 => ∃ ws : List Nat, H2 = upd H D (.lst (ws.map fun n : Nat => V.int (n : Int))) ∧ IsWord g (c.take i) ws) ⟨[], rfl, rfl, fun i x w e => by simp at e⟩ ?_ ?_ ?_
    · rintro i H2 _ ⟨ws, rfl, _⟩
      exact SqT.of (same_new nD _ _ ha)
    · rintro i x H2 H3 hi ⟨ws, rfl, hw⟩ ⟨rfl, hx⟩
      obtain ⟨y, hy, ry⟩ := al.get hx
      obtain ⟨b, rfl, hb⟩ := sd_tup ry
      have sD := same_new (o := .lst (ws.map fun n : Nat => V.int (n : Int))) nD
      obtain ⟨v, cc, e, co, mc, ra, rus, rfl, hra, ral⟩ := ctab_at (ct.mo (Same.ts sD)) (va y (List.mem_of_getElem? hy))
      refine ⟨rfl, _, rfl, _, rfl, d, _, rfl, ?_, ra, rus, rfl, .inr (SqT.of hra), ws.map fun n : Nat => V.int (n : Int), upd_same, ?_, ws ++ [cc.length], ?_, ?_⟩
      · rw [← e]
        exact DGet.t (sD _ _ hd) (sD _ _ hb)
      · rw [List.length_map, hw.1, List.length_take]
        exact Nat.lt_of_le_of_lt (by omega : min i c.length ≤ 64) (by decide)
      · rw [upd_upd, List.map_append, ral.length]
        rfl
      · rw [take_one hy]
        exact isWord_app hw (isWord_one ⟨cc, co, mc, rfl⟩)
    · rintro H2 ⟨ws, rfl, hw⟩
      rw [hl, List.take_length] at hw
      refine ⟨D, _, rfl, .inl ⟨SqL.of upd_same, fun l nl => ?_⟩⟩
      exact q _ _ ws ((same_new nD).trans (same_new nl)) ⟨l, _, rfl, upd_same, (Al.of_map (R := rN _) (fun n : Nat => V.int (n : Int)) (fun n => rfl) ws)⟩ hw

/-! ### rim_word -/
abbrev sRw : Stmt := topS 17
theorem scRw : FnScope ["gluing", "side", "table"] ["gluing", "side"] (defScope sRw) := ⟨rfl, rfl, rfl, by decide +kernel, rfl, by decide +kernel, by decide +kernel⟩
def spRw : Sp := fun vs H Q _ => ∃ v u g x, vs = [v, u] ∧ rG H v g ∧ rSd H u x ∧ Ok g ∧ Rim g x ∧ ∀ H' r c ws, Same H H' → rSz H' r ws → IsRim g c → c.head? = some x → IsWord g c ws → Q r H'
theorem ok_rw {f : Addr} {fd : FuncData} (F : Fun K "rim_word" "rim_word" sRw f fd) (cR : Cal P w K mg base "round_from" 2 ["sizes", "table", "side"] spRnd) (cT : Cal P w K mg base "corner_table" 5 ["gluing"] spCtb)
    (cL : Cal P w K mg base "letters_along" 1 ["table", "rim"] spLet) : FnOk P w K mg base CX0 6 f fd ["gluing", "side"] spRw := by
  obtain ⟨fR, dR, GR, gR, kR, bR⟩ := cR
  obtain ⟨fT, dT, GT, gT, kT, bT⟩ := cT
  obtain ⟨fL, dL, GL, gL, kL, bL⟩ := cL
  refine F.ok scRw (fun vs H Q E h => ?_) (fun cdv A outer s H vs Q E hr h => ?_)
  · obtain ⟨v, u, g, x, rfl, _⟩ := h
    rfl
  · obtain ⟨v, u, g, x, rfl, hg, hx, ok, rx, q⟩ := h
    refine ⟨_, pss_cons (ps_set (i := 2) scRw.nd rfl (.inl rfl) (pe_call GT hr (by rfl) gT kT bT .nil pass0 (pa_cons (pv 0) pa_nil)))
      (pss_one (ps_ret (pe_call GL (hr.mono (by decide)) (by rfl) gL kL bL .nil pass0 (pa_cons (pv 2) (pa_cons
        (pe_call GR (hr.mono (by decide)) (by rfl) gR kR bR .nil pass0 (pa_cons (pe_ix ix_tup (pv 0) pe_int (fun _ _ => rfl)) (pa_cons (pv 2) (pa_cons (pv 1) pa_nil)))) pa_nil))))), ?_⟩
    refine ⟨_, rfl, v, g, rfl, hg, ok, fun H1 d s1 nd td => ⟨_, rfl, ?_⟩⟩
    obtain ⟨a, p1, p2, rfl, ha, h1, h2⟩ := moG.mo (Same.ts s1) hg
    refine ⟨_, rfl, a, _, 0, _, rfl, rfl, SqT.of ha, at_nat (n := 0) rfl, _, rfl, _, rfl, _, d, _, g, x, rfl, h1, td, moSd.mo (Same.ts s1) hx, ok, rx, fun H2 r c s2 hc ir hd => ?_⟩
    exact ⟨d, r, g, c, rfl, ctab_mo s2 td, hc, ok, ir.orb.nd, fun y hy => (ir.orb.val y hy).va, fun H3 r3 ws s3 hw iw => q H3 r3 c ws (s1.trans (s2.trans s3)) hw ir hd iw⟩
end
end WP
set_option Elab.async false
set_option linter.all false
set_option maxRecDepth 100000
/-! list comprehensions that filter and map; lists of small numbers; sets of small numbers -/
namespace WP
open PySem L2 WR WM
/-- [e for x in xs if c], by what each turn gives -/
theorem lc_fmG {α : Type} {S : Rl α} {J : It} {n : Nat} {G : Hp → Prop} {Y : Nat → Hp → V → Hp → Prop} (w : Walk J n G Y) (f : Nat → Option α) {g : TG} {tt : TT} {te : TE} {vs : List Nat} {σ : L2.St} {H : Hp} {D : Addr} {Qd : Hp → Prop} (nD : H D = none) (hn : n ≤ 64)
    (hS : ∀ H1 H2 v a, (∃ us, H1 D = some (.lst us)) → (∀ b o, b ≠ D → H1 b = some o → H2 b = some o) → S H1 v a → S H2 v a) (hG : ∀ H', Same H H' → G H')
    (step : ∀ i x H2 H3 us (Z : VK) (Z0 : Hp → Prop), i < n → Same H H2 → H2 D = some (.lst us) → us.length ≤ 64 → Y i H2 x H3 → (∀ y H5 a, f i = some a → Same H2 H5 → S H5 y a → Z y H5) → (f i = none → ∀ H5, Same H2 H5 → Z0 H5) →
      g x (wipe σ vs) H3 fun σ2 H4 => wipe σ2 vs = wipe σ vs ∧ tt σ2 H4 fun b H6 => if b = true then te σ2 H6 Z else Z0 H6)
    (q : ∀ H', Same H H' → rL S H' D ((List.range n).filterMap f) → Qd H') :
    ∃ W : Nat → Nat → Hp → Prop, (∃ m, W 0 m (upd H D (.lst []))) ∧ ∀ i m H, W i m H →
      (J.stop i H ∧ Qd H) ∨ (J.go i H ∧ ∃ Nx : Hp → Prop, (∀ H', Nx H' → ∃ m', m' < m ∧ W (i + 1) m' H') ∧ ∀ x H', J.yld i H x H' → g x (wipe σ vs) H' fun σ2 H2 => wipe σ2 vs = wipe σ vs ∧ tt σ2 H2 fun b H3 =>
        if b = true then te σ2 H3 fun y H4 => ∃ acc, H4 D = some (.lst acc) ∧ acc.length < sizeLine ∧ Nx (upd H4 D (.lst (acc ++ [y]))) else Nx H3) := by
  refine it_w (n := n) w (fun i H2 => Same H H2 ∧ rL S H2 D ((List.range i).filterMap f)) ⟨same_new nD, [], upd_same, .nil⟩ (fun i H2 _ p => hG H2 p.1) ?_ ?_
  · rintro i x H2 H3 hi ⟨sm, us, hD, al⟩ y
    have hl := al.length
    have hle : ((List.range i).filterMap f).length ≤ i := by
      have := List.length_filterMap_le f (List.range i)
      rwa [List.length_range] at this
    have e : (List.range (i + 1)).filterMap f = (List.range i).filterMap f ++ (f i).toList := by
      rw [List.range_succ, List.filterMap_append]
      congr 1
    refine step i x H2 H3 us _ _ hi sm hD (by omega) y (fun v H5 a hf s5 r => ⟨us, s5 _ _ hD, Nat.lt_of_le_of_lt (by omega : us.length ≤ 64) (by decide), fun b o e => ?_, ?_⟩) fun hf H5 s5 => ⟨sm.trans s5, ?_⟩
    · rw [upd_ne (ne_of_none e nD)]
      exact s5 _ _ (sm _ _ e)
    · rw [e, hf]
      refine ⟨_, upd_same, (Al.imp (fun v a r => ?_) al).snoc ?_⟩
      · exact hS H2 _ v a ⟨us, hD⟩ (fun b o nb e => by rw [upd_ne nb]; exact s5 _ _ e) r
      · exact hS H5 _ v a ⟨us, s5 _ _ hD⟩ (fun b o nb e => by rw [upd_ne nb]; exact e) r
    · rw [e, hf]
      refine ⟨us, s5 _ _ hD, ?_⟩
      simp only [Option.toList, List.append_nil]
      exact Al.imp (fun v a r => hS H2 _ v a ⟨us, hD⟩ (fun b o _ e => s5 _ _ e) r) al
  · rintro H2 ⟨sm, r⟩
    exact q H2 sm r
theorem lc_fm {α : Type} {S : Rl α} (mS : Mo S) {J : It} {n : Nat} {G : Hp → Prop} {Y : Nat → Hp → V → Hp → Prop} (w : Walk J n G Y) (f : Nat → Option α) {g : TG} {tt : TT} {te : TE} {vs : List Nat} {σ : L2.St} {H : Hp} {D : Addr} {Qd : Hp → Prop} (nD : H D = none) (hn : n ≤ 64) (hG : ∀ H', Same H H' → G H')
    (step : ∀ i x H2 H3 us (Z : VK) (Z0 : Hp → Prop), i < n → Same H H2 → H2 D = some (.lst us) → us.length ≤ 64 → Y i H2 x H3 → (∀ y H5 a, f i = some a → Same H2 H5 → S H5 y a → Z y H5) → (f i = none → ∀ H5, Same H2 H5 → Z0 H5) →
      g x (wipe σ vs) H3 fun σ2 H4 => wipe σ2 vs = wipe σ vs ∧ tt σ2 H4 fun b H6 => if b = true then te σ2 H6 Z else Z0 H6)
    (q : ∀ H', Same H H' → rL S H' D ((List.range n).filterMap f) → Qd H') :
    ∃ W : Nat → Nat → Hp → Prop, (∃ m, W 0 m (upd H D (.lst []))) ∧ ∀ i m H, W i m H →
      (J.stop i H ∧ Qd H) ∨ (J.go i H ∧ ∃ Nx : Hp → Prop, (∀ H', Nx H' → ∃ m', m' < m ∧ W (i + 1) m' H') ∧ ∀ x H', J.yld i H x H' → g x (wipe σ vs) H' fun σ2 H2 => wipe σ2 vs = wipe σ vs ∧ tt σ2 H2 fun b H3 =>
        if b = true then te σ2 H3 fun y H4 => ∃ acc, H4 D = some (.lst acc) ∧ acc.length < sizeLine ∧ Nx (upd H4 D (.lst (acc ++ [y]))) else Nx H3) :=
  lc_fmG w f nD hn (fun H1 H2 v a ⟨us, hD⟩ k r => mS.mo (fun b xs e => by
    refine k b _ (fun eb => ?_) e
    rw [eb, hD] at e
    cases e) r) hG step q
/-- [e for x in xs]: each turn gives f i -/
theorem lc_map {α : Type} {S : Rl α} (mS : Mo S) {J : It} {n : Nat} {G : Hp → Prop} {Y : Nat → Hp → V → Hp → Prop} (w : Walk J n G Y) (f : Nat → α) {g : TG} {te : TE} {vs : List Nat} {σ : L2.St} {H : Hp} {D : Addr} {Qd : Hp → Prop} (nD : H D = none) (hn : n ≤ 64) (hG : ∀ H', Same H H' → G H')
    (step : ∀ i x H2 H3 us (Z : VK), i < n → Same H H2 → H2 D = some (.lst us) → us.length ≤ 64 → Y i H2 x H3 → (∀ y H5, Same H2 H5 → S H5 y (f i) → Z y H5) → g x (wipe σ vs) H3 fun σ2 H4 => wipe σ2 vs = wipe σ vs ∧ te σ2 H4 Z)
    (mg : ∀ x σ H (Z Z' : L2.St → Hp → Prop), (∀ σ H, Z σ H → Z' σ H) → g x σ H Z → g x σ H Z')
    (q : ∀ H', Same H H' → rL S H' D ((List.range n).map f) → Qd H') :
    ∃ W : Nat → Nat → Hp → Prop, (∃ m, W 0 m (upd H D (.lst []))) ∧ ∀ i m H, W i m H →
      (J.stop i H ∧ Qd H) ∨ (J.go i H ∧ ∃ Nx : Hp → Prop, (∀ H', Nx H' → ∃ m', m' < m ∧ W (i + 1) m' H') ∧ ∀ x H', J.yld i H x H' → g x (wipe σ vs) H' fun σ2 H2 => wipe σ2 vs = wipe σ vs ∧ tYes σ2 H2 fun b H3 =>
        if b = true then te σ2 H3 fun y H4 => ∃ acc, H4 D = some (.lst acc) ∧ acc.length < sizeLine ∧ Nx (upd H4 D (.lst (acc ++ [y]))) else Nx H3) :=
  lc_fm mS w (fun i => some (f i)) nD hn hG (fun i x H2 H3 us Z Z0 hi sm hD hu y z _ => mg _ _ _ _ _ (fun σ2 H4 ⟨e, k⟩ => ⟨e, k⟩) (step i x H2 H3 us Z hi sm hD hu y fun v H5 s5 r => z v H5 (f i) rfl s5 r)) fun H' sm r => q H' sm (by rwa [List.filterMap_eq_map'] at r)
theorem gName_mono (i : Nat) : ∀ x σ H (Z Z' : L2.St → Hp → Prop), (∀ σ H, Z σ H → Z' σ H) → gName i x σ H Z → gName i x σ H Z' := fun x σ H Z Z' h k => h _ _ k
theorem gPair_mono (K : PySem.W.Frag) (i j : Nat) : ∀ x σ H (Z Z' : L2.St → Hp → Prop), (∀ σ H, Z σ H → Z' σ H) → gTup K 2 (gCons (gName i) (gCons (gName j) gNil)) x σ H Z → gTup K 2 (gCons (gName i) (gCons (gName j) gNil)) x σ H Z' := by
  rintro x σ H Z Z' h ⟨a, xs, e, hx, l, v, vs, e1, v2, vs2, e2, k⟩
  exact ⟨a, xs, e, hx, l, v, vs, e1, v2, vs2, e2, k.1, h _ _ k.2⟩

/-- a list of small numbers as values -/
abbrev vI (l : List Nat) : List V := l.map fun n : Nat => V.int (n : Int)
theorem al_vI (H : Hp) (l : List Nat) : Al (rN H) (vI l) l := Al.of_map (R := rN H) (fun n : Nat => V.int (n : Int)) (fun n => rfl) l
theorem rL_vI {H : Hp} {p : Addr} {l : List Nat} (h : rL rN H p l) : H p = some (.lst (vI l)) := by
  obtain ⟨us, h1, al⟩ := h
  rw [al.eq_map (f := fun n : Nat => V.int (n : Int)) fun v x r => r] at h1
  exact h1
theorem rT_vI {H : Hp} {v : V} {l : List Nat} (h : rT rN H v l) : ∃ a, v = .ref a ∧ H a = some (.tup (vI l)) := sz_is h
theorem vI_at {l : List Nat} {i n : Nat} (h : l[i]? = some n) : (vI l)[i]? = some (.int (n : Int)) := by
  rw [List.getElem?_map, h]
  rfl
theorem vI_get {l : List Nat} {i : Nat} {v : V} (h : (vI l)[i]? = some v) : ∃ n, l[i]? = some n ∧ v = .int (n : Int) := by
  rw [List.getElem?_map] at h
  cases e : l[i]? with
  | none =>
    rw [e] at h
    cases h
  | some n =>
    rw [e] at h
    exact ⟨n, rfl, (Option.some.inj h).symm⟩
theorem nats_of {l : List Nat} {ns : List Int} (h : ns.Perm (l.map fun n : Nat => (n : Int))) : ∃ l' : List Nat, l'.Perm l ∧ ns = l'.map fun n : Nat => (n : Int) := by
  refine ⟨ns.map Int.toNat, ?_, ?_⟩
  · have := h.map Int.toNat
    rw [List.map_map] at this
    have e : (Int.toNat ∘ fun n : Nat => (n : Int)) = id := by
      funext n
      simp
    rwa [e, List.map_id] at this
  · rw [List.map_map]
    refine (List.map_id ns).symm.trans (List.map_congr_left fun x hx => ?_)
    obtain ⟨n, _, rfl⟩ := List.mem_map.mp (h.mem_iff.mp hx)
    simp
theorem vI_snoc (l : List Nat) (n : Nat) : vI (l ++ [n]) = vI l ++ [.int (n : Int)] := List.map_append
theorem vI_map (l : List Nat) : (l.map fun n : Nat => (n : Int)).map V.int = vI l := by rw [List.map_map]; rfl
section
variable {X : Cx} {K : PySem.W.Frag}
def rSortN (K : PySem.W.Frag) : List V → Hp → VK → Prop := fun vs H Q => ∃ (a : Addr) (l : List Nat), vs = [.ref a] ∧ SqL K H a (vI l) ∧ l.length < 64 ∧ ∀ (l' : List Nat) p, l'.Perm l → H p = none → Q (.ref p) (upd H p (.lst (vI l')))
theorem cr_sortN (e : X.K = K) : CallR X (.builtin "sorted") (rSortN K) := by
  subst e
  intro pins s σ H vs us Q I r h
  obtain ⟨a, l, rfl, hs, h64, q⟩ := h
  refine cr_sorted pins s σ H _ us Q I r ⟨a, l.map fun n : Nat => (n : Int), rfl, by rw [vI_map]; exact hs, by rw [List.length_map]; exact h64, fun ns p hp _ np => ?_⟩
  obtain ⟨l', h1, rfl⟩ := nats_of hp
  rw [vI_map]
  exact q l' p h1 np
def rSortDN : List V → Hp → VK → Prop := fun vs H Q => ∃ (a : Addr) (kvs : List (Key × V)) (ks : List Nat), vs = [.ref a] ∧ H a = some (.dK kvs) ∧ IsK kvs ks ∧ ks.length < 64 ∧ ∀ (l' : List Nat) p, l'.Perm ks → H p = none → Q (.ref p) (upd H p (.lst (vI l')))
theorem cr_sortDN (hc : X.calm = true) : CallR X (.builtin "sorted") rSortDN := by
  intro pins s σ H vs us Q I r h
  obtain ⟨a, kvs, ks, rfl, hs, hk, h64, q⟩ := h
  refine call_sortedDI hc pins s σ H _ us Q I r ⟨a, kvs, ks.map fun n : Nat => (n : Int), rfl, .inl hs, by rw [hk.1, List.map_map]; rfl, by rw [List.length_map]; exact h64, fun ns p hp _ np => ?_⟩
  obtain ⟨l', h1, rfl⟩ := nats_of hp
  rw [vI_map]
  exact q l' p h1 np
end
end WP
namespace WP
open PySem L2 WR WM
theorem al_split {α β : Type} {A : V → β → Prop} {B : α → β → Prop} : ∀ {us : List V} {xs : List α}, Al (fun v x => ∃ y, A v y ∧ B x y) us xs → ∃ ys : List β, Al A us ys ∧ ys.length = xs.length ∧ ∀ (i : Nat) (x : α), xs[i]? = some x → ∃ y, ys[i]? = some y ∧ B x y
  | _, _, .nil => ⟨[], .nil, rfl, fun i x e => by simp at e⟩
  | _, _, .cons (v := v) (x := x) ⟨y, a, b⟩ t => by
    obtain ⟨ys, h1, h2, h3⟩ := al_split t
    refine ⟨y :: ys, .cons a h1, by simp [h2], fun i x' e => ?_⟩
    cases i with
    | zero =>
      cases Option.some.inj e
      exact ⟨y, rfl, b⟩
    | succ i => exact h3 i x' e
theorem range_at {n i : Nat} (h : i < n) : (List.range n)[i]? = some i := by rw [List.getElem?_range h]
/-- what a name holds behind the wipe, set anew -/
theorem wipe_one {σ : L2.St} {j : Nat} (v : V) : wipe ((wipe σ [j]).set j (some v)) [j] = wipe σ [j] := by
  show (((σ.set j none).set j (some v)).set j none) = σ.set j none
  rw [List.set_set, List.set_set]
end WP
set_option Elab.async false
set_option linter.all false
set_option maxRecDepth 100000
/-! pieces: over_sides, neighbours -/
namespace WP
open PySem L2 WR WM
section
variable {P : Program} {w : World} {K : PySem.W.Frag} {mg : Str → Option Value} {base : Heap}
/-! ### over_sides -/
abbrev sOvr : Stmt := topS 19
theorem scOvr : FnScope ["gluing", "t", "ties", "found", "i", "side"] ["gluing", "t"] (defScope sOvr) := ⟨rfl, rfl, rfl, by decide +kernel, rfl, by decide +kernel, by decide +kernel⟩
/-- who lies over the sides of t -/
def Over (g : Gl) (t : Nat) (o : List (Option Nat)) : Prop := o.length = sz g t ∧ ∀ i, i < sz g t → (o[i]? = some none ∧ ∀ y, ¬ Mt g (t, i) y) ∨ ∃ y, Mt g (t, i) y ∧ o[i]? = some (some y.1)
def spOvr : Sp := fun vs H Q _ => ∃ v t g, vs = [v, .int (t : Nat)] ∧ rG H v g ∧ Ok g ∧ t < g.1.length ∧ ∀ H' r o, Same H H' → rT (rO rN) H' r o → Over g t o → Q r H'
theorem ok_ovr {f : Addr} {fd : FuncData} (F : Fun K "over_sides" "over_sides" sOvr f fd) (B : Bl mg) (cM : Cal P w K mg base "mates" 1 ["gluing"] spMates) : FnOk P w K mg base CX0 2 f fd ["gluing", "t"] spOvr := by
  obtain ⟨fM, dM, GM, gM, kM, bM⟩ := cM
  refine F.ok scOvr (fun vs H Q E h => ?_) (fun cdv A outer s H vs Q E hr h => ?_)
  · obtain ⟨v, t, g, rfl, _⟩ := h
    rfl
  · obtain ⟨v, t, g, rfl, hg, ok, ht, q⟩ := h
    have hu := hu_of hr
    refine ⟨_, pss_cons (ps_set (i := 2) scOvr.nd rfl (.inr rfl) (pe_call GM hr (by rfl) gM kM bM .nil pass0 (pa_cons (pv 0) pa_nil)))
      (pss_cons (ps_setLc (i := 3) (own := [("i", 4)]) (g := gName 4) (tt := tYes) rfl scOvr.nd rfl rfl (sw_true rfl rfl rfl (by decide +kernel))
          (pi_range1 (by rfl) B.ran (pa_cons (pe_ix ix_tup (pe_ix ix_tup (pv 0) pe_int (fun _ _ => rfl)) (pv 1) (fun _ _ => rfl)) pa_nil)) (blkOk_by (N := ["gluing", "t", "ties", "found", "i", "side"]) (sc := defScope sOvr) (by decide +kernel))
          (fun _ _ _ _ _ => pg_name (i := 4) scOvr.nd rfl (Or.inl rfl)) (fun _ _ _ _ _ => pts_nil) (fun _ _ _ _ _ => pe_dget2 hu (pv 2) (pe_tup (pa_cons (pv 1) (pa_cons (pv 4) pa_nil))) pe_non ⟨rfl, rfl, rfl, rfl⟩))
      (pss_one (ps_ret (pe_callTy call_tuple_of (by rfl) B.tup (by decide +kernel) (pa_cons (pe_lc (own := [("side", 5)]) (g := gName 5) (tt := tYes) rfl scOvr.nd (pi_list (pv 3)) (blkOk_by (N := ["gluing", "t", "ties", "found", "i", "side"]) (sc := defScope sOvr) (by decide +kernel))
          (fun _ _ _ _ _ => pg_name (i := 5) scOvr.nd rfl (Or.inl rfl)) (fun _ _ _ _ _ => pts_nil) (fun _ _ _ _ _ => pe_ifExp (pt_cmpR op_isN (pv 5) pe_non (nomark _)) pe_non (pe_ix (ix_tupK (K := K) rfl) (pv 5) pe_int (fun _ _ => rfl)))) pa_nil))))), ?_⟩
    refine ⟨v, rfl, v, g, rfl, hg, ok, fun H1 d s1 nd td => ?_⟩
    obtain ⟨a, p1, p2, rfl, ha, h1, h2⟩ := id (moG.mo (Same.ts s1) hg)
    obtain ⟨c, rfl, hc⟩ := sz_is h1
    have h7 := (ok.sz ht).2
    refine ⟨_, rfl, a, _, 0, _, rfl, rfl, SqT.of ha, at_nat (n := 0) rfl, _, rfl, c, _, _, _, rfl, rfl, SqT.of hc, at_nat (sz_at ht), _, rfl, by omega, by omega, fun D nD => ?_⟩
    obtain ⟨kvs, hk, tb⟩ := td
    let S : Rl Nat := fun H v i => ∃ o : Option WM.Sd, rO rSd H v o ∧ ∀ y, o = some y ↔ Mt g (t, i) y
    have mS : Mo S := ⟨fun ts ⟨o, h1, h2⟩ => ⟨o, (moO moSd).mo ts h1, h2⟩⟩
    refine lc_map mS walk_range (fun i => i) nD (by show (sz g t : Int).toNat ≤ 64; omega) (fun _ _ => trivial) ?_ (gName_mono 4) ?_
    · rintro i x H2 H3 us Z hi sm hD hl ⟨rfl, rfl⟩ z
      refine ⟨rfl, _, rfl, d, rfl, .inr ⟨kvs, .inl (sm _ _ hk)⟩, _, rfl, _, rfl, by show 2 ≤ sizeLine; decide, fun p np => ?_⟩
      have e0 : (0 + (i : Int)) = ((i : Nat) : Int) := Int.zero_add _
      have sp := same_new (o := .tup [V.int (t : Int), V.int (0 + (i : Nat) : Int)]) np
      have hp : (upd H3 p (.tup [V.int (t : Int), V.int (0 + (i : Nat) : Int)])) p = some (.tup ((ky (t, i)).map kV)) := by
        rw [upd_same, e0]
        rfl
      refine ⟨_, DGet.t (sp _ _ (sm _ _ hk)) hp, ?_⟩
      have tb := tb.mo moSd ((Same.ts sm).trans (Same.ts sp))
      rcases tb.at (t, i) with ⟨e, n⟩ | ⟨m, y, e, hm, rm⟩
      · rw [e]
        exact z _ _ sp ⟨none, rfl, fun y => ⟨fun h => (by cases h), fun h => absurd h (n y)⟩⟩
      · rw [e]
        exact z _ _ sp ⟨some y, rm, fun u => ⟨fun h => by cases h; exact hm, fun h => by rw [ok.once _ _ _ hm h]⟩⟩
    · rintro H2 s2 ⟨us, hD, al⟩
      refine ⟨_, rfl, D, rfl, ⟨us, SqL.of hD⟩, fun D2 nD2 => ?_⟩
      let S2 : Rl Nat := fun H v i => ∃ o : Option Nat, rO rN H v o ∧ ((o = none ∧ ∀ y, ¬ Mt g (t, i) y) ∨ ∃ y : WM.Sd, Mt g (t, i) y ∧ o = some y.1)
      have mS2 : Mo S2 := ⟨fun ts ⟨o, h1, h2⟩ => ⟨o, (moO moN).mo ts h1, h2⟩⟩
      have hl := al.length
      rw [List.length_map, List.length_range] at hl
      refine lc_map mS2 (walk_list (xs := us)) (fun i => i) nD2 (by omega) (fun H' s => SqL.of (s _ _ hD)) ?_ (gName_mono 5) ?_
      · rintro i x H3 H4 us3 Z hi sm hD3 hl3 ⟨rfl, hx⟩ z
        obtain ⟨j, hj, o, ro, ho⟩ := al.get hx
        rw [List.map_id', range_at (by omega)] at hj
        cases Option.some.inj hj
        refine ⟨rfl, _, rfl, rfl, ?_⟩
        cases o with
        | none =>
          have : x = .non := ro
          rw [decide_eq_true this]
          exact ⟨_, rfl, iteT (z _ _ (Same.refl _) ⟨none, rfl, .inl ⟨rfl, fun y hy => by cases (ho y).mpr hy⟩⟩)⟩
        | some y =>
          have ry : rSd H2 x y := ro
          rw [decide_eq_false (sd_non ry)]
          obtain ⟨b, rfl, hb⟩ := sd_is ry
          refine ⟨_, rfl, iteF ?_⟩
          exact ⟨_, rfl, b, _, 0, _, rfl, rfl, SqT.of (sm _ _ hb), at_nat (n := 0) rfl, z _ _ (Same.refl _) ⟨some y.1, rfl, .inr ⟨y, (ho y).mp rfl, rfl⟩⟩⟩
      · rintro H3 s3 ⟨us3, hD3, al3⟩
        refine ⟨D2, us3, rfl, .inl ⟨SqL.of hD3, fun l nl => ?_⟩⟩
        obtain ⟨os, a1, a2, a3⟩ := al_split al3
        rw [List.map_id', List.length_range] at a2
        rw [Int.toNat_natCast] at hl
        refine q _ _ os (s1.trans (s2.trans (s3.trans (same_new nl)))) ⟨l, us3, rfl, upd_same, a1.imp fun v o r => (moO moN).mo (ts_new nl) r⟩ ⟨a2.trans hl, fun i hi => ?_⟩
        obtain ⟨o, e, k⟩ := a3 i i (by rw [List.map_id', range_at (by rw [hl]; exact hi)])
        rcases k with ⟨rfl, k⟩ | ⟨y, k, rfl⟩
        · exact .inl ⟨e, k⟩
        · exact .inr ⟨y, k, e⟩
end
end WP
set_option Elab.async false
set_option linter.all false
set_option maxRecDepth 100000
/-! pieces: neighbours -/
namespace WP
open PySem L2 WR WM
/-- dicts of small numbers, row by row -/
def Rows (H : Hp) (bs : List Addr) (R : Nat → Nat → Prop) : Prop := bs.Nodup ∧ ∀ t b, bs[t]? = some b → ∃ kvs ks, H b = some (.dK kvs) ∧ IsK kvs ks ∧ (∀ u ∈ ks, u < 8) ∧ ∀ u, u ∈ ks ↔ R t u
theorem small8 {kvs : List (Key × V)} {ks : List Nat} (h : IsK kvs ks) (b : ∀ u ∈ ks, u < 8) : kvs.length < sizeLine := Nat.lt_of_le_of_lt (h.few b) (by decide)
theorem Rows.put {H : Hp} {bs : List Addr} {R : Nat → Nat → Prop} (h : Rows H bs R) {a u : Nat} {b : Addr} (e : bs[a]? = some b) (hu : u < 8) (v : V) : ∃ kvs, H b = some (.dK kvs) ∧ kvs.length < sizeLine ∧
    Rows (upd H b (.dK (putK kvs (.inl (u : Int)) v))) bs (fun t w => (t = a ∧ w = u) ∨ R t w) := by
  obtain ⟨kvs, ks, h1, h2, h3, h4⟩ := h.2 a b e
  refine ⟨kvs, h1, small8 h2 h3, h.1, fun t c ec => ?_⟩
  by_cases q : c = b
  · subst q
    have hta : t = a := by
      have l1 := (List.getElem?_eq_some_iff.mp ec)
      have l2 := (List.getElem?_eq_some_iff.mp e)
      obtain ⟨p1, q1⟩ := l1
      obtain ⟨p2, q2⟩ := l2
      exact (List.getElem_inj h.1).mp (q1.trans q2.symm)
    obtain ⟨ks', k1, k2⟩ := h2.put u v
    refine ⟨_, ks', upd_same, k1, fun w hw => ?_, fun w => ?_⟩
    · rcases (k2 w).mp hw with e | e
      · omega
      · exact h3 w e
    · rw [k2, h4, hta]
      simp
  · obtain ⟨kvs', ks', g1, g2, g3, g4⟩ := h.2 t c ec
    refine ⟨kvs', ks', by rw [upd_ne q]; exact g1, g2, g3, fun w => ?_⟩
    rw [g4]
    refine ⟨.inr, fun k => k.elim (fun k => absurd ?_ q) id⟩
    rw [k.1, e] at ec
    exact (Option.some.inj ec).symm
/-- lists of neighbours, row by row -/
def nbl (g : Gl) (H : Hp) (p : Addr) : Prop := ∃ us : List V, H p = some (.lst us) ∧ us.length = g.1.length ∧ ∀ t v, us[t]? = some v → ∃ b l, v = .ref b ∧ H b = some (.lst (vI l)) ∧ ∀ u, u ∈ l ↔ Nb g t u
theorem nbl_mo {g : Gl} {H H' : Hp} {p : Addr} (s : Same H H') (h : nbl g H p) : nbl g H' p := by
  obtain ⟨us, h1, h2, h3⟩ := h
  refine ⟨us, s _ _ h1, h2, fun t v e => ?_⟩
  obtain ⟨b, l, k1, k2, k3⟩ := h3 t v e
  exact ⟨b, l, k1, s _ _ k2, k3⟩
section
variable {P : Program} {w : World} {K : PySem.W.Frag} {mg : Str → Option Value} {base : Heap}
/-! ### neighbours -/
abbrev sNbs : Stmt := topS 20
theorem scNbs : FnScope ["gluing", "found", "one", "other", "size", "row"] ["gluing"] (defScope sNbs) := ⟨rfl, rfl, rfl, by decide +kernel, rfl, by decide +kernel, by decide +kernel⟩
def spNbs : Sp := fun vs H Q _ => ∃ v g, vs = [v] ∧ rG H v g ∧ Ok g ∧ ∀ H' p, Same H H' → H p = none → nbl g H' p → Q (.ref p) H'
/-- neighbours by the first ties -/
def NbI (g : Gl) (i t u : Nat) : Prop := ∃ p ∈ g.2.take i, (p.1.1 = t ∧ p.2.1 = u) ∨ (p.2.1 = t ∧ p.1.1 = u)
theorem nbI_all {g : Gl} {t u : Nat} : NbI g g.2.length t u ↔ Nb g t u := by
  unfold NbI Nb Mt
  rw [List.take_length]
  constructor
  · rintro ⟨⟨⟨a, i⟩, ⟨b, j⟩⟩, hp, ⟨rfl, rfl⟩ | ⟨rfl, rfl⟩⟩
    · exact ⟨i, j, .inl hp⟩
    · exact ⟨j, i, .inr hp⟩
  · rintro ⟨i, j, h | h⟩
    · exact ⟨_, h, .inl ⟨rfl, rfl⟩⟩
    · exact ⟨_, h, .inr ⟨rfl, rfl⟩⟩
theorem ok_nbs {f : Addr} {fd : FuncData} (F : Fun K "neighbours" "neighbours" sNbs f fd) (B : Bl mg) : FnOk P w K mg base CX0 1 f fd ["gluing"] spNbs := by
  refine F.ok scNbs (fun vs H Q E h => ?_) (fun cdv A outer s H vs Q E hr h => ?_)
  · obtain ⟨v, g, rfl, _⟩ := h
    rfl
  · obtain ⟨v, g, rfl, hg, ok, q⟩ := h
    have hu := hu_of hr
    refine ⟨_, pss_cons (ps_setLc (i := 1) (own := [("size", 4)]) (g := gName 4) (tt := tYes) rfl scNbs.nd rfl rfl (sw_true rfl rfl rfl (by decide +kernel))
          (pi_tup (pe_ix ix_tup (pv 0) pe_int (fun _ _ => rfl))) (blkOk_by (N := ["gluing", "found", "one", "other", "size", "row"]) (sc := defScope sNbs) (by decide +kernel))
          (fun _ _ _ _ _ => pg_name (i := 4) scNbs.nd rfl (Or.inl rfl)) (fun _ _ _ _ _ => pts_nil) (fun _ _ _ _ _ => pe_dnewK))
      (pss_cons (ps_for PassesOwn.never rfl (pi_tup (pe_ix ix_tup (pv 0) pe_int (fun _ _ => rfl)))
          (pg_tup rfl (pgs_cons (pg_name (i := 2) scNbs.nd rfl (.inl rfl)) (pgs_cons (pg_name (i := 3) scNbs.nd rfl (.inl rfl)) pgs_nil)))
        (pss_cons (ps_dput hu (pe_ix ix_list (pv 1) (pe_ix ix_tup (pv 2) pe_int (fun _ _ => rfl)) (fun _ _ => rfl)) (pe_ix ix_tup (pv 3) pe_int (fun _ _ => rfl)) pe_bl rfl)
          (pss_one (ps_dput hu (pe_ix ix_list (pv 1) (pe_ix ix_tup (pv 3) pe_int (fun _ _ => rfl)) (fun _ _ => rfl)) (pe_ix ix_tup (pv 2) pe_int (fun _ _ => rfl)) pe_bl rfl))))
      (pss_one (ps_ret (pe_lc (own := [("row", 5)]) (g := gName 5) (tt := tYes) rfl scNbs.nd (pi_list (pv 1)) (blkOk_by (N := ["gluing", "found", "one", "other", "size", "row"]) (sc := defScope sNbs) (by decide +kernel))
          (fun _ _ _ _ _ => pg_name (i := 5) scNbs.nd rfl (Or.inl rfl)) (fun _ _ _ _ _ => pts_nil) (fun _ _ _ _ _ => pe_callB (cr_sortDN rfl) (by rfl) B.srt (by decide +kernel) (pa_cons (pv 5) pa_nil)))))), ?_⟩
    obtain ⟨a, p1, p2, rfl, ha, h1, h2⟩ := id hg
    obtain ⟨c, rfl, hc⟩ := sz_is h1
    refine ⟨_, rfl, a, _, 0, _, rfl, rfl, SqT.of ha, at_nat (n := 0) rfl, c, rfl, ⟨_, SqT.of hc⟩, fun D nD => ?_⟩
    refine it_w (n := (g.1.map fun n : Nat => V.int (n : Int)).length) walk_tup (fun i H2 => Same H H2 ∧ ∃ bs : List Addr, H2 D = some (.lst (bs.map V.ref)) ∧ bs.length = i ∧ bs.Nodup ∧ ∀ b ∈ bs, b ≠ D ∧ H b = none ∧ H2 b = some (.dK []))
      ⟨same_new nD, [], upd_same, rfl, List.nodup_nil, fun b hb => (by cases hb)⟩ (fun i H2 _ p => SqT.of (p.1 _ _ hc)) ?_ ?_
    · rintro i x H2 H3 hi ⟨sm, bs, hD, hl, nd, hb⟩ ⟨rfl, hx⟩
      refine ⟨rfl, fun p np => ?_⟩
      have sp := same_new (o := .dK []) np
      have nDp : D ≠ p := ne_of_none hD np
      rw [List.length_map] at hi
      have := ok.few
      refine ⟨bs.map V.ref, sp _ _ hD, Nat.lt_of_le_of_lt (by rw [List.length_map]; omega : (bs.map V.ref).length ≤ 64) (by decide), fun b o e => ?_, bs ++ [p], ?_, by simp [hl], ?_, fun b hb' => ?_⟩
      · rw [upd_ne (ne_of_none e nD)]
        exact sp _ _ (sm _ _ e)
      · rw [upd_same, List.map_append]
        rfl
      · refine nd_snoc nd fun hp => ?_
        have := (hb p hp).2.2
        rw [np] at this
        cases this
      · rcases List.mem_append.mp hb' with h | h
        · obtain ⟨k1, k2, k3⟩ := hb b h
          refine ⟨k1, k2, ?_⟩
          rw [upd_ne k1]
          exact sp _ _ k3
        · rw [List.mem_singleton] at h
          subst h
          refine ⟨nDp.symm, sm.free np, ?_⟩
          rw [upd_ne nDp.symm, upd_same]
    · rintro H2 ⟨sm, bs, hD, hl, nd, hb⟩
      rw [List.length_map] at hl
      have hg2 := moG.mo (Same.ts sm) hg
      obtain ⟨e, ts, rfl, he, al⟩ := h2
      refine ⟨_, rfl, a, [.ref c, .ref e], 1, .ref e, rfl, rfl, SqT.of (sm _ _ ha), at_nat (n := 1) rfl, e, rfl, ⟨_, SqT.of (sm _ _ he)⟩, for_tup (xs := ts) (fun i σ H3 => ∃ o1 o2, σ = [some (.ref a), some (.ref D), o1, o2, none, none] ∧ Same H H3 ∧ H3 D = some (.lst (bs.map V.ref)) ∧ Rows H3 bs (NbI g i))
        ⟨none, none, rfl, sm, hD, nd, fun t b eb => ⟨[], [], (hb b (List.mem_of_getElem? eb)).2.2, isK_nil, fun u hu => (by cases hu), fun u => ⟨fun hu => (by cases hu), fun ⟨p, hp, _⟩ => (by simp at hp)⟩⟩⟩ (fun i σ H3 _ ⟨_, _, _, s3, _⟩ => SqT.of (s3 _ _ he)) ?_ ?_⟩
      · rintro i x σ H3 hx ⟨o1, o2, rfl, s3, hD3, rows⟩
        obtain ⟨t, ht, hr⟩ := al.get hx
        obtain ⟨b, u1, u2, rfl, hb1, r1, r2⟩ := moTie.mo (Same.ts s3) hr
        obtain ⟨b1, rfl, hb1'⟩ := sd_is r1
        obtain ⟨b2, rfl, hb2'⟩ := sd_is r2
        have hm : t ∈ g.2 := List.mem_of_getElem? ht
        have v1 := (ok.val t hm).1.1
        have v2 := (ok.val t hm).2.1
        have := ok.few
        have atb : ∀ u, u < g.1.length → ∃ d, bs[u]? = some d ∧ atI (bs.map V.ref) (u : Int) = some (.ref d) := fun u hu => by
          have : bs[u]? = some (bs[u]'(by omega)) := List.getElem?_eq_getElem (by omega)
          exact ⟨_, this, at_nat (by rw [List.getElem?_map, this]; rfl)⟩
        obtain ⟨d1, e1, a1⟩ := atb _ v1
        obtain ⟨d2, e2, a2⟩ := atb _ v2
        have hd : ∀ {u d}, bs[u]? = some d → d ≠ D ∧ H d = none := fun h => ⟨(hb _ (List.mem_of_getElem? h)).1, (hb _ (List.mem_of_getElem? h)).2.1⟩
        obtain ⟨kvs, k1, k2, rows1⟩ := rows.put e1 (by omega : t.2.1 < 8) (.bl true)
        have t1 := ts_put (o := .dK (putK kvs (.inl (t.2.1 : Int)) (.bl true))) k1 (fun _ e => HO.noConfusion e)
        obtain ⟨kvs2, l1, l2, rows2⟩ := rows1.put e2 (by omega : t.1.1 < 8) (.bl true)
        refine ⟨b, [.ref b1, .ref b2], rfl, SqT.of hb1, rfl, .ref b1, [.ref b2], rfl, .ref b2, [], rfl, rfl, ?_⟩
        refine ⟨_, rfl, _, rfl, b1, _, 0, _, rfl, rfl, SqT.of hb1', at_nat (n := 0) rfl, D, _, _, _, rfl, rfl, SqL.of hD3, a1, ?_⟩
        refine ⟨_, rfl, b2, _, 0, _, rfl, rfl, SqT.of hb2', at_nat (n := 0) rfl, d1, _, rfl, DPut.k (k := .inl (t.2.1 : Int)) k1 k2, ?_⟩
        have hD4 : (upd H3 d1 (.dK (putK kvs (.inl (t.2.1 : Int)) (.bl true)))) D = some (.lst (bs.map V.ref)) := by
          rw [upd_ne (hd e1).1.symm]
          exact hD3
        refine ⟨_, rfl, _, rfl, b2, _, 0, _, rfl, rfl, SqT.of (t1 _ _ hb2'), at_nat (n := 0) rfl, D, _, _, _, rfl, rfl, SqL.of hD4, a2, ?_⟩
        refine ⟨_, rfl, b1, _, 0, _, rfl, rfl, SqT.of (t1 _ _ hb1'), at_nat (n := 0) rfl, d2, _, rfl, DPut.k (k := .inl (t.1.1 : Int)) l1 l2, ?_⟩
        refine ⟨_, _, rfl, fun z o ez => ?_, ?_, ?_⟩
        · rw [upd_ne (ne_of_none ez (hd e2).2), upd_ne (ne_of_none ez (hd e1).2)]
          exact s3 _ _ ez
        · rw [upd_ne (hd e2).1.symm]
          exact hD4
        · refine ⟨rows2.1, fun u z ez => ?_⟩
          obtain ⟨kv, ks, q1, q2, q3, q4⟩ := rows2.2 u z ez
          refine ⟨kv, ks, q1, q2, q3, fun w' => (q4 w').trans ?_⟩
          unfold NbI
          rw [take_one ht]
          constructor
          · rintro (⟨rfl, rfl⟩ | ⟨rfl, rfl⟩ | ⟨p, hp, k⟩)
            · exact ⟨t, by simp, .inr ⟨rfl, rfl⟩⟩
            · exact ⟨t, by simp, .inl ⟨rfl, rfl⟩⟩
            · exact ⟨p, List.mem_append_left _ hp, k⟩
          · rintro ⟨p, hp, k⟩
            rcases List.mem_append.mp hp with hp | hp
            · exact .inr (.inr ⟨p, hp, k⟩)
            · rw [List.mem_singleton] at hp
              subst hp
              rcases k with ⟨rfl, rfl⟩ | ⟨rfl, rfl⟩
              · exact .inr (.inl ⟨rfl, rfl⟩)
              · exact .inl ⟨rfl, rfl⟩
      · rintro σ H3 ⟨o1, o2, rfl, s3, hD3, rows⟩
        rw [al.length] at rows
        refine ⟨_, rfl, D, rfl, ⟨_, SqL.of hD3⟩, fun D2 nD2 => ?_⟩
        let S : Rl Nat := fun H v t => ∃ b l, v = .ref b ∧ b ≠ D2 ∧ H b = some (.lst (vI l)) ∧ ∀ u, u ∈ l ↔ Nb g t u
        have := ok.few
        refine lc_fmG (S := S) (walk_list (xs := bs.map V.ref)) (fun i => some i) nD2 (by rw [List.length_map]; omega) (fun H1 H2 v t _ k ⟨b, l, h1, h2, h3, h4⟩ => ⟨b, l, h1, h2, k _ _ h2 h3, h4⟩) (fun H' s => SqL.of (s _ _ hD3)) ?_ ?_
        · rintro i x H4 H5 us Z Z0 hi s4 hD4 hl4 ⟨rfl, hx⟩ z _
          rw [List.getElem?_map] at hx
          cases eb : bs[i]? with
          | none =>
            rw [eb] at hx
            cases hx
          | some b =>
            rw [eb] at hx
            cases Option.some.inj hx
            obtain ⟨kvs, ks, k1, k2, k3, k4⟩ := rows.2 i b eb
            have few : ks.length ≤ 8 := by
              have := k2.few k3
              rw [k2.len] at this
              exact this
            refine ⟨rfl, _, rfl, b, kvs, ks, rfl, s4 _ _ k1, k2, by omega, fun l p hp np => ?_⟩
            exact z _ _ i rfl (same_new np) ⟨p, l, rfl, (ne_of_none hD4 np).symm, upd_same, fun u => by rw [hp.mem_iff, k4, nbI_all]⟩
        · rintro H4 s4 ⟨us, hD2, al2⟩
          refine q H4 D2 (s3.trans s4) (s3.free nD2) ⟨us, hD2, ?_, fun t v ev => ?_⟩
          · rw [al2.length, List.filterMap_some, List.length_range, List.length_map, hl]
          · obtain ⟨j, hj, b, l, k1, k2, k3, k4⟩ := al2.get ev
            rw [List.filterMap_some, List.length_map] at hj
            have ht := (List.getElem?_eq_some_iff.mp hj).1
            rw [List.length_range] at ht
            rw [range_at ht] at hj
            cases Option.some.inj hj
            exact ⟨b, l, k1, k3, k4⟩
end
end WP
set_option Elab.async false
set_option linter.all false
set_option maxRecDepth 100000
/-! pieces: layers -/
namespace WP
open PySem L2 WR WM
theorem nb_va {g : Gl} (ok : Ok g) {t u : Nat} (h : Nb g t u) : t < g.1.length ∧ u < g.1.length := by
  obtain ⟨i, j, m⟩ := h
  exact ⟨(ok.mval m).1.1, (ok.mval m).2.1⟩
theorem rc_va {g : Gl} (ok : Ok g) {t u : Nat} (ht : t < g.1.length) (h : Rc g t u) : u < g.1.length := by
  induction h with
  | refl => exact ht
  | step _ n _ => exact (nb_va ok n).2
theorem nat_few {l : List Nat} {n : Nat} (nd : l.Nodup) (h : ∀ u ∈ l, u < n) : l.length ≤ n := by
  have := List.Nodup.length_le_of_subset nd (fun u hu => List.mem_range.mpr (h u hu))
  rwa [List.length_range] at this
/-- layers from t on -/
structure Lrs (g : Gl) (t : Nat) (ls : List (List Nat)) : Prop where
  hd : ls[0]? = some [t]
  nxt : ∀ u, u ≠ t → Nb g t u → ∃ l, ls[1]? = some l ∧ u ∈ l
  all : ∀ u, u ∈ ls.flatten ↔ Rc g t u
  nd : ls.flatten.Nodup
  ne : ∀ c ∈ ls, c ≠ []
def Shp (g : Gl) (t : Nat) (ls : List (List Nat)) (l : List Nat) : Prop :=
  (ls = [] ∧ l = [t]) ∨ (ls = [[t]] ∧ ∀ u, u ≠ t → Nb g t u → u ∈ l) ∨ (ls[0]? = some [t] ∧ ∃ l1, ls[1]? = some l1 ∧ ∀ u, u ≠ t → Nb g t u → u ∈ l1)
/-- between two layers; D: whose neighbours are all seen -/
structure LI (g : Gl) (t : Nat) (ls : List (List Nat)) (l : List Nat) (ks : List Nat) (D : Nat → Prop) : Prop where
  mem : ∀ u, u ∈ ks ↔ u ∈ ls.flatten ∨ u ∈ l
  nd : (ls.flatten ++ l).Nodup
  rc : ∀ u ∈ ks, Rc g t u
  done : ∀ u, D u → ∀ v, Nb g u v → v ∈ ks
  ne : ∀ c ∈ ls, c ≠ []
theorem LI.few {g : Gl} (ok : Ok g) {t : Nat} (ht : t < g.1.length) {ls : List (List Nat)} {l ks : List Nat} {D : Nat → Prop} (h : LI g t ls l ks D) : ls.flatten.length + l.length ≤ 8 := by
  have := nat_few h.nd (n := g.1.length) fun u hu => rc_va ok ht (h.rc u ((h.mem u).mpr (List.mem_append.mp hu)))
  rw [List.length_append] at this
  have := ok.few
  omega
theorem LI.start {g : Gl} {t : Nat} : LI g t [] [t] [t] (fun _ => False) where
  mem := fun u => by simp
  nd := by simp
  rc := fun u hu => by
    rw [List.mem_singleton] at hu
    exact hu ▸ .refl
  done := fun u h => h.elim
  ne := fun c hc => (by cases hc)
/-- the layer is put away -/
theorem LI.turn {g : Gl} {t : Nat} {ls : List (List Nat)} {l l' ks : List Nat} {D : Nat → Prop} (h : LI g t ls l ks D) (p : l'.Perm l) (n : l ≠ []) : LI g t (ls ++ [l']) [] ks D where
  mem := fun u => by
    rw [h.mem, List.flatten_append, List.mem_append]
    simp [p.mem_iff]
  nd := by
    rw [List.flatten_append, List.append_nil]
    have : (ls.flatten ++ l').Perm (ls.flatten ++ l) := (List.Perm.refl _).append p
    simpa using this.nodup_iff.mpr h.nd
  rc := h.rc
  done := h.done
  ne := fun c hc => by
    rcases List.mem_append.mp hc with q | q
    · exact h.ne c q
    · rw [List.mem_singleton] at q
      subst q
      exact fun e => n (by rw [e] at p; exact List.perm_nil.mp p.symm)
/-- one more is seen -/
theorem LI.more {g : Gl} {t : Nat} {ls : List (List Nat)} {l ks ks' : List Nat} {D : Nat → Prop} {v : Nat} (h : LI g t ls l ks D) (hv : Rc g t v) (nv : v ∉ ks) (hk : ∀ m, m ∈ ks' ↔ m = v ∨ m ∈ ks) : LI g t ls (l ++ [v]) ks' D where
  mem := fun u => by
    rw [hk, h.mem, List.mem_append, List.mem_singleton]
    constructor
    · rintro (h | h | h)
      · exact .inr (.inr h)
      · exact .inl h
      · exact .inr (.inl h)
    · rintro (h | h | h)
      · exact .inr (.inl h)
      · exact .inr (.inr h)
      · exact .inl h
  nd := by
    rw [← List.append_assoc]
    refine nd_snoc h.nd fun q => nv ((h.mem v).mpr (List.mem_append.mp q))
  rc := fun u hu => by
    rcases (hk u).mp hu with e | e
    · exact e ▸ hv
    · exact h.rc u e
  done := fun u hu w hw => (hk w).mpr (.inr (h.done u hu w hw))
  ne := h.ne
theorem LI.upd {g : Gl} {t : Nat} {ls : List (List Nat)} {l ks : List Nat} {D D' : Nat → Prop} (h : LI g t ls l ks D) (k : ∀ u, D' u → D u ∨ ∀ v, Nb g u v → v ∈ ks) : LI g t ls l ks D' where
  mem := h.mem
  nd := h.nd
  rc := h.rc
  done := fun u hu v hv => (k u hu).elim (fun q => h.done u q v hv) fun q => q v hv
  ne := h.ne
theorem Shp.turn {g : Gl} {t : Nat} {ls : List (List Nat)} {l l' m ks : List Nat} {D : Nat → Prop} (s : Shp g t ls l) (p : l'.Perm l) (h : LI g t (ls ++ [l']) m ks D) (hl : ∀ u ∈ l, D u) : Shp g t (ls ++ [l']) m := by
  rcases s with ⟨rfl, rfl⟩ | ⟨rfl, s⟩ | ⟨s1, l1, s2, s3⟩
  · have e : l' = [t] := List.perm_singleton.mp p
    subst e
    refine .inr (.inl ⟨rfl, fun u hu n => ?_⟩)
    have := (h.mem u).mp (h.done t (hl t (by simp)) u n)
    simpa [hu] using this
  · exact .inr (.inr ⟨rfl, l', rfl, fun u hu n => p.mem_iff.mpr (s u hu n)⟩)
  · refine .inr (.inr ⟨?_, l1, ?_, s3⟩)
    · rw [List.getElem?_append_left (List.getElem?_eq_some_iff.mp s1).1]
      exact s1
    · rw [List.getElem?_append_left (List.getElem?_eq_some_iff.mp s2).1]
      exact s2
theorem LI.fin {g : Gl} {t : Nat} {ls : List (List Nat)} {ks : List Nat} (h : LI g t ls [] ks (fun u => u ∈ ls.flatten)) (s : Shp g t ls []) : Lrs g t ls := by
  have hd : ls[0]? = some [t] := by
    rcases s with ⟨_, e⟩ | ⟨rfl, _⟩ | ⟨s, _⟩
    · cases e
    · rfl
    · exact s
  have nd := h.nd
  rw [List.append_nil] at nd
  refine ⟨hd, fun u hu n => ?_, fun u => ⟨fun hu => h.rc u ((h.mem u).mpr (.inl hu)), fun r => ?_⟩, nd, h.ne⟩
  · rcases s with ⟨_, e⟩ | ⟨rfl, k⟩ | ⟨_, l1, e, k⟩
    · cases e
    · cases k u hu n
    · exact ⟨l1, e, k u hu n⟩
  · induction r with
    | refl => exact List.mem_flatten.mpr ⟨[t], List.mem_of_getElem? hd, by simp⟩
    | step _ n ih =>
      rcases (h.mem _).mp (h.done _ ih _ n) with q | q
      · exact q
      · cases q
theorem eqv_nil (l : List Nat) : PyData.eqv (eL eN l) (eL eN []) = decide (l = []) := by
  cases l with
  | nil => rfl
  | cons a l => rfl
section
variable {P : Program} {w : World} {K : PySem.W.Frag} {mg : Str → Option Value} {base : Heap}
/-! ### layers -/
abbrev sLrs : Stmt := topS 21
theorem scLrs : FnScope ["gluing", "t", "near", "seen", "found", "here", "late", "one", "other"] ["gluing", "t"] (defScope sLrs) := ⟨rfl, rfl, rfl, by decide +kernel, rfl, by decide +kernel, by decide +kernel⟩
abbrev rLa : Rl (List (List Nat)) := fun H v ls => ∃ p, v = .ref p ∧ rL (rT rN) H p ls
def spLrs : Sp := fun vs H Q _ => ∃ v t g, vs = [v, .int (t : Nat)] ∧ rG H v g ∧ Ok g ∧ t < g.1.length ∧ ∀ H' p ls, Same H H' → H p = none → rL (rT rN) H' p ls → Lrs g t ls → Q (.ref p) H'
theorem rc_8 {g : Gl} (ok : Ok g) {t : Nat} (ht : t < g.1.length) {ls : List (List Nat)} {l ks : List Nat} {D : Nat → Prop} (h : LI g t ls l ks D) : ∀ u ∈ ks, u < 8 := fun u hu => by
  have := rc_va ok ht (h.rc u hu)
  have := ok.few
  omega
theorem ok_lrs {f : Addr} {fd : FuncData} (F : Fun K "layers" "layers" sLrs f fd) (B : Bl mg) (cN : Cal P w K mg base "neighbours" 1 ["gluing"] spNbs) : FnOk P w K mg base CX0 2 f fd ["gluing", "t"] spLrs := by
  obtain ⟨fN, dN, GN, gN, kN, bN⟩ := cN
  refine F.ok scLrs (fun vs H Q E h => ?_) (fun cdv A outer s H vs Q E hr h => ?_)
  · obtain ⟨v, t, g, rfl, _⟩ := h
    rfl
  · obtain ⟨v, t, g, rfl, hg, ok, ht, q⟩ := h
    have hu := hu_of hr
    have hu64 := hr.units
    refine ⟨_, pss_cons (ps_asg (pe_tup (pa_cons (pe_call GN hr (by rfl) gN kN bN .nil pass0 (pa_cons (pv 0) pa_nil)) (pa_cons (pe_disp (pps_cons (pv 1) pe_bl pps_nil) (by rfl) (by rfl) (fun z => (by cases z)) (by decide)) (pa_cons (pe_lst pa_nil) (pa_cons (pe_lst (pa_cons (pv 1) pa_nil)) pa_nil)))))
        (pg_tup (by rfl) (pgs_cons (pg_name (i := 2) scLrs.nd rfl (.inl rfl)) (pgs_cons (pg_name (i := 3) scLrs.nd rfl (.inl rfl)) (pgs_cons (pg_name (i := 4) scLrs.nd rfl (.inl rfl)) (pgs_cons (pg_name (i := 5) scLrs.nd rfl (.inl rfl)) pgs_nil))))))
      (pss_cons (ps_while PassesOwn.never (pt_cmpR (op_neD hu64) (pv 5) (pe_lst pa_nil) (nomark _))
        (pss_cons (ps_expr (pe_bm PySem.F.plainAttrs_list PySem.F.slot_list_append PySem.F.type_list_append mt_append (pv 4) (pa_cons (pe_callTy call_tuple_of (by rfl) B.tup (by decide +kernel) (pa_cons (pe_callB (cr_sortN (K := K) rfl) (by rfl) B.srt (by decide +kernel) (pa_cons (pv 5) pa_nil)) pa_nil)) pa_nil)))
        (pss_cons (ps_set (i := 6) scLrs.nd rfl (.inl rfl) (pe_lst pa_nil))
        (pss_cons (ps_for PassesOwn.never rfl (pi_list (pv 5)) (pg_name (i := 7) scLrs.nd rfl (Or.inl rfl))
          (pss_one (ps_for PassesOwn.never rfl (pi_list (pe_ix ix_list (pv 2) (pv 7) (fun _ _ => rfl))) (pg_name (i := 8) scLrs.nd rfl (Or.inl rfl))
            (pss_one (ps_if (pt_cmp (pc_dnotin hu (pv 8) (pv 3)))
              (pss_cons (ps_dput hu (pv 3) (pv 8) pe_bl rfl)
                (pss_one (ps_expr (pe_bm PySem.F.plainAttrs_list PySem.F.slot_list_append PySem.F.type_list_append mt_append (pv 6) (pa_cons (pv 8) pa_nil))))) pss_nil)))))
        (pss_one (ps_set (i := 5) scLrs.nd rfl (.inl rfl) (pv 6)))))))
      (pss_one (ps_ret (pv 4)))), ?_⟩
    refine ⟨v, rfl, v, g, rfl, hg, ok, fun H1 nr s1 nnr hnb d nd => ⟨.int (t : Nat), rfl, upd_same, [(.inl (t : Int), .bl true)], rfl, by show 1 ≤ 15; omega, ?_⟩⟩
    rw [upd_upd]
    have k1 : IsK (mergeK [] [(Sum.inl (t : Int), V.bl true)]) [t] := ⟨rfl, by simp⟩
    have sd := same_new (o := .dK (mergeK [] [(Sum.inl (t : Int), V.bl true)])) nd
    refine ⟨Nat.zero_le _, fun p np => ⟨_, rfl, by show 1 ≤ sizeLine; decide, fun h nh => ⟨by show 4 ≤ sizeLine; decide, fun tp ntp => ?_⟩⟩⟩
    have sp := same_new (o := .lst []) np
    have sh := same_new (o := .lst [V.int (t : Int)]) nh
    have stp := same_new (o := .tup [.ref nr, .ref d, .ref p, .ref h]) ntp
    refine ⟨tp, _, rfl, SqT.of upd_same, rfl, _, _, rfl, _, _, rfl, _, _, rfl, _, _, rfl, rfl, ?_⟩
    have hp1 : H1 p = none := sd.free np
    have hh1 : H1 h = none := (sd.trans sp).free nh
    have hnp : h ≠ p := (ne_of_none upd_same nh).symm
    refine ⟨fun m σ H2 => ∃ h l ls ks kvs us o6 o7 o8, σ = [some v, some (.int (t : Nat)), some (.ref nr), some (.ref d), some (.ref p), some (.ref h), o6, o7, o8] ∧ Same H1 H2 ∧ H2 h = some (.lst (vI l)) ∧ h ≠ p ∧ H2 d = some (.dK kvs) ∧ IsK kvs ks ∧
        H2 p = some (.lst us) ∧ Al (rT rN H2) us ls ∧ LI g t ls l ks (fun u => u ∈ ls.flatten) ∧ Shp g t ls l ∧ m + ls.flatten.length = 8,
      ⟨8, h, [t], [], [t], _, [], none, none, none, rfl, sd.trans (sp.trans (sh.trans stp)), stp _ _ upd_same, hnp, (sp.trans (sh.trans stp)) _ _ upd_same, k1, (sh.trans stp) _ _ upd_same, .nil, LI.start.upd (fun u hu => (by simp at hu)), .inl ⟨rfl, rfl⟩, rfl⟩, ?_⟩
    rintro m σ H2 ⟨h, l, ls, ks, kvs, us, o6, o7, o8, rfl, sm, hh, hne, hd, hk, hp, al, li, shp, hm⟩
    have few := li.few ok ht
    refine ⟨_, rfl, Nat.zero_le _, fun z nz => ?_⟩
    have sz := same_new (o := .lst []) nz
    refine ⟨eL eN l, eL eN [], enN.dpL _ ⟨_, sz _ _ hh, al_vI _ l⟩, enN.dpL _ ⟨_, upd_same, .nil⟩, enN.shapedL (by decide) l, enN.shapedL (by decide) [], _, rfl, ?_⟩
    rw [eqv_nil]
    by_cases e : l = []
    · subst e
      rw [decide_eq_true rfl]
      exact iteF ⟨_, rfl, q _ p ls (s1.trans (sm.trans sz)) (s1.free hp1) ⟨us, sz _ _ hp, (moT moN).al (Same.ts sz) al⟩ (li.fin shp)⟩
    · rw [decide_eq_false e]
      refine iteT ⟨fun σ' H' => ∃ m', m' < m ∧ ∃ h l ls ks kvs us o6 o7 o8, σ' = [some v, some (.int (t : Nat)), some (.ref nr), some (.ref d), some (.ref p), some (.ref h), o6, o7, o8] ∧ Same H1 H' ∧ H' h = some (.lst (vI l)) ∧ h ≠ p ∧ H' d = some (.dK kvs) ∧ IsK kvs ks ∧
        H' p = some (.lst us) ∧ Al (rT rN H') us ls ∧ LI g t ls l ks (fun u => u ∈ ls.flatten) ∧ Shp g t ls l ∧ m' + ls.flatten.length = 8, fun σ' H' h => h, ?_⟩
      refine ⟨_, rfl, .inl ⟨rfl, _, SqL.of (sz _ _ hp)⟩, _, rfl, h, l, rfl, SqL.of (sz _ _ hh), by omega, fun l' p1 perm np1 => ⟨p1, vI l', rfl, .inl ⟨SqL.of upd_same, fun tp ntp => ?_⟩⟩⟩
      have sp1 := same_new (o := .lst (vI l')) np1
      have stp := same_new (o := .tup (vI l')) ntp
      have s3 := sz.trans (sp1.trans stp)
      have hl := al.length
      have lf := len_flat li.ne
      refine ⟨p, us, .ref tp, rfl, rfl, s3 _ _ hp, Nat.lt_of_le_of_lt (by omega : us.length ≤ 64) (by decide), ?_⟩
      have tS := ts_put (o := .lst (us ++ [.ref tp])) (s3 _ _ hp) (fun _ e => HO.noConfusion e)
      have npd : p ≠ d := fun e => by
        rw [e, hd] at hp
        cases hp
      have nhd : h ≠ d := fun e => by
        rw [e, hd] at hh
        cases hh
      have s4 : Same H1 (upd (upd (upd (upd H2 z (.lst [])) p1 (.lst (vI l'))) tp (.tup (vI l'))) p (.lst (us ++ [.ref tp]))) := fun b o eb => by
        rw [upd_ne (ne_of_none eb hp1)]
        exact s3 _ _ (sm _ _ eb)
      have al4 : Al (rT rN (upd (upd (upd (upd H2 z (.lst [])) p1 (.lst (vI l'))) tp (.tup (vI l'))) p (.lst (us ++ [.ref tp])))) (us ++ [.ref tp]) (ls ++ [l']) :=
        ((moT moN).al ((Same.ts s3).trans tS) al).snoc ⟨tp, _, rfl, tS _ _ upd_same, al_vI _ l'⟩
      refine ⟨Nat.zero_le _, fun q1 nq1 => ?_⟩
      have sq := same_new (o := .lst []) nq1
      have nq1p : q1 ≠ p := (ne_of_none upd_same nq1).symm
      have nq1h : q1 ≠ h := (ne_of_none (by rw [upd_ne hne]; exact s3 _ _ hh) nq1).symm
      have nq1d : q1 ≠ d := (ne_of_none (by rw [upd_ne npd.symm]; exact s3 _ _ hd) nq1).symm
      have nq1H : H1 q1 = none := s4.free nq1
      have few' : ls.flatten.length + l'.length ≤ 8 := by rw [perm.length_eq]; exact few
      have lpos : 0 < l.length := List.length_pos_iff.mpr e
      have vaL : ∀ u ∈ l, u < g.1.length := fun u hu => rc_va ok ht (li.rc u ((li.mem u).mpr (.inr hu)))
      let G : Hp → List Nat → (Nat → Prop) → List V → List (List Nat) → Prop := fun H5 mm D us ls => Same H1 H5 ∧ H5 h = some (.lst (vI l)) ∧ H5 q1 = some (.lst (vI mm)) ∧ (∃ kvs ks, H5 d = some (.dK kvs) ∧ IsK kvs ks ∧ LI g t ls mm ks D) ∧ H5 p = some (.lst us) ∧ Al (rT rN H5) us ls
      refine ⟨_, rfl, h, rfl, ⟨_, SqL.of (by rw [upd_ne nq1h.symm, upd_ne hne]; exact s3 _ _ hh)⟩, for_list (xs := vI l) (fun i σ H5 => ∃ mm o7 o8, σ = [some v, some (.int (t : Nat)), some (.ref nr), some (.ref d), some (.ref p), some (.ref h), some (.ref q1), o7, o8] ∧ G H5 mm (fun u => u ∈ ls.flatten ∨ u ∈ l.take i) (us ++ [.ref tp]) (ls ++ [l']))
        ⟨[], o7, o8, rfl, s4.trans sq, by rw [upd_ne nq1h.symm, upd_ne hne]; exact s3 _ _ hh, upd_same, ⟨kvs, ks, by rw [upd_ne nq1d.symm, upd_ne npd.symm]; exact s3 _ _ hd, hk, (li.turn perm e).upd fun u hu => hu.elim .inl fun k => (by simp at k)⟩, by rw [upd_ne nq1p.symm, upd_same], (moT moN).al (Same.ts sq) al4⟩
        (fun i σ H5 _ ⟨_, _, _, _, _, hh5, _⟩ => SqL.of hh5) ?_ ?_⟩
      · rintro i x σ H5 hx ⟨mm, o7, o8, rfl, s5, hh5, hq5, ⟨kvs5, ks5, hd5, hk5, li5⟩, hp5, al5⟩
        obtain ⟨u, hu1, rfl⟩ := vI_get hx
        have uva := vaL u (List.mem_of_getElem? hu1)
        obtain ⟨rs, hnr, hlen, hrows⟩ := nbl_mo s5 hnb
        have hru : rs[u]? = some (rs[u]'(by omega)) := List.getElem?_eq_getElem (by omega)
        obtain ⟨b, row, eb, hb, hrow⟩ := hrows u _ hru
        rw [eb] at hru
        have nbq : ∀ H6 : Hp, Same H1 H6 → ∃ rs b, H6 nr = some (.lst rs) := fun H6 s6 => by
          obtain ⟨rs, k, _⟩ := nbl_mo s6 hnb
          exact ⟨rs, 0, k⟩
        have hb1 : H1 b = some (.lst (vI row)) := by
          obtain ⟨rs', k1, k2, k3⟩ := hnb
          have e1 := s5 _ _ k1
          rw [hnr] at e1
          cases e1
          obtain ⟨b', row', eb', hb', hrow'⟩ := k3 u _ hru
          cases eb'
          have := s5 _ _ hb'
          rw [hb] at this
          rw [hb', this]
        refine ⟨_, rfl, _, rfl, nr, rs, _, .ref b, rfl, rfl, SqL.of hnr, at_nat hru, b, rfl, ⟨_, SqL.of hb⟩, for_list (xs := vI row) (fun j σ H6 => ∃ mm o8, σ = [some v, some (.int (t : Nat)), some (.ref nr), some (.ref d), some (.ref p), some (.ref h), some (.ref q1), some (.int (u : Nat)), o8] ∧ G H6 mm (fun u => u ∈ ls.flatten ∨ u ∈ l.take i) (us ++ [.ref tp]) (ls ++ [l']) ∧
            ∃ kvs ks, H6 d = some (.dK kvs) ∧ IsK kvs ks ∧ ∀ v ∈ row.take j, v ∈ ks)
          ⟨mm, o8, rfl, ⟨s5, hh5, hq5, ⟨kvs5, ks5, hd5, hk5, li5⟩, hp5, al5⟩, kvs5, ks5, hd5, hk5, fun v hv => (by simp at hv)⟩ (fun j σ H6 _ ⟨_, _, _, ⟨s6, _⟩, _⟩ => SqL.of (s6 _ _ hb1)) ?_ ?_⟩
        · rintro j x σ H6 hx6 ⟨mm6, o8, rfl, ⟨s6, hh6, hq6, ⟨kvs6, ks6, hd6, hk6, li6⟩, hp6, al6⟩, kvs6', ks6', hd6', hk6', seen6⟩
          obtain ⟨w', hw1, rfl⟩ := vI_get hx6
          have e6 : kvs6' = kvs6 := by
            rw [hd6] at hd6'
            cases hd6'
            rfl
          subst e6
          have mem6 : ∀ x, x ∈ ks6' ↔ x ∈ ks6 := fun x => by
            have a1 := hk6.some x
            rw [hk6'.some x] at a1
            exact decide_eq_decide.mp a1
          have hnw : Nb g u w' := (hrow w').mp (List.mem_of_getElem? hw1)
          have rcu : Rc g t u := li.rc u ((li.mem u).mpr (.inr (List.mem_of_getElem? hu1)))
          have rcw := rcu.step hnw
          refine ⟨_, rfl, _, rfl, d, _, rfl, DGet.k (k := .inl (w' : Int)) hd6, _, rfl, ?_⟩
          rw [hk6.some]
          by_cases mw : w' ∈ ks6
          · rw [decide_eq_true mw]
            refine iteF ⟨mm6, _, rfl, ⟨s6, hh6, hq6, ⟨kvs6', ks6, hd6, hk6, li6⟩, hp6, al6⟩, kvs6', ks6, hd6, hk6, fun x hx => ?_⟩
            rw [take_one hw1] at hx
            rcases List.mem_append.mp hx with k | k
            · exact (mem6 x).mp (seen6 x k)
            · rw [List.mem_singleton] at k
              exact k ▸ mw
          · rw [decide_eq_false mw]
            obtain ⟨ks7, hk7, m7⟩ := hk6.put w' (.bl true)
            have li7 := li6.more rcw mw m7
            have few7 := li7.few ok ht
            refine iteT ?_
            refine ⟨_, rfl, _, rfl, d, _, rfl, DPut.k (k := .inl (w' : Int)) hd6 (small8 hk6 (rc_8 ok ht li6)), ?_⟩
            have tD := ts_put (o := .dK (putK kvs6' (.inl (w' : Int)) (.bl true))) hd6 (fun _ e => HO.noConfusion e)
            have hq7 : (upd H6 d (.dK (putK kvs6' (.inl (w' : Int)) (.bl true)))) q1 = some (.lst (vI mm6)) := by rw [upd_ne nq1d]; exact hq6
            rw [List.length_append] at few7
            refine ⟨_, rfl, .inl ⟨rfl, _, SqL.of hq7⟩, _, rfl, q1, vI mm6, _, rfl, rfl, hq7, Nat.lt_of_le_of_lt (by rw [List.length_map]; omega : (vI mm6).length ≤ 64) (by decide), ?_⟩
            have tQ := ts_put (o := .lst (vI mm6 ++ [.int (w' : Int)])) hq7 (fun _ e => HO.noConfusion e)
            have hd8 : (upd (upd H6 d (.dK (putK kvs6' (.inl (w' : Int)) (.bl true)))) q1 (.lst (vI mm6 ++ [.int (w' : Int)]))) d = some (.dK (putK kvs6' (.inl (w' : Int)) (.bl true))) := by rw [upd_ne nq1d.symm, upd_same]
            refine ⟨mm6 ++ [w'], _, rfl, ⟨fun b o eb => ?_, ?_, ?_, ⟨_, ks7, hd8, hk7, li7⟩, ?_, (moT moN).al (tD.trans tQ) al6⟩, _, ks7, hd8, hk7, fun x hx => ?_⟩
            · rw [upd_ne (ne_of_none eb nq1H), upd_ne (ne_of_none eb nd)]
              exact s6 _ _ eb
            · rw [upd_ne nq1h.symm, upd_ne nhd]
              exact hh6
            · rw [upd_same, vI_snoc]
            · rw [upd_ne nq1p.symm, upd_ne npd]
              exact hp6
            · rw [take_one hw1] at hx
              rw [m7]
              rcases List.mem_append.mp hx with k | k
              · exact .inr ((mem6 x).mp (seen6 x k))
              · rw [List.mem_singleton] at k
                exact .inl k
        · rintro σ H6 ⟨mm6, o8, rfl, ⟨s6, hh6, hq6, ⟨kvs6, ks6, hd6, hk6, li6⟩, hp6, al6⟩, kvs6', ks6', hd6', hk6', seen6⟩
          have e6 : kvs6' = kvs6 := by
            rw [hd6] at hd6'
            cases hd6'
            rfl
          subst e6
          rw [List.length_map, List.take_length] at seen6
          refine ⟨mm6, _, o8, rfl, s6, hh6, hq6, ⟨kvs6', ks6, hd6, hk6, li6.upd fun y hy => ?_⟩, hp6, al6⟩
          rcases hy with k | k
          · exact .inl (.inl k)
          · rw [take_one hu1] at k
            rcases List.mem_append.mp k with k | k
            · exact .inl (.inr k)
            · rw [List.mem_singleton] at k
              subst k
              refine .inr fun v hv => ?_
              have a1 := hk6.some v
              rw [hk6'.some v] at a1
              exact (decide_eq_decide.mp a1).mp (seen6 v ((hrow v).mpr hv))
      · rintro σ H5 ⟨mm, o7, o8, rfl, s5, hh5, hq5, ⟨kvs5, ks5, hd5, hk5, li5⟩, hp5, al5⟩
        rw [List.length_map, List.take_length] at li5
        refine ⟨_, rfl, m - l'.length, by rw [perm.length_eq]; omega, q1, mm, ls ++ [l'], ks5, kvs5, _, _, o7, o8, rfl, s5, hq5, nq1p, hd5, hk5, hp5, al5, li5.upd fun u hu => ?_, shp.turn perm li5 fun u hu => .inr hu, ?_⟩
        · rw [List.flatten_append, List.mem_append] at hu
          refine .inl (hu.imp id fun k => ?_)
          exact perm.mem_iff.mp (by simpa using k)
        · rw [List.flatten_append, List.length_append]
          simp only [List.flatten_cons, List.flatten_nil, List.append_nil]
          omega
end
end WP
set_option Elab.async false
set_option linter.all false
set_option maxRecDepth 100000
/-! membership of small numbers; sets made by comprehensions; loops by walks -/
namespace WP
open PySem L2 WR WM
theorem inV_nat (n : Nat) (l : List Nat) : inV (.int (n : Int)) (vI l) = decide (n ∈ l) := by
  unfold inV
  rw [List.any_map]
  induction l with
  | nil => rfl
  | cons a l ih =>
    rw [List.any_cons, ih]
    have e : ((fun y => eqV y (V.int (n : Int))) ∘ fun n : Nat => V.int (n : Int)) a = decide (n = a) := by
      show decide ((a : Int) = (n : Int)) = _
      by_cases h : n = a
      · subst h; simp
      · rw [decide_eq_false h, decide_eq_false (by omega)]
    rw [e]
    simp [Bool.decide_or]
theorem vI_flat (l : List Nat) : (vI l).all flatV = true := by
  rw [List.all_map, List.all_eq_true]
  intro x _
  rfl
section
variable {X : Cx} {K : PySem.W.Frag}
theorem op_inN (e : X.K = K) : OpR X (compareOp .In) (fun x y H Q => ∃ p l, ∃ n : Nat, x = .int (n : Int) ∧ y = .ref p ∧ (SqL K H p (vI l) ∨ SqT K H p (vI l)) ∧ Q (.bl (decide (n ∈ l))) H) := by
  subst e
  intro pins s σ H x y v u Q I rx ry h
  obtain ⟨p, l, n, rfl, rfl, hs, q⟩ := h
  refine op_in_seq pins s σ H _ _ v u Q I rx ry ⟨p, vI l, rfl, hs, rfl, vI_flat l, ?_⟩
  show Q (.bl (inV _ _)) H
  rw [inV_nat]
  exact q
end
/-- {k: v for x in xs if c}, keys small numbers -/
theorem dc_fm {J : It} {n : Nat} {G : Hp → Prop} {Y : Nat → Hp → V → Hp → Prop} (w : Walk J n G Y) (f : Nat → Option Nat) {g : TG} {tt : TT} {tk tv : TE} {vs : List Nat} {σ : L2.St} {H : Hp} {D : Addr} {Qd : Hp → Prop} (nD : H D = none)
    (hf : ∀ i m, i < n → f i = some m → m < 8) (hG : ∀ H', Same H H' → G H')
    (step : ∀ i x H2 H3 (Z : V → V → Hp → Prop) (Z0 : Hp → Prop), i < n → Same H H2 → Y i H2 x H3 → (∀ m z H5, f i = some m → Same H2 H5 → Z (.int (m : Int)) z H5) → (f i = none → ∀ H5, Same H2 H5 → Z0 H5) →
      g x (wipe σ vs) H3 fun σ2 H4 => wipe σ2 vs = wipe σ vs ∧ tt σ2 H4 fun b H6 => if b = true then tk σ2 H6 fun y H7 => tv σ2 H7 fun z H8 => Z y z H8 else Z0 H6)
    (q : ∀ H' kvs ks, Same H H' → H' D = some (.dK kvs) → IsK kvs ks → (∀ m, m ∈ ks ↔ ∃ i, i < n ∧ f i = some m) → Qd H') :
    ∃ W : Nat → Nat → Hp → Prop, (∃ m, W 0 m (upd H D (.dK []))) ∧ ∀ i m H, W i m H →
      (J.stop i H ∧ Qd H) ∨ (J.go i H ∧ ∃ Nx : Hp → Prop, (∀ H', Nx H' → ∃ m', m' < m ∧ W (i + 1) m' H') ∧ ∀ x H', J.yld i H x H' → g x (wipe σ vs) H' fun σ2 H2 => wipe σ2 vs = wipe σ vs ∧ tt σ2 H2 fun b H3 =>
        if b = true then tk σ2 H3 fun y H4 => tv σ2 H4 fun z H5 => ∃ kvs k, y = kV k ∧ H5 D = some (.dK kvs) ∧ kvs.length < sizeLine ∧ Nx (upd H5 D (.dK (putK kvs k z))) else Nx H3) := by
  refine it_w (n := n) w (fun i H2 => i ≤ n ∧ Same H H2 ∧ ∃ kvs ks, H2 D = some (.dK kvs) ∧ IsK kvs ks ∧ ∀ m, m ∈ ks ↔ ∃ j, j < i ∧ f j = some m) ⟨Nat.zero_le _, same_new nD, [], [], upd_same, isK_nil, fun m => ⟨fun h => (by cases h), fun ⟨j, hj, _⟩ => (by omega)⟩⟩ (fun i H2 _ p => hG H2 p.2.1) ?_ ?_
  · rintro i x H2 H3 hi ⟨_, sm, kvs, ks, hD, hk, hm⟩ y
    have b8 : ∀ u ∈ ks, u < 8 := fun u hu => by
      obtain ⟨j, hj, e⟩ := (hm u).mp hu
      exact hf j u (by omega) e
    refine step i x H2 H3 _ _ hi sm y (fun m z H5 e s5 => ⟨kvs, .inl (m : Int), rfl, s5 _ _ hD, small8 hk b8, hi, fun b o e => ?_, ?_⟩) fun e H5 s5 => ⟨hi, sm.trans s5, kvs, ks, s5 _ _ hD, hk, fun m => (hm m).trans ⟨fun ⟨j, hj, k⟩ => ⟨j, by omega, k⟩, fun ⟨j, hj, k⟩ => ?_⟩⟩
    · rw [upd_ne (ne_of_none e nD)]
      exact s5 _ _ (sm _ _ e)
    · obtain ⟨ks', k1, k2⟩ := hk.put m z
      refine ⟨_, ks', upd_same, k1, fun u => ?_⟩
      rw [k2, hm]
      constructor
      · rintro (rfl | ⟨j, hj, k⟩)
        · exact ⟨i, by omega, e⟩
        · exact ⟨j, by omega, k⟩
      · rintro ⟨j, hj, k⟩
        by_cases q : j = i
        · subst q
          rw [e] at k
          exact .inl (Option.some.inj k).symm
        · exact .inr ⟨j, by omega, k⟩
    · by_cases q : j = i
      · subst q
        rw [e] at k
        cases k
      · exact ⟨j, by omega, k⟩
  · rintro H2 ⟨_, sm, kvs, ks, hD, hk, hm⟩
    exact q H2 kvs ks sm hD hk hm
end WP
set_option Elab.async false
set_option linter.all false
set_option maxRecDepth 100000
/-! pieces: apart, pieces -/
namespace WP
open PySem L2 WR WM
section
variable {P : Program} {w : World} {K : PySem.W.Frag} {mg : Str → Option Value} {base : Heap}
/-! ### apart -/
abbrev sApt : Stmt := topS 22
theorem scApt : FnScope ["gluing", "t", "u", "number", "lot"] ["gluing", "t", "u"] (defScope sApt) := ⟨rfl, rfl, rfl, by decide +kernel, rfl, by decide +kernel, by decide +kernel⟩
def spApt : Sp := fun vs H Q _ => ∃ v t u g, vs = [v, .int (t : Nat), .int (u : Nat)] ∧ rG H v g ∧ Ok g ∧ t < g.1.length ∧ u ≠ t ∧ Nb g t u ∧ ∀ H', Same H H' → Q (.int 1) H'
theorem ok_apt {f : Addr} {fd : FuncData} (F : Fun K "apart" "apart" sApt f fd) (B : Bl mg) (cL : Cal P w K mg base "layers" 2 ["gluing", "t"] spLrs) : FnOk P w K mg base CX0 3 f fd ["gluing", "t", "u"] spApt := by
  obtain ⟨fL, dL, GL, gL, kL, bL⟩ := cL
  refine F.ok scApt (fun vs H Q E h => ?_) (fun cdv A outer s H vs Q E hr h => ?_)
  · obtain ⟨v, t, u, g, rfl, _⟩ := h
    rfl
  · obtain ⟨v, t, u, g, rfl, hg, ok, ht, hut, hnb, q⟩ := h
    refine ⟨_, pss_cons (ps_for PassesOwn.never rfl (pi_enum (by rfl) B.enu (pa_cons (pe_call GL hr (by rfl) gL kL bL .nil pass0 (pa_cons (pv 0) (pa_cons (pv 1) pa_nil))) pa_nil))
        (pg_tup rfl (pgs_cons (pg_name (i := 3) scApt.nd rfl (.inl rfl)) (pgs_cons (pg_name (i := 4) scApt.nd rfl (.inl rfl)) pgs_nil)))
        (pss_one (ps_if (pt_cmpR (op_inN (K := K) rfl) (pv 2) (pv 4) rfl) (pss_one (ps_ret (pv 3))) pss_nil)))
      (pss_one (ps_ret pe_non)), ?_⟩
    refine ⟨v, rfl, _, rfl, v, t, g, rfl, hg, ok, ht, fun H1 p ls s1 np ⟨us, hp, al⟩ L => ⟨p, us, rfl, SqL.of hp, ?_⟩⟩
    have hl := al.length
    obtain ⟨l1, e1, m1⟩ := L.nxt u hut hnb
    have h2 := (List.getElem?_eq_some_iff.mp e1).1
    refine for_it (walk_enum (xs := us)) (fun i σ H2 => i ≤ 1 ∧ Same H1 H2 ∧ ∃ o3 o4, σ = [some v, some (.int (t : Nat)), some (.int (u : Nat)), o3, o4]) ⟨Nat.zero_le _, Same.refl _, none, none, rfl⟩ (fun i σ H2 _ h => SqL.of (h.2.1 _ _ hp)) ?_ ?_
    · rintro i x σ H2 H3 hi ⟨i1, s2, o3, o4, rfl⟩ ⟨T, x1, x2, rfl, nT, rfl, e1', e2'⟩
      have ex : x1 = .int (i : Nat) := (Option.some.inj e1').symm
      subst ex
      have sT := same_new (o := .tup [.int (i : Nat), x2]) nT
      obtain ⟨l, hl1, r⟩ := al.get e2'
      obtain ⟨a, rfl, ha⟩ := rT_vI r
      refine ⟨T, _, rfl, SqT.of upd_same, rfl, _, _, rfl, _, _, rfl, rfl, ?_⟩
      refine ⟨_, rfl, _, rfl, a, l, u, rfl, rfl, .inr (SqT.of (sT _ _ (s2 _ _ ha))), _, rfl, ?_⟩
      by_cases h0 : i = 0
      · subst h0
        rw [L.hd] at hl1
        cases Option.some.inj hl1
        rw [decide_eq_false (by simpa using hut)]
        exact iteF ⟨Nat.le_refl 1, s2.trans sT, _, _, rfl⟩
      · have h1 : i = 1 := by omega
        subst h1
        rw [e1] at hl1
        cases Option.some.inj hl1
        rw [decide_eq_true m1]
        exact iteT ⟨_, rfl, q _ (s1.trans (s2.trans sT))⟩
    · rintro σ H2 ⟨h, _⟩
      omega

/-! ### pieces -/
abbrev sPcs : Stmt := topS 23
theorem scPcs : FnScope ["gluing", "seen", "found", "t", "lot", "some", "one"] ["gluing"] (defScope sPcs) := ⟨rfl, rfl, rfl, by decide +kernel, rfl, by decide +kernel, by decide +kernel⟩
def spPcs : Sp := fun vs H Q _ => ∃ v g, vs = [v] ∧ rG H v g ∧ Ok g ∧ ∀ H' p us, Same H H' → H' p = some (.lst us) → (us.length = 1 ↔ Conn g) → Q (.ref p) H'
/-- how far the pieces are -/
def PI_ (g : Gl) (i n : Nat) (ks : List Nat) : Prop := (∀ t, t < i → t ∈ ks) ∧ n ≤ i ∧ (∀ u ∈ ks, u < g.1.length) ∧ ((i = 0 ∧ n = 0 ∧ ks = []) ∨ (1 ≤ i ∧ n = 1 ∧ ∀ u, u ∈ ks ↔ Rc g 0 u) ∨ (1 ≤ i ∧ 2 ≤ n ∧ ¬ Conn g))
theorem PI_.skip {g : Gl} {i n : Nat} {ks : List Nat} (h : PI_ g i n ks) (m : i ∈ ks) : PI_ g (i + 1) n ks := by
  obtain ⟨h1, h2, h3, h4⟩ := h
  refine ⟨fun t ht => ?_, by omega, h3, ?_⟩
  · by_cases e : t = i
    · exact e ▸ m
    · exact h1 t (by omega)
  · rcases h4 with ⟨_, _, rfl⟩ | ⟨a, b, c⟩ | ⟨a, b, c⟩
    · cases m
    · exact .inr (.inl ⟨by omega, b, c⟩)
    · exact .inr (.inr ⟨by omega, b, c⟩)
theorem PI_.add {g : Gl} (ok : Ok g) {i n : Nat} {ks ks' : List Nat} {ls : List (List Nat)} (hi : i < g.1.length) (h : PI_ g i n ks) (m : i ∉ ks) (L : Lrs g i ls) (hk : ∀ u, u ∈ ks' ↔ u ∈ ks ∨ u ∈ ls.flatten) : PI_ g (i + 1) (n + 1) ks' := by
  obtain ⟨h1, h2, h3, h4⟩ := h
  refine ⟨fun t ht => (hk t).mpr ?_, by omega, fun u hu => ?_, ?_⟩
  · by_cases e : t = i
    · exact .inr ((L.all t).mpr (e ▸ .refl))
    · exact .inl (h1 t (by omega))
  · rcases (hk u).mp hu with q | q
    · exact h3 u q
    · exact rc_va ok hi ((L.all u).mp q)
  · rcases h4 with ⟨rfl, rfl, rfl⟩ | ⟨a, b, c⟩ | ⟨a, b, c⟩
    · refine .inr (.inl ⟨Nat.le_refl _, rfl, fun u => ?_⟩)
      rw [hk, L.all]
      simp
    · exact .inr (.inr ⟨by omega, by omega, fun k => m ((c i).mpr (k i hi))⟩)
    · exact .inr (.inr ⟨by omega, by omega, c⟩)
theorem PI_.fin {g : Gl} (ok : Ok g) {n : Nat} {ks : List Nat} (h : PI_ g g.1.length n ks) : n = 1 ↔ Conn g := by
  obtain ⟨h1, h2, h3, h4⟩ := h
  have := ok.one
  rcases h4 with ⟨a, _, _⟩ | ⟨a, b, c⟩ | ⟨a, b, c⟩
  · omega
  · exact ⟨fun _ u hu => (c u).mp (h1 u hu), fun _ => b⟩
  · exact ⟨fun e => by omega, fun k => absurd k c⟩
theorem ok_pcs {f : Addr} {fd : FuncData} (F : Fun K "pieces" "pieces" sPcs f fd) (B : Bl mg) (cL : Cal P w K mg base "layers" 2 ["gluing", "t"] spLrs) : FnOk P w K mg base CX0 3 f fd ["gluing"] spPcs := by
  obtain ⟨fL, dL, GL, gL, kL, bL⟩ := cL
  refine F.ok scPcs (fun vs H Q E h => ?_) (fun cdv A outer s H vs Q E hr h => ?_)
  · obtain ⟨v, g, rfl, _⟩ := h
    rfl
  · obtain ⟨v, g, rfl, hg, ok, q⟩ := h
    have hu := hu_of hr
    refine ⟨_, pss_cons (ps_par (i := 1) (j := 2) (by rfl) scPcs.nd rfl rfl (by decide) rfl rfl (pa_cons pe_dnewK (pa_cons (pe_lst pa_nil) pa_nil)) (by rfl))
      (pss_cons (ps_for PassesOwn.never rfl (pi_range1 (by rfl) B.ran (pa_cons (pe_callB call_len_seq (by rfl) B.len PySem.boot_len (pa_cons (pe_ix ix_tup (pv 0) pe_int (fun _ _ => rfl)) pa_nil)) pa_nil)) (pg_name (i := 3) scPcs.nd rfl (.inl rfl))
        (pss_one (ps_if (pt_cmp (pc_dnotin hu (pv 3) (pv 1)))
          (pss_cons (ps_set (i := 4) scPcs.nd rfl (.inl rfl) (pe_callTy call_tuple_of (by rfl) B.tup (by decide +kernel) (pa_cons (pe_callB (cr_sortN (K := K) rfl) (by rfl) B.srt (by decide +kernel) (pa_cons
              (pe_lc2 (own := [("some", 5), ("one", 6)]) (vs1 := [6]) (g := gName 5) (g1 := gName 6) (tt := tYes) (tt1 := tYes) rfl scPcs.nd (pi_list (pe_call GL hr (by rfl) gL kL bL .nil pass0 (pa_cons (pv 0) (pa_cons (pv 3) pa_nil)))) (blkOk_by (N := ["gluing", "seen", "found", "t", "lot", "some", "one"]) (sc := defScope sPcs) (by decide +kernel)) (by decide)
                (fun _ _ _ _ _ => pg_name (i := 5) scPcs.nd rfl (Or.inl rfl)) (fun _ _ _ _ _ => pts_nil) (fun _ _ _ _ _ => pi_tupK (K := K) rfl (pv 5)) (fun _ _ _ _ _ => pg_name (i := 6) scPcs.nd rfl (Or.inl rfl)) (fun _ _ _ _ _ => pts_nil) (fun _ _ _ _ _ => pv 6)) pa_nil)) pa_nil)))
          (pss_cons (ps_expr (pe_bm PySem.F.plainAttrs_dict PySem.F.slot_dict_update PySem.F.type_dict_update mt_updK (pv 1) (pa_cons
            (pe_dc (own := [("one", 6)]) (g := gName 6) (tt := tYes) rfl scPcs.nd (pi_tup (pv 4)) (blkOk_by (N := ["gluing", "seen", "found", "t", "lot", "some", "one"]) (sc := defScope sPcs) (by decide +kernel))
              (fun _ _ _ _ _ => pg_name (i := 6) scPcs.nd rfl (Or.inl rfl)) (fun _ _ _ _ _ => pts_nil) (fun _ _ _ _ _ => pv 6) (fun _ _ _ _ _ => pe_bl)) pa_nil)))
          (pss_one (ps_expr (pe_bm PySem.F.plainAttrs_list PySem.F.slot_list_append PySem.F.type_list_append mt_append (pv 2) (pa_cons (pv 4) pa_nil)))))) pss_nil)))
      (pss_one (ps_ret (pv 2)))), ?_⟩
    refine fun d nd => ⟨Nat.zero_le _, fun p np => ⟨_, _, rfl, ?_⟩⟩
    have sd := same_new (o := .dK []) nd
    have sp := same_new (o := .lst []) np
    have hg2 := moG.mo (Same.ts (sd.trans sp)) hg
    obtain ⟨a, p1, p2, rfl, ha, h1, h2⟩ := id hg2
    obtain ⟨c, rfl, hc⟩ := sz_is h1
    have n8 := ok.few
    have np0 : H p = none := sd.free np
    have npd : p ≠ d := (ne_of_none upd_same np).symm
    refine ⟨_, rfl, a, _, 0, _, rfl, rfl, SqT.of ha, at_nat (n := 0) rfl, c, _, rfl, .inr (SqT.of hc), _, rfl, by rw [List.length_map]; omega, by rw [List.length_map]; omega, ?_⟩
    refine for_it (walk_range (n := (((g.1.map fun n : Nat => V.int (n : Int)).length : Nat) : Int).toNat)) (fun i σ H2 => Same H H2 ∧ ∃ o3 o4 kvs ks us, σ = [some (.ref a), some (.ref d), some (.ref p), o3, o4, none, none] ∧ H2 d = some (.dK kvs) ∧ IsK kvs ks ∧ H2 p = some (.lst us) ∧ PI_ g i us.length ks)
      ⟨sd.trans sp, none, none, [], [], [], rfl, sp _ _ upd_same, isK_nil, upd_same, fun t ht => (by omega), Nat.zero_le _, fun u hu => (by cases hu), .inl ⟨rfl, rfl, rfl⟩⟩ (fun _ _ _ _ _ => trivial) ?_ ?_
    · rintro i x σ H2 H3 hi ⟨sm, o3, o4, kvs, ks, us, rfl, hd, hk, hp, pi⟩ ⟨rfl, rfl⟩
      rw [List.length_map, Int.toNat_natCast] at hi
      have e0 : (0 + (i : Int)) = ((i : Nat) : Int) := Int.zero_add _
      show gName 3 (V.int (0 + (i : Int))) _ _ _
      rw [e0]
      refine ⟨_, rfl, _, rfl, d, _, rfl, DGet.k (k := .inl (i : Int)) hd, _, rfl, ?_⟩
      rw [hk.some]
      by_cases m : i ∈ ks
      · rw [decide_eq_true m]
        exact iteF ⟨sm, _, _, kvs, ks, us, rfl, hd, hk, hp, pi.skip m⟩
      · rw [decide_eq_false m]
        refine iteT ⟨_, rfl, _, rfl, _, i, g, rfl, moG.mo (Same.ts sm) hg, ok, hi, fun H4 pl ls s4 npl ⟨rs, hpl, al⟩ L => ⟨pl, rfl, ⟨_, SqL.of hpl⟩, fun D nD => ?_⟩⟩
        have flen : ls.flatten.length ≤ 8 := Nat.le_trans (nat_few L.nd fun u hu => rc_va ok hi ((L.all u).mp hu)) n8
        have hl := al.length
        have sub : ∀ j l k, ls[j]? = some l → ((ls.take j).flatten ++ l.take k).length ≤ 8 := fun j l k e => by
          have : ((ls.take j).flatten ++ l.take k).Sublist ls.flatten := by
            have e2 : ls.flatten = (ls.take (j + 1)).flatten ++ (ls.drop (j + 1)).flatten := by rw [← List.flatten_append, List.take_append_drop]
            rw [e2, take_one e, List.flatten_append]
            refine List.Sublist.trans ?_ (List.sublist_append_left _ _)
            refine (List.Sublist.refl _).append ?_
            simpa using List.take_sublist k l
          exact Nat.le_trans this.length_le flen
        refine it_w (n := rs.length) walk_list (fun j H5 => Same H4 H5 ∧ H5 D = some (.lst (vI (ls.take j).flatten))) ⟨same_new nD, upd_same⟩ (fun j H5 _ h => SqL.of (h.1 _ _ hpl)) ?_ ?_
        · rintro j x H5 H6 hj ⟨s5, hD⟩ ⟨rfl, hx⟩
          obtain ⟨l, hl1, r⟩ := al.get hx
          obtain ⟨b, rfl, hb⟩ := rT_vI r
          refine ⟨rfl, _, rfl, b, rfl, ⟨_, SqT.of (s5 _ _ hb)⟩, ?_⟩
          refine it_w (n := (vI l).length) walk_tup (fun k H7 => Same H4 H7 ∧ H7 D = some (.lst (vI ((ls.take j).flatten ++ l.take k)))) ⟨s5, by rw [List.take_zero, List.append_nil]; exact hD⟩ (fun k H7 _ h => SqT.of (h.1 _ _ hb)) ?_ ?_
          · rintro k y H7 H8 hk7 ⟨s7, hD7⟩ ⟨rfl, hy⟩
            obtain ⟨u, hu1, rfl⟩ := vI_get hy
            refine ⟨rfl, _, rfl, _, hD7, Nat.lt_of_le_of_lt (by rw [List.length_map]; exact sub j l k hl1) (by decide), fun b o e => ?_, ?_⟩
            · rw [upd_ne (ne_of_none e nD)]
              exact s7 _ _ e
            · rw [upd_same, take_one hu1, ← List.append_assoc, vI_snoc]
          · rintro H7 ⟨s7, hD7⟩
            refine ⟨s7, ?_⟩
            rw [List.length_map, List.take_length] at hD7
            rw [take_one hl1, List.flatten_append]
            simpa using hD7
        · rintro H5 ⟨s5, hD⟩
          rw [hl, List.take_length] at hD
          refine ⟨D, ls.flatten, rfl, SqL.of hD, by omega, fun l' pp perm npp => ⟨pp, vI l', rfl, .inl ⟨SqL.of upd_same, fun tp ntp => ?_⟩⟩⟩
          have s6 : Same H5 _ := (same_new (o := .lst (vI l')) npp).trans (same_new (o := .tup (vI l')) ntp)
          have sAll := s4.trans (s5.trans s6)
          have hd6 := sAll _ _ hd
          have hp6 := sAll _ _ hp
          have b8' : ∀ u ∈ l', u < g.1.length := fun u hu => rc_va ok hi ((L.all u).mp (perm.mem_iff.mp hu))
          refine ⟨_, rfl, .inr (.inr (.inl ⟨rfl, .inl ⟨_, hd6⟩⟩)), ?_⟩
          refine ⟨_, rfl, tp, rfl, ⟨_, SqT.of upd_same⟩, fun D2 nD2 => ?_⟩
          refine dc_fm (n := (vI l').length) walk_tup (fun j => l'[j]?) nD2 (fun j m _ e => by have := b8' m (List.mem_of_getElem? e); omega) (fun H' s => SqT.of (s _ _ upd_same)) ?_ ?_
          · rintro j x H7 H8 Z Z0 hj s7 ⟨rfl, hx⟩ z _
            obtain ⟨u, hu1, rfl⟩ := vI_get hx
            exact ⟨rfl, _, rfl, z u _ _ hu1 (Same.refl _)⟩
          · intro H7 more ms s7 hD2 hms mem
            obtain ⟨ks', hk', mk'⟩ := IsK.merge hms hk
            have memms : ∀ u, u ∈ ms ↔ u ∈ ls.flatten := fun u => by
              rw [mem, ← perm.mem_iff, List.mem_iff_getElem?]
              rw [List.length_map]
              exact ⟨fun ⟨j, _, e⟩ => ⟨j, e⟩, fun ⟨j, e⟩ => ⟨j, (List.getElem?_eq_some_iff.mp e).1, e⟩⟩
            have lk := hk.few pi.2.2.1
            have lm := hms.few (n := g.1.length) fun u hu => rc_va ok hi ((L.all u).mp ((memms u).mp hu))
            have nd2 : d ≠ D2 := ne_of_none hd6 nD2
            refine ⟨d, D2, kvs, more, rfl, rfl, s7 _ _ hd6, hD2, nd2, Nat.le_trans (by omega : _ ≤ 64) (by decide), ?_⟩
            have hp7 : (upd H7 d (.dK (mergeK kvs more))) p = some (.lst us) := by
              rw [upd_ne npd]
              exact s7 _ _ hp6
            have := pi.2.1
            refine ⟨_, rfl, .inl ⟨rfl, _, SqL.of hp7⟩, _, rfl, p, us, _, rfl, rfl, hp7, Nat.lt_of_le_of_lt (by omega : us.length ≤ 64) (by decide), ?_⟩
            refine ⟨fun b o e => ?_, _, _, _, ks', us ++ [.ref tp], rfl, ?_, hk', upd_same, ?_⟩
            · rw [upd_ne (ne_of_none e np0), upd_ne (ne_of_none e nd)]
              exact s7 _ _ (sAll _ _ (sm _ _ e))
            · rw [upd_ne npd.symm, upd_same]
            · rw [List.length_append, List.length_singleton]
              exact pi.add ok hi m L fun u => by rw [mk', memms]
    · rintro σ H2 ⟨sm, o3, o4, kvs, ks, us, rfl, hd, hk, hp, pi⟩
      rw [List.length_map, Int.toNat_natCast] at pi
      exact ⟨_, rfl, q H2 p us sm hp (pi.fin ok)⟩
end
end WP
set_option Elab.async false
set_option linter.all false
set_option maxRecDepth 100000
/-! comprehensions over a list or tuple, by its items -/
namespace WP
open PySem L2 WR WM
theorem range_get {α : Type} (xs : List α) : ∀ i, i ≤ xs.length → (List.range i).filterMap (fun i => xs[i]?) = xs.take i
  | 0, _ => by simp
  | i + 1, h => by
    have e : xs[i]? = some (xs[i]'(by omega)) := List.getElem?_eq_getElem (by omega)
    rw [List.range_succ, List.filterMap_append, range_get xs i (by omega), take_one e]
    simp [e]
theorem range_bind {α β : Type} (xs : List α) (f : α → Option β) : (List.range xs.length).filterMap (fun i => (xs[i]?).bind f) = xs.filterMap f := by
  have h := range_get xs xs.length (Nat.le_refl _)
  rw [List.take_length] at h
  have : (xs.filterMap f) = ((List.range xs.length).filterMap (fun i => xs[i]?)).filterMap f := by rw [h]
  rw [this, List.filterMap_filterMap]
/-- [e for x in xs if c], by the items -/
theorem lc_src {α β : Type} {R : Rl β} (mR : Mo R) {S : Rl α} (mS : Mo S) {us : List V} {xs : List β} {J : It} {G : Hp → Prop} (w : Walk J us.length G (YAt us)) (f : β → Option α) {g : TG} {tt : TT} {te : TE} {vs : List Nat} {σ : L2.St} {H : Hp} {D : Addr} {Qd : Hp → Prop} (nD : H D = none)
    (al : Al (R H) us xs) (hn : xs.length ≤ 64) (hG : ∀ H', Same H H' → G H')
    (step : ∀ b x H2 us (Z : VK) (Z0 : Hp → Prop), b ∈ xs → Same H H2 → H2 D = some (.lst us) → us.length ≤ 64 → R H2 x b → (∀ y H5 a, f b = some a → Same H2 H5 → S H5 y a → Z y H5) → (f b = none → ∀ H5, Same H2 H5 → Z0 H5) →
      g x (wipe σ vs) H2 fun σ2 H4 => wipe σ2 vs = wipe σ vs ∧ tt σ2 H4 fun b H6 => if b = true then te σ2 H6 Z else Z0 H6)
    (q : ∀ H', Same H H' → rL S H' D (xs.filterMap f) → Qd H') :
    ∃ W : Nat → Nat → Hp → Prop, (∃ m, W 0 m (upd H D (.lst []))) ∧ ∀ i m H, W i m H →
      (J.stop i H ∧ Qd H) ∨ (J.go i H ∧ ∃ Nx : Hp → Prop, (∀ H', Nx H' → ∃ m', m' < m ∧ W (i + 1) m' H') ∧ ∀ x H', J.yld i H x H' → g x (wipe σ vs) H' fun σ2 H2 => wipe σ2 vs = wipe σ vs ∧ tt σ2 H2 fun b H3 =>
        if b = true then te σ2 H3 fun y H4 => ∃ acc, H4 D = some (.lst acc) ∧ acc.length < sizeLine ∧ Nx (upd H4 D (.lst (acc ++ [y]))) else Nx H3) := by
  have hl := al.length
  refine lc_fm mS w (fun i => (xs[i]?).bind f) nD (by omega) hG ?_ ?_
  · rintro i x H2 H3 us' Z Z0 hi sm hD hl' ⟨rfl, hx⟩ z z0
    obtain ⟨b, hb, r⟩ := al.get hx
    rw [hb] at z z0
    exact step b x _ us' Z Z0 (List.mem_of_getElem? hb) sm hD hl' (mR.mo (Same.ts sm) r) z z0
  · intro H' sm r
    rw [hl, range_bind] at r
    exact q H' sm r
section
variable {X : Cx} {K : PySem.W.Frag}
theorem mt_lcountK (e : X.K = K) : MtR X "list.count" (rCntI K) := e ▸ mt_lcount
theorem pe_bmK {o e : Expr} {es : List Expr} {to : TE} {t : TA} {name : Str} {apos cpos : Pos} {T id : String} {r : V → List V → Hp → VK → Prop} (ek : X.K = K) (pa : PlainAttrs T) (slot : Slot T name id) (hty : typeOf (.builtin id) = pure (.type "method_descriptor")) (hm : MtR X id r) (ho : PE X o to) (ha : PA X (e :: es) t)
    (hbase : attributeBase o name X.env (eval o X.env) = eval o X.env := by rfl)
    (hfew : ((backTo cpos (starEach (e :: es) X.env)).all (fun x => !x.1) && (backToKw cpos (keywordEach [] X.env)).all (fun x => x.1.isSome)
      && decide ((e :: es).length + ([] : List Keyword).length + (if ([] : List Keyword).isEmpty then 0 else 1) < 30)) = true := by rfl)
    (hline : (apos.endLine == cpos.line) = true := by rfl) (hs : starEach (e :: es) X.env = (false, eval e X.env) :: starEach es X.env := by rfl) (hplain : (backTo cpos (starEach es X.env)).any (·.1) = false := by rfl) :
    PE X (.Call (.Attribute o name apos) (e :: es) [] cpos) (tBM K T r to t) := ek ▸ pe_bm pa slot hty hm ho ha hbase hfew hline hs hplain
end
/-- the tiles of a corner's sides -/
def tl (c : List WM.Sd) : List Nat := c.map (·.1)
theorem tiles_comp {K : PySem.W.Frag} {σ : L2.St} {H : Hp} {Q : VK} {k j : Nat} {a : Addr} {vs : List V} {c : List WM.Sd} (hk : σ[k]? = some (some (.ref a))) (hj : j < σ.length) (ha : H a = some (.tup vs)) (al : Al (rSd H) vs c) (hn : c.length ≤ 64)
    (q : ∀ D H', H D = none → Same H H' → H' D = some (.lst (vI (tl c))) → Q (.ref D) H') : tLc (iTup K (tVar k)) (gName j) tYes (tOp (rIxT K) (tVar j) (tC (.int 0))) [j] σ H Q := by
  refine ⟨_, hk, a, rfl, ⟨vs, SqT.of ha⟩, fun D nD => ?_⟩
  refine lc_src moSd moN walk_tup (fun x : WM.Sd => some x.1) nD al hn (fun H' s => SqT.of (s _ _ ha)) ?_ fun H' s r => ?_
  · intro b x H2 us Z Z0 hb sm hD hl r z _
    obtain ⟨d, rfl, hd⟩ := sd_is r
    obtain ⟨w1, w2⟩ := wipe_set (σ := σ) (v := V.ref d) hj
    exact ⟨w1, _, w2, d, _, 0, _, rfl, rfl, SqT.of hd, at_nat (n := 0) rfl, z _ _ _ rfl (Same.refl _) rfl⟩
  · rw [List.filterMap_eq_map'] at r
    exact q D H' nD s (rL_vI r)
end WP
set_option Elab.async false
set_option linter.all false
set_option maxRecDepth 100000
/-! pieces: touching, twice -/
namespace WP
open PySem L2 WR WM
theorem co_few {g : Gl} (ok : Ok g) {c : List WM.Sd} (h : Co g c) : c.length ≤ 64 := va_few ok h.nd h.val
theorem tl_va {g : Gl} {c : List WM.Sd} (h : Co g c) : ∀ u ∈ tl c, u < g.1.length := fun u hu => by
  obtain ⟨x, hx, rfl⟩ := List.mem_map.mp hu
  exact (h.val x hx).1
theorem cov_co {g : Gl} {C : List (List WM.Sd)} (cv : Cov (Va g) (Ph g) C) {c : List WM.Sd} (h : c ∈ C) : Co g c := cv.orb c h
theorem cov_perm {g : Gl} (ok : Ok g) {C : List (List WM.Sd)} (cv : Cov (Va g) (Ph g) C) {c : List WM.Sd} (h : Co g c) : ∃ d ∈ C, c.Perm d := by
  obtain ⟨x, hx⟩ := List.exists_mem_of_ne_nil c h.ne
  obtain ⟨d, hd, hxd⟩ := List.mem_flatten.mp ((cv.all x).mpr (h.val x hx))
  exact ⟨d, hd, Orb.perm ok h (cv.orb d hd) hx hxd⟩
/-- two tiles at one corner -/
def Tch (g : Gl) (t u : Nat) : Prop := u ≠ t ∧ ∃ c, Co g c ∧ t ∈ tl c ∧ u ∈ tl c
section
variable {P : Program} {w : World} {K : PySem.W.Frag} {mg : Str → Option Value} {base : Heap}
/-! ### touching -/
abbrev sTch : Stmt := topS 24
theorem scTch : FnScope ["gluing", "t", "found", "corner", "tiles", "share", "one"] ["gluing", "t"] (defScope sTch) := ⟨rfl, rfl, rfl, by decide +kernel, rfl, by decide +kernel, by decide +kernel⟩
def spTch : Sp := fun vs H Q _ => ∃ v t g, vs = [v, .int (t : Nat)] ∧ rG H v g ∧ Ok g ∧ ∀ H' p l, Same H H' → H p = none → H' p = some (.lst (vI l)) → l.length ≤ 8 → (∀ u, u ∈ l ↔ Tch g t u) → Q (.ref p) H'
theorem ok_tch {f : Addr} {fd : FuncData} (F : Fun K "touching" "touching" sTch f fd) (B : Bl mg) (cC : Cal P w K mg base "corners" 4 ["gluing"] spCor) : FnOk P w K mg base CX0 5 f fd ["gluing", "t"] spTch := by
  obtain ⟨fC, dC, GC, gC, kC, bC⟩ := cC
  refine F.ok scTch (fun vs H Q E h => ?_) (fun cdv A outer s H vs Q E hr h => ?_)
  · obtain ⟨v, t, g, rfl, _⟩ := h
    rfl
  · obtain ⟨v, t, g, rfl, hg, ok, q⟩ := h
    have hu := hu_of hr
    refine ⟨_, pss_cons (ps_set (i := 2) scTch.nd rfl (.inl rfl) pe_dnewK)
      (pss_cons (ps_for PassesOwn.never rfl (pi_list (pe_call GC hr (by rfl) gC kC bC .nil pass0 (pa_cons (pv 0) pa_nil))) (pg_name (i := 3) scTch.nd rfl (Or.inl rfl))
        (pss_cons (ps_setLc (i := 4) (own := [("share", 5)]) (g := gName 5) (tt := tYes) rfl scTch.nd rfl rfl (sw_true rfl rfl rfl (by decide +kernel))
          (pi_tup (pv 3)) (blkOk_by (N := ["gluing", "t", "found", "corner", "tiles", "share", "one"]) (sc := defScope sTch) (by decide +kernel))
          (fun _ _ _ _ _ => pg_name (i := 5) scTch.nd rfl (Or.inl rfl)) (fun _ _ _ _ _ => pts_nil) (fun _ _ _ _ _ => pe_ix (ix_tupK (K := K) rfl) (pv 5) pe_int (fun _ _ => rfl)))
        (pss_one (ps_if (pt_cmpR (op_inN (K := K) rfl) (pv 1) (pv 4) rfl)
          (pss_one (ps_expr (pe_bm PySem.F.plainAttrs_dict PySem.F.slot_dict_update PySem.F.type_dict_update mt_updK (pv 2) (pa_cons
            (pe_dc (own := [("one", 6)]) (g := gName 6) rfl scTch.nd (pi_list (pv 4)) (blkOk_by (N := ["gluing", "t", "found", "corner", "tiles", "share", "one"]) (sc := defScope sTch) (by decide +kernel))
              (fun _ _ _ _ _ => pg_name (i := 6) scTch.nd rfl (Or.inl rfl)) (fun _ _ _ _ _ => pts_one (pt_cmpR op_ne (pv 6) (pv 1) (nomark _))) (fun _ _ _ _ _ => pv 6) (fun _ _ _ _ _ => pe_bl)) pa_nil)))) pss_nil))))
      (pss_one (ps_ret (pe_callB (cr_sortDN rfl) (by rfl) B.srt (by decide +kernel) (pa_cons (pv 2) pa_nil))))), ?_⟩
    intro d nd
    have sd := same_new (o := .dK []) nd
    refine ⟨v, rfl, v, g, rfl, moG.mo (Same.ts sd) hg, ok, fun H1 p C s1 np ⟨us, hp, al⟩ cv => ⟨p, rfl, ⟨_, SqL.of hp⟩, ?_⟩⟩
    have s1' := sd.trans s1
    have ndH1 : H1 d = some (.dK []) := s1 _ _ upd_same
    have pd : p ≠ d := fun e => by
      rw [e, ndH1] at hp
      cases hp
    have n8 := ok.few
    refine for_list (xs := us) (fun i σ H2 => ∃ o3 o4 kvs ks, σ = [some v, some (.int (t : Nat)), some (.ref d), o3, o4, none, none] ∧ Same H H2 ∧ H2 p = some (.lst us) ∧ Al (rCo H2) us C ∧ H2 d = some (.dK kvs) ∧ IsK kvs ks ∧ (∀ u, u ∈ ks ↔ u ≠ t ∧ ∃ c ∈ C.take i, t ∈ tl c ∧ u ∈ tl c))
      ⟨none, none, [], [], rfl, s1', hp, al, ndH1, isK_nil, fun u => ⟨fun h => (by cases h), fun ⟨_, c, hc, _⟩ => (by simp at hc)⟩⟩ (fun i σ H2 _ ⟨_, _, _, _, _, _, h, _⟩ => SqL.of h) ?_ ?_
    · rintro i x σ H2 hx ⟨o3, o4, kvs, ks, rfl, sm, hp2, al2, hd, hk, mem⟩
      obtain ⟨c, hc, r⟩ := al2.get hx
      obtain ⟨b, cs, rfl, hb, alc⟩ := r
      have co := cov_co cv (List.mem_of_getElem? hc)
      show tAsg _ _ _ _ _
      show tLc _ _ _ _ _ _ _ _
      refine tiles_comp (K := K) (k := 3) (j := 5) rfl (by show 5 < 7; decide) hb alc (co_few ok co) fun D H3 nD s3 hD => ?_
      have b8 : ∀ u ∈ ks, u < 8 := fun u hu => by
        obtain ⟨_, c, hc, _, h⟩ := (mem u).mp hu
        have := tl_va (cov_co cv (List.mem_of_mem_take hc)) u h
        omega
      have al3 := moCo.al (Same.ts s3) al2
      refine ⟨_, rfl, _, rfl, D, tl c, t, rfl, rfl, .inl (SqL.of hD), _, rfl, ?_⟩
      by_cases m : t ∈ tl c
      · rw [decide_eq_true m]
        refine iteT ⟨_, rfl, .inr (.inr (.inl ⟨rfl, .inl ⟨_, s3 _ _ hd⟩⟩)), ?_⟩
        refine ⟨_, rfl, D, rfl, ⟨_, SqL.of hD⟩, fun D2 nD2 => ?_⟩
        refine dc_fm (n := (vI (tl c)).length) walk_list (fun j => ((tl c)[j]?).bind fun u => if u = t then none else some u) nD2 ?_ (fun H' s => SqL.of (s _ _ hD)) ?_ ?_
        · intro j u _ e
          cases eq : (tl c)[j]? with
          | none => rw [eq] at e; cases e
          | some u' =>
            rw [eq] at e
            have e : (if u' = t then none else some u') = some u := e
            split at e
            · cases e
            · cases e
              have := tl_va co _ (List.mem_of_getElem? eq)
              omega
        · rintro j x H7 H8 Z Z0 hj s7 ⟨rfl, hx⟩ z z0
          obtain ⟨u, hu1, rfl⟩ := vI_get hx
          rw [hu1] at z z0
          refine ⟨rfl, _, rfl, _, rfl, rfl, _, rfl, ?_⟩
          by_cases e : u = t
          · subst e
            rw [show (!decide (V.int (u : Int) = V.int (u : Int))) = false by simp]
            exact iteF (z0 (if_pos rfl) _ (Same.refl _))
          · rw [show (!decide (V.int (u : Int) = V.int (t : Int))) = true by
              rw [decide_eq_false (fun h => e (by injection h with h; omega))]
              rfl]
            exact iteT ⟨_, rfl, z u _ _ (if_neg e) (Same.refl _)⟩
        · intro H7 more ms s7 hD2 hms mm
          obtain ⟨ks', hk', mk'⟩ := IsK.merge hms hk
          have mm' : ∀ u, u ∈ ms ↔ u ≠ t ∧ u ∈ tl c := fun u => by
            rw [mm]
            constructor
            · rintro ⟨j, _, e⟩
              cases eq : (tl c)[j]? with
              | none => rw [eq] at e; cases e
              | some u' =>
                rw [eq] at e
                have e : (if u' = t then none else some u') = some u := e
                split at e
                · cases e
                · rename_i ne
                  cases e
                  exact ⟨ne, List.mem_of_getElem? eq⟩
            · rintro ⟨ne, hu⟩
              obtain ⟨j, e⟩ := List.mem_iff_getElem?.mp hu
              refine ⟨j, by rw [List.length_map]; exact (List.getElem?_eq_some_iff.mp e).1, ?_⟩
              rw [e]
              exact if_neg ne
          have lk := hk.few b8
          have lm := hms.few (n := 8) fun u hu => by
            have := tl_va co u ((mm' u).mp hu).2
            omega
          have hd7 := s7 _ _ (s3 _ _ hd)
          have nd2 : d ≠ D2 := ne_of_none (s3 _ _ hd) nD2
          have tS := ts_put (o := .dK (mergeK kvs more)) hd7 (fun _ e => HO.noConfusion e)
          refine ⟨d, D2, kvs, more, rfl, rfl, hd7, hD2, nd2, Nat.le_trans (by omega : _ ≤ 64) (by decide), ?_⟩
          refine ⟨_, _, _, ks', rfl, fun b o e => ?_, ?_, moCo.al ((Same.ts s7).trans tS) al3, upd_same, hk', fun u => ?_⟩
          · rw [upd_ne (ne_of_none e nd)]
            exact s7 _ _ (s3 _ _ (sm _ _ e))
          · rw [upd_ne pd]
            exact s7 _ _ (s3 _ _ hp2)
          · rw [mk', mem, mm', take_one hc]
            constructor
            · rintro (⟨h1, c', h2, h3⟩ | ⟨h1, h2⟩)
              · exact ⟨h1, c', List.mem_append_left _ h2, h3⟩
              · exact ⟨h1, c, by simp, m, h2⟩
            · rintro ⟨h1, c', h2, h3, h4⟩
              rcases List.mem_append.mp h2 with k | k
              · exact .inl ⟨h1, c', k, h3, h4⟩
              · rw [List.mem_singleton] at k
                subst k
                exact .inr ⟨h1, h4⟩
      · rw [decide_eq_false m]
        refine iteF ⟨_, _, kvs, ks, rfl, sm.trans s3, s3 _ _ hp2, al3, s3 _ _ hd, hk, fun u => ?_⟩
        rw [mem, take_one hc]
        refine and_congr_right fun _ => ⟨fun ⟨c', h2, h3⟩ => ⟨c', List.mem_append_left _ h2, h3⟩, fun ⟨c', h2, h3, h4⟩ => ?_⟩
        rcases List.mem_append.mp h2 with k | k
        · exact ⟨c', k, h3, h4⟩
        · rw [List.mem_singleton] at k
          subst k
          exact absurd h3 m
    · rintro σ H2 ⟨o3, o4, kvs, ks, rfl, sm, hp2, al2, hd, hk, mem⟩
      rw [al2.length, List.take_length] at mem
      have b8 : ∀ u ∈ ks, u < 8 := fun u hu => by
        obtain ⟨_, c, hc, _, h⟩ := (mem u).mp hu
        have := tl_va (cov_co cv hc) u h
        omega
      have few : ks.length ≤ 8 := by
        have := hk.few b8
        rwa [hk.len] at this
      refine ⟨_, rfl, d, kvs, ks, rfl, hd, hk, by omega, fun l pl perm npl => ?_⟩
      refine q _ pl l (sm.trans (same_new npl)) (sm.free npl) upd_same (by rw [perm.length_eq]; exact few) fun u => ?_
      rw [perm.mem_iff, mem]
      refine and_congr_right fun _ => ⟨fun ⟨c, hc, k⟩ => ⟨c, cov_co cv hc, k⟩, fun ⟨c, hc, k1, k2⟩ => ?_⟩
      obtain ⟨e, he, pe⟩ := cov_perm ok cv hc
      exact ⟨e, he, (pe.map (·.1)).mem_iff.mp k1, (pe.map (·.1)).mem_iff.mp k2⟩
end
end WP
set_option Elab.async false
set_option linter.all false
set_option maxRecDepth 100000
/-! pieces: twice, counts, worth, is_whole, is_disc -/
namespace WP
open PySem L2 WR WM
section
variable {P : Program} {w : World} {K : PySem.W.Frag} {mg : Str → Option Value} {base : Heap}
/-! ### twice -/
abbrev sTwi : Stmt := topS 27
theorem scTwi : FnScope ["gluing", "found", "corner", "tiles", "share", "t"] ["gluing"] (defScope sTwi) := ⟨rfl, rfl, rfl, by decide +kernel, rfl, by decide +kernel, by decide +kernel⟩
def spTwi : Sp := fun vs H Q _ => ∃ v g, vs = [v] ∧ rG H v g ∧ Ok g ∧ ∀ H' p l, Same H H' → H p = none → H' p = some (.lst (vI l)) → (l = [] ↔ NoTwice g) → Q (.ref p) H'
theorem nodup_count {l : List Nat} : l.Nodup ↔ ∀ u ∈ l, ¬ 1 < l.count u := by
  rw [List.nodup_iff_count]
  constructor
  · intro h u _
    have := h u
    omega
  · intro h u
    by_cases m : u ∈ l
    · have := h u m
      omega
    · rw [List.count_eq_zero.mpr m]
      omega
theorem ok_twi {f : Addr} {fd : FuncData} (F : Fun K "twice" "twice" sTwi f fd) (B : Bl mg) (cC : Cal P w K mg base "corners" 4 ["gluing"] spCor) : FnOk P w K mg base CX0 5 f fd ["gluing"] spTwi := by
  obtain ⟨fC, dC, GC, gC, kC, bC⟩ := cC
  refine F.ok scTwi (fun vs H Q E h => ?_) (fun cdv A outer s H vs Q E hr h => ?_)
  · obtain ⟨v, g, rfl, _⟩ := h
    rfl
  · obtain ⟨v, g, rfl, hg, ok, q⟩ := h
    have hu := hu_of hr
    refine ⟨_, pss_cons (ps_set (i := 1) scTwi.nd rfl (.inl rfl) pe_dnewK)
      (pss_cons (ps_for PassesOwn.never rfl (pi_list (pe_call GC hr (by rfl) gC kC bC .nil pass0 (pa_cons (pv 0) pa_nil))) (pg_name (i := 2) scTwi.nd rfl (Or.inl rfl))
        (pss_cons (ps_set (i := 3) scTwi.nd rfl (.inr rfl) (pe_lc (own := [("share", 4)]) (g := gName 4) (tt := tYes) rfl scTwi.nd
          (pi_tup (pv 2)) (blkOk_by (N := ["gluing", "found", "corner", "tiles", "share", "t"]) (sc := defScope sTwi) (by decide +kernel))
          (fun _ _ _ _ _ => pg_name (i := 4) scTwi.nd rfl (Or.inl rfl)) (fun _ _ _ _ _ => pts_nil) (fun _ _ _ _ _ => pe_ix (ix_tupK (K := K) rfl) (pv 4) pe_int (fun _ _ => rfl))))
          (pss_one (ps_expr (pe_bm PySem.F.plainAttrs_dict PySem.F.slot_dict_update PySem.F.type_dict_update mt_updK (pv 1) (pa_cons
            (pe_dc (own := [("t", 5)]) (g := gName 5) rfl scTwi.nd (pi_list (pv 3)) (blkOk_by (N := ["gluing", "found", "corner", "tiles", "share", "t"]) (sc := defScope sTwi) (by decide +kernel))
              (fun _ _ _ _ _ => pg_name (i := 5) scTwi.nd rfl (Or.inl rfl)) (fun _ _ _ _ _ => pts_one (pt_cmpR op_gt (pe_bmK (K := K) rfl PySem.F.plainAttrs_list PySem.F.slot_list_count PySem.F.type_list_count (mt_lcountK (K := K) rfl) (pv 3) (pa_cons (pv 5) pa_nil)) pe_int (nomark _))) (fun _ _ _ _ _ => pv 5) (fun _ _ _ _ _ => pe_bl)) pa_nil))))))
      (pss_one (ps_ret (pe_callB (cr_sortDN rfl) (by rfl) B.srt (by decide +kernel) (pa_cons (pv 1) pa_nil))))), ?_⟩
    intro d nd
    have sd := same_new (o := .dK []) nd
    refine ⟨v, rfl, v, g, rfl, moG.mo (Same.ts sd) hg, ok, fun H1 p C s1 np ⟨us, hp, al⟩ cv => ⟨p, rfl, ⟨_, SqL.of hp⟩, ?_⟩⟩
    have s1' := sd.trans s1
    have ndH1 : H1 d = some (.dK []) := s1 _ _ upd_same
    have pd : p ≠ d := fun e => by
      rw [e, ndH1] at hp
      cases hp
    have n8 := ok.few
    refine for_list (xs := us) (fun i σ H2 => ∃ o3 o4 kvs ks, σ = [some v, some (.ref d), o3, o4, none, none] ∧ Same H H2 ∧ H2 p = some (.lst us) ∧ Al (rCo H2) us C ∧ H2 d = some (.dK kvs) ∧ IsK kvs ks ∧ (∀ u, u ∈ ks ↔ ∃ c ∈ C.take i, u ∈ tl c ∧ 1 < (tl c).count u))
      ⟨none, none, [], [], rfl, s1', hp, al, ndH1, isK_nil, fun u => ⟨fun h => (by cases h), fun ⟨c, hc, _⟩ => (by simp at hc)⟩⟩ (fun i σ H2 _ ⟨_, _, _, _, _, _, h, _⟩ => SqL.of h) ?_ ?_
    · rintro i x σ H2 hx ⟨o3, o4, kvs, ks, rfl, sm, hp2, al2, hd, hk, mem⟩
      obtain ⟨c, hc, r⟩ := al2.get hx
      obtain ⟨b, cs, rfl, hb, alc⟩ := r
      have co := cov_co cv (List.mem_of_getElem? hc)
      show tAsg _ _ _ _ _
      show tLc _ _ _ _ _ _ _ _
      refine tiles_comp (K := K) (k := 2) (j := 4) rfl (by show 4 < 6; decide) hb alc (co_few ok co) fun D H3 nD s3 hD => ?_
      have b8 : ∀ u ∈ ks, u < 8 := fun u hu => by
        obtain ⟨c, hc, h, _⟩ := (mem u).mp hu
        have := tl_va (cov_co cv (List.mem_of_mem_take hc)) u h
        omega
      have al3 := moCo.al (Same.ts s3) al2
      refine ⟨_, rfl, .inr (.inr (.inl ⟨rfl, .inl ⟨_, s3 _ _ hd⟩⟩)), ?_⟩
      refine ⟨_, rfl, D, rfl, ⟨_, SqL.of hD⟩, fun D2 nD2 => ?_⟩
      refine dc_fm (n := (vI (tl c)).length) walk_list (fun j => ((tl c)[j]?).bind fun u => if 1 < (tl c).count u then some u else none) nD2 ?_ (fun H' s => SqL.of (s _ _ hD)) ?_ ?_
      · intro j u _ e
        cases eq : (tl c)[j]? with
        | none => rw [eq] at e; cases e
        | some u' =>
          rw [eq] at e
          have e : (if 1 < (tl c).count u' then some u' else none) = some u := e
          split at e
          · cases e
            have := tl_va co _ (List.mem_of_getElem? eq)
            omega
          · cases e
      · rintro j x H7 H8 Z Z0 hj s7 ⟨rfl, hx⟩ z z0
        obtain ⟨u, hu1, rfl⟩ := vI_get hx
        rw [hu1] at z z0
        refine ⟨rfl, _, rfl, .inl ⟨rfl, _, SqL.of (s7 _ _ hD)⟩, _, rfl, D, (tl c).map fun n : Nat => (n : Int), (u : Int), rfl, rfl, by rw [vI_map]; exact SqL.of (s7 _ _ hD), _, 1, rfl, rfl, _, rfl, ?_⟩
        have ec : (((tl c).map fun n : Nat => (n : Int)).count (u : Int)) = (tl c).count u := by
          rw [List.count, List.countP_map, List.count]
          refine List.countP_congr fun x _ => ?_
          simp
          omega
        rw [ec]
        by_cases e : 1 < (tl c).count u
        · rw [decide_eq_true (by omega : (1 : Int) < (((tl c).count u : Nat) : Int))]
          exact iteT ⟨_, rfl, z u _ _ (if_pos e) (Same.refl _)⟩
        · rw [decide_eq_false (by omega : ¬ (1 : Int) < (((tl c).count u : Nat) : Int))]
          exact iteF (z0 (if_neg e) _ (Same.refl _))
      · intro H7 more ms s7 hD2 hms mm
        obtain ⟨ks', hk', mk'⟩ := IsK.merge hms hk
        have mm' : ∀ u, u ∈ ms ↔ u ∈ tl c ∧ 1 < (tl c).count u := fun u => by
          rw [mm]
          constructor
          · rintro ⟨j, _, e⟩
            cases eq : (tl c)[j]? with
            | none => rw [eq] at e; cases e
            | some u' =>
              rw [eq] at e
              have e : (if 1 < (tl c).count u' then some u' else none) = some u := e
              split at e
              · rename_i ne
                cases e
                exact ⟨List.mem_of_getElem? eq, ne⟩
              · cases e
          · rintro ⟨hu, ne⟩
            obtain ⟨j, e⟩ := List.mem_iff_getElem?.mp hu
            refine ⟨j, by rw [List.length_map]; exact (List.getElem?_eq_some_iff.mp e).1, ?_⟩
            rw [e]
            exact if_pos ne
        have lk := hk.few b8
        have lm := hms.few (n := 8) fun u hu => by
          have := tl_va co u ((mm' u).mp hu).1
          omega
        have hd7 := s7 _ _ (s3 _ _ hd)
        have nd2 : d ≠ D2 := ne_of_none (s3 _ _ hd) nD2
        have tS := ts_put (o := .dK (mergeK kvs more)) hd7 (fun _ e => HO.noConfusion e)
        refine ⟨d, D2, kvs, more, rfl, rfl, hd7, hD2, nd2, Nat.le_trans (by omega : _ ≤ 64) (by decide), ?_⟩
        refine ⟨_, _, _, ks', rfl, fun b o e => ?_, ?_, moCo.al ((Same.ts s7).trans tS) al3, upd_same, hk', fun u => ?_⟩
        · rw [upd_ne (ne_of_none e nd)]
          exact s7 _ _ (s3 _ _ (sm _ _ e))
        · rw [upd_ne pd]
          exact s7 _ _ (s3 _ _ hp2)
        · rw [mk', mem, mm', take_one hc]
          constructor
          · rintro (⟨c', h2, h3⟩ | h)
            · exact ⟨c', List.mem_append_left _ h2, h3⟩
            · exact ⟨c, by simp, h⟩
          · rintro ⟨c', h2, h3⟩
            rcases List.mem_append.mp h2 with k | k
            · exact .inl ⟨c', k, h3⟩
            · rw [List.mem_singleton] at k
              subst k
              exact .inr h3
    · rintro σ H2 ⟨o3, o4, kvs, ks, rfl, sm, hp2, al2, hd, hk, mem⟩
      rw [al2.length, List.take_length] at mem
      have b8 : ∀ u ∈ ks, u < 8 := fun u hu => by
        obtain ⟨c, hc, h, _⟩ := (mem u).mp hu
        have := tl_va (cov_co cv hc) u h
        omega
      have few : ks.length ≤ 8 := by
        have := hk.few b8
        rwa [hk.len] at this
      refine ⟨_, rfl, d, kvs, ks, rfl, hd, hk, by omega, fun l pl perm npl => ?_⟩
      refine q _ pl l (sm.trans (same_new npl)) (sm.free npl) upd_same ?_
      have e1 : l = [] ↔ ∀ u, u ∉ ks := by
        rw [List.eq_nil_iff_forall_not_mem]
        exact forall_congr' fun u => not_congr perm.mem_iff
      rw [e1]
      constructor
      · intro h c hc
        obtain ⟨e, he, pe⟩ := cov_perm ok cv hc
        have ne : (tl e).Nodup := nodup_count.mpr fun u hu k => h u ((mem u).mpr ⟨e, he, hu, k⟩)
        exact (List.Perm.map (fun x : WM.Sd => x.1) pe).nodup_iff.mpr ne
      · intro h u hu
        obtain ⟨c, hc, h1, h2⟩ := (mem u).mp hu
        exact nodup_count.mp (h c (cov_co cv hc)) u h1 h2

/-! ### counts -/
abbrev sCnt : Stmt := topS 25
theorem scCnt : FnScope ["gluing", "every", "inner", "corner"] ["gluing"] (defScope sCnt) := ⟨rfl, rfl, rfl, by decide +kernel, rfl, by decide +kernel, by decide +kernel⟩
/-- the numbers that are counted -/
def cnt (g : Gl) (C : List (List WM.Sd)) : List Int := [(g.1.length : Int), (g.1.sum : Int) - (g.2.length : Int), (C.length : Int), (C.countP (inn g) : Int)]
def spCnt : Sp := fun vs H Q _ => ∃ v g, vs = [v] ∧ rG H v g ∧ Ok g ∧ ∀ H' r C, Same H H' → rT WR.rI H' r (cnt g C) → Cov (Va g) (Ph g) C → Q r H'
theorem ok_cnt {f : Addr} {fd : FuncData} (F : Fun K "counts" "counts" sCnt f fd) (B : Bl mg) (cC : Cal P w K mg base "corners" 4 ["gluing"] spCor) (cI : Cal P w K mg base "is_inner" 3 ["gluing", "corner"] spInn) : FnOk P w K mg base CX0 5 f fd ["gluing"] spCnt := by
  obtain ⟨fC, dC, GC, gC, kC, bC⟩ := cC
  obtain ⟨fI, dI, GI, gI, kI, bI⟩ := cI
  refine F.ok scCnt (fun vs H Q E h => ?_) (fun cdv A outer s H vs Q E hr h => ?_)
  · obtain ⟨v, g, rfl, _⟩ := h
    rfl
  · obtain ⟨v, g, rfl, hg, ok, q⟩ := h
    refine ⟨_, pss_cons (ps_set (i := 1) scCnt.nd rfl (.inl rfl) (pe_call GC hr (by rfl) gC kC bC .nil pass0 (pa_cons (pv 0) pa_nil)))
      (pss_cons (ps_setLc (i := 2) (own := [("corner", 3)]) (g := gName 3) rfl scCnt.nd rfl rfl (sw_true rfl rfl rfl (by decide +kernel))
          (pi_list (pv 1)) (blkOk_by (N := ["gluing", "every", "inner", "corner"]) (sc := defScope sCnt) (by decide +kernel))
          (fun _ _ _ _ _ => pg_name (i := 3) scCnt.nd rfl (Or.inl rfl)) (fun _ _ _ _ _ => pts_one (pt_val (pe_call GI (hr.mono (by decide)) (by rfl) gI kI bI .nil pass0 (pa_cons (pv 0) (pa_cons (pv 3) pa_nil))))) (fun _ _ _ _ _ => pv 3))
      (pss_one (ps_ret (pe_tup (pa_cons (pe_callB call_len_seq (by rfl) B.len PySem.boot_len (pa_cons (pe_ix ix_tup (pv 0) pe_int (fun _ _ => rfl)) pa_nil))
        (pa_cons (pe_op op_sub (pe_callB (cr_sumT rfl) (by rfl) B.sum (by decide +kernel) (pa_cons (pe_ix ix_tup (pv 0) pe_int (fun _ _ => rfl)) pa_nil)) (pe_callB call_len_seq (by rfl) B.len PySem.boot_len (pa_cons (pe_ix ix_tup (pv 0) pe_int (fun _ _ => rfl)) pa_nil)))
        (pa_cons (pe_callB call_len_seq (by rfl) B.len PySem.boot_len (pa_cons (pv 1) pa_nil)) (pa_cons (pe_callB call_len_seq (by rfl) B.len PySem.boot_len (pa_cons (pv 2) pa_nil)) pa_nil)))))))), ?_⟩
    refine ⟨v, rfl, v, g, rfl, hg, ok, fun H1 p C s1 np ⟨us, hp, al⟩ cv => ?_⟩
    refine ⟨_, rfl, p, rfl, ⟨_, SqL.of hp⟩, fun D nD => ?_⟩
    have C64 : C.length ≤ 64 := Nat.le_trans (len_flat fun c hc => (cv.orb c hc).ne) (va_few ok cv.nd fun y hy => (cv.all y).mp hy)
    refine lc_src moCo moCo walk_list (fun c => if inn g c = true then some c else none) nD al C64 (fun H' s => SqL.of (s _ _ hp)) ?_ fun H2 s2 r2 => ?_
    · intro c x H2 us2 Z Z0 hc sm hD hl2 r z z0
      refine ⟨rfl, _, rfl, _, rfl, v, x, g, c, rfl, moG.mo (Same.ts (s1.trans sm)) hg, r, ok, cv.orb c hc, fun H3 s3 => ⟨_, rfl, ?_⟩⟩
      by_cases e : inn g c = true
      · rw [e]
        exact iteT ⟨_, rfl, z _ _ c (if_pos e) s3 (moCo.mo (Same.ts s3) r)⟩
      · rw [Bool.not_eq_true] at e
        rw [e]
        exact iteF (z0 (if_neg (by rw [e]; exact Bool.false_ne_true)) _ s3)
    · obtain ⟨us2, hD2, al2⟩ := r2
      have e2 : C.filterMap (fun c => if inn g c = true then some c else none) = C.filter (inn g) := by
        rw [← List.filterMap_eq_filter]
        rfl
      rw [e2] at al2
      have l2 := al2.length
      rw [← List.countP_eq_length_filter] at l2
      obtain ⟨a, p1, p2, rfl, ha, h1, h2⟩ := moG.mo (Same.ts (s1.trans s2)) hg
      obtain ⟨c, rfl, hc⟩ := sz_is h1
      obtain ⟨e, ts, rfl, he, alt⟩ := h2
      refine ⟨_, rfl, a, _, 0, _, rfl, rfl, SqT.of ha, at_nat (n := 0) rfl, c, _, rfl, .inr (SqT.of hc), ?_⟩
      refine ⟨_, rfl, a, _, 0, _, rfl, rfl, SqT.of ha, at_nat (n := 0) rfl, c, g.1.map fun n : Nat => (n : Int), rfl, ?_, ?_⟩
      · rw [vI_map]
        exact hc
      refine ⟨_, rfl, a, _, 1, _, rfl, rfl, SqT.of ha, at_nat (n := 1) rfl, e, _, rfl, .inr (SqT.of he), _, _, rfl, rfl, ?_⟩
      refine ⟨_, rfl, p, us, rfl, .inl (SqL.of (s2 _ _ hp)), _, rfl, D, us2, rfl, .inl (SqL.of hD2), by show 4 ≤ sizeLine; decide, fun q1 nq => ?_⟩
      refine q _ _ C (s1.trans (s2.trans (same_new nq))) ⟨q1, _, rfl, upd_same, ?_⟩ cv
      have es : ((g.1.map fun n : Nat => (n : Int)).sum) = (g.1.sum : Int) := by
        induction g.1 with
        | nil => rfl
        | cons x l ih => simp [ih]
      unfold cnt
      rw [List.length_map, alt.length, al.length, l2, es]
      exact .cons rfl (.cons rfl (.cons rfl (.cons rfl .nil)))
end
end WP
set_option Elab.async false
set_option linter.all false
set_option maxRecDepth 100000
/-! pieces: worth, is_whole, is_disc -/
namespace WP
open PySem L2 WR WM
section
variable {P : Program} {w : World} {K : PySem.W.Frag} {mg : Str → Option Value} {base : Heap}
/-! ### worth -/
abbrev sWor : Stmt := topS 26
theorem scWor : FnScope ["gluing", "tiles", "sides", "some", "inner"] ["gluing"] (defScope sWor) := ⟨rfl, rfl, rfl, by decide +kernel, rfl, by decide +kernel, by decide +kernel⟩
def wor (g : Gl) (C : List (List WM.Sd)) : Int := (C.length : Int) - ((g.1.sum : Int) - (g.2.length : Int)) + (g.1.length : Int)
def spWor : Sp := fun vs H Q _ => ∃ v g, vs = [v] ∧ rG H v g ∧ Ok g ∧ ∀ H' C, Same H H' → Cov (Va g) (Ph g) C → Q (.int (wor g C)) H'
theorem ok_wor {f : Addr} {fd : FuncData} (F : Fun K "worth" "worth" sWor f fd) (cC : Cal P w K mg base "counts" 5 ["gluing"] spCnt) : FnOk P w K mg base CX0 6 f fd ["gluing"] spWor := by
  obtain ⟨fC, dC, GC, gC, kC, bC⟩ := cC
  refine F.ok scWor (fun vs H Q E h => ?_) (fun cdv A outer s H vs Q E hr h => ?_)
  · obtain ⟨v, g, rfl, _⟩ := h
    rfl
  · obtain ⟨v, g, rfl, hg, ok, q⟩ := h
    refine ⟨_, pss_cons (ps_asg (pe_call GC hr (by rfl) gC kC bC .nil pass0 (pa_cons (pv 0) pa_nil)) (pg_tup (by rfl) (pgs_cons (pg_name (i := 1) scWor.nd rfl (.inl rfl)) (pgs_cons (pg_name (i := 2) scWor.nd rfl (.inl rfl)) (pgs_cons (pg_name (i := 3) scWor.nd rfl (.inl rfl)) (pgs_cons (pg_name (i := 4) scWor.nd rfl (.inl rfl)) pgs_nil))))))
      (pss_one (ps_ret (pe_op op_add (pe_op op_sub (pv 3) (pv 2)) (pv 1)))), ?_⟩
    refine ⟨v, rfl, v, g, rfl, hg, ok, fun H1 r C s1 hr1 cv => ?_⟩
    obtain ⟨a, us, rfl, ha, al⟩ := hr1
    rw [al.eq_map (f := V.int) fun v x r => r] at ha
    refine ⟨a, _, rfl, SqT.of ha, rfl, _, _, rfl, _, _, rfl, _, _, rfl, _, _, rfl, rfl, ?_⟩
    exact ⟨_, rfl, _, rfl, _, _, rfl, rfl, _, rfl, _, _, rfl, rfl, q H1 C s1 cv⟩
theorem worth1_iff {g : Gl} (ok : Ok g) {C : List (List WM.Sd)} (cv : Cov (Va g) (Ph g) C) : wor g C = 1 ↔ Worth1 g := by
  constructor
  · intro h D dv
    rw [Cov.length ok.bi dv cv]
    exact h
  · exact fun h => h C cv

/-! ### is_whole -/
abbrev sWho : Stmt := topS 28
theorem scWho : FnScope ["gluing", "many", "value"] ["gluing", "many", "value"] (defScope sWho) := ⟨rfl, rfl, rfl, by decide +kernel, rfl, by decide +kernel, by decide +kernel⟩
def spWho : Sp := fun vs H Q _ => ∃ v g, vs = [v, .int 1, .int 1] ∧ rG H v g ∧ Ok g ∧ ∀ H' b, Same H H' → (b = true ↔ Disc g) → Q (.bl b) H'
theorem dec_nat (n m : Nat) : decide (V.int (n : Int) = V.int (m : Int)) = decide (n = m) := by
  by_cases h : n = m
  · subst h
    rw [decide_eq_true rfl, decide_eq_true rfl]
  · rw [decide_eq_false h, decide_eq_false fun e => h (by injection e with e; omega)]
theorem dec_int_ (n m : Int) : decide (V.int n = V.int m) = decide (n = m) := by
  by_cases h : n = m
  · subst h
    rw [decide_eq_true rfl, decide_eq_true rfl]
  · rw [decide_eq_false h, decide_eq_false fun e => h (by injection e with e)]
theorem ok_who {f : Addr} {fd : FuncData} (F : Fun K "is_whole" "is_whole" sWho f fd) (B : Bl mg) (cP : Cal P w K mg base "pieces" 3 ["gluing"] spPcs) (cR : Cal P w K mg base "rims" 6 ["gluing"] spRms) (cW : Cal P w K mg base "worth" 6 ["gluing"] spWor) (cT : Cal P w K mg base "twice" 5 ["gluing"] spTwi) : FnOk P w K mg base CX0 7 f fd ["gluing", "many", "value"] spWho := by
  obtain ⟨fP, dP, GP, gP, kP, bP⟩ := cP
  obtain ⟨fR, dR, GR, gR, kR, bR⟩ := cR
  obtain ⟨fW, dW, GW, gW, kW, bW⟩ := cW
  obtain ⟨fT, dT, GT, gT, kT, bT⟩ := cT
  refine F.ok scWho (fun vs H Q E h => ?_) (fun cdv A outer s H vs Q E hr h => ?_)
  · obtain ⟨v, g, rfl, _⟩ := h
    rfl
  · obtain ⟨v, g, rfl, hg, ok, q⟩ := h
    have hu64 := hr.units
    refine ⟨_, pss_cons (ps_if (PW.pt (pw_or (pt_cmpR op_ne (pe_callB call_len_seq (by rfl) B.len PySem.boot_len (pa_cons (pe_call GP (hr.mono (by decide)) (by rfl) gP kP bP .nil pass0 (pa_cons (pv 0) pa_nil)) pa_nil)) pe_int (nomark _))
          (pw_or1 (pt_cmpR op_ne (pe_callB call_len_seq (by rfl) B.len PySem.boot_len (pa_cons (pe_call GR (hr.mono (by decide)) (by rfl) gR kR bR .nil pass0 (pa_cons (pv 0) pa_nil)) pa_nil)) (pv 1) (nomark _)))))
        (pss_one (ps_ret pe_bl)) pss_nil)
      (pss_one (ps_ret (pe_and (pe_cmpR op_eq (pe_call GW (hr.mono (by decide)) (by rfl) gW kW bW .nil pass0 (pa_cons (pv 0) pa_nil)) (pv 2) (nomark _))
        (pe_one (pe_cmpR (op_eqD hu64) (pe_call GT (hr.mono (by decide)) (by rfl) gT kT bT .nil pass0 (pa_cons (pv 0) pa_nil)) (pe_lst pa_nil) (nomark _)))))), ?_⟩
    refine ⟨v, rfl, v, g, rfl, hg, ok, fun H1 p us s1 hp e1 => ⟨p, us, rfl, .inl (SqL.of hp), rfl, _, rfl, ?_⟩⟩
    rw [show V.int 1 = V.int ((1 : Nat) : Int) from rfl, dec_nat]
    have off : ∀ H', Same H H' → ¬ Disc g → Q (.bl false) H' := fun H' s h => q H' false s ⟨fun e => Bool.noConfusion e, fun k => absurd k h⟩
    by_cases h1 : us.length = 1
    · rw [decide_eq_true h1]
      refine iteF ⟨v, rfl, v, g, rfl, moG.mo (Same.ts s1) hg, ok, fun H2 p2 R s2 np2 ⟨us2, hp2, al2⟩ rs => ⟨p2, us2, rfl, .inl (SqL.of hp2), _, rfl, rfl, _, rfl, ?_⟩⟩
      rw [dec_nat]
      have one := rs.one ok
      rw [← al2.length] at one
      by_cases h2 : us2.length = 1
      · rw [decide_eq_true h2]
        refine iteF ⟨v, rfl, v, g, rfl, moG.mo (Same.ts (s1.trans s2)) hg, ok, fun H3 C s3 cv => ⟨_, rfl, rfl, _, rfl, ?_⟩⟩
        rw [dec_int_, show ((1 : Nat) : Int) = 1 from rfl]
        have wo := worth1_iff ok cv
        by_cases h3 : wor g C = 1
        · rw [decide_eq_true h3]
          refine iteT ⟨v, rfl, v, g, rfl, moG.mo (Same.ts (s1.trans (s2.trans s3))) hg, ok, fun H4 p4 l s4 np4 hp4 tw => ⟨Nat.zero_le _, fun z nz => ?_⟩⟩
          have sz := same_new (o := .lst []) nz
          refine ⟨eL eN l, eL eN [], enN.dpL _ ⟨_, sz _ _ hp4, al_vI _ l⟩, enN.dpL _ ⟨_, upd_same, .nil⟩, enN.shapedL (by decide) l, enN.shapedL (by decide) [], ?_⟩
          rw [eqv_nil]
          refine q _ _ (s1.trans (s2.trans (s3.trans (s4.trans sz)))) ?_
          rw [decide_eq_true_iff]
          exact ⟨fun e => ⟨e1.mp h1, one.mp h2, wo.mp h3, tw.mp e⟩, fun D => tw.mpr D.twice⟩
        · rw [decide_eq_false h3]
          exact iteF (off _ (s1.trans (s2.trans s3)) fun D => h3 (wo.mpr D.worth))
      · rw [decide_eq_false h2]
        exact iteT (off _ (s1.trans s2) fun D => h2 (one.mpr D.rim))
    · rw [decide_eq_false h1]
      exact iteT (iteT (off _ s1 fun D => h1 (e1.mpr D.conn)))

/-! ### is_disc -/
abbrev sDis : Stmt := topS 29
theorem scDis : FnScope ["gluing"] ["gluing"] (defScope sDis) := ⟨rfl, rfl, rfl, by decide +kernel, rfl, by decide +kernel, by decide +kernel⟩
def spDis : Sp := fun vs H Q _ => ∃ v g, vs = [v] ∧ rG H v g ∧ Ok g ∧ ∀ H' b, Same H H' → (b = true ↔ Disc g) → Q (.bl b) H'
theorem ok_dis {f : Addr} {fd : FuncData} (F : Fun K "is_disc" "is_disc" sDis f fd) (cW : Cal P w K mg base "is_whole" 7 ["gluing", "many", "value"] spWho) : FnOk P w K mg base CX0 8 f fd ["gluing"] spDis := by
  obtain ⟨fW, dW, GW, gW, kW, bW⟩ := cW
  refine F.ok scDis (fun vs H Q E h => ?_) (fun cdv A outer s H vs Q E hr h => ?_)
  · obtain ⟨v, g, rfl, _⟩ := h
    rfl
  · obtain ⟨v, g, rfl, hg, ok, q⟩ := h
    exact ⟨_, pss_one (ps_ret (pe_call GW hr (by rfl) gW kW bW .nil pass0 (pa_cons (pv 0) (pa_cons pe_int (pa_cons pe_int pa_nil))))), _, rfl, v, g, rfl, hg, ok, q⟩
end
end WP
set_option Elab.async false
set_option linter.all false
set_option maxRecDepth 100000
/-! the order of sides and ties; slices and sums of tuples -/
namespace WP
open PySem L2 WR WM
theorem alk_sd (x y : WM.Sd) : PySem.W.alike (eSd x) (eSd y) = true := enSd.alk x y
theorem dlt_sd (x y : WM.Sd) : PySem.W.dataLt (eSd x) (eSd y) = decide (ltS x y) := by
  show PySem.W.dataLt (.tuple [.int (x.1 : Int), .int (x.2 : Int)]) (.tuple [.int (y.1 : Int), .int (y.2 : Int)]) = _
  rw [PySem.W.dataLt_ii]
  refine decide_eq_decide.mpr ?_
  unfold ltS
  omega
theorem eqv_sd (x y : WM.Sd) : PyData.eqv (eSd x) (eSd y) = decide (x = y) := en_dec enSd x y
theorem dlt_tie (p q : Tie) : PySem.W.dataLt (eTie p) (eTie q) = decide (ltT p q) := by
  show PySem.W.dataLt (.tuple [eSd p.1, eSd p.2]) (.tuple [eSd q.1, eSd q.2]) = _
  rw [PySem.W.dataLt_pair (alk_sd _ _) (alk_sd _ _), dlt_sd, dlt_sd, eqv_sd, eqv_sd]
  by_cases h1 : p.1 = q.1
  · have n : ¬ ltS p.1 q.1 := h1 ▸ ltS_irrefl _
    rw [if_pos (decide_eq_true h1)]
    by_cases h2 : p.2 = q.2
    · have n2 : ¬ ltS p.2 q.2 := h2 ▸ ltS_irrefl _
      rw [if_pos (decide_eq_true h2)]
      refine (decide_eq_false fun h => ?_).symm
      rcases h with h | ⟨_, h⟩
      · exact n h
      · exact n2 h
    · rw [if_neg (by simpa using h2)]
      exact decide_eq_decide.mpr ⟨fun h => .inr ⟨h1, h⟩, fun h => h.elim (fun h => absurd h n) (·.2)⟩
  · rw [if_neg (by simpa using h1)]
    exact decide_eq_decide.mpr ⟨.inl, fun h => h.elim id fun h => absurd h.1 h1⟩
theorem dle_tie : PySem.W.dataLe false eTie = leT := by
  funext p q
  rw [PySem.W.dataLe_eq]
  show (!PySem.W.dataLt (eTie q) (eTie p)) = _
  rw [dlt_tie]
  rfl
section
variable {α : Type} {R : Rl α} {K : PySem.W.Frag} {H : Hp} {Q : VK}
theorem slA_to (mR : Mo R) {v : V} {xs : List α} {k : Nat} (h : rT R H v xs) (q : ∀ H' r, Same H H' → rT R H' r (xs.take k) → Q r H') : rSlA K v none (some (k : Int)) H Q := by
  obtain ⟨a, us, rfl, ha, al⟩ := h
  have hl := al.length
  refine ⟨a, us, rfl, SqT.of ha, fun hw => q H _ (Same.refl _) ⟨a, us, rfl, ha, ?_⟩, fun _ p np => ?_⟩
  · have e := hw.2
    rw [HT.sIx_nat] at e
    rw [List.take_of_length_le (by omega)]
    exact al
  · rw [cut_to]
    exact q _ _ (same_new np) ⟨p, _, rfl, upd_same, mR.al (ts_new np) (al.take k)⟩
theorem slA_from (mR : Mo R) {v : V} {xs : List α} {k : Nat} (h : rT R H v xs) (q : ∀ H' r, Same H H' → rT R H' r (xs.drop k) → Q r H') : rSlA K v (some (k : Int)) none H Q := by
  obtain ⟨a, us, rfl, ha, al⟩ := h
  have hl := al.length
  refine ⟨a, us, rfl, SqT.of ha, fun hw => q H _ (Same.refl _) ⟨a, us, rfl, ha, ?_⟩, fun _ p np => ?_⟩
  · have e := hw.1
    rw [HT.sIx_nat] at e
    by_cases h0 : k = 0
    · rw [h0, List.drop_zero]
      exact al
    · have : us = [] := List.eq_nil_of_length_eq_zero (by omega)
      subst this
      have : xs = [] := List.eq_nil_of_length_eq_zero (by rw [← hl]; rfl)
      subst this
      rw [List.drop_nil]
      exact .nil
  · rw [cut_from]
    exact q _ _ (same_new np) ⟨p, _, rfl, upd_same, mR.al (ts_new np) (al.drop k)⟩
theorem catA_ (mR : Mo R) {v u : V} {xs ys : List α} (h : rT R H v xs) (h' : rT R H u ys) (hn : xs.length + ys.length ≤ 1000) (q : ∀ H' r, Same H H' → rT R H' r (xs ++ ys) → Q r H') : rCatA K v u H Q := by
  obtain ⟨a, us, rfl, ha, al⟩ := h
  obtain ⟨b, vs, rfl, hb, al'⟩ := h'
  have hl := al.length
  have hl' := al'.length
  refine ⟨a, b, us, vs, rfl, rfl, SqT.of ha, SqT.of hb, Nat.le_trans (by omega : _ ≤ 1000) (by decide), fun e => q H _ (Same.refl _) ⟨b, vs, rfl, hb, ?_⟩, fun _ e => q H _ (Same.refl _) ⟨a, us, rfl, ha, ?_⟩, fun _ _ p np => ?_⟩
  · subst e
    have : xs = [] := List.eq_nil_of_length_eq_zero hl.symm
    subst this
    exact al'
  · subst e
    have : ys = [] := List.eq_nil_of_length_eq_zero hl'.symm
    subst this
    rw [List.append_nil]
    exact al
  · exact q _ _ (same_new np) ⟨p, _, rfl, upd_same, mR.al (ts_new np) (al.app al')⟩
end
end WP
set_option Elab.async false
set_option linter.all false
set_option maxRecDepth 100000
/-! gluings: ordered, part_of; taking: taken -/
namespace WP
open PySem L2 WR WM
theorem mm_min (p : Tie) : (if decide (ltS p.2 p.1) = true then p.2 else p.1, if decide (ltS p.1 p.2) = true then p.2 else p.1) = mmT p := by
  unfold mmT
  by_cases h : ltS p.2 p.1
  · rw [if_pos (decide_eq_true h), if_pos h, if_neg]
    rw [decide_eq_true_iff]
    exact fun k => ltS_irrefl _ (ltS_trans h k)
  · rw [if_neg (by simpa using h), if_neg h]
    rcases ltS_total p.1 p.2 with k | k | k
    · rw [if_pos (decide_eq_true k)]
    · rw [if_neg (by rw [decide_eq_true_iff, k]; exact ltS_irrefl _)]
      exact Prod.ext rfl k
    · exact absurd k h
section
variable {P : Program} {w : World} {K : PySem.W.Frag} {mg : Str → Option Value} {base : Heap}
/-! ### ordered -/
abbrev sOrd : Stmt := topS 31
theorem scOrd : FnScope ["sizes", "ties", "tie"] ["sizes", "ties"] (defScope sOrd) := ⟨rfl, rfl, rfl, by decide +kernel, rfl, by decide +kernel, by decide +kernel⟩
def spOrd : Sp := fun vs H Q _ => ∃ a b l ts, vs = [.ref a, .ref b] ∧ H a = some (.lst (vI l)) ∧ rL rTie H b ts ∧ ts.length ≤ 64 ∧ ∀ H' r, Same H H' → rG H' r (l, sortT (ts.map mmT)) → Q r H'
theorem ok_ord {f : Addr} {fd : FuncData} (F : Fun K "ordered" "ordered" sOrd f fd) (B : Bl mg) : FnOk P w K mg base CX0 1 f fd ["sizes", "ties"] spOrd := by
  refine F.ok scOrd (fun vs H Q E h => ?_) (fun cdv A outer s H vs Q E hr h => ?_)
  · obtain ⟨a, b, l, ts, rfl, _⟩ := h
    rfl
  · obtain ⟨a, b, l, ts, rfl, ha, ⟨us, hb, al⟩, hn, q⟩ := h
    have hu64 := hr.units
    refine ⟨_, pss_one (ps_ret (pe_tup (pa_cons (pe_callTy call_tuple_of (by rfl) B.tup (by decide +kernel) (pa_cons (pv 0) pa_nil)) (pa_cons (pe_callTy call_tuple_of (by rfl) B.tup (by decide +kernel) (pa_cons
        (pe_callB (cr_sortG enTie (fun x => ⟨_, _, rfl⟩) (by decide) hu64) (by rfl) B.srt (by decide +kernel) (pa_cons
          (pe_lc (own := [("tie", 2)]) (g := gName 2) (tt := tYes) rfl scOrd.nd (pi_list (pv 1)) (blkOk_by (N := ["sizes", "ties", "tie"]) (sc := defScope sOrd) (by decide +kernel))
            (fun _ _ _ _ _ => pg_name (i := 2) scOrd.nd rfl (Or.inl rfl)) (fun _ _ _ _ _ => pts_nil)
            (fun _ _ _ _ _ => pe_tup (pa_cons (pe_callB (cr_min2 enSd (lt := fun x y => decide (ltS x y)) dlt_sd (by decide) rfl hu64) (by rfl) B.min (by decide +kernel) (pa_cons (pv 2) pa_nil)) (pa_cons (pe_callB (cr_max2 enSd (lt := fun x y => decide (ltS x y)) dlt_sd (by decide) rfl hu64) (by rfl) B.max (by decide +kernel) (pa_cons (pv 2) pa_nil)) pa_nil))))
          pa_nil)) pa_nil)) pa_nil)))), ?_⟩
    refine ⟨_, rfl, a, vI l, rfl, .inl ⟨SqL.of ha, fun t1 n1 => ?_⟩⟩
    have s1 := same_new (o := .tup (vI l)) n1
    refine ⟨_, rfl, b, rfl, ⟨_, SqL.of (s1 _ _ hb)⟩, fun D nD => ?_⟩
    refine lc_src moTie moTie walk_list (fun p => some (mmT p)) nD (moTie.al (Same.ts s1) al) hn (fun H' s => SqL.of (s _ _ (s1 _ _ hb))) ?_ fun H2 s2 r2 => ?_
    · intro p x H2 us2 Z Z0 hp sm hD hl2 r z _
      obtain ⟨c, u1, u2, rfl, hc, r1, r2⟩ := r
      refine ⟨rfl, _, rfl, c, u1, u2, p.1, p.2, rfl, hc, r1, r2, fun m hm => ⟨_, rfl, c, u1, u2, p.1, p.2, rfl, hc, r1, r2, fun M hM => ⟨by show 2 ≤ sizeLine; decide, fun o no => ?_⟩⟩⟩
      refine z _ _ (mmT p) rfl (same_new no) ?_
      rw [← mm_min]
      have t := ts_new (o := .tup [m, M]) no
      exact ⟨o, m, M, rfl, upd_same, moSd.mo t hm, moSd.mo t hM⟩
    · rw [List.filterMap_eq_map'] at r2
      refine ⟨D, ts.map mmT, rfl, r2, fun o us3 no al3 => ?_⟩
      rw [dle_tie] at al3
      have t3 := ts_new (o := .lst us3) no
      refine ⟨o, us3, rfl, .inl ⟨SqL.of upd_same, fun c nc => ⟨by show 2 ≤ sizeLine; decide, fun e ne => ?_⟩⟩⟩
      have s3 := (same_new (o := .lst us3) no).trans ((same_new (o := .tup us3) nc).trans (same_new (o := .tup [.ref t1, .ref c]) ne))
      refine q _ _ (s1.trans (s2.trans s3)) ⟨e, .ref t1, .ref c, rfl, upd_same, ⟨t1, vI l, rfl, s3 _ _ (s2 _ _ upd_same), al_vI _ l⟩, ⟨c, us3, rfl, ?_, ?_⟩⟩
      · exact (same_new ne) _ _ upd_same
      · exact moTie.al (Same.ts s3) al3
end
end WP
set_option Elab.async false
set_option linter.all false
set_option maxRecDepth 100000
/-! gluings: part_of; taking: taken -/
namespace WP
open PySem L2 WR WM
theorem ties_few {g : Gl} (ok : Ok g) : g.2.length ≤ 64 := by
  have nd : (g.2.map (·.1)).Nodup := by
    unfold List.Nodup
    rw [List.pairwise_map]
    refine (srt_nodup ok.srt).imp_of_mem fun {a b} ha hb ne e => ne ?_
    refine Prod.ext e (ok.once a.1 a.2 b.2 (.inl ha) (.inl ?_))
    rw [e]
    exact hb
  have := va_few ok nd fun y hy => by
    obtain ⟨p, hp, rfl⟩ := List.mem_map.mp hy
    exact (ok.val p hp).1
  rwa [List.length_map] at this
theorem take_sizes {g : Gl} {n : Nat} (h : n ≤ g.1.length) : (List.range n).map (sz g) = g.1.take n := by
  refine List.ext_getElem? fun i => ?_
  by_cases hi : i < n
  · rw [List.getElem?_map, range_at hi, List.getElem?_take_of_lt hi]
    unfold sz
    rw [List.getElem?_eq_getElem (by omega : i < g.1.length)]
    show some (g.1.getD i 0) = _
    rw [List.getD_eq_getElem?_getD, List.getElem?_eq_getElem (by omega : i < g.1.length)]
    rfl
  · rw [List.getElem?_eq_none (by simp; omega), List.getElem?_eq_none (by simp; omega)]
/-- the numbers up to i as keys of themselves -/
def NumK (kvs : List (Key × V)) (i : Nat) : Prop := kvs.length ≤ i ∧ ∀ t : Nat, valV kvs (.inl (t : Int) : Key) = if t < i then some (.int (t : Int)) else none
section
variable {P : Program} {w : World} {K : PySem.W.Frag} {mg : Str → Option Value} {base : Heap}
/-! ### part_of -/
abbrev sPar : Stmt := topS 32
abbrev nPar : List Str := ["gluing", "tiles", "number", "inside", "ties", "k", "t", "tie", "i"]
theorem scPar : FnScope nPar ["gluing", "tiles"] (defScope sPar) := ⟨rfl, rfl, rfl, by decide +kernel, rfl, by decide +kernel, by decide +kernel⟩
def spPar : Sp := fun vs H Q _ => ∃ v p m n, vs = [v, .ref p] ∧ rG H v m ∧ Ok m ∧ H p = some (.lst (vI (List.range n))) ∧ n ≤ m.1.length ∧ ∀ H' r, Same H H' → rG H' r (partG m n) → Q r H'
theorem ok_par {f : Addr} {fd : FuncData} (F : Fun K "part_of" "part_of" sPar f fd) (B : Bl mg) (cO : Cal P w K mg base "ordered" 1 ["sizes", "ties"] spOrd) : FnOk P w K mg base CX0 2 f fd ["gluing", "tiles"] spPar := by
  obtain ⟨fO, dO, GO, gO, kO, bO⟩ := cO
  refine F.ok scPar (fun vs H Q E h => ?_) (fun cdv A outer s H vs Q E hr h => ?_)
  · obtain ⟨v, p, m, n, rfl, _⟩ := h
    rfl
  · obtain ⟨v, p, m, n, rfl, hg, ok, hp, hn, q⟩ := h
    have hu := hu_of hr
    have hu64 := hr.units
    refine ⟨_, pss_cons (ps_set (i := 2) scPar.nd rfl (.inr rfl) (pe_dc (own := [("k", 5), ("t", 6)]) (g := gTup K 2 (gCons (gName 5) (gCons (gName 6) gNil))) (tt := tYes) rfl scPar.nd (pi_enum (by rfl) B.enu (pa_cons (pv 1) pa_nil)) (blkOk_by (N := nPar) (sc := defScope sPar) (by decide +kernel))
          (fun _ _ _ _ _ => pg_tupK (K := K) rfl rfl (pgs_cons (pg_name (i := 5) scPar.nd rfl (Or.inl rfl)) (pgs_cons (pg_name (i := 6) scPar.nd rfl (Or.inl rfl)) pgs_nil))) (fun _ _ _ _ _ => pts_nil) (fun _ _ _ _ _ => pv 6) (fun _ _ _ _ _ => pv 5)))
      (pss_cons (ps_setLc (i := 3) (own := [("tie", 7)]) (g := gName 7) rfl scPar.nd rfl rfl (sw_true rfl rfl rfl (by decide +kernel))
          (pi_tup (pe_ix ix_tup (pv 0) pe_int (fun _ _ => rfl))) (blkOk_by (N := nPar) (sc := defScope sPar) (by decide +kernel))
          (fun _ _ _ _ _ => pg_name (i := 7) scPar.nd rfl (Or.inl rfl)) (fun _ _ _ _ _ => pts_one (PW.pt (pw_and (pt_cmp (pc_din hu (pe_ix (ix_tupK (K := K) rfl) (pe_ix (ix_tupK (K := K) rfl) (pv 7) pe_int (fun _ _ => rfl)) pe_int (fun _ _ => rfl)) (pv 2)) rfl)
            (pw_and1 (pt_cmp (pc_din hu (pe_ix (ix_tupK (K := K) rfl) (pe_ix (ix_tupK (K := K) rfl) (pv 7) pe_int (fun _ _ => rfl)) pe_int (fun _ _ => rfl)) (pv 2)) rfl))))) (fun _ _ _ _ _ => pv 7))
      (pss_cons (ps_setLc (i := 4) (own := [("tie", 7)]) (g := gName 7) (tt := tYes) rfl scPar.nd rfl rfl (sw_true rfl rfl rfl (by decide +kernel))
          (pi_list (pv 3)) (blkOk_by (N := nPar) (sc := defScope sPar) (by decide +kernel))
          (fun _ _ _ _ _ => pg_name (i := 7) scPar.nd rfl (Or.inl rfl)) (fun _ _ _ _ _ => pts_nil) (fun _ _ _ _ _ => pe_callTy (call_tuple_ofK (K := K) rfl) (by rfl) B.tup (by decide +kernel) (pa_cons
            (pe_lc (own := [("t", 6), ("i", 8)]) (g := gTup K 2 (gCons (gName 6) (gCons (gName 8) gNil))) (tt := tYes) rfl scPar.nd (pi_tupK (K := K) rfl (pv 7)) (blkOk_by (N := nPar) (by rfl))
              (fun _ _ _ _ _ => pg_tupK (K := K) rfl rfl (pgs_cons (pg_name (i := 6) scPar.nd rfl (Or.inl rfl)) (pgs_cons (pg_name (i := 8) scPar.nd rfl (Or.inl rfl)) pgs_nil))) (fun _ _ _ _ _ => pts_nil) (fun _ _ _ _ _ => pe_tup (pa_cons (pe_dget hu (pv 2) (pv 6) (fun _ _ => rfl)) (pa_cons (pv 8) pa_nil)))) pa_nil)))
      (pss_one (ps_ret (pe_call GO hr (by rfl) gO kO bO .nil pass0 (pa_cons
          (pe_lc (own := [("t", 6)]) (g := gName 6) (tt := tYes) rfl scPar.nd (pi_list (pv 1)) (blkOk_by (N := nPar) (sc := defScope sPar) (by decide +kernel))
            (fun _ _ _ _ _ => pg_name (i := 6) scPar.nd rfl (Or.inl rfl)) (fun _ _ _ _ _ => pts_nil) (fun _ _ _ _ _ => pe_ix (ix_tupK (K := K) rfl) (pe_ix (ix_tupK (K := K) rfl) (pv 0) pe_int (fun _ _ => rfl)) (pv 6) (fun _ _ => rfl))) (pa_cons (pv 4) pa_nil))))))), ?_⟩
    have n8 := ok.few
    obtain ⟨a, p1, p2, rfl, ha, h1, h2⟩ := id hg
    obtain ⟨c, rfl, hc⟩ := sz_is h1
    obtain ⟨e, ts, rfl, he, alt⟩ := h2
    have vl : (vI (List.range n)).length = n := by rw [List.length_map, List.length_range]
    refine ⟨_, rfl, p, _, rfl, SqL.of hp, fun D nD => ?_⟩
    refine it_w (n := (vI (List.range n)).length) walk_enum (fun i H2 => Same H H2 ∧ ∃ kvs, H2 D = some (.dK kvs) ∧ NumK kvs i) ⟨same_new nD, [], upd_same, Nat.zero_le _, fun t => rfl⟩ (fun i H2 _ k => SqL.of (k.1 _ _ hp)) ?_ ?_
    · rintro i x H2 H3 hi ⟨sm, kvs, hD, l1, l2⟩ ⟨T, x1, x2, rfl, nT, rfl, e1, e2⟩
      rw [vl] at hi
      have e1 : x1 = .int (i : Nat) := (Option.some.inj e1).symm
      subst e1
      have e2 : (vI (List.range n))[i]? = some x2 := e2
      rw [vI_at (range_at hi)] at e2
      cases Option.some.inj e2
      have sT := same_new (o := .tup [.int (i : Nat), .int (i : Int)]) nT
      refine ⟨T, _, rfl, SqT.of upd_same, rfl, _, _, rfl, _, _, rfl, rfl, rfl, ?_⟩
      refine ⟨_, rfl, _, rfl, kvs, .inl (i : Int), rfl, sT _ _ hD, Nat.lt_of_le_of_lt (by omega : kvs.length ≤ 64) (by decide), fun b o e => ?_, _, upd_same, ?_, fun t => ?_⟩
      · rw [upd_ne (ne_of_none e nD)]
        exact sT _ _ (sm _ _ e)
      · have := length_putK kvs (Sum.inl (i : Int)) (.int (i : Int))
        omega
      · rw [valV_put, l2]
        by_cases q : t = i
        · subst q
          rw [if_pos rfl, if_pos (by omega)]
        · rw [if_neg (fun h => q (by injection h with h; omega))]
          by_cases q2 : t < i
          · rw [if_pos q2, if_pos (by omega)]
          · rw [if_neg q2, if_neg (by omega)]
    · rintro H1 ⟨s1, kvs, hD, l1, l2⟩
      rw [vl] at l1 l2
      have has : ∀ t : Nat, (valV kvs (.inl (t : Int) : Key)).isSome = decide (t < n) := fun t => by
        rw [l2]
        by_cases h : t < n
        · rw [if_pos h, decide_eq_true h]
          rfl
        · rw [if_neg h, decide_eq_false h]
          rfl
      -- inside
      refine ⟨_, rfl, a, _, 1, _, rfl, rfl, SqT.of (s1 _ _ ha), at_nat (n := 1) rfl, e, rfl, ⟨_, SqT.of (s1 _ _ he)⟩, fun D2 nD2 => ?_⟩
      let keep : Tie → Bool := fun p => decide (p.1.1 < n) && decide (p.2.1 < n)
      refine lc_src moTie moTie walk_tup (fun p : Tie => if keep p = true then some p else none) nD2 (moTie.al (Same.ts s1) alt) (ties_few ok) (fun H' s => SqT.of (s _ _ (s1 _ _ he))) ?_ fun H2 s2 r2 => ?_
      · intro t x H2 us2 Z Z0 hp2 sm hD2 hl2 r z z0
        have r0 := r
        obtain ⟨b, u1, u2, rfl, hb, r1, r2⟩ := r
        obtain ⟨b1, rfl, hb1⟩ := sd_is r1
        obtain ⟨b2, rfl, hb2⟩ := sd_is r2
        refine ⟨rfl, _, rfl, b, _, 0, _, rfl, rfl, SqT.of hb, at_nat (n := 0) rfl, b1, _, 0, _, rfl, rfl, SqT.of hb1, at_nat (n := 0) rfl, _, rfl, D, _, rfl, DGet.k (k := .inl (t.1.1 : Int)) (sm _ _ hD), _, rfl, ?_⟩
        rw [has]
        by_cases k1 : t.1.1 < n
        · rw [decide_eq_true k1]
          refine iteT ⟨_, rfl, b, _, 1, _, rfl, rfl, SqT.of hb, at_nat (n := 1) rfl, b2, _, 0, _, rfl, rfl, SqT.of hb2, at_nat (n := 0) rfl, _, rfl, D, _, rfl, DGet.k (k := .inl (t.2.1 : Int)) (sm _ _ hD), _, rfl, ?_⟩
          rw [has]
          by_cases k2 : t.2.1 < n
          · rw [decide_eq_true k2]
            exact iteT ⟨_, rfl, z _ _ t (if_pos (by show (decide _ && decide _) = true; rw [decide_eq_true k1, decide_eq_true k2]; rfl)) (Same.refl _) r0⟩
          · rw [decide_eq_false k2]
            exact iteF (z0 (if_neg (by show ¬ (decide _ && decide _) = true; rw [decide_eq_false k2, Bool.and_false]; exact Bool.false_ne_true)) _ (Same.refl _))
        · rw [decide_eq_false k1]
          exact iteF (iteF (z0 (if_neg (by show ¬ (decide _ && decide _) = true; rw [decide_eq_false k1, Bool.false_and]; exact Bool.false_ne_true)) _ (Same.refl _)))
      · have e2 : m.2.filterMap (fun p : Tie => if keep p = true then some p else none) = m.2.filter keep := by
          rw [← List.filterMap_eq_filter]
          rfl
        rw [e2] at r2
        obtain ⟨us2, hD2, al2⟩ := r2
        have few2 : (m.2.filter keep).length ≤ 64 := Nat.le_trans (List.length_filter_le _ _) (ties_few ok)
        -- ties
        refine ⟨_, rfl, D2, rfl, ⟨_, SqL.of hD2⟩, fun D3 nD3 => ?_⟩
        refine lc_src moTie moTie walk_list (fun p : Tie => some p) nD3 al2 few2 (fun H' s => SqL.of (s _ _ hD2)) ?_ fun H3 s3 r3 => ?_
        · intro t x H3 us3 Z Z0 ht sm hD3 hl3 r z _
          obtain ⟨b, u1, u2, rfl, hb, r1, r2⟩ := r
          have kt : t.1.1 < n ∧ t.2.1 < n := by
            have := (List.mem_filter.mp ht).2
            have : (decide (t.1.1 < n) && decide (t.2.1 < n)) = true := this
            simpa using this
          refine ⟨rfl, _, rfl, b, rfl, ⟨_, SqT.of hb⟩, fun D4 nD4 => ?_⟩
          refine lc_src moSd moSd (us := [u1, u2]) (xs := [t.1, t.2]) walk_tup (fun x : WM.Sd => some x) nD4 (.cons r1 (.cons r2 .nil)) (by show 2 ≤ 64; decide) (fun H' s => SqT.of (s _ _ hb)) ?_ fun H5 s5 r5 => ?_
          · intro y v4 H5 us5 Z5 _ hy sm5 hD5 hl5 ry z5 _
            obtain ⟨c1, rfl, hc1⟩ := sd_is ry
            have hyn : y.1 < n := by
              rcases List.mem_cons.mp hy with rfl | hy
              · exact kt.1
              · rw [List.mem_singleton] at hy
                subst hy
                exact kt.2
            refine ⟨c1, _, rfl, SqT.of hc1, rfl, _, _, rfl, _, _, rfl, rfl, rfl, ?_⟩
            refine ⟨_, rfl, _, rfl, D, .int (y.1 : Int), rfl, ?_, _, rfl, by show 2 ≤ sizeLine; decide, fun o no => ?_⟩
            · have := DGet.k (k := .inl (y.1 : Int)) (sm5 _ _ (sm _ _ (s2 _ _ hD)))
              rw [l2, if_pos hyn] at this
              exact this
            · exact z5 _ _ y rfl (same_new no) (mk_sd upd_same)
          · obtain ⟨us5, hD5, al5⟩ := r5
            rw [List.filterMap_some] at al5
            refine ⟨D4, us5, rfl, .inl ⟨SqL.of hD5, fun o no => ?_⟩⟩
            refine z _ _ t rfl (s5.trans (same_new no)) ?_
            cases al5 with
            | cons q1 al5 =>
              cases al5 with
              | cons q2 al5 =>
                cases al5
                exact ⟨o, _, _, rfl, upd_same, moSd.mo (ts_new no) q1, moSd.mo (ts_new no) q2⟩
        · rw [List.filterMap_some] at r3
          have s123 := s1.trans (s2.trans s3)
          refine ⟨_, rfl, p, rfl, ⟨_, SqL.of (s123 _ _ hp)⟩, fun D5 nD5 => ?_⟩
          refine lc_src moN moN (xs := List.range n) walk_list (fun t => some (sz m t)) nD5 (al_vI _ _) (by rw [List.length_range]; omega) (fun H' s => SqL.of (s _ _ (s123 _ _ hp))) ?_ fun H4 s4 r4 => ?_
          · intro t x H4 us4 Z Z0 ht sm hD5 hl4 r z _
            have r : x = .int (t : Int) := r
            subst r
            have tn := List.mem_range.mp ht
            refine ⟨rfl, _, rfl, a, _, 0, _, rfl, rfl, SqT.of (sm _ _ (s123 _ _ ha)), at_nat (n := 0) rfl, _, rfl, c, _, _, _, rfl, rfl, SqT.of (sm _ _ (s123 _ _ hc)), at_nat (sz_at (by omega)), z _ _ (sz m t) rfl (Same.refl _) rfl⟩
          · rw [List.filterMap_eq_map', take_sizes hn] at r4
            obtain ⟨us3, hD3, al3⟩ := r3
            refine ⟨_, rfl, D5, D3, m.1.take n, m.2.filter keep, rfl, rL_vI r4, ⟨us3, s4 _ _ hD3, moTie.al (Same.ts s4) al3⟩, few2, fun H5 r s5 hr5 => q H5 r (s123.trans (s4.trans s5)) hr5⟩

/-! ### taken -/
abbrev sTak : Stmt := topS 37
theorem scTak : FnScope ["gluing", "t", "u"] ["gluing", "t"] (defScope sTak) := ⟨rfl, rfl, rfl, by decide +kernel, rfl, by decide +kernel, by decide +kernel⟩
def spTak : Sp := fun vs H Q _ => ∃ v m n, vs = [v, .int (n : Nat)] ∧ rG H v m ∧ Ok m ∧ m.1.length = n + 1 ∧ ∀ H' r, Same H H' → rG H' r (partG m n) → Q r H'
theorem fm_self {α : Type} {f : α → Option α} : ∀ {l : List α}, (∀ u ∈ l, f u = some u) → l.filterMap f = l
  | [], _ => rfl
  | a :: l, h => by
    rw [List.filterMap_cons, h a (by simp), fm_self fun u hu => h u (List.mem_cons_of_mem _ hu)]
theorem zero_cast (i : Nat) : (0 : Int) + (i : Nat) = (i : Nat) := Int.zero_add _
theorem range_but (n : Nat) : (List.range (n + 1)).filterMap (fun u => if u = n then none else some u) = List.range n := by
  rw [List.range_succ, List.filterMap_append]
  have e : (List.range n).filterMap (fun u => if u = n then none else some u) = List.range n := by
    refine fm_self fun u hu => ?_
    rw [if_neg]
    have := List.mem_range.mp hu
    omega
  rw [e]
  simp
theorem ok_tak {f : Addr} {fd : FuncData} (F : Fun K "taken" "taken" sTak f fd) (B : Bl mg) (cP : Cal P w K mg base "part_of" 2 ["gluing", "tiles"] spPar) : FnOk P w K mg base CX0 3 f fd ["gluing", "t"] spTak := by
  obtain ⟨fP, dP, GP, gP, kP, bP⟩ := cP
  refine F.ok scTak (fun vs H Q E h => ?_) (fun cdv A outer s H vs Q E hr h => ?_)
  · obtain ⟨v, m, n, rfl, _⟩ := h
    rfl
  · obtain ⟨v, m, n, rfl, hg, ok, hn, q⟩ := h
    refine ⟨_, pss_one (ps_ret (pe_call GP hr (by rfl) gP kP bP .nil pass0 (pa_cons (pv 0) (pa_cons
      (pe_lc (own := [("u", 2)]) (g := gName 2) rfl scTak.nd (pi_range1 (by rfl) B.ran (pa_cons (pe_callB call_len_seq (by rfl) B.len PySem.boot_len (pa_cons (pe_ix ix_tup (pv 0) pe_int (fun _ _ => rfl)) pa_nil)) pa_nil)) (blkOk_by (N := ["gluing", "t", "u"]) (sc := defScope sTak) (by decide +kernel))
        (fun _ _ _ _ _ => pg_name (i := 2) scTak.nd rfl (Or.inl rfl)) (fun _ _ _ _ _ => pts_one (pt_cmpR op_ne (pv 2) (pv 1) (nomark _))) (fun _ _ _ _ _ => pv 2)) pa_nil)))), ?_⟩
    have n8 := ok.few
    obtain ⟨a, p1, p2, rfl, ha, h1, h2⟩ := id hg
    obtain ⟨c, rfl, hc⟩ := sz_is h1
    refine ⟨_, rfl, _, rfl, a, _, 0, _, rfl, rfl, SqT.of ha, at_nat (n := 0) rfl, c, _, rfl, .inr (SqT.of hc), _, rfl, by rw [List.length_map]; omega, by rw [List.length_map]; omega, fun D nD => ?_⟩
    have en : (((m.1.map fun n : Nat => V.int (n : Int)).length : Nat) : Int).toNat = n + 1 := by rw [List.length_map, Int.toNat_natCast, hn]
    rw [en]
    refine lc_fm moN walk_range (fun u => if u = n then none else some u) nD (by omega) (fun _ _ => trivial) ?_ fun H2 s2 r2 => ?_
    · rintro i x H2 H3 us Z Z0 hi sm hD hl ⟨rfl, hx⟩ z z0
      have hx : x = .int (i : Int) := by
        rw [hx]
        show V.int (0 + (i : Int)) = _
        rw [Int.zero_add]
      subst hx
      refine ⟨rfl, _, rfl, _, rfl, rfl, _, rfl, ?_⟩
      rw [dec_nat]
      by_cases e : i = n
      · rw [decide_eq_true e]
        exact iteF (z0 (if_pos e) _ (Same.refl _))
      · rw [decide_eq_false e]
        exact iteT ⟨_, rfl, z _ _ i (if_neg e) (Same.refl _) rfl⟩
    · rw [range_but] at r2
      exact ⟨_, D, m, n, rfl, moG.mo (Same.ts s2) hg, ok, rL_vI r2, by omega, fun H3 r s3 hr3 => q H3 r (s2.trans s3) hr3⟩
end
end WP
set_option Elab.async false
set_option linter.all false
set_option maxRecDepth 100000
/-! laying: laid -/
namespace WP
open PySem L2 WR WM
theorem rim_few {g : Gl} (ok : Ok g) {c : List WM.Sd} (h : IsRim g c) : c.length ≤ 64 := va_few ok h.orb.nd fun y hy => (h.orb.val y hy).va
section
variable {P : Program} {w : World} {K : PySem.W.Frag} {mg : Str → Option Value} {base : Heap}
/-! ### laid -/
abbrev sLaid : Stmt := topS 34
abbrev nLaid : List Str := ["gluing", "side", "k", "s", "sizes", "ties", "more", "j", "one"]
theorem scLaid : FnScope nLaid ["gluing", "side", "k", "s"] (defScope sLaid) := ⟨rfl, rfl, rfl, by decide +kernel, rfl, by decide +kernel, by decide +kernel⟩
def spLaid : Sp := fun vs H Q _ => ∃ v u g x k s, vs = [v, u, .int (k : Nat), .int (s : Nat)] ∧ rG H v g ∧ rSd H u x ∧ Ok g ∧ Rim g x ∧ 1 ≤ k ∧ k ≤ 8 ∧ (∀ c, IsRim g c → c.head? = some x → k ≤ c.length) ∧
  ∀ H' r c, Same H H' → IsRim g c → c.head? = some x → rG H' r (layG g c k s) → Q r H'
theorem ok_laid {f : Addr} {fd : FuncData} (F : Fun K "laid" "laid" sLaid f fd) (B : Bl mg) (cR : Cal P w K mg base "rim_of" 6 ["gluing", "side"] spRof) : FnOk P w K mg base CX0 7 f fd ["gluing", "side", "k", "s"] spLaid := by
  obtain ⟨fR, dR, GR, gR, kR, bR⟩ := cR
  refine F.ok scLaid (fun vs H Q E h => ?_) (fun cdv A outer s H vs Q E hr h => ?_)
  · obtain ⟨v, u, g, x, k, s, rfl, _⟩ := h
    rfl
  · obtain ⟨v, u, g, x, k, sN, rfl, hg, hx, ok, rx, k1, k8, hk, q⟩ := h
    have hu := hu_of hr
    have hu64 := hr.units
    refine ⟨_, pss_cons (ps_asg (pv 0) (pg_tup (by rfl) (pgs_cons (pg_name (i := 4) scLaid.nd rfl (.inr rfl)) (pgs_cons (pg_name (i := 5) scLaid.nd rfl (.inl rfl)) pgs_nil))))
      (pss_cons (ps_setLc (i := 6) (own := [("j", 7), ("one", 8)]) (g := gTup K 2 (gCons (gName 7) (gCons (gName 8) gNil))) (tt := tYes) rfl scLaid.nd rfl rfl (sw_true rfl rfl rfl (by decide +kernel))
          (pi_enumT (by rfl) B.enu (pa_cons (pe_slice sl_tupA (pe_call GR hr (by rfl) gR kR bR .nil pass0 (pa_cons (pv 0) (pa_cons (pv 1) pa_nil))) po_none (po_some (pv 2))) pa_nil)) (blkOk_by (N := nLaid) (sc := defScope sLaid) (by decide +kernel))
          (fun _ _ _ _ _ => pg_tupK (K := K) rfl rfl (pgs_cons (pg_name (i := 7) scLaid.nd rfl (Or.inl rfl)) (pgs_cons (pg_name (i := 8) scLaid.nd rfl (Or.inl rfl)) pgs_nil))) (fun _ _ _ _ _ => pts_nil)
          (fun _ _ _ _ _ => pe_tup (pa_cons (pv 8) (pa_cons (pe_tup (pa_cons (pe_callB (len_seqK (K := K) rfl) (by rfl) B.len PySem.boot_len (pa_cons (pv 4) pa_nil)) (pa_cons (pe_op op_sub (pe_op op_sub (pv 2) pe_int) (pv 7)) pa_nil))) pa_nil))))
      (pss_one (ps_ret (pe_tup (pa_cons (pe_tup (StX.pa_star (pv 4) (pa_cons (pv 3) pa_nil))) (pa_cons (pe_callTy call_tuple_of (by rfl) B.tup (by decide +kernel) (pa_cons
        (pe_callB (cr_sortG enTie (fun x => ⟨_, _, rfl⟩) (by decide) hu64) (by rfl) B.srt (by decide +kernel) (pa_cons (pe_lst (StX.pa_star (pv 5) (StX.pa_star (pv 6) pa_nil))) pa_nil)) pa_nil)) pa_nil)))))), ?_⟩
    have hg0 := hg
    obtain ⟨a, p1, p2, rfl, ha, h1, h2⟩ := hg
    obtain ⟨c, rfl, hc⟩ := sz_is h1
    obtain ⟨e, ts, rfl, he, alt⟩ := h2
    refine ⟨_, rfl, a, _, rfl, SqT.of ha, rfl, _, _, rfl, _, _, rfl, rfl, ?_⟩
    refine ⟨_, rfl, _, rfl, .ref a, u, g, x, rfl, hg0, hx, ok, rx, fun H1 r cc s1 hr1 ir hd => ?_⟩
    refine ⟨_, rfl, (k : Int), rfl, ?_⟩
    refine slA_to moSd hr1 fun H2 r2 s2 hr2 => ?_
    obtain ⟨b, us, rfl, hb, al⟩ := hr2
    have hl := al.length
    have hkc := hk cc ir hd
    rw [List.length_take, Nat.min_eq_left hkc] at hl
    have s12 := s1.trans s2
    refine ⟨b, us, rfl, hb, fun D nD => ?_⟩
    refine lc_fm moTie (walk_enT (xs := us)) (fun j => some (cc.getD j (0, 0), (g.1.length, k - 1 - j))) nD (by omega) (fun H' s => s _ _ hb) ?_ fun H3 s3 r3 => ?_
    · rintro i y H3 H4 us3 Z Z0 hi sm hD hl3 ⟨T, x1, x2, rfl, nT, rfl, e1, e2⟩ z _
      have e1 : x1 = .int (i : Nat) := (Option.some.inj e1).symm
      subst e1
      have e2 : us[i]? = some x2 := e2
      obtain ⟨y, hy, ry⟩ := al.get e2
      have hik : i < k := by omega
      rw [List.getElem?_take_of_lt hik] at hy
      have sT := same_new (o := .tup [.int (i : Nat), x2]) nT
      refine ⟨T, _, rfl, SqT.of upd_same, rfl, _, _, rfl, _, _, rfl, rfl, rfl, ?_⟩
      have hcT := sT _ _ (sm _ _ (s12 _ _ hc))
      refine ⟨_, rfl, _, rfl, c, _, rfl, .inr (SqT.of hcT), _, rfl, _, _, rfl, rfl, _, rfl, _, _, rfl, rfl, ?_⟩
      refine ⟨by show 2 ≤ sizeLine; decide, fun o no => ⟨by show 2 ≤ sizeLine; decide, fun o2 no2 => ?_⟩⟩
      have so := (same_new (o := .tup [.int ((g.1.map fun n : Nat => V.int (n : Int)).length : Nat), .int ((k : Int) - 1 - (i : Int))]) no)
      have so2 := (same_new (o := .tup [x2, .ref o]) no2)
      refine z _ _ _ rfl (sT.trans (so.trans so2)) ?_
      have ry' := moSd.mo (Same.ts (sm.trans (sT.trans (so.trans so2)))) ry
      refine ⟨o2, x2, .ref o, rfl, upd_same, ?_, ?_⟩
      · show rSd _ x2 (cc.getD i (0, 0))
        rw [List.getD_eq_getElem?_getD, hy]
        exact ry'
      · refine mk_sd (x := (g.1.length, k - 1 - i)) (so2 _ _ ?_)
        rw [upd_same, List.length_map]
        have : ((k : Int) - 1 - (i : Int)) = ((k - 1 - i : Nat) : Int) := by omega
        show some (HO.tup [V.int (g.1.length : Int), V.int ((k : Int) - 1 - (i : Int))]) = _
        rw [this]
    · rw [hl, List.filterMap_eq_map'] at r3
      obtain ⟨us3, hD3, al3⟩ := r3
      have s123 := s12.trans s3
      have l3 := al3.length
      rw [List.length_map, List.length_range] at l3
      have tf := ties_few ok
      have lt := alt.length
      have n8 := ok.few
      refine ⟨_, rfl, c, _, rfl, .inl (SqT.of (s123 _ _ hc)), _, rfl, by show _ ≤ sizeLine; refine Nat.le_trans ?_ (by decide : 100 ≤ sizeLine); simp; omega, fun o no => ?_⟩
      have so := same_new (o := .tup ((g.1.map fun n : Nat => V.int (n : Int)) ++ [V.int (sN : Int)])) no
      refine ⟨_, rfl, e, ts, rfl, .inl (SqT.of (so _ _ (s123 _ _ he))), _, rfl, D, us3, rfl, .inr (SqL.of (so _ _ hD3)), by show _ ≤ sizeLine; refine Nat.le_trans ?_ (by decide : 100 ≤ sizeLine); simp; omega, fun o2 no2 => ?_⟩
      have so2 := same_new (o := .lst (ts ++ (us3 ++ []))) no2
      refine ⟨o2, g.2 ++ newT g.1.length k cc, rfl, ⟨ts ++ (us3 ++ []), upd_same, ?_⟩, fun o3 us4 no3 al4 => ?_⟩
      · rw [List.append_nil] at so2 ⊢
        exact (moTie.al (Same.ts (s123.trans (so.trans so2))) alt).app (moTie.al (Same.ts (so.trans so2)) al3)
      rw [dle_tie] at al4
      have so3 := same_new (o := .lst us4) no3
      refine ⟨o3, us4, rfl, .inl ⟨SqL.of upd_same, fun o4 no4 => ⟨by show 2 ≤ sizeLine; decide, fun o5 no5 => ?_⟩⟩⟩
      have so4 := same_new (o := .tup us4) no4
      have so5 := same_new (o := .tup [.ref o, .ref o4]) no5
      refine q _ _ cc (s123.trans (so.trans (so2.trans (so3.trans (so4.trans so5))))) ir hd ⟨o5, .ref o, .ref o4, rfl, upd_same, ⟨o, _, rfl, (so2.trans (so3.trans (so4.trans so5))) _ _ upd_same, ?_⟩, ⟨o4, us4, rfl, so5 _ _ upd_same, moTie.al (Same.ts (so3.trans (so4.trans so5))) al4⟩⟩
      exact (al_vI _ g.1).app (.cons rfl .nil)
end
end WP
set_option Elab.async false
set_option linter.all false
set_option maxRecDepth 100000
set_option maxHeartbeats 1000000
/-! laying: laid_word -/
namespace WP
open PySem L2 WR WM
/-- the marks and letters of a laid word -/
def lwT (ws : List Nat) (k s : Nat) : List (Nat × Nat) := (List.range (ws.length - k - 1)).map fun i => (k + 1 + i, ws.getD (k + 1 + i) 0)
def lwL (ws : List Nat) (k s : Nat) : List (Nat × Nat) := ((0, ws.getD 0 0 + 1) :: (List.replicate (s - k - 1) (ws.length, 1) ++ [(k, ws.getD k 0 + 1)])) ++ lwT ws k s
theorem lwL_letters (ws : List Nat) {k s : Nat} (h : k < ws.length) : (lwL ws k s).map (·.2) = wordN ws k s := by
  unfold lwL lwT wordN
  have e : ws.drop (k + 1) = (List.range (ws.length - k - 1)).map fun i => ws.getD (k + 1 + i) 0 := by
    refine List.ext_getElem? fun i => ?_
    rw [List.getElem?_drop]
    by_cases hi : i < ws.length - k - 1
    · rw [List.getElem?_map, range_at hi]
      show _ = some (ws.getD (k + 1 + i) 0)
      rw [List.getD_eq_getElem?_getD, List.getElem?_eq_getElem (by omega)]
      rfl
    · rw [List.getElem?_eq_none (by omega), List.getElem?_eq_none (by simp; omega)]
  rw [e]
  simp [List.map_replicate]
theorem lwL_length (ws : List Nat) {k s : Nat} (h : k < ws.length) (hs : k < s) : (lwL ws k s).length = ws.length + s - 2 * k := by
  unfold lwL lwT
  simp
  omega
theorem lw_al {H : Hp} {o1 o2 o5 : Addr} {p1 p2 p5 : WM.Sd} (n : Nat) (r1 : rSd H (.ref o1) p1) (r2 : rSd H (.ref o2) p2) (r5 : rSd H (.ref o5) p5) : Al (rSd H) (([V.ref o1] ++ (List.replicate n [V.ref o2]).flatten) ++ [V.ref o5]) (p1 :: (List.replicate n p2 ++ [p5])) := by
  rw [List.flatten_replicate_singleton]
  have rep : ∀ n, Al (rSd H) (List.replicate n (V.ref o2)) (List.replicate n p2) := fun n => by
    induction n with
    | zero => exact .nil
    | succ n ih => exact .cons r2 ih
  exact .cons r1 ((rep n).app (.cons r5 .nil))
section
variable {P : Program} {w : World} {K : PySem.W.Frag} {mg : Str → Option Value} {base : Heap}
/-! ### laid_word -/
abbrev sLw : Stmt := topS 35
abbrev nLw : List Str := ["word", "i", "k", "s", "b", "end", "found", "marks", "first", "j", "mark", "letter"]
theorem scLw : FnScope nLw ["word", "i", "k", "s"] (defScope sLw) := ⟨rfl, rfl, rfl, by decide +kernel, rfl, by decide +kernel, by decide +kernel⟩
def spLw : Sp := fun vs H Q _ => ∃ v ws k s, vs = [v, .int 0, .int (k : Nat), .int (s : Nat)] ∧ rSz H v ws ∧ ws.length ≤ 56 ∧ 1 ≤ k ∧ k < ws.length ∧ k < s ∧ s ≤ 8 ∧ ∀ H' r, Same H H' → rSz H' r (wordN ws k s) → Q r H'
theorem ok_lw {f : Addr} {fd : FuncData} (F : Fun K "laid_word" "laid_word" sLw f fd) (B : Bl mg) : FnOk P w K mg base CX0 1 f fd ["word", "i", "k", "s"] spLw := by
  refine F.ok scLw (fun vs H Q E h => ?_) (fun cdv A outer s H vs Q E hr h => ?_)
  · obtain ⟨v, ws, k, s, rfl, _⟩ := h
    rfl
  · obtain ⟨v, ws, k, sN, rfl, hv, h64, k1, kb, ks, s8, q⟩ := h
    have hu := hu_of hr
    have hu65 : (A.deeper (PyProof.Rows.envOfC "laid_word" (defScope sLw) s.heap.objs.size f cdv)).units + 65 < cLine := by have := hr.un; omega
    refine ⟨_, pss_cons (ps_asg (pe_tup (pa_cons (pe_callB call_len_seq (by rfl) B.len PySem.boot_len (pa_cons (pv 0) pa_nil)) (pa_cons (pe_op op_mod (pe_op op_add (pv 1) (pv 2)) (pe_callB call_len_seq (by rfl) B.len PySem.boot_len (pa_cons (pv 0) pa_nil))) pa_nil)))
          (pg_tup (by rfl) (pgs_cons (pg_name (i := 4) scLw.nd rfl (.inr rfl)) (pgs_cons (pg_name (i := 5) scLw.nd rfl (.inl rfl)) pgs_nil))))
      (pss_cons (ps_set (i := 6) scLw.nd rfl (.inl rfl) (pe_op op_cat (pe_op op_cat (pe_lst (pa_cons (pe_tup (pa_cons (pv 1) (pa_cons (pe_op op_add (pe_ix ix_tup (pv 0) (pv 1) (fun _ _ => rfl)) pe_int) pa_nil))) pa_nil))
            (pe_op op_rep (pe_lst (pa_cons (pe_tup (pa_cons (pv 4) (pa_cons pe_int pa_nil))) pa_nil)) (pe_op op_sub (pe_op op_sub (pv 3) (pv 2)) pe_int)))
          (pe_lst (pa_cons (pe_tup (pa_cons (pv 5) (pa_cons (pe_op op_add (pe_ix ix_tup (pv 0) (pv 5) (fun _ _ => rfl)) pe_int) pa_nil))) pa_nil))))
      (pss_cons (ps_expr (pe_bm PySem.F.plainAttrs_list PySem.F.slot_list_extend PySem.F.type_list_extend mt_extend (pv 6) (pa_cons
          (pe_lc (own := [("j", 9)]) (g := gName 9) (tt := tYes) rfl scLw.nd (pi_range2 (by rfl) B.ran (pa_cons (pe_op op_add (pe_op op_add (pv 1) (pv 2)) pe_int) (pa_cons (pe_op op_add (pv 1) (pv 4)) pa_nil))) (blkOk_by (N := nLw) (sc := defScope sLw) (by decide +kernel))
            (fun _ _ _ _ _ => pg_name (i := 9) scLw.nd rfl (Or.inl rfl)) (fun _ _ _ _ _ => pts_nil) (fun _ _ _ _ _ => pe_tup (pa_cons (pe_op op_mod (pv 9) (pv 4)) (pa_cons (pe_ix (ix_tupK (K := K) rfl) (pv 0) (pe_op op_mod (pv 9) (pv 4)) (fun _ _ => rfl)) pa_nil)))) pa_nil)))
      (pss_cons (ps_setLc (i := 7) (own := [("mark", 10), ("letter", 11)]) (g := gTup K 2 (gCons (gName 10) (gCons (gName 11) gNil))) (tt := tYes) rfl scLw.nd rfl rfl (sw_true rfl rfl rfl (by decide +kernel)) (pi_list (pv 6)) (blkOk_by (N := nLw) (sc := defScope sLw) (by decide +kernel))
          (fun _ _ _ _ _ => pg_tupK (K := K) rfl rfl (pgs_cons (pg_name (i := 10) scLw.nd rfl (Or.inl rfl)) (pgs_cons (pg_name (i := 11) scLw.nd rfl (Or.inl rfl)) pgs_nil))) (fun _ _ _ _ _ => pts_nil) (fun _ _ _ _ _ => pv 10))
      (pss_cons (ps_set (i := 8) scLw.nd rfl (.inl rfl) (pe_bm PySem.F.plainAttrs_list PySem.F.slot_list_index PySem.F.type_list_index (mt_idxE enN (by decide) hu65) (pv 7) (pa_cons (pe_ifExp (pt_cmpR (op_inN (K := K) rfl) pe_int (pv 7) rfl) pe_int (pv 5)) pa_nil)))
      (pss_one (ps_ret (pe_callTy call_tuple_of (by rfl) B.tup (by decide +kernel) (pa_cons
          (pe_lc (own := [("mark", 10), ("letter", 11)]) (g := gTup K 2 (gCons (gName 10) (gCons (gName 11) gNil))) (tt := tYes) rfl scLw.nd (pi_list (pe_op op_cat (pe_slice sl_list (pv 6) (po_some (pv 8)) po_none) (pe_slice sl_list (pv 6) po_none (po_some (pv 8))))) (blkOk_by (N := nLw) (sc := defScope sLw) (by decide +kernel))
            (fun _ _ _ _ _ => pg_tupK (K := K) rfl rfl (pgs_cons (pg_name (i := 10) scLw.nd rfl (Or.inl rfl)) (pgs_cons (pg_name (i := 11) scLw.nd rfl (Or.inl rfl)) pgs_nil))) (fun _ _ _ _ _ => pts_nil) (fun _ _ _ _ _ => pv 11)) pa_nil)))))))), ?_⟩
    obtain ⟨c, rfl, hc⟩ := sz_is hv
    have vl : (ws.map fun n : Nat => V.int (n : Int)).length = ws.length := List.length_map _
    have hmod : ∀ j : Nat, j < ws.length → ((j : Int)) % (((ws.map fun n : Nat => V.int (n : Int)).length : Nat) : Int) = (j : Int) := fun j hj => by
      rw [vl]
      exact Int.emod_eq_of_lt (by omega) (by omega)
    have wat : ∀ j : Nat, j < ws.length → atI (ws.map fun n : Nat => V.int (n : Int)) (j : Int) = some (.int ((ws.getD j 0 : Nat) : Int)) := fun j hj => at_nat (by
      rw [List.getElem?_map, List.getD_eq_getElem?_getD, List.getElem?_eq_getElem hj]
      rfl)
    have hend : ((0 : Int) + (k : Int)) % (((ws.map fun n : Nat => V.int (n : Int)).length : Nat) : Int) = (k : Int) := by
      rw [Int.zero_add]
      exact hmod k kb
    refine ⟨_, rfl, c, _, rfl, .inr (SqT.of hc), _, rfl, _, rfl, _, _, rfl, rfl, _, rfl, c, _, rfl, .inr (SqT.of hc), _, _, rfl, rfl, by rw [vl]; omega, by show 2 ≤ sizeLine; decide, fun o0 no0 => ?_⟩
    refine ⟨o0, _, rfl, SqT.of upd_same, rfl, _, _, rfl, _, _, rfl, rfl, ?_⟩
    have q0 := same_new (o := .tup [.int (((ws.map fun n : Nat => V.int (n : Int)).length : Nat) : Int), .int (((0 : Int) + (k : Int)) % (((ws.map fun n : Nat => V.int (n : Int)).length : Nat) : Int))]) no0
    -- found
    refine ⟨_, rfl, _, rfl, _, rfl, c, _, 0, _, rfl, rfl, SqT.of (q0 _ _ hc), wat 0 (by omega), _, _, rfl, rfl, by show 2 ≤ sizeLine; decide, fun o1 no1 => ⟨by show 1 ≤ sizeLine; decide, fun l1 nl1 => ?_⟩⟩
    have q1 := q0.trans ((same_new (o := .tup [.int 0, .int (((ws.getD 0 0 : Nat) : Int) + 1)]) no1).trans (same_new (o := .lst [.ref o1]) nl1))
    have m1 : rSd _ (.ref o1) (0, ws.getD 0 0 + 1) := mk_sd (x := (0, ws.getD 0 0 + 1)) ((same_new (o := .lst [.ref o1]) nl1) _ _ upd_same)
    refine ⟨_, rfl, by show 2 ≤ sizeLine; decide, fun o2 no2 => ⟨by show 1 ≤ sizeLine; decide, fun l2 nl2 => ?_⟩⟩
    have q2 := (same_new (o := .tup [.int (((ws.map fun n : Nat => V.int (n : Int)).length : Nat) : Int), .int 1]) no2).trans (same_new (o := .lst [.ref o2]) nl2)
    have m2 : rSd _ (.ref o2) (ws.length, 1) := mk_sd (x := (ws.length, 1)) ((same_new (o := .lst [.ref o2]) nl2) _ _ (by rw [upd_same, vl]; rfl))
    refine ⟨_, rfl, _, rfl, _, _, rfl, rfl, _, _, rfl, rfl, l2, _, [.ref o2], rfl, rfl, upd_same, by omega, by omega, ?_, fun p3 np3 => ?_⟩
    · refine Nat.le_trans ?_ (by decide : 100 ≤ sizeLine)
      rw [List.length_singleton]
      omega
    have s3 := same_new (o := .lst (List.replicate ((sN : Int) - (k : Int) - 1).toNat [V.ref o2]).flatten) np3
    have er : (List.replicate ((sN : Int) - (k : Int) - 1).toNat [V.ref o2]).flatten = List.replicate (sN - k - 1) (V.ref o2) := by
      rw [List.flatten_replicate_singleton]
      congr 1
      omega
    refine ⟨l1, p3, [.ref o1], _, rfl, rfl, s3 _ _ (q2 _ _ upd_same), upd_same, ?_, fun p4 np4 => ?_⟩
    · refine Nat.le_trans ?_ (by decide : 100 ≤ sizeLine)
      show 1 + (List.replicate ((sN : Int) - (k : Int) - 1).toNat [V.ref o2]).flatten.length ≤ 100
      rw [er, List.length_replicate]
      omega
    have s4 := same_new (o := .lst ([V.ref o1] ++ (List.replicate ((sN : Int) - (k : Int) - 1).toNat [V.ref o2]).flatten)) np4
    have q4 := q2.trans (s3.trans s4)
    refine ⟨_, rfl, _, rfl, _, rfl, c, _, _, _, rfl, rfl, SqT.of (q4 _ _ (q1 _ _ hc)), (by
      show atI _ (((0 : Int) + (k : Int)) % (((ws.map fun n : Nat => V.int (n : Int)).length : Nat) : Int)) = _
      rw [hend]
      exact wat k kb), _, _, rfl, rfl, by show 2 ≤ sizeLine; decide, fun o5 no5 => ⟨by show 1 ≤ sizeLine; decide, fun l5 nl5 => ?_⟩⟩
    have s5 := same_new (o := .tup [.int (((0 : Int) + (k : Int)) % (((ws.map fun n : Nat => V.int (n : Int)).length : Nat) : Int)), .int (((ws.getD k 0 : Nat) : Int) + 1)]) no5
    have s6 := same_new (o := .lst [.ref o5]) nl5
    have m5 : rSd _ (.ref o5) (k, ws.getD k 0 + 1) := mk_sd (x := (k, ws.getD k 0 + 1)) (s6 _ _ (by
      rw [upd_same]
      show some (HO.tup [V.int (((0 : Int) + (k : Int)) % (((ws.map fun n : Nat => V.int (n : Int)).length : Nat) : Int)), V.int (((ws.getD k 0 : Nat) : Int) + 1)]) = _
      rw [hend]
      rfl))
    have q6 := s5.trans s6
    refine ⟨p4, l5, _, [.ref o5], rfl, rfl, q6 _ _ upd_same, upd_same, ?_, fun p6 np6 => ?_⟩
    · refine Nat.le_trans ?_ (by decide : 100 ≤ sizeLine)
      rw [er]
      simp
      omega
    have s7 := same_new (o := .lst (([V.ref o1] ++ (List.replicate ((sN : Int) - (k : Int) - 1).toNat [V.ref o2]).flatten) ++ [V.ref o5])) np6
    have al6 := lw_al (((sN : Int) - (k : Int) - 1).toNat) (moSd.mo (Same.ts (q4.trans (q6.trans s7))) m1) (moSd.mo (Same.ts ((s3.trans s4).trans (q6.trans s7))) m2) (moSd.mo (Same.ts s7) m5)
    rw [show List.replicate ((sN : Int) - (k : Int) - 1).toNat (ws.length, 1) = List.replicate (sN - k - 1) (ws.length, 1) by congr 1; omega] at al6
    have q7 := q1.trans (q4.trans (q6.trans s7))
    -- extend
    refine ⟨_, rfl, .inl ⟨rfl, _, SqL.of upd_same⟩, _, rfl, _, rfl, _, _, rfl, rfl, _, _, rfl, rfl, _, rfl, _, rfl, _, _, rfl, rfl, _, _, rfl, ⟨by omega, by omega, by omega, by rw [vl]; omega⟩, fun D nD => ?_⟩
    have en : (((0 : Int) + (((ws.map fun n : Nat => V.int (n : Int)).length : Nat) : Int)) - ((0 : Int) + (k : Int) + 1)).toNat = ws.length - k - 1 := by
      rw [vl]
      omega
    rw [en]
    refine lc_fm moSd walk_range (fun i => some (k + 1 + i, ws.getD (k + 1 + i) 0)) nD (by omega) (fun _ _ => trivial) ?_ fun H8 s8' r8 => ?_
    · rintro i x H2 H3 us Z Z0 hi sm hD hl ⟨rfl, hx⟩ z _
      have hx : x = .int ((k + 1 + i : Nat) : Int) := by
        rw [hx]
        show V.int ((0 : Int) + (k : Int) + 1 + (i : Int)) = _
        congr 1
        omega
      subst hx
      have hj : k + 1 + i < ws.length := by omega
      refine ⟨rfl, _, rfl, _, rfl, _, _, rfl, rfl, by rw [vl]; omega, _, rfl, _, rfl, _, rfl, _, _, rfl, rfl, by rw [vl]; omega, c, _, _, _, rfl, rfl, SqT.of (sm _ _ (q7 _ _ hc)), (by
        show atI _ (((k + 1 + i : Nat) : Int) % (((ws.map fun n : Nat => V.int (n : Int)).length : Nat) : Int)) = _
        rw [hmod _ hj]
        exact wat _ hj), by show 2 ≤ sizeLine; decide, fun o no => ?_⟩
      refine z _ _ _ rfl (same_new no) (mk_sd (x := (k + 1 + i, ws.getD (k + 1 + i) 0)) ?_)
      rw [upd_same]
      show some (HO.tup [V.int (((k + 1 + i : Nat) : Int) % (((ws.map fun n : Nat => V.int (n : Int)).length : Nat) : Int)), _]) = _
      rw [hmod _ hj]
    rw [List.filterMap_eq_map'] at r8
    obtain ⟨us8, hD8, al8⟩ := r8
    have hp8 := s8' p6 _ upd_same
    have l8 := al8.length
    rw [List.length_map, List.length_range] at l8
    have l6 := al6.length
    refine ⟨p6, D, _, us8, rfl, rfl, hp8, hD8, ?_, ?_⟩
    · refine Nat.le_trans ?_ (by decide : 200 ≤ sizeLine)
      rw [l6]
      simp
      omega
    have al6' := moSd.al (Same.ts s8') al6
    generalize (([V.ref o1] ++ (List.replicate ((sN : Int) - (k : Int) - 1).toNat [V.ref o2]).flatten) ++ [V.ref o5]) = FF at hp8 al6' l6 ⊢
    have t8 := ts_put (o := .lst (FF ++ us8)) hp8 (fun _ e => HO.noConfusion e)
    have alF : Al (rSd (upd H8 p6 (.lst (FF ++ us8)))) (FF ++ us8) (lwL ws k sN) := (moSd.al t8 al6').app (moSd.al t8 al8)
    have LL := lwL_length ws kb ks
    have lF := alF.length
    have np6 : H p6 = none := (q1.trans (q4.trans q6)).free np6
    have qS : Same H (upd H8 p6 (.lst (FF ++ us8))) := fun b o e => by
      rw [upd_ne (ne_of_none e np6)]
      exact s8' _ _ (q7 _ _ e)
    generalize FF ++ us8 = F2 at alF lF qS ⊢
    -- marks
    refine ⟨_, rfl, p6, rfl, ⟨_, SqL.of upd_same⟩, fun D2 nD2 => ?_⟩
    refine lc_src moSd moN walk_list (fun x : WM.Sd => some x.1) nD2 alF (by omega) (fun H' s => SqL.of (s _ _ upd_same)) ?_ fun H9 s9 r9 => ?_
    · intro y x H2 us Z Z0 hy sm hD hl r z _
      obtain ⟨c1, rfl, hc1⟩ := sd_is r
      exact ⟨c1, _, rfl, SqT.of hc1, rfl, _, _, rfl, _, _, rfl, rfl, rfl, _, rfl, z _ _ _ rfl (Same.refl _) rfl⟩
    rw [List.filterMap_eq_map'] at r9
    have em : (lwL ws k sN).map (fun x : WM.Sd => x.1) = 0 :: ((List.replicate (sN - k - 1) (ws.length, 1) ++ [(k, ws.getD k 0 + 1)]) ++ lwT ws k sN).map (fun x : WM.Sd => x.1) := rfl
    have ez : ∀ z ∈ ((List.replicate (sN - k - 1) (ws.length, 1) ++ [(k, ws.getD k 0 + 1)]) ++ lwT ws k sN).map (fun x : WM.Sd => x.1), z ≠ 0 := fun z hz => by
      obtain ⟨y, hy, rfl⟩ := List.mem_map.mp hz
      rcases List.mem_append.mp hy with hy | hy
      · rcases List.mem_append.mp hy with hy | hy
        · rw [List.eq_of_mem_replicate hy]
          show ws.length ≠ 0
          omega
        · rw [List.mem_singleton] at hy
          rw [hy]
          show k ≠ 0
          omega
      · unfold lwT at hy
        obtain ⟨j, _, rfl⟩ := List.mem_map.mp hy
        show k + 1 + j ≠ 0
        omega
    have hD2 := rL_vI r9
    have h0 : 0 ∈ (lwL ws k sN).map (fun x : WM.Sd => x.1) := by rw [em]; exact List.mem_cons_self
    refine ⟨_, rfl, .inl ⟨rfl, _, SqL.of hD2⟩, _, rfl, D2, _, 0, rfl, rfl, .inl (SqL.of hD2), _, rfl, ?_⟩
    rw [decide_eq_true h0]
    refine iteT ⟨D2, .int 0, 0, _, rfl, rfl, ⟨_, hD2, al_vI _ _⟩, rfl, h0, fun j hj => ?_⟩
    have j0 : j = 0 := by
      cases j with
      | zero => rfl
      | succ j =>
        rw [em, List.getElem?_cons_succ] at hj
        exact absurd rfl (ez 0 (List.mem_of_getElem? hj))
    subst j0
    have hF9 := s9 p6 _ upd_same
    refine ⟨_, rfl, _, rfl, ((0 : Nat) : Int), rfl, p6, F2, rfl, SqL.of hF9, fun l8 nl8 => ?_⟩
    have s10 := same_new (o := .lst (cutV F2 (some ((0 : Nat) : Int)) none)) nl8
    refine ⟨_, rfl, _, rfl, ((0 : Nat) : Int), rfl, p6, F2, rfl, SqL.of (s10 _ _ hF9), fun l9 nl9 => ?_⟩
    have s11 := same_new (o := .lst (cutV F2 none (some ((0 : Nat) : Int)))) nl9
    have e1 : cutV F2 (some ((0 : Nat) : Int)) none = F2 := by rw [cut_from, List.drop_zero]
    have e2 : cutV F2 none (some ((0 : Nat) : Int)) = [] := by rw [cut_to, List.take_zero]
    refine ⟨l8, l9, _, _, rfl, rfl, s11 _ _ upd_same, upd_same, ?_, fun l10 nl10 => ?_⟩
    · refine Nat.le_trans ?_ (by decide : 200 ≤ sizeLine)
      show (cutV F2 (some ((0 : Nat) : Int)) none).length + (cutV F2 none (some ((0 : Nat) : Int))).length ≤ 200
      rw [e1, e2, lF]
      simp
      omega
    have eF : cutV F2 (some ((0 : Nat) : Int)) none ++ cutV F2 none (some ((0 : Nat) : Int)) = F2 := by rw [e1, e2, List.append_nil]
    rw [eF]
    have s12 := same_new (o := .lst F2) nl10
    have sX := s9.trans (s10.trans (s11.trans s12))
    have alX := moSd.al (Same.ts sX) alF
    refine ⟨l10, rfl, ⟨_, SqL.of upd_same⟩, fun D3 nD3 => ?_⟩
    refine lc_src (us := F2) moSd moN walk_list (fun x : WM.Sd => some x.2) nD3 alX (by omega) (fun H' s => SqL.of (s _ _ upd_same)) ?_ fun H11 s13 r11 => ?_
    · intro y x H2 us Z Z0 hy sm hD hl r z _
      obtain ⟨c1, rfl, hc1⟩ := sd_is r
      refine ⟨c1, _, rfl, SqT.of hc1, rfl, _, _, rfl, _, _, rfl, rfl, ?_⟩
      refine ⟨rfl, ?_⟩
      refine ⟨_, rfl, ?_⟩
      exact z _ _ _ rfl (Same.refl _) rfl
    rw [List.filterMap_eq_map', lwL_letters ws kb] at r11
    obtain ⟨us11, hD11, al11⟩ := r11
    refine ⟨D3, us11, rfl, .inl ⟨SqL.of hD11, fun o no => ?_⟩⟩
    exact q _ _ (qS.trans (sX.trans (s13.trans (same_new no)))) ⟨o, us11, rfl, upd_same, moN.al (ts_new no) al11⟩
end
end WP
set_option Elab.async false
set_option linter.all false
set_option maxRecDepth 100000
/-! the law's own: mates, round, onward, next_rim, rim -/
namespace WP
open PySem L2 WR WM
section
variable {P : Program} {w : World} {K : PySem.W.Frag} {mg : Str → Option Value} {base : Heap}
/-! ### _law_mates -/
abbrev sLmates : Stmt := topS 41
theorem scLmates : FnScope ["_law_gluing", "_law_found", "_law_one", "_law_other"] ["_law_gluing"] (defScope sLmates) := ⟨rfl, rfl, rfl, by decide +kernel, rfl, by decide +kernel, by decide +kernel⟩
theorem ok_lmates {f : Addr} {fd : FuncData} (F : Fun K "_law_mates" "_law_mates" sLmates f fd) : FnOk P w K mg base CX0 1 f fd ["_law_gluing"] spMates := by
  refine F.ok scLmates (fun vs H Q E h => ?_) (fun cdv A outer s H vs Q E hr h => ?_)
  · obtain ⟨v, g, rfl, _⟩ := h
    rfl
  · obtain ⟨v, g, rfl, hg, ok, q⟩ := h
    have hu := hu_of hr
    refine ⟨_, pss_cons (ps_set (i := 1) scLmates.nd rfl (.inl rfl) pe_dnewT)
      (pss_cons (ps_for PassesOwn.never rfl (pi_tup (pe_ix ix_tup (pv 0) pe_int (fun _ _ => rfl)))
          (pg_tup rfl (pgs_cons (pg_name (i := 2) scLmates.nd rfl (.inl rfl)) (pgs_cons (pg_name (i := 3) scLmates.nd rfl (.inl rfl)) pgs_nil)))
        (pss_cons (ps_dput hu (pv 1) (pv 2) (pv 3) rfl) (pss_one (ps_dput hu (pv 1) (pv 3) (pv 2) rfl))))
      (pss_one (ps_ret (pv 1)))), ?_⟩
    intro d nd
    obtain ⟨a, p1, p2, rfl, ha, h1, h2⟩ := hg
    obtain ⟨c, ts, rfl, hc, al⟩ := h2
    have s1 : Same H (upd H d (.dT [])) := same_new nd
    refine ⟨_, rfl, a, [p1, .ref c], 1, .ref c, rfl, rfl, SqT.of (s1 _ _ ha), at_nat (n := 1) rfl, c, rfl, ⟨_, SqT.of (s1 _ _ hc)⟩, for_tup (xs := ts) (fun i σ H2 => ∃ o1 o2, σ = [some (.ref a), some (.ref d), o1, o2] ∧ Same H H2 ∧
      tbl rSd H2 d (fun x y => (x, y) ∈ g.2.take i ∨ (y, x) ∈ g.2.take i))
      ⟨none, none, rfl, s1, [], upd_same, Tb.nil.imp fun z y => by simp⟩ (fun i σ H2 _ ⟨_, _, _, sm, _⟩ => SqT.of (sm _ _ hc)) ?_ ?_⟩
    · rintro i x σ H2 hx ⟨o1, o2, rfl, sm, kvs, hd, tb⟩
      obtain ⟨t, ht, hr⟩ := al.get hx
      obtain ⟨b, u1, u2, rfl, hb, r1, r2⟩ := moTie.mo (Same.ts sm) hr
      obtain ⟨b1, rfl, hb1⟩ := sd_tup r1
      obtain ⟨b2, rfl, hb2⟩ := sd_tup r2
      have hm : t ∈ g.2 := List.mem_of_getElem? ht
      have v1 := va_gr ok (ok.val t hm).1
      have v2 := va_gr ok (ok.val t hm).2
      refine ⟨b, [.ref b1, .ref b2], rfl, SqT.of hb, rfl, .ref b1, [.ref b2], rfl, .ref b2, [], rfl, rfl, ?_⟩
      -- found[one] = other
      have t1 := ts_put (o := .dT (putK kvs (ky t.1) (.ref b2))) hd (fun _ e => HO.noConfusion e)
      refine ⟨_, rfl, _, rfl, _, rfl, d, _, rfl, DPut.t hd hb1 tb.1.lt, ?_⟩
      have tb1 : Tb rSd (upd H2 d (.dT (putK kvs (ky t.1) (.ref b2)))) (putK kvs (ky t.1) (.ref b2)) _ := Tb.mo moSd t1 (tb.put v1 r2 fun z y => Iff.rfl)
      have t2 := ts_put (o := .dT (putK (putK kvs (ky t.1) (.ref b2)) (ky t.2) (.ref b1))) (upd_same (H := H2) (a := d) (o := .dT (putK kvs (ky t.1) (.ref b2)))) (fun _ e => HO.noConfusion e)
      -- found[other] = one
      refine ⟨_, rfl, _, rfl, _, rfl, d, _, rfl, DPut.t upd_same (t1 _ _ hb2) tb1.1.lt, ?_⟩
      have tb2 := Tb.mo moSd t2 (tb1.put v2 (moSd.mo t1 r1) (G := fun x y => (x, y) ∈ g.2.take (i + 1) ∨ (y, x) ∈ g.2.take (i + 1)) fun z y => mt_step ok ht z y)
      refine ⟨_, _, rfl, fun b o e => ?_, _, upd_same, tb2⟩
      have nb : b ≠ d := ne_of_none e nd
      rw [upd_ne nb, upd_ne nb]
      exact sm _ _ e
    · rintro σ H2 ⟨o1, o2, rfl, sm, kvs, hd, tb⟩
      rw [al.length, List.take_length] at tb
      exact ⟨_, rfl, q H2 d sm nd ⟨kvs, hd, tb⟩⟩


/-! ### _law_round -/
abbrev sLround : Stmt := topS 43
theorem scLround : FnScope ["_law_gluing", "_law_side", "_law_k"] ["_law_gluing", "_law_side", "_law_k"] (defScope sLround) := ⟨rfl, rfl, rfl, by decide +kernel, rfl, by decide +kernel, by decide +kernel⟩
def spLround : Sp := fun vs H Q _ => ∃ v u g x, vs = [v, u, .int 1] ∧ rG H v g ∧ rSd H u x ∧ Ok g ∧ Va g x ∧ ∀ H' r, Same H H' → rSd H' r (nx g x) → Q r H'
theorem ok_lround {f : Addr} {fd : FuncData} (F : Fun K "_law_round" "_law_round" sLround f fd) : FnOk P w K mg base CX0 1 f fd ["_law_gluing", "_law_side", "_law_k"] spLround := by
  refine F.ok scLround (fun vs H Q E h => ?_) (fun cdv A outer s H vs Q E hr h => ?_)
  · obtain ⟨v, u, g, x, rfl, _⟩ := h
    rfl
  · obtain ⟨v, u, g, x, rfl, hg, hx, ok, va, q⟩ := h
    refine ⟨_, pss_one (ps_ret (pe_tup (pa_cons (pe_ix ix_tup (pv 1) pe_int (fun _ _ => rfl)) (pa_cons (pe_op op_mod (pe_op op_add (pe_ix ix_tup (pv 1) pe_int (fun _ _ => rfl)) (pv 2))
          (pe_ix ix_tup (pe_ix ix_tup (pv 0) pe_int (fun _ _ => rfl)) (pe_ix ix_tup (pv 1) pe_int (fun _ _ => rfl)) (fun _ _ => rfl))) pa_nil)))), ?_⟩
    obtain ⟨b, rfl, hb⟩ := sd_is hx
    obtain ⟨a, p1, p2, rfl, ha, h1, h2⟩ := hg
    obtain ⟨c, rfl, hc⟩ := sz_is h1
    have s3 := (ok.sz va.1).1
    refine ⟨_, rfl, b, _, 0, _, rfl, rfl, SqT.of hb, at_nat (n := 0) rfl, _, rfl, b, _, 1, _, rfl, rfl, SqT.of hb, at_nat (n := 1) rfl, _, rfl, _, _, rfl, rfl, ?_⟩
    refine ⟨_, rfl, a, _, 0, _, rfl, rfl, SqT.of ha, at_nat (n := 0) rfl, _, rfl, b, _, 0, _, rfl, rfl, SqT.of hb, at_nat (n := 0) rfl, c, _, _, _, rfl, rfl, SqT.of hc, at_nat (sz_at va.1), _, _, rfl, rfl, ?_, ?_⟩
    · show (0 : Int) < (sz g x.1 : Int)
      omega
    · refine ⟨by show 2 ≤ sizeLine; decide, fun p np => ?_⟩
      refine q _ _ (same_new np) (mk_sd ?_)
      rw [upd_same]
      show some (HO.tup [V.int (x.1 : Int), V.int (((x.2 : Int) + 1) % (sz g x.1 : Int))]) = _
      rw [mod_cast_]
      rfl

/-! ### _law_onward -/
abbrev sLonw : Stmt := topS 44
theorem scLonw : FnScope ["_law_gluing", "_law_mates_here", "_law_share"] ["_law_gluing", "_law_mates_here", "_law_share"] (defScope sLonw) := ⟨rfl, rfl, rfl, by decide +kernel, rfl, by decide +kernel, by decide +kernel⟩
def spLonw : Sp := fun vs H Q _ => ∃ v d u g x y, vs = [v, .ref d, u] ∧ rG H v g ∧ tbl rSd H d (Mt g) ∧ rSd H u x ∧ Ok g ∧ Mt g x y ∧ ∀ H' r z, Same H H' → rSd H' r z → Ph g x z → Q r H'
theorem ok_lonw {f : Addr} {fd : FuncData} (F : Fun K "_law_onward" "_law_onward" sLonw f fd) (cR : Cal P w K mg base "_law_round" 1 ["_law_gluing", "_law_side", "_law_k"] spLround) : FnOk P w K mg base CX0 2 f fd ["_law_gluing", "_law_mates_here", "_law_share"] spLonw := by
  obtain ⟨fR, dR, GR, gR, kR, bR⟩ := cR
  refine F.ok scLonw (fun vs H Q E h => ?_) (fun cdv A outer s H vs Q E hr h => ?_)
  · obtain ⟨v, d, u, g, x, y, rfl, _⟩ := h
    rfl
  · obtain ⟨v, d, u, g, x, y, rfl, hg, ⟨kvs, hd, tb⟩, hx, ok, my, q⟩ := h
    have hu := hu_of hr
    refine ⟨_, pss_one (ps_ret (pe_ifExp (pt_cmp (pc_din hu (pv 2) (pv 1)) rfl) (pe_call GR hr (by rfl) gR kR bR .nil pass0 (pa_cons (pv 0) (pa_cons (pe_dget hu (pv 1) (pv 2) (fun _ _ => rfl)) (pa_cons pe_int pa_nil)))) pe_non)), ?_⟩
    obtain ⟨b, rfl, hb⟩ := sd_tup hx
    refine ⟨_, rfl, _, rfl, d, _, rfl, DGet.t hd hb, _, rfl, ?_⟩
    rcases tb.at x with ⟨_, n⟩ | ⟨m, z, e, hm, rm⟩
    · exact absurd my (n y)
    · rw [e]
      refine iteT ⟨_, rfl, _, rfl, _, rfl, d, m, rfl, ?_, ?_⟩
      · rw [← e]
        exact DGet.t hd hb
      · exact ⟨v, m, g, z, rfl, hg, rm, ok, (ok.mval hm).2, fun H' r s hr' => q H' r _ s hr' ⟨z, hm, rfl⟩⟩

/-! ### _law_next_rim -/
abbrev sLnr : Stmt := topS 45
theorem scLnr : FnScope ["_law_gluing", "_law_mates_here", "_law_side", "_law_share"] ["_law_gluing", "_law_mates_here", "_law_side"] (defScope sLnr) := ⟨rfl, rfl, rfl, by decide +kernel, rfl, by decide +kernel, by decide +kernel⟩
def spLnr : Sp := fun vs H Q _ => ∃ v d u g x, vs = [v, .ref d, u] ∧ rG H v g ∧ tbl rSd H d (Mt g) ∧ rSd H u x ∧ Ok g ∧ Rim g x ∧ ∀ H' r y, Same H H' → rSd H' r y → Fo g x y → Q r H'
theorem Wk.fo {g : Gl} (ok : Ok g) {x z : WM.Sd} {c : List WM.Sd} (rx : Rim g x) (k : Wk g (nx g x) c) (hz : c.getLast? = some z) (h : ∀ y, ¬ Mt g z y) : Fo g x z :=
  ⟨rx.va, c, ⟨k.nd, k.va, k.ch, nx g x, z, k.hd, hz, .inl ⟨fun y ⟨u, m, _⟩ => h u m, fun y => ok.start rx y⟩⟩, k.hd, hz⟩
theorem ok_lnr {f : Addr} {fd : FuncData} (F : Fun K "_law_next_rim" "_law_next_rim" sLnr f fd) (cR : Cal P w K mg base "_law_round" 1 ["_law_gluing", "_law_side", "_law_k"] spLround) (cO : Cal P w K mg base "_law_onward" 2 ["_law_gluing", "_law_mates_here", "_law_share"] spLonw) : FnOk P w K mg base CX0 3 f fd ["_law_gluing", "_law_mates_here", "_law_side"] spLnr := by
  obtain ⟨fR, dR, GR, gR, kR, bR⟩ := cR
  obtain ⟨fO, dO, GO, gO, kO, bO⟩ := cO
  refine F.ok scLnr (fun vs H Q E h => ?_) (fun cdv A outer s H vs Q E hr h => ?_)
  · obtain ⟨v, d, u, g, x, rfl, _⟩ := h
    rfl
  · obtain ⟨v, d, u, g, x, rfl, hg, td, hx, ok, rx, q⟩ := h
    have hu := hu_of hr
    refine ⟨_, pss_cons (ps_set (i := 3) scLnr.nd rfl (.inl rfl) (pe_call GR (hr.mono (by decide)) (by rfl) gR kR bR .nil pass0 (pa_cons (pv 0) (pa_cons (pv 2) (pa_cons pe_int pa_nil)))))
      (pss_cons (ps_while PassesOwn.never (pt_cmp (pc_din hu (pv 3) (pv 1)) rfl)
        (pss_one (ps_set (i := 3) scLnr.nd rfl (.inl rfl) (pe_call GO hr (by rfl) gO kO bO .nil pass0 (pa_cons (pv 0) (pa_cons (pv 1) (pa_cons (pv 3) pa_nil)))))))
      (pss_one (ps_ret (pv 3)))), ?_⟩
    refine ⟨v, rfl, _, rfl, v, u, g, x, rfl, hg, hx, ok, rx.va, fun H1 r s1 hr1 => ?_⟩
    refine ⟨fun m σ H2 => ∃ c z r, σ = [some v, some (.ref d), some u, some r] ∧ Same H H2 ∧ Wk g (nx g x) c ∧ c.getLast? = some z ∧ rSd H2 r z ∧ m + c.length = 65,
      ⟨64, [nx g x], nx g x, r, rfl, s1, ⟨rfl, by simp, fun y hy => by rw [List.mem_singleton] at hy; exact hy ▸ nx_va rx.va, trivial⟩, rfl, hr1, rfl⟩, ?_⟩
    rintro m σ H2 ⟨c, z, r, rfl, sm, wk, hz, hrz, hm⟩
    obtain ⟨kvs, hd, tb⟩ := tbl_mo moSd sm td
    obtain ⟨b, rfl, hb⟩ := sd_tup hrz
    refine ⟨_, rfl, _, rfl, d, _, rfl, DGet.t hd hb, _, rfl, ?_⟩
    rcases tb.at z with ⟨e, n⟩ | ⟨mv, y, e, hm', rm⟩
    · rw [e]
      exact iteF ⟨_, rfl, q H2 _ z sm hrz (wk.fo ok rx hz n)⟩
    · rw [e]
      refine iteT ⟨fun σ' H' => ∃ m', m' < m ∧ ∃ c z r, σ' = [some v, some (.ref d), some u, some r] ∧ Same H H' ∧ Wk g (nx g x) c ∧ c.getLast? = some z ∧ rSd H' r z ∧ m' + c.length = 65, fun σ' H' h => h, ?_⟩
      refine ⟨v, rfl, _, rfl, _, rfl, v, d, _, g, z, y, rfl, moG.mo (Same.ts sm) hg, ⟨kvs, hd, tb⟩, hrz, ok, hm', fun H3 r3 z3 s3 hr3 ph => ?_⟩
      have wk' := wk.more ok hz ph fun e => ok.start rx z (e ▸ ph)
      have fw := va_few ok wk'.nd wk'.va
      rw [List.length_append, List.length_singleton] at fw
      exact ⟨m - 1, by omega, c ++ [z3], z3, r3, rfl, sm.trans s3, wk', by simp, hr3, by rw [List.length_append, List.length_singleton]; omega⟩

/-! ### _law_rim -/
abbrev sLrim : Stmt := topS 46
abbrev nLrim : List Str := ["_law_gluing", "_law_side", "_law_mates_here", "_law_found", "_law_late"]
theorem scLrim : FnScope nLrim ["_law_gluing", "_law_side"] (defScope sLrim) := ⟨rfl, rfl, rfl, by decide +kernel, rfl, by decide +kernel, by decide +kernel⟩
theorem ok_lrim {f : Addr} {fd : FuncData} (F : Fun K "_law_rim" "_law_rim" sLrim f fd) (B : Bl mg) (cM : Cal P w K mg base "_law_mates" 1 ["_law_gluing"] spMates) (cN : Cal P w K mg base "_law_next_rim" 3 ["_law_gluing", "_law_mates_here", "_law_side"] spLnr) : FnOk P w K mg base CX0 4 f fd ["_law_gluing", "_law_side"] spRof := by
  obtain ⟨fM, dM, GM, gM, kM, bM⟩ := cM
  obtain ⟨fO, dO, GO, gO, kO, bO⟩ := cN
  refine F.ok scLrim (fun vs H Q E h => ?_) (fun cdv A outer s H vs Q E hr h => ?_)
  · obtain ⟨v, u, g, x, rfl, _⟩ := h
    rfl
  · obtain ⟨v, u, g, x, rfl, hg, hx, ok, rx, q⟩ := h
    have hu := hr.units
    refine ⟨_, pss_cons (ps_par (i := 2) (j := 3) (by rfl) scLrim.nd rfl rfl (by decide) rfl rfl (pa_cons (pe_call GM (hr.mono (by decide)) (by rfl) gM kM bM .nil pass0 (pa_cons (pv 0) pa_nil)) (pa_cons (pe_lst (pa_cons (pv 1) pa_nil)) pa_nil)) (by rfl))
      (pss_cons (ps_set (i := 4) scLrim.nd rfl (.inl rfl) (pe_call GO hr (by rfl) gO kO bO .nil pass0 (pa_cons (pv 0) (pa_cons (pv 2) (pa_cons (pv 1) pa_nil)))))
      (pss_cons (ps_while PassesOwn.never (pt_cmpR (op_neE enSd (by decide) hu) (pv 4) (pv 1) (nomark _))
        (pss_cons (ps_expr (pe_bm PySem.F.plainAttrs_list PySem.F.slot_list_append PySem.F.type_list_append mt_append (pv 3) (pa_cons (pv 4) pa_nil)))
          (pss_one (ps_set (i := 4) scLrim.nd rfl (.inl rfl) (pe_call GO hr (by rfl) gO kO bO .nil pass0 (pa_cons (pv 0) (pa_cons (pv 2) (pa_cons (pv 4) pa_nil))))))))
      (pss_one (ps_ret (pe_callTy call_tuple_of (by rfl) B.tup (by decide +kernel) (pa_cons (pv 3) pa_nil)))))), ?_⟩
    refine ⟨v, rfl, v, g, rfl, hg, ok, fun H0 d s0 nd td => ⟨_, rfl, by show 1 ≤ sizeLine; decide, fun p np => ⟨_, _, rfl, ?_⟩⟩⟩
    have s1 := same_new (o := .lst [u]) np
    have s01 := s0.trans s1
    have npH : H p = none := s0.free np
    refine ⟨v, rfl, _, rfl, _, rfl, v, d, u, g, x, rfl, moG.mo (Same.ts s01) hg, tbl_mo moSd s1 td, moSd.mo (Same.ts s01) hx, ok, rx, fun H1 r y s2 hry hfo => ?_⟩
    have s02 := s1.trans s2
    refine ⟨fun m σ H2 => ∃ c z y r, σ = [some v, some u, some (.ref d), some (.ref p), some r] ∧ Same H0 H2 ∧ rL rSd H2 p c ∧ Rw g x c ∧ c.getLast? = some z ∧ Fo g z y ∧ rSd H2 r y ∧ m + c.length = 65,
      ⟨64, [x], x, y, r, rfl, s1.trans s2, ⟨[u], s2 _ _ upd_same, .cons (moSd.mo (Same.ts (s0.trans s02)) hx) .nil⟩, ⟨rfl, by simp, fun y hy => by rw [List.mem_singleton] at hy; exact hy ▸ rx, trivial⟩, rfl, hfo, hry, rfl⟩, ?_⟩
    rintro m σ H2 ⟨c, z, y, r, rfl, sm, ⟨us, hp, al⟩, wk, hz, hfo, hry, hm⟩
    have smH := s0.trans sm
    refine ⟨_, rfl, _, rfl, y, x, hry, moSd.mo (Same.ts smH) hx, _, rfl, ?_⟩
    by_cases e : y = x
    · rw [decide_eq_true e]
      refine iteF ⟨_, rfl, p, us, rfl, .inl ⟨SqL.of hp, fun l nl => ?_⟩⟩
      rw [e] at hfo
      exact q _ _ c (smH.trans (same_new nl)) ⟨l, us, rfl, upd_same, moSd.al (ts_new nl) al⟩ (wk.rim hz hfo) wk.hd
    · rw [decide_eq_false e]
      have wk' := wk.more ok hz hfo e
      have fw := va_few ok wk'.nd (fun y hy => (wk'.va y hy).va)
      rw [List.length_append, List.length_singleton] at fw
      refine iteT ⟨fun σ' H' => ∃ m', m' < m ∧ ∃ c z y r, σ' = [some v, some u, some (.ref d), some (.ref p), some r] ∧ Same H0 H' ∧ rL rSd H' p c ∧ Rw g x c ∧ c.getLast? = some z ∧ Fo g z y ∧ rSd H' r y ∧ m' + c.length = 65, fun σ' H' h => h, ?_⟩
      have hl := al.length
      refine ⟨_, rfl, .inl ⟨rfl, _, SqL.of hp⟩, _, rfl, p, us, r, rfl, rfl, hp, Nat.lt_of_le_of_lt (by omega : us.length ≤ 64) (by decide), ?_⟩
      have t3 := ts_put (o := .lst (us ++ [r])) hp (fun _ e => HO.noConfusion e)
      have s3 : Same H0 (upd H2 p (.lst (us ++ [r]))) := fun b o e => by
        rw [upd_ne (ne_of_none e np)]
        exact sm _ _ e
      refine ⟨v, rfl, _, rfl, _, rfl, v, d, r, g, y, rfl, moG.mo (Same.ts (s0.trans s3)) hg, tbl_mo moSd s3 td, moSd.mo t3 hry, ok, wk'.va y (by simp), fun H4 r' y' s4 hry' hfo' => ?_⟩
      exact ⟨m - 1, by omega, c ++ [y], y, y', r', rfl, s3.trans s4, ⟨_, s4 _ _ upd_same, (moSd.al (t3.trans (Same.ts s4)) al).snoc (moSd.mo (t3.trans (Same.ts s4)) hry)⟩, wk', by simp, hfo', hry', by rw [List.length_append, List.length_singleton]; omega⟩
end
end WP
set_option Elab.async false
set_option linter.all false
set_option maxRecDepth 100000
set_option maxHeartbeats 1000000
/-! the law's own: sides, rims, turned words -/
namespace WP
open PySem L2 WR WM
def preS (g : Gl) (t : Nat) : List WM.Sd := ((List.range g.1.length).take t).flatMap fun t => (List.range (sz g t)).map fun i => (t, i)
theorem preS_succ {g : Gl} {t : Nat} (h : t < g.1.length) : preS g (t + 1) = preS g t ++ (List.range (sz g t)).map fun i => (t, i) := flat_take _ _ _ (range_at h)
theorem preS_all (g : Gl) : preS g g.1.length = allS g := by
  unfold preS allS
  rw [List.take_of_length_le (by simp)]
theorem preS_few {g : Gl} (ok : Ok g) (t : Nat) : (preS g t).length ≤ 64 := by
  have e : allS g = preS g t ++ ((List.range g.1.length).drop t).flatMap fun t => (List.range (sz g t)).map fun i => (t, i) := by
    unfold preS allS
    rw [← List.flatMap_append, List.take_append_drop]
  have := allS_few ok
  rw [e, List.length_append] at this
  omega
section
variable {P : Program} {w : World} {K : PySem.W.Frag} {mg : Str → Option Value} {base : Heap}
/-! ### _law_sides -/
abbrev sLsd : Stmt := topS 42
abbrev nLsd : List Str := ["_law_gluing", "_law_found", "_law_t", "_law_s", "_law_i"]
theorem scLsd : FnScope nLsd ["_law_gluing"] (defScope sLsd) := ⟨rfl, rfl, rfl, by decide +kernel, rfl, by decide +kernel, by decide +kernel⟩
theorem ok_lsd {f : Addr} {fd : FuncData} (F : Fun K "_law_sides" "_law_sides" sLsd f fd) (B : Bl mg) : FnOk P w K mg base CX0 1 f fd ["_law_gluing"] spShr := by
  refine F.ok scLsd (fun vs H Q E h => ?_) (fun cdv A outer s H vs Q E hr h => ?_)
  · obtain ⟨v, g, rfl, _⟩ := h
    rfl
  · obtain ⟨v, g, rfl, hg, ok, q⟩ := h
    refine ⟨_, pss_cons (ps_set (i := 1) scLsd.nd rfl (.inl rfl) (pe_lst pa_nil))
      (pss_cons (ps_for PassesOwn.never rfl (pi_enumT (by rfl) B.enu (pa_cons (pe_ix ix_tup (pv 0) pe_int (fun _ _ => rfl)) pa_nil)) (pg_tup rfl (pgs_cons (pg_name (i := 2) scLsd.nd rfl (.inr rfl)) (pgs_cons (pg_name (i := 3) scLsd.nd rfl (.inl rfl)) pgs_nil)))
        (pss_one (ps_set (i := 1) scLsd.nd rfl (.inl rfl) (pe_op op_cat (pv 1)
          (pe_lc (own := [("_law_i", 4)]) (g := gName 4) (tt := tYes) rfl scLsd.nd (pi_range1 (by rfl) B.ran (pa_cons (pv 3) pa_nil)) (blkOk_by (N := nLsd) (sc := defScope sLsd) (by decide +kernel))
            (fun _ _ _ _ _ => pg_name (i := 4) scLsd.nd rfl (Or.inl rfl)) (fun _ _ _ _ _ => pts_nil) (fun _ _ _ _ _ => pe_tup (pa_cons (pv 2) (pa_cons (pv 4) pa_nil))))))))
      (pss_one (ps_ret (pv 1)))), ?_⟩
    refine ⟨Nat.zero_le _, fun p0 np0 => ?_⟩
    have s0 := same_new (o := .lst []) np0
    obtain ⟨a, p1, p2, rfl, ha, h1, _⟩ := moG.mo (Same.ts s0) hg
    obtain ⟨c, rfl, hc⟩ := sz_is h1
    refine ⟨_, rfl, a, _, 0, _, rfl, rfl, SqT.of ha, at_nat (n := 0) rfl, c, _, rfl, hc, ?_⟩
    refine for_it walk_enT (n := (g.1.map fun n : Nat => V.int (n : Int)).length) (fun t σ H2 => ∃ o2 o3 p us, σ = [some (.ref a), some (.ref p), o2, o3, none] ∧ Same H H2 ∧ H p = none ∧ H2 c = some (.tup (g.1.map fun n : Nat => V.int (n : Int))) ∧ H2 p = some (.lst us) ∧ Al (rSd H2) us (preS g t))
      ⟨none, none, p0, [], rfl, s0, np0, hc, upd_same, .nil⟩ (fun t σ H2 _ ⟨_, _, _, _, _, _, _, h, _⟩ => h) ?_ ?_
    · rintro t x σ H2 H3 ht ⟨o2, o3, p, us, rfl, sm, np, hc2, hp, al⟩ ⟨T, x1, x2, rfl, nT, rfl, e1, e2⟩
      rw [List.length_map] at ht
      have e1 : x1 = .int (t : Nat) := (Option.some.inj e1).symm
      have e2 : x2 = .int (sz g t : Int) := Option.some.inj (e2.symm.trans (sz_at ht))
      subst e1
      subst e2
      have sT := same_new (o := .tup [.int (t : Nat), .int (sz g t : Int)]) nT
      have h7 := (ok.sz ht).2
      refine ⟨T, _, rfl, SqT.of upd_same, rfl, _, _, rfl, _, _, rfl, rfl, ?_⟩
      refine ⟨_, rfl, _, rfl, _, rfl, by omega, by omega, fun D nD => ?_⟩
      rw [Int.toNat_natCast]
      refine lc_fm moSd walk_range (fun i => some (t, i)) nD (by omega) (fun _ _ => trivial) ?_ fun H4 s4 r4 => ?_
      · rintro i x H5 H6 us5 Z Z0 hi sm5 hD hl ⟨rfl, hx⟩ z _
        have hx : x = .int (i : Int) := by
          rw [hx]
          show V.int (0 + (i : Int)) = _
          rw [Int.zero_add]
        subst hx
        exact ⟨rfl, _, rfl, _, rfl, by show 2 ≤ sizeLine; decide, fun o no => z _ _ _ rfl (same_new no) (mk_sd (x := (t, i)) upd_same)⟩
      · rw [List.filterMap_eq_map'] at r4
        obtain ⟨us4, hD, al4⟩ := r4
        have sA := sT.trans s4
        have l1 := al.length
        have l2 := al4.length
        rw [List.length_map, List.length_range] at l2
        have l3 := preS_few ok t
        refine ⟨p, D, us, us4, rfl, rfl, sA _ _ hp, hD, Nat.le_trans (by omega : _ ≤ 100) (by decide), fun p' np' => ?_⟩
        have sP := same_new (o := .lst (us ++ us4)) np'
        have sAll := sm.trans (sA.trans sP)
        refine ⟨_, _, p', _, rfl, sAll, (sm.trans sA).free np', (sA.trans sP) _ _ hc2, upd_same, ?_⟩
        rw [preS_succ ht]
        exact (moSd.al (Same.ts (sA.trans sP)) al).app (moSd.al (Same.ts sP) al4)
    · rintro σ H2 ⟨o2, o3, p, us, rfl, sm, np, hc2, hp, al⟩
      rw [List.length_map, preS_all] at al
      exact ⟨_, rfl, q H2 p sm np ⟨us, hp, al⟩⟩

/-! ### _law_lay -/
abbrev sLlay : Stmt := topS 48
abbrev nLlay : List Str := ["_law_gluing", "_law_side", "_law_k", "_law_s", "_law_many", "_law_stretch", "_law_ties", "_law_j", "_law_one"]
theorem scLlay : FnScope nLlay ["_law_gluing", "_law_side", "_law_k", "_law_s"] (defScope sLlay) := ⟨rfl, rfl, rfl, by decide +kernel, rfl, by decide +kernel, by decide +kernel⟩
theorem ok_llay {f : Addr} {fd : FuncData} (F : Fun K "_law_lay" "_law_lay" sLlay f fd) (B : Bl mg) (cR : Cal P w K mg base "_law_rim" 4 ["_law_gluing", "_law_side"] spRof) : FnOk P w K mg base CX0 5 f fd ["_law_gluing", "_law_side", "_law_k", "_law_s"] spLaid := by
  obtain ⟨fR, dR, GR, gR, kR, bR⟩ := cR
  refine F.ok scLlay (fun vs H Q E h => ?_) (fun cdv A outer s H vs Q E hr h => ?_)
  · obtain ⟨v, u, g, x, k, s, rfl, _⟩ := h
    rfl
  · obtain ⟨v, u, g, x, k, sN, rfl, hg, hx, ok, rx, k1, k8, hk, q⟩ := h
    have hu := hu_of hr
    have hu64 := hr.units
    refine ⟨_, pss_cons (ps_asg (pe_tup (pa_cons (pe_callB call_len_seq (by rfl) B.len PySem.boot_len (pa_cons (pe_ix ix_tup (pv 0) pe_int (fun _ _ => rfl)) pa_nil)) (pa_cons (pe_slice sl_tupA (pe_call GR hr (by rfl) gR kR bR .nil pass0 (pa_cons (pv 0) (pa_cons (pv 1) pa_nil))) po_none (po_some (pv 2))) pa_nil)))
          (pg_tup (by rfl) (pgs_cons (pg_name (i := 4) scLlay.nd rfl (.inr rfl)) (pgs_cons (pg_name (i := 5) scLlay.nd rfl (.inl rfl)) pgs_nil))))
      (pss_cons (ps_set (i := 6) scLlay.nd rfl (.inl rfl) (pe_op op_cat (pe_callTy call_list_of (by rfl) B.lst (by decide +kernel) (pa_cons (pe_ix ix_tup (pv 0) pe_int (fun _ _ => rfl)) pa_nil))
          (pe_lc (own := [("_law_j", 7), ("_law_one", 8)]) (g := gTup K 2 (gCons (gName 7) (gCons (gName 8) gNil))) (tt := tYes) rfl scLlay.nd (pi_enumT (by rfl) B.enu (pa_cons (pv 5) pa_nil)) (blkOk_by (N := nLlay) (sc := defScope sLlay) (by decide +kernel))
            (fun _ _ _ _ _ => pg_tupK (K := K) rfl rfl (pgs_cons (pg_name (i := 7) scLlay.nd rfl (Or.inl rfl)) (pgs_cons (pg_name (i := 8) scLlay.nd rfl (Or.inl rfl)) pgs_nil))) (fun _ _ _ _ _ => pts_nil)
            (fun _ _ _ _ _ => pe_tup (pa_cons (pv 8) (pa_cons (pe_tup (pa_cons (pv 4) (pa_cons (pe_op op_sub (pe_op op_sub (pv 2) pe_int) (pv 7)) pa_nil))) pa_nil))))))
      (pss_one (ps_ret (pe_tup (pa_cons (pe_op op_catA (pe_ix ix_tup (pv 0) pe_int (fun _ _ => rfl)) (pe_tup (pa_cons (pv 3) pa_nil))) (pa_cons (pe_callTy call_tuple_of (by rfl) B.tup (by decide +kernel) (pa_cons
        (pe_callB (cr_sortG enTie (fun x => ⟨_, _, rfl⟩) (by decide) hu64) (by rfl) B.srt (by decide +kernel) (pa_cons (pv 6) pa_nil)) pa_nil)) pa_nil)))))), ?_⟩
    have hg0 := hg
    obtain ⟨a, p1, p2, rfl, ha, h1, h2⟩ := hg
    obtain ⟨c, rfl, hc⟩ := sz_is h1
    obtain ⟨e, ts, rfl, he, alt⟩ := h2
    refine ⟨_, rfl, a, _, 0, _, rfl, rfl, SqT.of ha, at_nat (n := 0) rfl, c, _, rfl, .inr (SqT.of hc), ?_⟩
    refine ⟨_, rfl, _, rfl, .ref a, u, g, x, rfl, hg0, hx, ok, rx, fun H1 r cc s1 hr1 ir hd => ?_⟩
    refine ⟨_, rfl, (k : Int), rfl, ?_⟩
    refine slA_to moSd hr1 fun H2 r2 s2 hr2 => ?_
    obtain ⟨b, us, rfl, hb, al⟩ := hr2
    have hl := al.length
    have hkc := hk cc ir hd
    rw [List.length_take, Nat.min_eq_left hkc] at hl
    refine ⟨by show 2 ≤ sizeLine; decide, fun o0 no0 => ?_⟩
    have so0 := same_new (o := .tup [.int ((g.1.map fun n : Nat => V.int (n : Int)).length : Nat), .ref b]) no0
    have s12 := s1.trans (s2.trans so0)
    refine ⟨o0, _, rfl, SqT.of upd_same, rfl, _, _, rfl, _, _, rfl, rfl, ?_⟩
    refine ⟨_, rfl, a, _, 1, _, rfl, rfl, SqT.of (s12 _ _ ha), at_nat (n := 1) rfl, e, ts, rfl, .inr (SqT.of (s12 _ _ he)), fun l1 nl1 => ?_⟩
    have sl := same_new (o := .lst ts) nl1
    refine ⟨_, rfl, b, us, rfl, (so0.trans sl) _ _ hb, fun D nD => ?_⟩
    have alb := moSd.al (Same.ts (so0.trans sl)) al
    refine lc_fm moTie (walk_enT (xs := us)) (fun j => some (cc.getD j (0, 0), (g.1.length, k - 1 - j))) nD (by omega) (fun H' s => s _ _ ((so0.trans sl) _ _ hb)) ?_ fun H3 s3 r3 => ?_
    · rintro i y H3 H4 us3 Z Z0 hi sm hD hl3 ⟨T, x1, x2, rfl, nT, rfl, e1, e2⟩ z _
      have e1 : x1 = .int (i : Nat) := (Option.some.inj e1).symm
      subst e1
      have e2 : us[i]? = some x2 := e2
      obtain ⟨y, hy, ry⟩ := alb.get e2
      have hik : i < k := by omega
      rw [List.getElem?_take_of_lt hik] at hy
      have sT := same_new (o := .tup [.int (i : Nat), x2]) nT
      refine ⟨T, _, rfl, SqT.of upd_same, rfl, _, _, rfl, _, _, rfl, rfl, rfl, ?_⟩
      refine ⟨_, rfl, _, rfl, _, rfl, _, _, rfl, rfl, _, rfl, _, _, rfl, rfl, ?_⟩
      refine ⟨by show 2 ≤ sizeLine; decide, fun o no => ⟨by show 2 ≤ sizeLine; decide, fun o2 no2 => ?_⟩⟩
      have so := (same_new (o := .tup [.int ((g.1.map fun n : Nat => V.int (n : Int)).length : Nat), .int ((k : Int) - 1 - (i : Int))]) no)
      have so2 := (same_new (o := .tup [x2, .ref o]) no2)
      refine z _ _ _ rfl (sT.trans (so.trans so2)) ?_
      have ry' := moSd.mo (Same.ts (sm.trans (sT.trans (so.trans so2)))) ry
      refine ⟨o2, x2, .ref o, rfl, upd_same, ?_, ?_⟩
      · show rSd _ x2 (cc.getD i (0, 0))
        rw [List.getD_eq_getElem?_getD, hy]
        exact ry'
      · refine mk_sd (x := (g.1.length, k - 1 - i)) (so2 _ _ ?_)
        rw [upd_same, List.length_map]
        have : ((k : Int) - 1 - (i : Int)) = ((k - 1 - i : Nat) : Int) := by omega
        show some (HO.tup [V.int (g.1.length : Int), V.int ((k : Int) - 1 - (i : Int))]) = _
        rw [this]
    · rw [hl, List.filterMap_eq_map'] at r3
      obtain ⟨us3, hD3, al3⟩ := r3
      have s123 := s12.trans (sl.trans s3)
      have l3 := al3.length
      rw [List.length_map, List.length_range] at l3
      have tf := ties_few ok
      have lt := alt.length
      have n8 := ok.few
      refine ⟨l1, D, ts, us3, rfl, rfl, s3 _ _ upd_same, hD3, Nat.le_trans (by omega : _ ≤ 100) (by decide), fun l2 nl2 => ?_⟩
      have sl2 := same_new (o := .lst (ts ++ us3)) nl2
      have s4 := s123.trans sl2
      refine ⟨_, rfl, a, _, 0, _, rfl, rfl, SqT.of (s4 _ _ ha), at_nat (n := 0) rfl, _, rfl, by show 1 ≤ sizeLine; decide, fun o3 no3 => ?_⟩
      have so3 := same_new (o := .tup [V.int (sN : Int)]) no3
      refine catA_ moN (ys := [sN]) ⟨c, _, rfl, (s4.trans so3) _ _ hc, al_vI _ g.1⟩ ⟨o3, _, rfl, upd_same, .cons rfl .nil⟩ (by show _ + 1 ≤ 1000; omega) fun H5 r5 s5 hr5 => ?_
      have s6 := (sl2.trans so3).trans s5
      refine ⟨_, rfl, l2, g.2 ++ newT g.1.length k cc, rfl, ⟨ts ++ us3, (so3.trans s5) _ _ upd_same, ?_⟩, fun o4 us4 no4 al4 => ?_⟩
      · exact (moTie.al (Same.ts (s123.trans s6)) alt).app (moTie.al (Same.ts s6) al3)
      rw [dle_tie] at al4
      have so4 := same_new (o := .lst us4) no4
      refine ⟨o4, us4, rfl, .inl ⟨SqL.of upd_same, fun o5 no5 => ⟨by show 2 ≤ sizeLine; decide, fun o6 no6 => ?_⟩⟩⟩
      have so5 := same_new (o := .tup us4) no5
      have so6 := same_new (o := .tup [r5, .ref o5]) no6
      have s7 := so4.trans (so5.trans so6)
      exact q _ _ cc (s123.trans (s6.trans s7)) ir hd ⟨o6, r5, .ref o5, rfl, upd_same, moSz.mo (Same.ts s7) hr5, ⟨o5, us4, rfl, so6 _ _ upd_same, moTie.al (Same.ts s7) al4⟩⟩

/-! ### _law_turned_words -/
abbrev sLtw : Stmt := topS 51
theorem scLtw : FnScope ["_law_word", "_law_k"] ["_law_word"] (defScope sLtw) := ⟨rfl, rfl, rfl, by decide +kernel, rfl, by decide +kernel, by decide +kernel⟩
def spLtw : Sp := fun vs H Q _ => ∃ v ws, vs = [v] ∧ rSz H v ws ∧ ws.length ≤ 64 ∧ ∀ H' p, Same H H' → rL rSz H' p ((List.range ws.length).map fun k => ws.drop k ++ ws.take k) → Q (.ref p) H'
theorem ok_ltw {f : Addr} {fd : FuncData} (F : Fun K "_law_turned_words" "_law_turned_words" sLtw f fd) (B : Bl mg) : FnOk P w K mg base CX0 1 f fd ["_law_word"] spLtw := by
  refine F.ok scLtw (fun vs H Q E h => ?_) (fun cdv A outer s H vs Q E hr h => ?_)
  · obtain ⟨v, ws, rfl, _⟩ := h
    rfl
  · obtain ⟨v, ws, rfl, hv, h64, q⟩ := h
    refine ⟨_, pss_one (ps_ret (pe_lc (own := [("_law_k", 1)]) (g := gName 1) (tt := tYes) rfl scLtw.nd (pi_range1 (by rfl) B.ran (pa_cons (pe_callB call_len_seq (by rfl) B.len PySem.boot_len (pa_cons (pv 0) pa_nil)) pa_nil)) (blkOk_by (N := ["_law_word", "_law_k"]) (sc := defScope sLtw) (by decide +kernel))
        (fun _ _ _ _ _ => pg_name (i := 1) scLtw.nd rfl (Or.inl rfl)) (fun _ _ _ _ _ => pts_nil) (fun _ _ _ _ _ => pe_op (op_catAK (K := K) rfl) (pe_slice (sl_tupAK (K := K) rfl) (pv 0) (po_some (pv 1)) po_none) (pe_slice (sl_tupAK (K := K) rfl) (pv 0) po_none (po_some (pv 1)))))), ?_⟩
    obtain ⟨c, rfl, hc⟩ := sz_is hv
    have vl : (ws.map fun n : Nat => V.int (n : Int)).length = ws.length := List.length_map _
    refine ⟨_, rfl, c, _, rfl, .inr (SqT.of hc), _, rfl, by rw [vl]; omega, by rw [vl]; omega, fun D nD => ?_⟩
    rw [vl, Int.toNat_natCast]
    refine lc_fm moSz walk_range (fun k => some (ws.drop k ++ ws.take k)) nD (by omega) (fun _ _ => trivial) ?_ fun H2 s2 r2 => ?_
    · rintro i x H2 H3 us Z Z0 hi sm hD hl ⟨rfl, hx⟩ z _
      have hx : x = .int (i : Int) := by
        rw [hx]
        show V.int (0 + (i : Int)) = _
        rw [Int.zero_add]
      subst hx
      have hv2 := moSz.mo (Same.ts sm) hv
      refine ⟨rfl, _, rfl, _, rfl, _, rfl, ?_⟩
      dsimp only [tNoPart]
      refine slA_from moN hv2 fun H4 r4 s4 hr4 => ?_
      refine ⟨_, rfl, _, rfl, _, rfl, ?_⟩
      refine slA_to moN (moSz.mo (Same.ts s4) hv2) fun H5 r5 s5 hr5 => ?_
      refine catA_ moN (moSz.mo (Same.ts s5) hr4) hr5 (by simp; omega) fun H6 r6 s6 hr6 => ?_
      exact z _ _ _ rfl (s4.trans (s5.trans s6)) hr6
    · rw [List.filterMap_eq_map'] at r2
      exact q H2 D s2 r2
end
end WP
set_option Elab.async false
set_option linter.all false
set_option maxRecDepth 100000
/-! the law's own: rims -/
namespace WP
open PySem L2 WR WM
section
variable {P : Program} {w : World} {K : PySem.W.Frag} {mg : Str → Option Value} {base : Heap}
/-! ### _law_rims -/
abbrev sLrs2 : Stmt := topS 47
abbrev nLrs2 : List Str := ["_law_gluing", "_law_mates_here", "_law_seen", "_law_found", "_law_side"]
theorem scLrs2 : FnScope nLrs2 ["_law_gluing"] (defScope sLrs2) := ⟨rfl, rfl, rfl, by decide +kernel, rfl, by decide +kernel, by decide +kernel⟩
theorem ok_lrims {f : Addr} {fd : FuncData} (F : Fun K "_law_rims" "_law_rims" sLrs2 f fd) (B : Bl mg) (cM : Cal P w K mg base "_law_mates" 1 ["_law_gluing"] spMates) (cS : Cal P w K mg base "_law_sides" 1 ["_law_gluing"] spShr)
    (cR : Cal P w K mg base "_law_rim" 4 ["_law_gluing", "_law_side"] spRof) : FnOk P w K mg base CX0 5 f fd ["_law_gluing"] spRms := by
  obtain ⟨fM, dM, GM, gM, kM, bM⟩ := cM
  obtain ⟨fS, dS, GS, gS, kS, bS⟩ := cS
  obtain ⟨fC, dC, GC, gC, kC, bC⟩ := cR
  refine F.ok scLrs2 (fun vs H Q E h => ?_) (fun cdv A outer s H vs Q E hr h => ?_)
  · obtain ⟨v, g, rfl, _⟩ := h
    rfl
  · obtain ⟨v, g, rfl, hg, ok, q⟩ := h
    have hu := hu_of hr
    have hu65 : (A.deeper (PyProof.Rows.envOfC "_law_rims" (defScope sLrs2) s.heap.objs.size f cdv)).units + 65 < cLine := by have := hr.un; omega
    refine ⟨_, pss_cons (ps_par3 (i := 1) (j := 2) (l := 3) (by rfl) scLrs2.nd rfl rfl rfl (by decide) (by decide) (by decide) rfl rfl rfl
        (pa_cons (pe_call GM (hr.mono (by decide)) (by rfl) gM kM bM .nil pass0 (pa_cons (pv 0) pa_nil)) (pa_cons (pe_lst pa_nil) (pa_cons (pe_lst pa_nil) pa_nil))) (by rfl))
      (pss_cons (ps_for PassesOwn.never rfl (pi_list (pe_call GS (hr.mono (by decide)) (by rfl) gS kS bS .nil pass0 (pa_cons (pv 0) pa_nil))) (pg_name (i := 4) scLrs2.nd rfl (Or.inl rfl))
        (pss_one (ps_if (PW.pt (pw_and (pt_cmp (pc_dnotin hu (pv 4) (pv 1))) (pw_and1 (pt_cmpR (op_notInE enSd (by decide) hu65) (pv 4) (pv 2) rfl))))
          (pss_cons (ps_expr (pe_bm PySem.F.plainAttrs_list PySem.F.slot_list_append PySem.F.type_list_append mt_append (pv 3) (pa_cons (pe_call GC hr (by rfl) gC kC bC .nil pass0 (pa_cons (pv 0) (pa_cons (pv 4) pa_nil))) pa_nil)))
          (pss_one (ps_set (i := 2) scLrs2.nd rfl (.inl rfl) (pe_op op_cat (pv 2) (pe_callTy call_list_of (by rfl) B.lst (by decide +kernel) (pa_cons (pe_ix ix_list (pv 3) (pe_un un_neg pe_int) (fun _ _ => rfl)) pa_nil)))))) pss_nil)))
      (pss_one (ps_ret (pv 3)))), ?_⟩
    refine ⟨v, rfl, v, g, rfl, hg, ok, fun H1 d s1 nd td => ⟨Nat.zero_le _, fun q0 nq0 => ⟨Nat.zero_le _, fun p np => ⟨_, _, _, rfl, ?_⟩⟩⟩⟩
    have s2 := same_new (o := .lst []) nq0
    have s3 := same_new (o := .lst []) np
    have sAll : Same H _ := s1.trans (s2.trans s3)
    refine ⟨v, rfl, v, g, rfl, moG.mo (Same.ts sAll) hg, ok, fun H4 a s5 na ha => ?_⟩
    have np0 : H p = none := (s1.trans s2).free np
    have np1 : H1 p = none := s2.free np
    have nap : a ≠ p := (ne_of_none upd_same na).symm
    have nqp : q0 ≠ p := ne_of_none upd_same np
    obtain ⟨us, ha, al⟩ := ha
    refine ⟨a, rfl, ⟨_, SqL.of ha⟩, for_list (xs := us) (fun i σ H5 => ∃ o5 qq C ws zs, σ = [some v, some (.ref d), some (.ref qq), some (.ref p), o5] ∧ Same H1 H5 ∧ H5 a = some (.lst us) ∧ Al (rSd H5) us (allS g) ∧
      H5 p = some (.lst ws) ∧ Al (rCo H5) ws C ∧ H5 qq = some (.lst zs) ∧ Al (rSd H5) zs C.flatten ∧ qq ≠ p ∧ (∀ c ∈ C, IsRim g c) ∧ C.flatten.Nodup ∧ ∀ x ∈ (allS g).take i, Rim g x → x ∈ C.flatten)
      ⟨none, q0, [], [], [], rfl, s2.trans (s3.trans s5), ha, al, s5 _ _ upd_same, .nil, (s3.trans s5) _ _ upd_same, .nil, nqp, fun c hc => (by cases hc), List.nodup_nil, fun x hx => (by simp at hx)⟩ ?_ ?_ ?_⟩
    · rintro i σ H5 _ ⟨o5, qq, C, ws, zs, rfl, sm, h1, _⟩
      exact SqL.of h1
    · rintro i x σ H5 hx ⟨o5, qq, C, ws, zs, rfl, sm, h1, al5, h3, alC, h4, alZ, nqq, hC, ndC, cov⟩
      obtain ⟨y, hy, ry⟩ := al5.get hx
      have vy : Va g y := mem_allS.mp (List.mem_of_getElem? hy)
      obtain ⟨b, rfl, hb⟩ := sd_tup ry
      obtain ⟨tk, ht1, ht2⟩ := tbl_mo moSd sm td
      have skip : ∀ z ∈ (allS g).take (i + 1), Rim g z → (Rim g y → y ∈ C.flatten) → z ∈ C.flatten := fun z hz rz k => by
        rw [take_one hy] at hz
        rcases List.mem_append.mp hz with q | q
        · exact cov z q rz
        · rw [List.mem_singleton] at q
          subst q
          exact k rz
      refine ⟨_, rfl, _, rfl, d, _, rfl, DGet.t ht1 hb, _, rfl, ?_⟩
      by_cases hrim : Rim g y
      · rw [(tbl_has ht2 vy).mpr hrim]
        refine iteT ⟨_, rfl, _, rfl, qq, y, C.flatten, rfl, ry, ⟨zs, h4, alZ⟩, ?_⟩
        by_cases m : y ∈ C.flatten
        · refine ⟨false, by rw [if_pos rfl]; exact congrArg V.bl (by simp [m]), ?_⟩
          refine iteF ⟨_, qq, C, ws, zs, rfl, sm, h1, al5, h3, alC, h4, alZ, nqq, hC, ndC, fun z hz rz => skip z hz rz fun _ => m⟩
        · refine ⟨true, by rw [if_pos rfl]; exact congrArg V.bl (by simp [m]), ?_⟩
          refine iteT ?_
          have smH := s1.trans sm
          refine ⟨_, rfl, .inl ⟨rfl, _, SqL.of h3⟩, v, rfl, _, rfl, v, _, g, y, rfl, moG.mo (Same.ts smH) hg, ry, ok, hrim, fun H6 r c s6 hr6 co yc => ?_⟩
          have yc : y ∈ c := List.mem_of_mem_head? yc
          have hl := alC.length
          have ndC' : (C ++ [c]).flatten.Nodup := by
            rw [List.flatten_append]
            refine List.nodup_append.mpr ⟨ndC, by simpa using co.orb.nd, fun u hu u' hu' e => ?_⟩
            subst e
            obtain ⟨d', hd', hud⟩ := List.mem_flatten.mp hu
            have huc : u ∈ c := by simpa using hu'
            exact m (List.mem_flatten.mpr ⟨d', hd', ((hC d' hd').orb.same ok.biF co.orb hud huc y).mpr yc⟩)
          have hC' : ∀ e ∈ C ++ [c], IsRim g e := fun e he => by
            rcases List.mem_append.mp he with q | q
            · exact hC e q
            · rw [List.mem_singleton] at q
              exact q ▸ co
          have fl64 := va_few ok ndC' fun z hz => by
            obtain ⟨e, he, hze⟩ := List.mem_flatten.mp hz
            exact ((hC' e he).orb.val z hze).va
          have few : (C ++ [c]).length ≤ 64 := Nat.le_trans (len_flat fun e he => (hC' e he).orb.ne) fl64
          rw [List.length_append, List.length_singleton] at few
          have ef : (C ++ [c]).flatten = C.flatten ++ c := by simp
          rw [ef, List.length_append] at fl64
          refine ⟨p, ws, r, rfl, rfl, s6 _ _ h3, Nat.lt_of_le_of_lt (by omega : ws.length ≤ 64) (by decide), ?_⟩
          have tP := ts_put (o := .lst (ws ++ [r])) (s6 _ _ h3) (fun _ e => HO.noConfusion e)
          have t7 := (Same.ts s6).trans tP
          have h47 : (upd H6 p (.lst (ws ++ [r]))) qq = some (.lst zs) := by
            rw [upd_ne nqq]
            exact s6 _ _ h4
          have hr7 := moCo.mo tP hr6
          obtain ⟨ca, cs, rfl, hca, alc⟩ := hr7
          have lz := alZ.length
          have lc := alc.length
          refine ⟨_, rfl, _, rfl, 1, rfl, p, _, -1, .ref ca, rfl, rfl, SqL.of upd_same, ?_, ca, cs, rfl, .inr (SqT.of hca), fun l nl => ?_⟩
          · unfold atI ixN
            rw [if_neg (by omega), if_pos (by rw [List.length_append, List.length_singleton]; omega)]
            show (ws ++ [V.ref ca])[(-1 + ((ws ++ [V.ref ca]).length : Int)).toNat]? = some (V.ref ca)
            rw [List.length_append, List.length_singleton, show (-1 + ((ws.length + 1 : Nat) : Int)).toNat = ws.length by omega, List.getElem?_append_right (Nat.le_refl _)]
            simp
          have sl := same_new (o := .lst cs) nl
          refine ⟨qq, l, zs, cs, rfl, rfl, sl _ _ h47, upd_same, Nat.le_trans (by omega : _ ≤ 200) (by decide), fun l2 nl2 => ?_⟩
          have sl2 := same_new (o := .lst (zs ++ cs)) nl2
          have sB := sl.trans sl2
          have keep : ∀ c o, H5 c = some o → c ≠ p → (upd (upd (upd H6 p (.lst (ws ++ [.ref ca]))) l (.lst cs)) l2 (.lst (zs ++ cs))) c = some o := fun c o e n1 => sB _ _ (by
            rw [upd_ne n1]
            exact s6 _ _ e)
          have hp7 := sB _ _ (upd_same (H := H6) (a := p) (o := .lst (ws ++ [.ref ca])))
          refine ⟨_, l2, C ++ [c], ws ++ [.ref ca], zs ++ cs, rfl, fun b o e => keep b o (sm _ _ e) (ne_of_none e np1), keep _ _ h1 nap, moSd.al (t7.trans (Same.ts sB)) al5, hp7, ?_, upd_same, ?_, ?_, hC', ndC', fun z hz rz => ?_⟩
          · exact (moCo.al (t7.trans (Same.ts sB)) alC).snoc ⟨ca, cs, rfl, sB _ _ hca, moSd.al (Same.ts sB) alc⟩
          · rw [ef]
            exact (moSd.al (t7.trans (Same.ts sB)) alZ).app (moSd.al (Same.ts sB) alc)
          · exact (ne_of_none (sl _ _ upd_same) nl2).symm
          · rw [take_one hy] at hz
            rw [ef, List.mem_append]
            rcases List.mem_append.mp hz with q | q
            · exact .inl (cov z q rz)
            · rw [List.mem_singleton] at q
              exact .inr (q ▸ yc)
      · have e : (valV tk (ky y)).isSome = true := by
          cases q : (valV tk (ky y)).isSome with
          | true => rfl
          | false => exact absurd ((tbl_has ht2 vy).mp q) hrim
        rw [e]
        exact iteF (iteF ⟨_, qq, C, ws, zs, rfl, sm, h1, al5, h3, alC, h4, alZ, nqq, hC, ndC, fun z hz rz => skip z hz rz fun h => absurd h hrim⟩)
    · rintro σ H5 ⟨o5, qq, C, ws, zs, rfl, sm, h1, al5, h3, alC, h4, alZ, nqq, hC, ndC, cov⟩
      refine ⟨_, rfl, q H5 p C (s1.trans sm) np0 ⟨ws, h3, alC⟩ ⟨hC, ndC, fun x => ⟨fun hx => ?_, fun hx => ?_⟩⟩⟩
      · obtain ⟨c, hc, hxc⟩ := List.mem_flatten.mp hx
        exact (hC c hc).orb.val x hxc
      · refine cov x ?_ hx
        rw [al5.length, List.take_length]
        exact mem_allS.mpr hx.va
end
end WP
set_option Elab.async false
set_option linter.all false
set_option maxRecDepth 100000
/-! the law's own: pick -/
namespace WP
open PySem L2 WR WM
/-- the source of draws -/
def kvS (c : Addr) (l m t : Int) : List (Key × V) := [(.inr "cells", .ref c), (.inr "left", .int l), (.inr "mixed", .int m), (.inr "turn", .int t)]
theorem kvS_cells (c : Addr) (l m t : Int) : valV (kvS c l m t) (.inr "cells") = some (.ref c) := rfl
theorem kvS_left (c : Addr) (l m t : Int) : valV (kvS c l m t) (.inr "left") = some (.int l) := rfl
theorem kvS_mixed (c : Addr) (l m t : Int) : valV (kvS c l m t) (.inr "mixed") = some (.int m) := rfl
theorem kvS_turn (c : Addr) (l m t : Int) : valV (kvS c l m t) (.inr "turn") = some (.int t) := rfl
theorem kvS_putL (c : Addr) (l m t x : Int) : putK (kvS c l m t) (.inr "left") (.int x) = kvS c x m t := rfl
theorem kvS_putT (c : Addr) (l m t x : Int) : putK (kvS c l m t) (.inr "turn") (.int x) = kvS c l m x := rfl
def Src (H : Hp) (d c : Addr) : Prop := d ≠ c ∧ ∃ (cs : List Int) (l m t : Int), H d = some (.dK (kvS c l m t)) ∧ H c = some (.lst (cs.map V.int))
/-- all but the source stays -/
def Kp (d c : Addr) (H H' : Hp) : Prop := ∀ b o, b ≠ d → b ≠ c → H b = some o → H' b = some o
theorem Kp.refl (d c : Addr) (H : Hp) : Kp d c H H := fun _ _ _ _ h => h
theorem Kp.trans {d c : Addr} {H H1 H2 : Hp} (a : Kp d c H H1) (b : Kp d c H1 H2) : Kp d c H H2 := fun x o h1 h2 e => b x o h1 h2 (a x o h1 h2 e)
theorem Same.kp {d c : Addr} {H H' : Hp} (s : Same H H') : Kp d c H H' := fun x o _ _ e => s x o e
theorem Src.mo {d c : Addr} {H H' : Hp} (h : Src H d c) (s : Same H H') : Src H' d c := by
  obtain ⟨n, cs, l, m, t, h1, h2⟩ := h
  exact ⟨n, cs, l, m, t, s _ _ h1, s _ _ h2⟩
theorem Kp.ts {d c : Addr} {H H' : Hp} (k : Kp d c H H') (h : Src H d c) : TS H H' := fun a xs e => by
  obtain ⟨n, cs, l, m, t, h1, h2⟩ := h
  refine k a _ (fun q => ?_) (fun q => ?_) e
  · rw [q, h1] at e
    cases e
  · rw [q, h2] at e
    cases e
/-- what is laid behind the source is none of it -/
theorem Src.new {d c : Addr} {H : Hp} (h : Src H d c) {b : Addr} (e : H b = none) : b ≠ d ∧ b ≠ c := by
  obtain ⟨n, cs, l, m, t, h1, h2⟩ := h
  exact ⟨fun q => (by rw [q, h1] at e; cases e), fun q => (by rw [q, h2] at e; cases e)⟩
theorem tand_int {t u : TT} {σ : L2.St} {H : Hp} {Q : Bool → Hp → Prop} (b1 b2 : Bool) (h1 : ∀ Q' : Bool → Hp → Prop, Q' b1 H → t σ H Q') (h2 : ∀ Q' : Bool → Hp → Prop, Q' b2 H → u σ H Q') (q : Q (b1 && b2) H) : tAnd t u σ H Q := by
  refine h1 _ ?_
  cases b1 with
  | true => exact iteT (h2 _ q)
  | false => exact iteF q
section
variable {P : Program} {w : World} {K : PySem.W.Frag} {mg : Str → Option Value} {base : Heap}
/-! ### _law_pick -/
abbrev sPick : Stmt := topS 40
abbrev nPick : List Str := ["_law_source", "_law_most", "_law_cells", "_law_others", "_law_lap", "_law_stirred"]
theorem scPick : FnScope nPick ["_law_source", "_law_most"] (defScope sPick) := ⟨rfl, rfl, rfl, by decide +kernel, rfl, by decide +kernel, by decide +kernel⟩
/-- a pick of so many -/
def Pk (most : Int) (r : Nat) : Prop := (2 ≤ most → (r : Int) < most) ∧ (most < 2 → r = 0)
def spPick : Sp := fun vs H Q _ => ∃ d c most, vs = [.ref d, .int most] ∧ most ≤ 1000 ∧ Src H d c ∧ ∀ H' (r : Nat), Kp d c H H' → Src H' d c → Pk most r → Q (.int (r : Int)) H'
theorem pk_mod {i most : Int} (h : 2 ≤ most) : ∃ r : Nat, i % most = (r : Int) ∧ Pk most r := by
  have h0 := Int.emod_nonneg i (by omega : most ≠ 0)
  have h1 := Int.emod_lt_of_pos i (by omega : 0 < most)
  exact ⟨(i % most).toNat, by omega, fun _ => by omega, fun _ => by omega⟩
theorem ok_pick {f : Addr} {fd : FuncData} (F : Fun K "_law_pick" "_law_pick" sPick f fd) (B : Bl mg) : FnOk P w K mg base CX0 1 f fd ["_law_source", "_law_most"] spPick := by
  refine F.ok scPick (fun vs H Q E h => ?_) (fun cdv A outer s H vs Q E hr h => ?_)
  · obtain ⟨d, c, most, rfl, _⟩ := h
    rfl
  · obtain ⟨d, c, most, rfl, m1, src, q⟩ := h
    have hu := hu_of hr
    refine ⟨_, pss_cons (ps_if (pt_cmp (pc_lt (pv 1) pe_int)) (pss_one (ps_ret pe_int)) pss_nil)
      (pss_cons (ps_set (i := 2) scPick.nd rfl (.inl rfl) (pe_dget hu (pv 0) pe_str (fun _ _ => rfl)))
      (pss_cons (ps_while PassesOwn.never (PW.pt (pw_and (pt_cmp (pc_lt (pe_dget hu (pv 0) pe_str (fun _ _ => rfl)) pe_int)) (pw_and1 (pt_cmp (pc_gt (pe_callB call_len_seq (by rfl) B.len PySem.boot_len (pa_cons (pv 2) pa_nil)) pe_int)))))
        (pss_one (ps_dput hu (pv 0) pe_str (pe_bm0 PySem.F.plainAttrs_list PySem.F.slot_list_pop PySem.F.type_list_pop mt_pop (pv 2)) rfl)))
      (pss_cons (ps_set (i := 3) scPick.nd rfl (.inl rfl) (pe_dget hu (pv 0) pe_str (fun _ _ => rfl)))
      (pss_cons (ps_if (pt_cmp (pc_gt (pv 3) pe_int))
          (pss_cons (ps_dput hu (pv 0) pe_str (pe_op op_fdiv (pv 3) (pv 1)) rfl)
            (pss_one (ps_ret (pe_op op_mod (pe_callTy call_int1 (by rfl) B.int (by decide +kernel) (pa_cons (pv 3) pa_nil)) (pv 1))))) pss_nil)
      (pss_cons (ps_dput hu (pv 0) pe_str (pe_op op_add (pe_dget hu (pv 0) pe_str (fun _ _ => rfl)) pe_int) rfl)
      (pss_cons (ps_set (i := 4) scPick.nd rfl (.inl rfl) (pe_dget hu (pv 0) pe_str (fun _ _ => rfl)))
      (pss_cons (ps_set (i := 5) scPick.nd rfl (.inl rfl) (pe_op op_mod (pe_callTy call_int1 (by rfl) B.int (by decide +kernel) (pa_cons (pe_op op_add (pe_dget hu (pv 0) pe_str (fun _ _ => rfl)) (pe_op op_mul (pv 4) pe_int)) pa_nil)) pe_int))
      (pss_cons (ps_set (i := 5) scPick.nd rfl (.inl rfl) (pe_op op_mod (pe_callTy call_int1 (by rfl) B.int (by decide +kernel) (pa_cons (pe_op op_add (pe_op op_mul (pv 5) (pv 5)) (pe_op op_mul (pv 4) pe_int)) pa_nil)) pe_int))
      (pss_one (ps_ret (pe_op op_mod (pe_callTy call_int1 (by rfl) B.int (by decide +kernel) (pa_cons (pe_op op_fdiv (pv 5) pe_int) pa_nil)) (pv 1)))))))))))), ?_⟩
    obtain ⟨ndc, cs, l, m, t, hd, hc⟩ := src
    refine ⟨_, rfl, _, _, rfl, rfl, ?_⟩
    by_cases h2 : most < 2
    · exact ⟨true, congrArg V.bl (decide_eq_true h2), iteT (q H 0 (Kp.refl _ _ _) ⟨ndc, cs, l, m, t, hd, hc⟩ ⟨fun k => by omega, fun _ => rfl⟩)⟩
    refine ⟨false, congrArg V.bl (decide_eq_false h2), ?_⟩
    have h2 : 2 ≤ most := by omega
    refine iteF ⟨_, rfl, d, .ref c, rfl, DGet.k (k := .inr "cells") hd, ?_⟩
    refine ⟨fun n σ H2 => ∃ (cs : List Int) (l : Int), σ = [some (.ref d), some (.int most), some (.ref c), none, none, none] ∧ Kp d c H H2 ∧ H2 d = some (.dK (kvS c l m t)) ∧ H2 c = some (.lst (cs.map V.int)) ∧ n = cs.length,
      ⟨cs.length, cs, l, rfl, Kp.refl _ _ _, hd, hc, rfl⟩, ?_⟩
    clear hd hc
    rintro n σ H2 ⟨cs, l, rfl, kp, hd, hc, rfl⟩
    refine tand_int (decide (l < 2)) (decide ((0 : Int) < ((cs.map V.int).length : Int))) (fun Q' k => ⟨_, rfl, d, .int l, rfl, DGet.k (k := .inr "left") hd, l, 2, rfl, rfl, _, rfl, k⟩) (fun Q' k => ⟨_, rfl, c, _, rfl, .inl (SqL.of hc), _, _, rfl, rfl, _, rfl, k⟩) ?_
    have len4 : ∀ l m t, (kvS c l m t).length < sizeLine := fun l m t => by show 4 < sizeLine; decide
    cases hb : (decide (l < 2) && decide ((0 : Int) < ((cs.map V.int).length : Int))) with
    | true =>
      rw [Bool.and_eq_true, decide_eq_true_iff, decide_eq_true_iff, List.length_map] at hb
      have hne : cs ≠ [] := fun e => by
        rw [e] at hb
        exact absurd hb.2 (by decide)
      refine iteT ⟨fun σ' H' => ∃ n', n' < cs.length ∧ ∃ (cs : List Int) (l : Int), σ' = [some (.ref d), some (.int most), some (.ref c), none, none, none] ∧ Kp d c H H' ∧ H' d = some (.dK (kvS c l m t)) ∧ H' c = some (.lst (cs.map V.int)) ∧ n' = cs.length, fun σ' H' h => h, ?_⟩
      have hlast : (cs.map V.int)[(cs.map V.int).length - 1]? = some (.int (cs.getLast hne)) := by
        rw [List.length_map, List.getElem?_map, List.getLast_eq_getElem]
        rw [List.getElem?_eq_getElem]
        rfl
      refine ⟨_, rfl, .inl ⟨rfl, _, SqL.of hc⟩, c, _, _, rfl, rfl, hc, hlast, ?_⟩
      have hd' : (upd H2 c (.lst (cs.map V.int).dropLast)) d = some (.dK (kvS c l m t)) := by
        rw [upd_ne ndc]
        exact hd
      refine ⟨_, rfl, d, _, rfl, DPut.k (k := .inr "left") hd' (len4 _ _ _), ?_⟩
      rw [kvS_putL]
      refine ⟨cs.length - 1, by omega, cs.dropLast, _, rfl, fun b o h1 h2 e => ?_, upd_same, ?_, by rw [List.length_dropLast]⟩
      · rw [upd_ne h1, upd_ne h2]
        exact kp b o h1 h2 e
      · rw [upd_ne ndc.symm, upd_same, List.map_dropLast]
    | false =>
      refine iteF ⟨_, rfl, d, .int l, rfl, DGet.k (k := .inr "left") hd, ?_⟩
      refine ⟨_, rfl, _, _, rfl, rfl, ?_⟩
      by_cases h1 : 1 < l
      · refine ⟨true, congrArg V.bl (decide_eq_true h1), iteT ?_⟩
        refine ⟨_, rfl, _, rfl, _, _, rfl, rfl, ⟨by omega, by omega⟩, _, rfl, d, _, rfl, DPut.k (k := .inr "left") hd (len4 _ _ _), ?_⟩
        obtain ⟨r, e, pk⟩ := pk_mod (i := l) h2
        refine ⟨_, rfl, .inl ⟨_, rfl, _, rfl, _, _, rfl, rfl, by omega, ?_⟩⟩
        show Q (.int (l % most)) _
        rw [e]
        refine q _ r (fun b o h1 h2 e => ?_) ⟨ndc, cs, l / most, m, t, ?_, ?_⟩ pk
        · rw [upd_ne h1]
          exact kp b o h1 h2 e
        · exact upd_same
        · rw [upd_ne ndc.symm]
          exact hc
      · refine ⟨false, congrArg V.bl (decide_eq_false h1), iteF ?_⟩
        refine ⟨_, rfl, d, .int t, rfl, DGet.k (k := .inr "turn") hd, _, _, rfl, rfl, _, rfl, d, _, rfl, DPut.k (k := .inr "turn") hd (len4 _ _ _), ?_⟩
        have hd2 : (upd H2 d (.dK (putK (kvS c l m t) (.inr "turn") (.int (t + 1))))) d = some (.dK (kvS c l m (t + 1))) := upd_same
        refine ⟨_, rfl, d, .int (t + 1), rfl, DGet.k (k := .inr "turn") hd2, ?_⟩
        refine ⟨_, rfl, d, .int m, rfl, DGet.k (k := .inr "mixed") hd2, _, rfl, _, _, rfl, rfl, .inr ⟨by decide, by decide⟩, _, _, rfl, rfl, .inl ⟨_, rfl, _, _, rfl, rfl, (by decide : (0 : Int) < 998244353), ?_⟩⟩
        have bm : ∀ i : Int, CMul (i % 998244353) (i % 998244353) := fun i => by
          have h0 := Int.emod_nonneg i (by decide : (998244353 : Int) ≠ 0)
          have h1 := Int.emod_lt_of_pos i (by decide : (0 : Int) < 998244353)
          exact .inl ⟨by omega, by omega⟩
        refine ⟨_, rfl, _, rfl, _, _, rfl, rfl, bm _, _, rfl, _, _, rfl, rfl, .inr ⟨by decide, by decide⟩, _, _, rfl, rfl, .inl ⟨_, rfl, _, _, rfl, rfl, (by decide : (0 : Int) < 2147483647), ?_⟩⟩
        refine ⟨_, rfl, _, _, rfl, rfl, ⟨by decide, by decide⟩, .inl ⟨_, rfl, _, rfl, _, _, rfl, rfl, by omega, ?_⟩⟩
        obtain ⟨r, e, pk⟩ := pk_mod (i := ((((m + (t + 1) * 104729) % 998244353) * ((m + (t + 1) * 104729) % 998244353) + (t + 1) * 17) % 2147483647) / 16) h2
        show Q (.int (((((((m + (t + 1) * 104729) % 998244353) * ((m + (t + 1) * 104729) % 998244353) + (t + 1) * 17) % 2147483647) / 16)) % most)) _
        rw [e]
        refine q _ r (fun b o h1 h2 e => ?_) ⟨ndc, cs, l, m, t + 1, hd2, ?_⟩ pk
        · rw [upd_ne h1]
          exact kp b o h1 h2 e
        · rw [upd_ne ndc.symm]
          exact hc
end
end WP
set_option Elab.async false
set_option linter.all false
set_option maxRecDepth 100000
/-! the law's own: open_cells -/
namespace WP
open PySem L2 WR WM
section
variable {P : Program} {w : World} {K : PySem.W.Frag} {mg : Str → Option Value} {base : Heap}
/-! ### _law_open_cells -/
abbrev sOpen : Stmt := topS 39
abbrev nOpen : List Str := ["_law_script", "_law_stirred", "_law_cell", "_law_cells"]
theorem scOpen : FnScope nOpen ["_law_script"] (defScope sOpen) := ⟨rfl, rfl, rfl, by decide +kernel, rfl, by decide +kernel, by decide +kernel⟩
def spOpen (K : PySem.W.Frag) : Sp := fun vs H Q _ => ∃ (a : Addr) (ns : List Int), vs = [.ref a] ∧ SqL K H a (ns.map V.int) ∧ ns.length ≤ 63 ∧ ∀ H' d c, Same H H' → Src H' d c → Q (.ref d) H'
theorem al_ints (H : Hp) (ns : List Int) : Al (WR.rI H) (ns.map V.int) ns := Al.of_map (R := WR.rI H) V.int (fun n => rfl) ns
theorem ok_open {f : Addr} {fd : FuncData} (F : Fun K "_law_open_cells" "_law_open_cells" sOpen f fd) (B : Bl mg) : FnOk P w K mg base CX0 1 f fd ["_law_script"] (spOpen K) := by
  refine F.ok scOpen (fun vs H Q E h => ?_) (fun cdv A outer s H vs Q E hr h => ?_)
  · obtain ⟨a, ns, rfl, _⟩ := h
    rfl
  · obtain ⟨a, ns, rfl, hS, h63, q⟩ := h
    refine ⟨_, pss_cons (ps_set (i := 1) scOpen.nd rfl (.inl rfl) pe_int)
      (pss_cons (ps_for PassesOwn.never rfl (pi_list (pv 0)) (pg_name (i := 2) scOpen.nd rfl (.inl rfl))
        (pss_one (ps_set (i := 1) scOpen.nd rfl (.inl rfl) (pe_op op_mod (pe_callTy call_int1 (by rfl) B.int (by decide +kernel) (pa_cons (pe_op op_add (pe_op op_add (pe_op op_mul (pv 1) pe_int) (pe_op op_mul (pv 2) pe_int)) pe_int) pa_nil)) pe_int))))
      (pss_cons (ps_setLc (i := 3) (own := [("_law_cell", 2)]) (g := gName 2) (tt := tYes) rfl scOpen.nd rfl rfl (sw_true rfl rfl rfl (by decide +kernel)) (pi_list (pv 0)) (blkOk_by (N := nOpen) (sc := defScope sOpen) (by decide +kernel))
          (fun _ _ _ _ _ => pg_name (i := 2) scOpen.nd rfl (Or.inl rfl)) (fun _ _ _ _ _ => pts_nil) (fun _ _ _ _ _ => pe_callB call_abs (by rfl) B.abs (by decide +kernel) (pa_cons (pv 2) pa_nil)))
      (pss_one (ps_ret (pe_disp (pps_cons pe_str (pe_revL (pv 3)) (pps_cons pe_str pe_int (pps_cons pe_str (pv 1) (pps_cons pe_str pe_int pps_nil)))) (by rfl) (by rfl) (fun z => (by cases z)) (by decide)))))), ?_⟩
    refine ⟨_, rfl, a, rfl, ⟨_, hS⟩, for_list (xs := ns.map V.int) (fun i σ H2 => ∃ x o2, σ = [some (.ref a), some (.int x), o2, none] ∧ H2 = H) ⟨11, none, rfl, rfl⟩ (fun i σ H2 _ ⟨_, _, _, e⟩ => e ▸ hS) ?_ ?_⟩
    · rintro i x σ H2 hx ⟨y, o2, rfl, rfl⟩
      rw [List.getElem?_map] at hx
      cases en : ns[i]? with
      | none =>
        rw [en] at hx
        cases hx
      | some n =>
        rw [en] at hx
        cases Option.some.inj hx
        exact ⟨_, rfl, _, _, rfl, rfl, .inr ⟨by decide, by decide⟩, _, rfl, _, _, rfl, rfl, .inr ⟨by decide, by decide⟩, _, _, rfl, rfl, _, _, rfl, rfl, .inl ⟨_, rfl, _, _, rfl, rfl, (by decide : (0 : Int) < 2147483629), _, _, rfl, rfl⟩⟩
    · rintro σ H2 ⟨y, o2, rfl, rfl⟩
      refine ⟨_, rfl, a, rfl, ⟨_, hS⟩, fun D nD => ?_⟩
      refine lc_src moI moI walk_list (fun n : Int => some (if n < 0 then -n else n)) nD (al_ints _ ns) (by omega) (fun H' s => s.seq hS) ?_ fun H3 s3 r3 => ?_
      · intro n x H3 us Z Z0 hn sm hD hl r z _
        have r : x = .int n := r
        subst r
        exact ⟨rfl, _, rfl, n, rfl, z _ _ _ rfl (Same.refl _) rfl⟩
      · rw [List.filterMap_eq_map'] at r3
        obtain ⟨us, hD, al⟩ := r3
        rw [al.eq_map (f := V.int) fun v x r => r] at hD
        intro d nd
        have sd := same_new (o := .dK []) nd
        refine ⟨_, rfl, D, _, rfl, SqL.of (sd _ _ hD), fun r nr => ?_⟩
        have sr := same_new (o := .lst ((ns.map fun n : Int => if n < 0 then -n else n).map V.int).reverse) nr
        have ndr : d ≠ r := ne_of_none upd_same nr
        have hd' := sr d _ upd_same
        refine ⟨_, rfl, hd', kvS r 1 y 0, rfl, by show 4 ≤ 15; decide, ?_⟩
        refine q _ d r (fun b o e => ?_) ⟨ndr, (ns.map fun n : Int => if n < 0 then -n else n).reverse, 1, y, 0, upd_same, ?_⟩
        · rw [upd_ne (ne_of_none (s3 _ _ e) nd)]
          exact sr _ _ (sd _ _ (s3 _ _ e))
        · rw [upd_ne ndr.symm, upd_same, List.map_reverse]
end
end WP
set_option Elab.async false
set_option linter.all false
set_option maxRecDepth 100000
/-! the law's own: draw_plain -/
namespace WP
open PySem L2 WR WM
theorem rim_len {g : Gl} (ok : Ok g) {c c' : List WM.Sd} (h : IsRim g c) (h' : IsRim g c') {x : WM.Sd} (m : x ∈ c) (m' : x ∈ c') : c.length = c'.length := h.orb.len ok.biF h'.orb m m'
theorem Rs.some {g : Gl} {R : List (List WM.Sd)} (h : Rs g R) {x : WM.Sd} (hx : Rim g x) : ∃ c R', R = c :: R' ∧ IsRim g c := by
  have m := (h.all x).mpr hx
  cases R with
  | nil => simp at m
  | cons c R => exact ⟨c, R, rfl, h.rim c (by simp)⟩
section
variable {P : Program} {w : World} {K : PySem.W.Frag} {mg : Str → Option Value} {base : Heap}
/-! ### _law_draw_plain -/
abbrev sDp : Stmt := topS 49
abbrev nDp : List Str := ["_law_source", "_law_most", "_law_gluing", "_law_lap", "_law_rim_here", "_law_s", "_law_k"]
theorem scDp : FnScope nDp ["_law_source", "_law_most"] (defScope sDp) := ⟨rfl, rfl, rfl, by decide +kernel, rfl, by decide +kernel, by decide +kernel⟩
def spDp : Sp := fun vs H Q _ => ∃ d c most, vs = [.ref d, .int (most : Nat)] ∧ 2 ≤ most ∧ most ≤ 5 ∧ Src H d c ∧ ∀ H' r g, Kp d c H H' → Src H' d c → rG H' r g → Ok g → Pl g → g.1.length ≤ most → Q r H'
theorem ok_dp {f : Addr} {fd : FuncData} (F : Fun K "_law_draw_plain" "_law_draw_plain" sDp f fd) (B : Bl mg) (cP : Cal P w K mg base "_law_pick" 1 ["_law_source", "_law_most"] spPick) (cR : Cal P w K mg base "_law_rims" 5 ["_law_gluing"] spRms) (cL : Cal P w K mg base "_law_lay" 5 ["_law_gluing", "_law_side", "_law_k", "_law_s"] spLaid) :
    FnOk P w K mg base CX0 6 f fd ["_law_source", "_law_most"] spDp := by
  obtain ⟨fP, dP, GP, gP, kP, bP⟩ := cP
  obtain ⟨fR, dR, GR, gR, kR, bR⟩ := cR
  obtain ⟨fL, dL, GL, gL, kL, bL⟩ := cL
  refine F.ok scDp (fun vs H Q E h => ?_) (fun cdv A outer s H vs Q E hr h => ?_)
  · obtain ⟨d, c, most, rfl, _⟩ := h
    rfl
  · obtain ⟨d, c, most, rfl, m2, m5, src, q⟩ := h
    refine ⟨_, pss_cons (ps_set (i := 2) scDp.nd rfl (.inl rfl) (pe_tup (pa_cons (pe_tup (pa_cons (pe_op op_add pe_int (pe_call GP (hr.mono (by decide)) (by rfl) gP kP bP .nil pass0 (pa_cons (pv 0) (pa_cons pe_int pa_nil)))) pa_nil)) (pa_cons (pe_tup pa_nil) pa_nil))))
      (pss_cons (ps_for PassesOwn.never rfl (pi_range1 (by rfl) B.ran (pa_cons (pe_call GP (hr.mono (by decide)) (by rfl) gP kP bP .nil pass0 (pa_cons (pv 0) (pa_cons (pv 1) pa_nil))) pa_nil)) (pg_name (i := 3) scDp.nd rfl (.inl rfl))
        (pss_cons (ps_par (i := 4) (j := 5) (by rfl) scDp.nd rfl rfl (by decide) rfl rfl (pa_cons (pe_ix ix_list (pe_call GR (hr.mono (by decide)) (by rfl) gR kR bR .nil pass0 (pa_cons (pv 2) pa_nil)) pe_int (fun _ _ => rfl)) (pa_cons (pe_op op_add pe_int (pe_call GP (hr.mono (by decide)) (by rfl) gP kP bP .nil pass0 (pa_cons (pv 0) (pa_cons pe_int pa_nil)))) pa_nil)) (by rfl))
        (pss_cons (ps_set (i := 6) scDp.nd rfl (.inl rfl) (pe_op op_add pe_int (pe_call GP (hr.mono (by decide)) (by rfl) gP kP bP .nil pass0 (pa_cons (pv 0) (pa_cons (pe_op op_sub (pe_callB (call_min2 rfl) (by rfl) B.min (by decide +kernel) (pa_cons (pv 5) (pa_cons (pe_callB call_len_seq (by rfl) B.len PySem.boot_len (pa_cons (pv 4) pa_nil)) pa_nil))) pe_int) pa_nil)))))
        (pss_one (ps_set (i := 2) scDp.nd rfl (.inl rfl) (pe_call GL (hr.mono (by decide)) (by rfl) gL kL bL .nil pass0 (pa_cons (pv 2) (pa_cons (pe_ix ix_tup (pv 4) (pe_call GP (hr.mono (by decide)) (by rfl) gP kP bP .nil pass0 (pa_cons (pv 0) (pa_cons (pe_callB call_len_seq (by rfl) B.len PySem.boot_len (pa_cons (pv 4) pa_nil)) pa_nil))) (fun _ _ => rfl)) (pa_cons (pv 6) (pa_cons (pv 5) pa_nil))))))))))
      (pss_one (ps_ret (pv 2)))), ?_⟩
    refine ⟨_, rfl, d, c, 5, rfl, by decide, src, fun H1 r k1 src1 pk1 => ⟨_, _, rfl, rfl, ?_⟩⟩
    have r5 : r < 5 := by have := pk1.1 (by decide); omega
    refine ⟨by show 1 ≤ sizeLine; decide, fun o1 n1 => ⟨Nat.zero_le _, fun o2 n2 => ⟨by show 2 ≤ sizeLine; decide, fun o3 n3 => ?_⟩⟩⟩
    have s1 := same_new (o := .tup [.int ((3 : Int) + (r : Int))]) n1
    have s2 := same_new (o := .tup []) n2
    have s3 := same_new (o := .tup [.ref o1, .ref o2]) n3
    have k3 := k1.trans (Same.kp (d := d) (c := c) (s1.trans (s2.trans s3)))
    have src3 := src1.mo (s1.trans (s2.trans s3))
    have hg : rG _ (.ref o3) (oneG (3 + r)) := ⟨o3, .ref o1, .ref o2, rfl, upd_same, ⟨o1, _, rfl, (s2.trans s3) _ _ upd_same, .cons (by show V.int ((3 : Int) + (r : Int)) = V.int ((3 + r : Nat) : Int); congr 1) .nil⟩, ⟨o2, _, rfl, s3 _ _ upd_same, .nil⟩⟩
    refine ⟨_, rfl, _, rfl, d, c, (most : Int), rfl, by omega, src3, fun H4 n k4 src4 pk4 => ?_⟩
    have nm : n < most := by have := pk4.1 (by omega); omega
    refine ⟨_, rfl, by omega, by omega, ?_⟩
    rw [Int.toNat_natCast]
    refine for_it walk_range (n := n) (fun i σ H2 => ∃ g r o3 o4 o5 o6, σ = [some (.ref d), some (.int (most : Nat)), some r, o3, o4, o5, o6] ∧ Kp d c H H2 ∧ Src H2 d c ∧ rG H2 r g ∧ Ok g ∧ Pl g ∧ g.1.length ≤ i + 1)
      ⟨oneG (3 + r), _, none, none, none, none, rfl, k3.trans k4, src4, moG.mo (k4.ts src3) hg, ok_one (by omega) (by omega), pl_one (by omega), Nat.le_refl _⟩ (fun _ _ _ _ _ => trivial) ?_ ?_
    · rintro i x σ H2 H2' hi ⟨g, r, o3, o4, o5, o6, rfl, kp, src2, hg, ok, pl, hlen⟩ ⟨rfl, hx⟩
      have g7 : g.1.length ≤ 7 := by omega
      refine ⟨_, rfl, r, g, rfl, hg, ok, fun H5 p R s5 np ⟨us, hp, al⟩ rs => ?_⟩
      obtain ⟨x0, hx0⟩ := pl.some
      obtain ⟨c0, R', rfl, ir⟩ := rs.some hx0
      obtain ⟨v0, hv0, rv0⟩ := al.at (i := 0) rfl
      have c2 := pl.len ok ir
      have c64 := rim_few ok ir
      have kp5 : Kp d c _ H5 := Same.kp s5
      have src5 := src2.mo s5
      refine ⟨p, us, 0, v0, rfl, rfl, SqL.of hp, at_nat (n := 0) hv0, _, rfl, d, c, 5, rfl, by decide, src5, fun H6 r6 k6 src6 pk6 => ⟨_, _, rfl, rfl, _, _, rfl, ?_⟩⟩
      have r65 : r6 < 5 := by have := pk6.1 (by decide); omega
      have t6 := k6.ts src5
      obtain ⟨b, vs, rfl, hb, alb⟩ := moCo.mo t6 rv0
      have lb := alb.length
      -- k
      refine ⟨_, rfl, _, rfl, _, rfl, b, vs, rfl, .inr (SqT.of hb), _, _, rfl, ?_⟩
      refine ⟨_, _, rfl, rfl, d, c, _, rfl, ?_, src6, fun H7 r7 k7 src7 pk7 => ⟨_, _, rfl, rfl, ?_⟩⟩
      · show (if ((vs.length : Nat) : Int) < ((3 : Int) + (r6 : Int)) then ((vs.length : Nat) : Int) else ((3 : Int) + (r6 : Int))) - 1 ≤ 1000
        split <;> omega
      have pk7 : Pk ((if ((vs.length : Nat) : Int) < ((3 : Int) + (r6 : Int)) then ((vs.length : Nat) : Int) else ((3 : Int) + (r6 : Int))) - 1) r7 := pk7
      have hk : 1 + r7 < 3 + r6 ∧ 1 + r7 < c0.length := by
        obtain ⟨p1, p2⟩ := pk7
        split at p1 <;> rename_i h
        · rw [if_pos h] at p2
          by_cases h2 : (2 : Int) ≤ (vs.length : Int) - 1
          · have := p1 h2
            omega
          · have := p2 (by omega)
            omega
        · rw [if_neg h] at p2
          by_cases h2 : (2 : Int) ≤ (3 + (r6 : Int)) - 1
          · have := p1 h2
            omega
          · have := p2 (by omega)
            omega
      have t7 := k7.ts src6
      have hb7 := t7 _ _ hb
      refine ⟨_, rfl, _, rfl, _, rfl, _, rfl, b, vs, rfl, .inr (SqT.of hb7), d, c, _, rfl, by omega, src7, fun H8 r8 k8 src8 pk8 => ?_⟩
      have h8 : r8 < c0.length := by
        have := pk8.1 (by omega)
        omega
      have t8 := k8.ts src7
      have hb8 := t8 _ _ hb7
      have alb8 := moSd.al (t7.trans t8) alb
      obtain ⟨vx, hvx, rvx⟩ := alb8.at (List.getElem?_eq_getElem h8)
      have hg8 := moG.mo ((kp5.trans k6 |>.ts src2).trans (t7.trans t8)) hg
      refine ⟨b, vs, _, vx, rfl, rfl, SqT.of hb8, at_nat hvx, _, rfl, _, rfl, r, vx, g, c0[r8], 1 + r7, 3 + r6, ?_, hg8, rvx, ok, ir.orb.val _ (List.getElem_mem h8), by omega, by omega, fun c' ic' hc' => ?_, fun H9 r9 c' s9 ic' hc' hr9 => ?_⟩
      · show [r, vx, V.int ((1 : Int) + (r7 : Int)), V.int ((3 : Int) + (r6 : Int))] = _
        rw [show (1 : Int) + (r7 : Int) = ((1 + r7 : Nat) : Int) by omega, show (3 : Int) + (r6 : Int) = ((3 + r6 : Nat) : Int) by omega]
      · have := rim_len ok ir ic' (List.getElem_mem h8) (List.mem_of_mem_head? hc')
        omega
      · have le := rim_len ok ir ic' (List.getElem_mem h8) (List.mem_of_mem_head? hc')
        have L := lay_of (s := 3 + r6) (k := 1 + r7) ok g7 ic' (by omega) (by omega) (by omega) (by omega) (by omega)
        refine ⟨_, r9, _, _, _, _, rfl, kp.trans (kp5.trans (k6.trans (k7.trans (k8.trans (Same.kp s9))))), src8.mo s9, hr9, L.okm, L.pl pl, ?_⟩
        rw [L.len]
        omega
    · rintro σ H2 ⟨g, r, o3, o4, o5, o6, rfl, kp, src2, hg, ok, pl, hlen⟩
      exact ⟨_, rfl, q H2 r g kp src2 hg ok pl (by omega)⟩
end
end WP
set_option Elab.async false
set_option linter.all false
set_option maxRecDepth 100000
/-! ways that meet again; spare sides; a pair in order -/
namespace WP
open PySem L2 WR WM
theorem seq_inv {t u : TS} {D : Ends} {σ : L2.St} {H : Hp} (Inv : L2.St → Hp → Prop) (h2 : ∀ σ' H', Inv σ' H' → u D σ' H') (h1 : ∀ D' : Ends, (∀ σ' H', Inv σ' H' → D'.nx σ' H') → D'.rt = D.rt → D'.bk = D.bk → D'.ct = D.ct → t D' σ H) : tSeq t u D σ H := h1 { D with nx := u D } h2 rfl rfl rfl
theorem te_inv {t : TE} {σ : L2.St} {H : Hp} {Q : VK} (Inv : VK) (h2 : ∀ v H', Inv v H' → Q v H') (h1 : ∀ Q' : VK, (∀ v H', Inv v H' → Q' v H') → t σ H Q') : t σ H Q := h1 Q h2
/-- the sides that are still free -/
def spare (g : Gl) : List WM.Sd := (allS g).filterMap fun x => if hasM g x = true then none else some x
theorem mem_spare {g : Gl} {x : WM.Sd} : x ∈ spare g ↔ Rim g x := by
  unfold spare
  rw [List.mem_filterMap]
  constructor
  · rintro ⟨y, hy, e⟩
    split at e
    · cases e
    · rename_i h
      cases e
      exact ⟨mem_allS.mp hy, fun z hz => h (hasM_iff.mpr ⟨z, hz⟩)⟩
  · intro r
    refine ⟨x, mem_allS.mpr r.va, if_neg fun h => ?_⟩
    obtain ⟨y, hy⟩ := hasM_iff.mp h
    exact r.no y hy
theorem spare_nodup (g : Gl) : (spare g).Nodup := by
  have e : spare g = (allS g).filter fun x => !hasM g x := by
    unfold spare
    rw [← List.filterMap_eq_filter]
    congr 1
    funext x
    unfold Option.guard
    show _ = if (!hasM g x) = true then some x else none
    cases h : hasM g x <;> rfl
  rw [e]
  exact (nodup_allS g).filter _
theorem spare_few {g : Gl} (ok : Ok g) : (spare g).length ≤ 64 := va_few ok (spare_nodup g) fun y hy => (mem_spare.mp hy).va
theorem has_m {g : Gl} {H : Hp} {kvs : List (List Key × V)} (t : Tb rSd H kvs (Mt g)) (x : WM.Sd) : (valV kvs (ky x)).isSome = hasM g x := by
  have h := (t.has x).trans hasM_iff.symm
  cases e : (valV kvs (ky x)).isSome
  · cases e2 : hasM g x
    · rfl
    · rw [e, e2] at h
      exact absurd (h.mpr rfl) Bool.false_ne_true
  · cases e2 : hasM g x
    · rw [e, e2] at h
      exact absurd (h.mp rfl) Bool.false_ne_true
    · rfl
theorem rest_some {α : Type} [DecidableEq α] {l : List α} (nd : l.Nodup) (h : 1 < l.length) (x : α) : 0 < (l.filterMap fun y => if y = x then none else some y).length := by
  match l, nd, h with
  | a :: b :: r, nd, _ =>
    have ab : a ≠ b := fun e => by
      rw [e] at nd
      simp at nd
    refine List.length_pos_iff_exists_mem.mpr ?_
    by_cases e : a = x
    · exact ⟨b, List.mem_filterMap.mpr ⟨b, by simp, if_neg fun q => ab (e.trans q.symm)⟩⟩
    · exact ⟨a, List.mem_filterMap.mpr ⟨a, by simp, if_neg e⟩⟩
theorem sort2 {x y : WM.Sd} (n : x ≠ y) : ∃ a b, [x, y].mergeSort (PySem.W.dataLe false eSd) = [a, b] ∧ ((a = x ∧ b = y) ∨ (a = y ∧ b = x)) ∧ ltS a b := by
  have le : PySem.W.dataLe false eSd = fun a b => !decide (ltS b a) := by
    funext a b
    rw [PySem.W.dataLe_eq]
    show (!PySem.W.dataLt (eSd b) (eSd a)) = _
    rw [dlt_sd]
  rw [le]
  have p := List.mergeSort_perm [x, y] fun a b => !decide (ltS b a)
  have srt := List.pairwise_mergeSort (le := fun a b : WM.Sd => !decide (ltS b a)) (fun a b c h k => by
    rw [Bool.not_eq_true', decide_eq_false_iff_not] at *
    intro q
    rcases ltS_total b a with z | z | z
    · exact h z
    · subst z
      exact k q
    · exact k (ltS_trans q z)) (fun a b => by
    rw [Bool.or_eq_true, Bool.not_eq_true', Bool.not_eq_true', decide_eq_false_iff_not, decide_eq_false_iff_not]
    by_cases h : ltS b a
    · exact .inr fun k => ltS_irrefl _ (ltS_trans h k)
    · exact .inl h) [x, y]
  generalize [x, y].mergeSort (fun a b => !decide (ltS b a)) = l at p srt
  have hl := p.length_eq
  match l, hl with
  | [a, b], _ =>
    refine ⟨a, b, rfl, ?_, ?_⟩
    · have ha : a ∈ [x, y] := p.mem_iff.mp (by simp)
      have hb : b ∈ [x, y] := p.mem_iff.mp (by simp)
      have nd := p.nodup_iff.mpr (by simpa using n)
      have nab : a ≠ b := by simpa using nd
      simp at ha hb
      rcases ha with rfl | rfl <;> rcases hb with rfl | rfl
      · exact absurd rfl nab
      · exact .inl ⟨rfl, rfl⟩
      · exact .inr ⟨rfl, rfl⟩
      · exact absurd rfl nab
    · have nd := p.nodup_iff.mpr (by simpa using n)
      have nab : a ≠ b := by simpa using nd
      have h : ¬ ltS b a := by
        have := (List.pairwise_cons.mp srt).1 b (by simp)
        simpa using this
      rcases ltS_total a b with z | z | z
      · exact z
      · exact absurd z nab
      · exact absurd z h
end WP
set_option Elab.async false
set_option linter.all false
set_option maxRecDepth 100000
set_option maxHeartbeats 2000000
/-! the law's own: draw_gluing -/
namespace WP
open PySem L2 WR WM
section
variable {P : Program} {w : World} {K : PySem.W.Frag} {mg : Str → Option Value} {base : Heap}
/-! ### _law_draw_gluing -/
abbrev sDg : Stmt := topS 50
abbrev nDg : List Str := ["_law_source", "_law_most", "_law_gluing", "_law_other", "_law_many", "_law_ties", "_law_lap", "_law_mates_here", "_law_spare", "_law_one", "_law_rest", "_law_pair", "_law_t", "_law_i", "_law_u", "_law_j", "_law_side"]
theorem scDg : FnScope nDg ["_law_source", "_law_most"] (defScope sDg) := ⟨rfl, rfl, rfl, by decide +kernel, rfl, by decide +kernel, by decide +kernel⟩
def spDg : Sp := fun vs H Q _ => ∃ d c, vs = [.ref d, .int 4] ∧ Src H d c ∧ ∀ H' r g, Kp d c H H' → Src H' d c → rG H' r g → Ok g → g.1.length ≤ 7 → Q r H'
theorem ok_dg {f : Addr} {fd : FuncData} (F : Fun K "_law_draw_gluing" "_law_draw_gluing" sDg f fd) (B : Bl mg) (cP : Cal P w K mg base "_law_pick" 1 ["_law_source", "_law_most"] spPick) (cD : Cal P w K mg base "_law_draw_plain" 6 ["_law_source", "_law_most"] spDp)
    (cM : Cal P w K mg base "_law_mates" 1 ["_law_gluing"] spMates) (cS : Cal P w K mg base "_law_sides" 1 ["_law_gluing"] spShr) : FnOk P w K mg base CX0 7 f fd ["_law_source", "_law_most"] spDg := by
  obtain ⟨fP, dP, GP, gP, kP, bP⟩ := cP
  obtain ⟨fD, dD, GD, gD, kD, bD⟩ := cD
  obtain ⟨fM, dM, GM, gM, kM, bM⟩ := cM
  obtain ⟨fS, dS, GS, gS, kS, bS⟩ := cS
  refine F.ok scDg (fun vs H Q E h => ?_) (fun cdv A outer s H vs Q E hr h => ?_)
  · obtain ⟨d, c, rfl, _⟩ := h
    rfl
  · obtain ⟨d, c, rfl, src, q⟩ := h
    have hu := hu_of hr
    have hu64 := hr.units
    refine ⟨_, pss_cons (ps_set (i := 2) scDg.nd rfl (.inl rfl) (pe_call GD (hr.mono (by decide)) (by rfl) gD kD bD .nil pass0 (pa_cons (pv 0) (pa_cons (pv 1) pa_nil))))
      (pss_cons (ps_if (pt_cmpR op_eq (pe_call GP (hr.mono (by decide)) (by rfl) gP kP bP .nil pass0 (pa_cons (pv 0) (pa_cons pe_int pa_nil))) pe_int (nomark _))
        (pss_cons (ps_asg (pe_tup (pa_cons (pe_call GD (hr.mono (by decide)) (by rfl) gD kD bD .nil pass0 (pa_cons (pv 0) (pa_cons pe_int pa_nil))) (pa_cons (pe_callB call_len_seq (by rfl) B.len PySem.boot_len (pa_cons (pe_ix ix_tup (pv 2) pe_int (fun _ _ => rfl)) pa_nil)) pa_nil)))
            (pg_tup (by rfl) (pgs_cons (pg_name (i := 3) scDg.nd rfl (.inl rfl)) (pgs_cons (pg_name (i := 4) scDg.nd rfl (.inr rfl)) pgs_nil))))
        (pss_cons (ps_setLc (i := 5) (own := [("_law_t", 12), ("_law_i", 13), ("_law_u", 14), ("_law_j", 15)]) (g := gTup K 2 (gCons (gTup K 2 (gCons (gName 12) (gCons (gName 13) gNil))) (gCons (gTup K 2 (gCons (gName 14) (gCons (gName 15) gNil))) gNil))) (tt := tYes) rfl scDg.nd rfl rfl (sw_true rfl rfl rfl (by decide +kernel))
            (pi_tup (pe_ix ix_tup (pv 3) pe_int (fun _ _ => rfl))) (blkOk_by (N := nDg) (sc := defScope sDg) (by decide +kernel))
            (fun _ _ _ _ _ => pg_tupK (K := K) rfl rfl (pgs_cons (pg_tupK (K := K) rfl rfl (pgs_cons (pg_name (i := 12) scDg.nd rfl (Or.inl rfl)) (pgs_cons (pg_name (i := 13) scDg.nd rfl (Or.inl rfl)) pgs_nil))) (pgs_cons (pg_tupK (K := K) rfl rfl (pgs_cons (pg_name (i := 14) scDg.nd rfl (Or.inl rfl)) (pgs_cons (pg_name (i := 15) scDg.nd rfl (Or.inl rfl)) pgs_nil))) pgs_nil))) (fun _ _ _ _ _ => pts_nil)
            (fun _ _ _ _ _ => pe_tup (pa_cons (pe_tup (pa_cons (pe_op op_add (pv 12) (pv 4)) (pa_cons (pv 13) pa_nil))) (pa_cons (pe_tup (pa_cons (pe_op op_add (pv 14) (pv 4)) (pa_cons (pv 15) pa_nil))) pa_nil))))
        (pss_one (ps_set (i := 2) scDg.nd rfl (.inl rfl) (pe_tup (pa_cons (pe_op op_catA (pe_ix ix_tup (pv 2) pe_int (fun _ _ => rfl)) (pe_ix ix_tup (pv 3) pe_int (fun _ _ => rfl))) (pa_cons (pe_callTy call_tuple_of (by rfl) B.tup (by decide +kernel) (pa_cons
            (pe_callB (cr_sortG enTie (fun x => ⟨_, _, rfl⟩) (by decide) hu64) (by rfl) B.srt (by decide +kernel) (pa_cons (pe_op op_cat (pe_callTy call_list_of (by rfl) B.lst (by decide +kernel) (pa_cons (pe_ix ix_tup (pv 2) pe_int (fun _ _ => rfl)) pa_nil)) (pv 5)) pa_nil)) pa_nil)) pa_nil))))))) pss_nil)
      (pss_cons (ps_for PassesOwn.never rfl (pi_range1 (by rfl) B.ran (pa_cons (pe_ix ix_list (pe_lst (pa_cons pe_int (pa_cons pe_int (pa_cons pe_int (pa_cons pe_int pa_nil))))) (pe_call GP (hr.mono (by decide)) (by rfl) gP kP bP .nil pass0 (pa_cons (pv 0) (pa_cons pe_int pa_nil))) (fun _ _ => rfl)) pa_nil)) (pg_name (i := 6) scDg.nd rfl (.inl rfl))
        (pss_cons (ps_set (i := 7) scDg.nd rfl (.inr rfl) (pe_call GM (hr.mono (by decide)) (by rfl) gM kM bM .nil pass0 (pa_cons (pv 2) pa_nil)))
        (pss_cons (ps_setLc (i := 8) (own := [("_law_side", 16)]) (g := gName 16) rfl scDg.nd rfl rfl (sw_true rfl rfl rfl (by decide +kernel)) (pi_list (pe_call GS (hr.mono (by decide)) (by rfl) gS kS bS .nil pass0 (pa_cons (pv 2) pa_nil))) (blkOk_by (N := nDg) (sc := defScope sDg) (by decide +kernel))
            (fun _ _ _ _ _ => pg_name (i := 16) scDg.nd rfl (Or.inl rfl)) (fun _ _ _ _ _ => pts_one (pt_cmp (pc_dnotin hu (pv 16) (pv 7)) rfl)) (fun _ _ _ _ _ => pv 16))
        (pss_one (ps_if (pt_cmp (pc_gt (pe_callB call_len_seq (by rfl) B.len PySem.boot_len (pa_cons (pv 8) pa_nil)) pe_int))
          (pss_cons (ps_set (i := 9) scDg.nd rfl (.inr rfl) (pe_ix ix_list (pv 8) (pe_call GP (hr.mono (by decide)) (by rfl) gP kP bP .nil pass0 (pa_cons (pv 0) (pa_cons (pe_callB call_len_seq (by rfl) B.len PySem.boot_len (pa_cons (pv 8) pa_nil)) pa_nil))) (fun _ _ => rfl)))
          (pss_cons (ps_setLc (i := 10) (own := [("_law_side", 16)]) (g := gName 16) rfl scDg.nd rfl rfl (sw_true rfl rfl rfl (by decide +kernel)) (pi_list (pv 8)) (blkOk_by (N := nDg) (sc := defScope sDg) (by decide +kernel))
              (fun _ _ _ _ _ => pg_name (i := 16) scDg.nd rfl (Or.inl rfl)) (fun _ _ _ _ _ => pts_one (pt_cmpR (op_neE enSd (by decide) hu64) (pv 16) (pv 9) (nomark _))) (fun _ _ _ _ _ => pv 16))
          (pss_cons (ps_set (i := 11) scDg.nd rfl (.inl rfl) (pe_callB (cr_sortG enSd (fun x => ⟨_, _, rfl⟩) (by decide) hu64) (by rfl) B.srt (by decide +kernel) (pa_cons (pe_lst (pa_cons (pv 9) (pa_cons (pe_ix ix_list (pv 10) (pe_call GP (hr.mono (by decide)) (by rfl) gP kP bP .nil pass0 (pa_cons (pv 0) (pa_cons (pe_callB call_len_seq (by rfl) B.len PySem.boot_len (pa_cons (pv 10) pa_nil)) pa_nil))) (fun _ _ => rfl)) pa_nil))) pa_nil)))
          (pss_one (ps_set (i := 2) scDg.nd rfl (.inl rfl) (pe_tup (pa_cons (pe_ix ix_tup (pv 2) pe_int (fun _ _ => rfl)) (pa_cons (pe_callTy call_tuple_of (by rfl) B.tup (by decide +kernel) (pa_cons
            (pe_callB (cr_sortG enTie (fun x => ⟨_, _, rfl⟩) (by decide) hu64) (by rfl) B.srt (by decide +kernel) (pa_cons (pe_op op_cat (pe_callTy call_list_of (by rfl) B.lst (by decide +kernel) (pa_cons (pe_ix ix_tup (pv 2) pe_int (fun _ _ => rfl)) pa_nil)) (pe_lst (pa_cons (pe_callTy call_tuple_of (by rfl) B.tup (by decide +kernel) (pa_cons (pv 11) pa_nil)) pa_nil))) pa_nil)) pa_nil)) pa_nil)))))))) pss_nil)))))
      (pss_one (ps_ret (pv 2))))), ?_⟩
    refine ⟨_, rfl, _, rfl, d, c, 4, rfl, by decide, by decide, src, fun H1 r g k1 src1 hg ok pl len => ?_⟩
    dsimp only [gName]
    show tSeq (tIfS _ _ _) _ _ _ _
    refine seq_inv (fun σ' H' => ∃ g r o3 o4 o5, σ' = [some (.ref d), some (.int 4), some r, o3, o4, o5, none, none, none, none, none, none, none, none, none, none, none] ∧ Kp d c H H' ∧ Src H' d c ∧ rG H' r g ∧ Ok g ∧ g.1.length ≤ 7) ?_ ?_
    · rintro σ' H2 ⟨g, r, o3, o4, o5, rfl, k2, src2, hg, ok, len⟩
      -- [0, 1, 2, 4][pick]
      refine ⟨by show 4 ≤ sizeLine; decide, fun q0 nq0 => ?_⟩
      have s0 := same_new (o := .lst [.int 0, .int 1, .int 2, .int 4]) nq0
      have hq0 : ∀ {H'}, Same (upd H2 q0 (.lst [.int 0, .int 1, .int 2, .int 4])) H' → True := fun _ => trivial
      refine ⟨_, rfl, d, c, 4, rfl, by decide, src2.mo s0, fun H3 n k3 src3 pk3 => ?_⟩
      have n4 : n < 4 := by have := pk3.1 (by decide); omega
      have hq3 : H3 q0 = some (.lst [.int 0, .int 1, .int 2, .int 4]) := k3 q0 _ (src2.new nq0).1 (src2.new nq0).2 upd_same
      obtain ⟨mm, hm4, hm⟩ : ∃ mm : Nat, mm ≤ 4 ∧ [V.int 0, .int 1, .int 2, .int 4][n]? = some (.int (mm : Int)) := by
        match n, n4 with
        | 0, _ => exact ⟨0, by decide, rfl⟩
        | 1, _ => exact ⟨1, by decide, rfl⟩
        | 2, _ => exact ⟨2, by decide, rfl⟩
        | 3, _ => exact ⟨4, by decide, rfl⟩
      have k13 : Kp d c H H3 := k2.trans ((Same.kp s0).trans k3)
      have t3 : TS H2 H3 := (Same.ts s0).trans (k3.ts (src2.mo s0))
      refine ⟨q0, _, _, _, rfl, rfl, SqL.of hq3, at_nat hm, _, rfl, by omega, by omega, ?_⟩
      rw [Int.toNat_natCast]
      refine for_it walk_range (n := mm) (fun i σ H2 => ∃ g r o3 o4 o5 o6 o7 o8 o9 o10 o11, σ = [some (.ref d), some (.int 4), some r, o3, o4, o5, o6, o7, o8, o9, o10, o11, none, none, none, none, none] ∧ Kp d c H H2 ∧ Src H2 d c ∧ rG H2 r g ∧ Ok g ∧ g.1.length ≤ 7)
        ⟨g, r, o3, o4, o5, none, none, none, none, none, none, rfl, k13, src3, moG.mo t3 hg, ok, len⟩ (fun _ _ _ _ _ => trivial) ?_ ?_
      · clear src2 hg ok len hq3 hm k13 t3 src3 k3 nq0 s0 hq0 pk3 k2
        rintro i x σ H2 H2' hi ⟨g, r, o3, o4, o5, o6, o7, o8, o9, o10, o11, rfl, k2, src2, hg, ok, len⟩ ⟨rfl, hx⟩
        refine ⟨_, rfl, r, g, rfl, hg, ok, fun H3 dm s3 ndm tm => ?_⟩
        have hg3 := moG.mo (Same.ts s3) hg
        refine ⟨_, rfl, r, g, rfl, hg3, ok, fun H4 ps s4 nps ⟨us, hps, alS⟩ => ⟨ps, rfl, ⟨_, SqL.of hps⟩, fun D nD => ?_⟩⟩
        obtain ⟨kvs, hdm, tb⟩ := tbl_mo moSd s4 tm
        refine lc_src moSd moSd walk_list (fun x => if hasM g x = true then none else some x) nD alS (allS_few ok) (fun H' s => SqL.of (s _ _ hps)) ?_ fun H5 s5 r5 => ?_
        · intro y x H6 us' Z Z0 hy sm hD hl ry z z0
          have ry0 := ry
          obtain ⟨b, rfl, hb⟩ := sd_tup ry
          refine ⟨rfl, _, rfl, _, rfl, dm, _, rfl, DGet.t (sm _ _ hdm) hb, _, rfl, ?_⟩
          rw [has_m tb]
          cases e : hasM g y with
          | true => exact iteF (z0 (if_pos e) _ (Same.refl _))
          | false => exact iteT ⟨_, rfl, z _ _ y (if_neg (by rw [e]; exact Bool.false_ne_true)) (Same.refl _) ry0⟩
        · obtain ⟨us5, hD5, al5⟩ := r5
          have al5 : Al (rSd H5) us5 (WP.spare g) := al5
          have l5 := al5.length
          have sp64 := spare_few ok
          have s35 := s3.trans (s4.trans s5)
          have src5 := src2.mo s35
          have hg5 := moG.mo (Same.ts s35) hg
          have nDs := (src2.mo (s3.trans s4)).new nD
          refine ⟨_, rfl, D, us5, rfl, .inl (SqL.of hD5), _, _, rfl, rfl, ?_⟩
          by_cases h1 : 1 < us5.length
          · refine ⟨true, congrArg V.bl (decide_eq_true (by omega)), iteT ?_⟩
            -- one
            refine ⟨_, rfl, _, rfl, _, rfl, D, us5, rfl, .inl (SqL.of hD5), d, c, _, rfl, by omega, src5, fun H6 n1 k6 src6 pk6 => ?_⟩
            have hn1 : n1 < (WP.spare g).length := by have := pk6.1 (by omega); omega
            have t6 := k6.ts src5
            have hD6 : H6 D = some (.lst us5) := k6 D _ nDs.1 nDs.2 hD5
            have al6 := moSd.al t6 al5
            obtain ⟨v1, hv1, rv1⟩ := al6.at (List.getElem?_eq_getElem hn1)
            refine ⟨D, us5, _, v1, rfl, rfl, SqL.of hD6, at_nat hv1, ?_⟩
            -- rest
            refine ⟨_, rfl, D, rfl, ⟨_, SqL.of hD6⟩, fun D2 nD2 => ?_⟩
            refine lc_src moSd moSd walk_list (fun x => if x = (WP.spare g)[n1] then none else some x) nD2 al6 sp64 (fun H' s => SqL.of (s _ _ hD6)) ?_ fun H7 s7 r7 => ?_
            · intro y x H8 us' Z Z0 hy sm hD hl ry z z0
              refine ⟨rfl, _, rfl, _, rfl, y, _, ry, moSd.mo (Same.ts sm) rv1, _, rfl, ?_⟩
              by_cases e : y = (WP.spare g)[n1]
              · rw [decide_eq_true e]
                exact iteF (z0 (if_pos e) _ (Same.refl _))
              · rw [decide_eq_false e]
                exact iteT ⟨_, rfl, z _ _ y (if_neg e) (Same.refl _) ry⟩
            · obtain ⟨us7, hD7, al7⟩ := r7
              have l7 := al7.length
              have rs0 := rest_some (spare_nodup g) (by omega) (WP.spare g)[n1]
              have src7 := src6.mo s7
              have nD2s := src6.new nD2
              have rle : ((WP.spare g).filterMap fun x => if x = (WP.spare g)[n1] then none else some x).length ≤ (WP.spare g).length := List.length_filterMap_le _ _
              -- pair
              refine ⟨_, rfl, _, rfl, _, rfl, _, rfl, D2, us7, rfl, .inl (SqL.of hD7), d, c, _, rfl, by omega, src7, fun H8 n2 k8 src8 pk8 => ?_⟩
              have hn2 : n2 < ((WP.spare g).filterMap fun x => if x = (WP.spare g)[n1] then none else some x).length := by
                by_cases z : (2 : Int) ≤ (us7.length : Int)
                · have := pk8.1 z
                  omega
                · have := pk8.2 (by omega)
                  omega
              have t8 := k8.ts src7
              have hD8 : H8 D2 = some (.lst us7) := k8 D2 _ nD2s.1 nD2s.2 hD7
              obtain ⟨v2, hv2, rv2⟩ := (moSd.al t8 al7).at (List.getElem?_eq_getElem hn2)
              have m2 := List.getElem_mem hn2
              obtain ⟨y2, hy2, ey2⟩ := List.mem_filterMap.mp m2
              have ne2 : y2 ≠ (WP.spare g)[n1] ∧ ((WP.spare g).filterMap fun x => if x = (WP.spare g)[n1] then none else some x)[n2] = y2 := by
                split at ey2
                · cases ey2
                · rename_i h
                  exact ⟨h, (Option.some.inj ey2).symm⟩
              rw [ne2.2] at rv2
              have rv1' := moSd.mo ((Same.ts s7).trans t8) rv1
              refine ⟨D2, us7, _, v2, rfl, rfl, SqL.of hD8, at_nat hv2, by show 2 ≤ sizeLine; decide, fun l1 nl1 => ?_⟩
              have z1 := same_new (o := .lst [v1, v2]) nl1
              refine ⟨l1, [(WP.spare g)[n1], y2], rfl, ⟨_, upd_same, .cons (moSd.mo (Same.ts z1) rv1') (.cons (moSd.mo (Same.ts z1) rv2) .nil)⟩, fun l2 us8 nl2 al8 => ?_⟩
              obtain ⟨pa, pb, ep, hab, lt⟩ := sort2 (Ne.symm ne2.1)
              rw [ep] at al8
              have z2 := same_new (o := .lst us8) nl2
              have rim1 : Rim g (WP.spare g)[n1] := mem_spare.mp (List.getElem_mem hn1)
              have rim2 : Rim g y2 := mem_spare.mp hy2
              have rab : Rim g pa ∧ Rim g pb := by
                rcases hab with ⟨e1, e2⟩ | ⟨e1, e2⟩
                · rw [e1, e2]
                  exact ⟨rim1, rim2⟩
                · rw [e1, e2]
                  exact ⟨rim2, rim1⟩
              -- the gluing
              have z12 := z1.trans z2
              have hg8 := moG.mo (((k6.trans (Same.kp s7)).ts src5).trans (t8.trans (Same.ts z12))) hg5
              obtain ⟨a, p1, p2, rfl, ha, h1', h2'⟩ := hg8
              obtain ⟨e1, ts, rfl, he1, alt⟩ := h2'
              have tf := ties_few ok
              have lts := alt.length
              refine ⟨_, rfl, a, _, 0, _, rfl, rfl, SqT.of ha, at_nat (n := 0) rfl, _, rfl, a, _, 1, _, rfl, rfl, SqT.of ha, at_nat (n := 1) rfl, e1, ts, rfl, .inr (SqT.of he1), fun l3 nl3 => ?_⟩
              have z3 := same_new (o := .lst ts) nl3
              refine ⟨_, rfl, l2, us8, rfl, .inl ⟨SqL.of (z3 _ _ upd_same), fun l4 nl4 => ⟨by show 1 ≤ sizeLine; decide, fun l5 nl5 => ?_⟩⟩⟩
              have z4 := same_new (o := .tup us8) nl4
              have z5 := same_new (o := .lst [.ref l4]) nl5
              refine ⟨l3, l5, ts, [.ref l4], rfl, rfl, (z4.trans z5) _ _ upd_same, upd_same, Nat.le_trans (by show ts.length + 1 ≤ 200; omega) (by decide), fun l6 nl6 => ?_⟩
              have z6 := same_new (o := .lst (ts ++ [.ref l4])) nl6
              have z36 := z3.trans (z4.trans (z5.trans z6))
              cases al8 with
              | cons q1 al8 =>
              cases al8 with
              | cons q2 al8 =>
              cases al8
              refine ⟨l6, g.2 ++ [(pa, pb)], rfl, ⟨_, upd_same, (moTie.al (Same.ts z36) alt).app (.cons ⟨l4, _, _, rfl, (z5.trans z6) _ _ upd_same, moSd.mo (Same.ts (z2.trans z36)) q1, moSd.mo (Same.ts (z2.trans z36)) q2⟩ .nil)⟩, fun l7 us9 nl7 al9 => ?_⟩
              rw [dle_tie] at al9
              have z7 := same_new (o := .lst us9) nl7
              refine ⟨l7, us9, rfl, .inl ⟨SqL.of upd_same, fun l8 nl8 => ⟨by show 2 ≤ sizeLine; decide, fun l9 nl9 => ?_⟩⟩⟩
              have z8 := same_new (o := .tup us9) nl8
              have z9 := same_new (o := .tup [p1, .ref l8]) nl9
              have z39 := z36.trans (z7.trans (z8.trans z9))
              have zA := z12.trans z39
              exact ⟨tieG g (pa, pb), .ref l9, _, _, _, _, _, _, _, _, _, rfl, k2.trans ((Same.kp s35).trans (k6.trans ((Same.kp s7).trans (k8.trans (Same.kp zA))))), src8.mo zA,
                ⟨l9, p1, .ref l8, rfl, upd_same, moSz.mo (Same.ts z39) h1', ⟨l8, us9, rfl, z9 _ _ upd_same, moTie.al (Same.ts (z7.trans (z8.trans z9))) al9⟩⟩, ok_tie ok rab.1 rab.2 lt, len⟩
          · refine ⟨false, congrArg V.bl (decide_eq_false (by omega)), iteF ?_⟩
            exact ⟨g, r, _, _, _, _, _, _, _, _, _, rfl, k2.trans (Same.kp s35), src5, hg5, ok, len⟩
      · rintro σ H2 ⟨g, r, o3, o4, o5, o6, o7, o8, o9, o10, o11, rfl, k2, src2, hg, ok, len⟩
        exact ⟨_, rfl, q H2 r g k2 src2 hg ok len⟩
    · intro D' nx _ _ _
      refine ⟨_, rfl, d, c, 3, rfl, by decide, src1, fun H2 n k2 src2 pk2 => ?_⟩
      have k12 := k1.trans k2
      have hg2 := moG.mo (k2.ts src1) hg
      by_cases h0 : n = 0
      · refine ⟨rfl, true, congrArg V.bl ((dec_nat n 0).trans (decide_eq_true h0)), iteT ?_⟩
        refine ⟨_, rfl, d, c, 3, rfl, by decide, by decide, src2, fun H3 r3 h k3 src3 hh okh plh lenh => ?_⟩
        have hg3 := moG.mo (k3.ts src2) hg2
        obtain ⟨a, p1, p2, rfl, ha, h1, h2⟩ := hg3
        obtain ⟨c1, rfl, hc1⟩ := sz_is h1
        obtain ⟨e1, ts, rfl, he1, alt⟩ := h2
        obtain ⟨a', p1', p2', rfl, ha', h1', h2'⟩ := hh
        obtain ⟨c2, rfl, hc2⟩ := sz_is h1'
        obtain ⟨e2, ts', rfl, he2, alt'⟩ := h2'
        refine ⟨_, rfl, a, _, 0, _, rfl, rfl, SqT.of ha, at_nat (n := 0) rfl, c1, _, rfl, .inr (SqT.of hc1), by show 2 ≤ sizeLine; decide, fun o no => ?_⟩
        have so := same_new (o := .tup [.ref a', .int ((g.1.map fun n : Nat => V.int (n : Int)).length : Nat)]) no
        refine ⟨o, _, rfl, SqT.of upd_same, rfl, _, _, rfl, _, _, rfl, rfl, ?_⟩
        refine ⟨_, rfl, a', _, 1, _, rfl, rfl, SqT.of (so _ _ ha'), at_nat (n := 1) rfl, e2, rfl, ⟨_, SqT.of (so _ _ he2)⟩, fun D nD => ?_⟩
        refine lc_src moTie moTie walk_tup (fun p => some (shT g.1.length p)) nD (moTie.al (Same.ts so) alt') (ties_few okh) (fun H' s => SqT.of (s _ _ (so _ _ he2))) ?_ fun H4 s4 r4 => ?_
        · intro p x H5 us Z Z0 hp sm hD hl rr z _
          obtain ⟨b, u1, u2, rfl, hb, r1, r2⟩ := rr
          obtain ⟨b1, rfl, hb1⟩ := sd_is r1
          obtain ⟨b2, rfl, hb2⟩ := sd_is r2
          refine ⟨b, _, rfl, SqT.of hb, rfl, _, _, rfl, b1, _, rfl, SqT.of hb1, rfl, _, _, rfl, _, _, rfl, rfl, _, _, rfl, b2, _, rfl, SqT.of hb2, rfl, _, _, rfl, _, _, rfl, rfl, rfl, rfl, ?_⟩
          refine ⟨_, rfl, _, rfl, _, _, rfl, rfl, _, rfl, by show 2 ≤ sizeLine; decide, fun q1 n1 => ⟨_, rfl, _, rfl, _, _, rfl, rfl, _, rfl, by show 2 ≤ sizeLine; decide, fun q2 n2 => ⟨by show 2 ≤ sizeLine; decide, fun q3 n3 => ?_⟩⟩⟩
          have t1 := same_new (o := .tup [.int ((p.1.1 : Int) + ((g.1.map fun n : Nat => V.int (n : Int)).length : Nat)), .int (p.1.2 : Int)]) n1
          have t2 := same_new (o := .tup [.int ((p.2.1 : Int) + ((g.1.map fun n : Nat => V.int (n : Int)).length : Nat)), .int (p.2.2 : Int)]) n2
          have t3 := same_new (o := .tup [.ref q1, .ref q2]) n3
          refine z _ _ _ rfl (t1.trans (t2.trans t3)) ⟨q3, .ref q1, .ref q2, rfl, upd_same, mk_sd (x := (p.1.1 + g.1.length, p.1.2)) ((t2.trans t3) _ _ ?_), mk_sd (x := (p.2.1 + g.1.length, p.2.2)) (t3 _ _ ?_)⟩
          · rw [upd_same, List.length_map]
            rfl
          · rw [upd_same, List.length_map]
            rfl
        · rw [List.filterMap_eq_map'] at r4
          obtain ⟨us4, hD4, al4⟩ := r4
          have s3 := so.trans s4
          have tf := ties_few ok
          have tf' := ties_few okh
          have l1 := alt.length
          have l4 := al4.length
          rw [List.length_map] at l4
          refine ⟨_, rfl, a, _, 0, _, rfl, rfl, SqT.of (s3 _ _ ha), at_nat (n := 0) rfl, _, rfl, a', _, 0, _, rfl, rfl, SqT.of (s3 _ _ ha'), at_nat (n := 0) rfl, ?_⟩
          refine catA_ moN ⟨c1, _, rfl, s3 _ _ hc1, al_vI _ g.1⟩ ⟨c2, _, rfl, s3 _ _ hc2, al_vI _ h.1⟩ (by omega) fun H5 r5 s5 hr5 => ?_
          have s35 := s3.trans s5
          refine ⟨_, rfl, a, _, 1, _, rfl, rfl, SqT.of (s35 _ _ ha), at_nat (n := 1) rfl, e1, ts, rfl, .inr (SqT.of (s35 _ _ he1)), fun l1' nl1 => ?_⟩
          have t1 := same_new (o := .lst ts) nl1
          refine ⟨_, rfl, l1', D, ts, us4, rfl, rfl, upd_same, (s5.trans t1) _ _ hD4, Nat.le_trans (by omega : _ ≤ 200) (by decide), fun l2 nl2 => ?_⟩
          have t2 := same_new (o := .lst (ts ++ us4)) nl2
          refine ⟨l2, g.2 ++ h.2.map (shT g.1.length), rfl, ⟨_, upd_same, (moTie.al (Same.ts (s35.trans (t1.trans t2))) alt).app (moTie.al (Same.ts (s5.trans (t1.trans t2))) al4)⟩, fun l3 us6 nl3 al6 => ?_⟩
          rw [dle_tie] at al6
          have t3 := same_new (o := .lst us6) nl3
          refine ⟨l3, us6, rfl, .inl ⟨SqL.of upd_same, fun l4 nl4 => ⟨by show 2 ≤ sizeLine; decide, fun l5 nl5 => ?_⟩⟩⟩
          have t4 := same_new (o := .tup us6) nl4
          have t5 := same_new (o := .tup [r5, .ref l4]) nl5
          have tA := t1.trans (t2.trans (t3.trans (t4.trans t5)))
          have sAll := s35.trans tA
          refine nx _ _ ⟨besG g h, .ref l5, _, _, _, rfl, (k12.trans k3).trans (Same.kp sAll), src3.mo sAll, ⟨l5, r5, .ref l4, rfl, upd_same, moSz.mo (Same.ts tA) hr5, ⟨l4, us6, rfl, t5 _ _ upd_same, moTie.al (Same.ts (t3.trans (t4.trans t5))) al6⟩⟩, ok_bes ok okh (by omega), ?_⟩
          show (g.1 ++ h.1).length ≤ 7
          rw [List.length_append]
          omega
      · refine ⟨rfl, false, congrArg V.bl ((dec_nat n 0).trans (decide_eq_false h0)), iteF ?_⟩
        exact nx _ _ ⟨g, r, none, none, none, rfl, k12, src2, hg2, ok, by omega⟩
end
end WP
set_option Elab.async false
set_option linter.all false
set_option maxRecDepth 100000
/-! what the law compares, in plain numbers -/
namespace WM
section
variable {g m : Gl} {r : List Sd} {k s : Nat}
theorem grid7 {g : Gl} (ok : Ok g) {c : List Sd} (nd : c.Nodup) (va : ∀ y ∈ c, Va g y) : c.length ≤ 56 := by
  have h : ∀ y ∈ c, y ∈ (List.range 8).flatMap fun a => (List.range 7).map fun b => (a, b) := fun y hy => by
    have v := va y hy
    have h1 := v.1
    have h2 := v.2
    have h3 := ok.few
    have h4 := (ok.sz h1).2
    exact List.mem_flatMap.mpr ⟨y.1, List.mem_range.mpr (by omega), List.mem_map.mpr ⟨y.2, List.mem_range.mpr (by omega), rfl⟩⟩
  have := List.Nodup.length_le_of_subset nd h
  have e : ((List.range 8).flatMap fun a => (List.range 7).map fun b => (a, b)).length = 56 := by decide
  omega
theorem lay_ties {g : Gl} {r : List Sd} {k s : Nat} : (layG g r k s).2.length = g.2.length + k := by
  show (sortT (g.2 ++ newT g.1.length k r)).length = _
  rw [(sortT_perm _).length_eq, List.length_append, newT_length]
theorem lay_sum {g : Gl} {r : List Sd} {k s : Nat} : (layG g r k s).1.sum = g.1.sum + s := by
  show (g.1 ++ [s]).sum = _
  rw [List.sum_append]
  simp
theorem lay_len {g : Gl} {r : List Sd} {k s : Nat} : (layG g r k s).1.length = g.1.length + 1 := by
  show (g.1 ++ [s]).length = _
  rw [List.length_append]
  rfl
theorem nb_symm {g : Gl} {t u : Nat} (h : Nb g t u) : Nb g u t := by
  obtain ⟨i, j, m⟩ := h
  exact ⟨j, i, m.symm⟩
theorem wordN_len {g m : Gl} {r : List Sd} {k s : Nat} (L : Lay g m r k s) {ws : List Nat} (W : IsWord g r ws) : (wordN ws k s).length + 2 * k = ws.length + s := by
  have h := (L.word W).1
  rw [rimN_length] at h
  have := W.1
  have := L.kb
  have := L.ks
  omega
end
end WM
namespace WP
open PySem L2 WR WM
theorem cnt_lay {g : Gl} {r : List WM.Sd} {k s : Nat} (L : Lay g (layG g r k s) r k s) {C C' : List (List WM.Sd)} (cv : Cov (Va g) (Ph g) C) (cv' : Cov (Va (layG g r k s)) (Ph (layG g r k s)) C') :
    cnt (layG g r k s) C' = [(g.1.length : Int) + 1, (g.1.sum : Int) - (g.2.length : Int) + (s : Int) - (k : Int), (C.length : Int) + (s : Int) - (k : Int) - 1, (C.countP (inn g) : Int) + (k : Int) - 1] := by
  obtain ⟨h1, h2⟩ := L.counts cv cv'
  have hk := L.ks
  have hk1 := L.k1
  unfold cnt
  rw [lay_ties, lay_sum, lay_len, h1, h2]
  refine congr (congrArg _ ?_) (congr (congrArg _ ?_) (congr (congrArg _ ?_) (congr (congrArg _ ?_) rfl))) <;> omega
theorem wor_lay {g : Gl} {r : List WM.Sd} {k s : Nat} (L : Lay g (layG g r k s) r k s) {C C' : List (List WM.Sd)} (cv : Cov (Va g) (Ph g) C) (cv' : Cov (Va (layG g r k s)) (Ph (layG g r k s)) C') : wor (layG g r k s) C' = wor g C := by
  obtain ⟨h1, h2⟩ := L.counts cv cv'
  have hk := L.ks
  have hk1 := L.k1
  unfold wor
  rw [lay_ties, lay_sum, lay_len, h1]
  omega
/-- what lies over the new tile's sides -/
def overN (r : List WM.Sd) (k s : Nat) : List (Option Nat) := ((r.take k).map (fun x : WM.Sd => x.1)).reverse.map some ++ List.replicate (s - k) none
theorem over_lay {g : Gl} {r : List WM.Sd} {k s : Nat} (L : Lay g (layG g r k s) r k s) {o : List (Option Nat)} (h : Over (layG g r k s) g.1.length o) : o = overN r k s := by
  obtain ⟨h1, h2⟩ := h
  rw [L.sz_new] at h1 h2
  have kb := L.kb
  have ks := L.ks
  have ll : (overN r k s).length = s := by
    unfold overN
    simp
    omega
  refine List.ext_getElem? fun i => ?_
  by_cases hi : i < s
  · by_cases hk : i < k
    · have e : (overN r k s)[i]? = some (some (r[k - 1 - i]'(by omega)).1) := by
        unfold overN
        rw [List.getElem?_append_left (by simp; omega), List.getElem?_map, List.getElem?_reverse (by simp; omega), List.getElem?_map, List.length_map, List.length_take, Nat.min_eq_left (by omega), List.getElem?_take_of_lt (by omega), List.getElem?_eq_getElem (by omega)]
        rfl
      rw [e]
      have mt : Mt (layG g r k s) (g.1.length, i) (r[k - 1 - i]'(by omega)) := (L.mt _ _).mpr (.inr ⟨k - 1 - i, by omega, .inr ⟨rfl, by rw [show k - 1 - (k - 1 - i) = i by omega]⟩⟩)
      rcases h2 i hi with ⟨_, n⟩ | ⟨y, hy, e2⟩
      · exact absurd mt (n _)
      · rw [e2, L.okm.once _ _ _ hy mt]
    · have e : (overN r k s)[i]? = some none := by
        unfold overN
        rw [List.getElem?_append_right (by simp; omega), List.getElem?_replicate, if_pos (by simp; omega)]
      rw [e]
      rcases h2 i hi with ⟨e2, _⟩ | ⟨y, hy, _⟩
      · exact e2
      · exact absurd hy ((L.rim_new (by omega) hi).no y)
  · rw [List.getElem?_eq_none (by omega), List.getElem?_eq_none (by omega)]
theorem tch_symm {g : Gl} {t u : Nat} (h : Tch g t u) : Tch g u t := by
  obtain ⟨n, c, hc, h1, h2⟩ := h
  exact ⟨Ne.symm n, c, hc, h2, h1⟩
end WP
set_option Elab.async false
set_option linter.all false
set_option maxRecDepth 100000
/-! tuples of numbers and None, compared -/
namespace WP
open PySem L2 WR WM
def eO (o : Option Nat) : PyData := match o with
  | none => .none
  | some n => .int (n : Int)
def eTO (o : List (Option Nat)) : PyData := .tuple (o.map eO)
theorem eO_lay (o : Option Nat) : (eO o).canLay0 = true := by cases o <;> rfl
theorem eO_dep (o : Option Nat) : (eO o).depth ≤ 0 := by cases o <;> exact Nat.le_refl 0
theorem eTO_lay (o : List (Option Nat)) : (eTO o).canLay0 = true := by
  show PyData.canLay0 (.tuple (o.map eO)) = true
  simp only [PyData.canLay0]
  exact lay_all eO_lay o
theorem eTO_shaped (o : List (Option Nat)) : SeqAt.shaped (eTO o) = true := by
  show ((eTO o).canLay0 && decide ((eTO o).depth ≤ 64)) = true
  rw [Bool.and_eq_true]
  refine ⟨eTO_lay o, decide_eq_true ?_⟩
  have := dep_all eO_dep o
  show PyData.depth (.tuple (o.map eO)) ≤ 64
  simp only [PyData.depth]
  omega
theorem dpO (K : PySem.W.Frag) {H : Hp} : ∀ {vs : List V} {o : List (Option Nat)}, Al (rO rN H) vs o → DpAll K H vs (o.map eO)
  | _, _, .nil => .nil
  | _, _, .cons (x := x) r t => by
    refine .cons ?_ (dpO K t)
    cases x with
    | none =>
      have r : _ = V.non := r
      rw [r]
      exact .non
    | some n =>
      have r : _ = V.int (n : Int) := r
      rw [r]
      exact .int _
theorem dpTO (K : PySem.W.Frag) {H : Hp} {v : V} {o : List (Option Nat)} (h : rT (rO rN) H v o) : Dp K H v (eTO o) := by
  obtain ⟨a, vs, rfl, ha, al⟩ := h
  exact .tup (SqT.of ha) (dpO K al)
end WP
namespace WP
open PySem L2 WR WM
def rBl : Rl Bool := fun _ v b => v = .bl b
theorem moBl : Mo rBl := ⟨fun _ h => h⟩
theorem tor_false {t u : TT} {σ : L2.St} {H : Hp} {Q : Bool → Hp → Prop} (Inv : Hp → Prop) (h1 : ∀ Q' : Bool → Hp → Prop, (∀ H', Inv H' → Q' false H') → t σ H Q') (h2 : ∀ H', Inv H' → u σ H' Q) : tOr t u σ H Q := h1 _ fun H' i => iteF (h2 H' i)
theorem al_over (H : Hp) (c : List WM.Sd) (k s n : Nat) (h : n = s - k) : Al (rO rN H) ((vI ((c.take k).map fun x : WM.Sd => x.1)).reverse ++ (List.replicate n [V.non]).flatten) (overN c k s) := by
  unfold overN
  subst h
  have h1 : ∀ l : List Nat, Al (rO rN H) (vI l) (l.map some) := fun l => by
    induction l with
    | nil => exact .nil
    | cons a l ih => exact .cons rfl ih
  have h2 : ∀ n, Al (rO rN H) (List.replicate n V.non) (List.replicate n (none : Option Nat)) := fun n => by
    induction n with
    | zero => exact .nil
    | succ n ih => exact .cons rfl ih
  rw [List.flatten_replicate_singleton, List.map_reverse]
  exact (h1 _).rev.app (h2 _)
end WP
set_option Elab.async false
set_option linter.all false
set_option maxRecDepth 100000
set_option maxHeartbeats 4000000
/-! the law: what is asked of one laying -/
namespace WP
open PySem L2 WR WM
abbrev sLaw : Stmt := topS 52
abbrev nLaw : List Str := ["_law_script", "_law_source", "_law_lap", "_law_gluing", "_law_mates_here", "_law_side", "_law_spare", "_law_rim_here", "_law_s", "_law_k", "_law_more", "_law_many", "_law_word", "_law_old", "_law_new", "_law_late", "_law_over", "_law_one", "_law_t"]
theorem scLaw : FnScope nLaw ["_law_script"] (defScope sLaw) := ⟨rfl, rfl, rfl, by decide +kernel, rfl, by decide +kernel, by decide +kernel⟩
def lawFor : List Stmt := match (defBody sLaw).getD 1 (.Pass ⟨0, 0, 0, 0⟩) with
  | Stmt.For _ _ b _ _ => b
  | _ => []
section
variable {P : Program} {w : World} {K : PySem.W.Frag} {mg : Str → Option Value} {base : Heap}
theorem law_tail {f : Addr} {cdv : Value} {A : Around} {outer : List Env} {s : Shared} {H : Hp} {E : XK} (hr : Room 8 (A.deeper (PyProof.Rows.envOfC "law" (defScope sLaw) s.heap.objs.size f cdv))) (B : Bl mg)
    (cLaid : Cal P w K mg base "laid" 7 ["gluing", "side", "k", "s"] spLaid) (cRw : Cal P w K mg base "rim_word" 6 ["gluing", "side"] spRw) (cCnt : Cal P w K mg base "counts" 5 ["gluing"] spCnt)
    (cLay : Cal P w K mg base "_law_lay" 5 ["_law_gluing", "_law_side", "_law_k", "_law_s"] spLaid) (cWor : Cal P w K mg base "worth" 6 ["gluing"] spWor) (cLw : Cal P w K mg base "laid_word" 1 ["word", "i", "k", "s"] spLw)
    (cTw : Cal P w K mg base "_law_turned_words" 1 ["_law_word"] spLtw) (cOv : Cal P w K mg base "over_sides" 2 ["gluing", "t"] spOvr) (cAp : Cal P w K mg base "apart" 3 ["gluing", "t", "u"] spApt) (cTc : Cal P w K mg base "touching" 5 ["gluing", "t"] spTch)
    (cDi : Cal P w K mg base "is_disc" 8 ["gluing"] spDis) (cTk : Cal P w K mg base "taken" 3 ["gluing", "t"] spTak) :
    ∃ t : TS, PSs (cxOf CX0 P w K mg base nLaw "law" (defScope sLaw) f cdv A outer s H E).nox (lawFor.drop 7) t ∧ ∀ (D : Ends) (H0 : Hp) (o0 o1 o2 o4 o6 o10 o11 o12 o13 o14 o15 o16 : Option V) (r u rc : V) (g : Gl) (x : WM.Sd) (c0 : List WM.Sd) (k sN : Nat),
      rG H0 r g → rSd H0 u x → rCo H0 rc c0 → Ok g → g.1.length ≤ 7 → IsRim g c0 → c0.head? = some x → 1 ≤ k → k < sN → k < c0.length → 3 ≤ sN → sN ≤ 7 →
      (∀ H' a b c d e f' g', Same H0 H' → D.nx [o0, o1, o2, some r, o4, some u, o6, some rc, some (.int (sN : Int)), some (.int (k : Int)), some a, some b, some c, some d, some e, some f', some g', none, none] H') →
      t D [o0, o1, o2, some r, o4, some u, o6, some rc, some (.int (sN : Int)), some (.int (k : Int)), o10, o11, o12, o13, o14, o15, o16, none, none] H0 := by
  obtain ⟨f1, d1, G1, g1, k1, b1⟩ := cLaid
  obtain ⟨f2, d2, G2, g2, k2, b2⟩ := cRw
  obtain ⟨f3, d3, G3, g3, k3, b3⟩ := cCnt
  obtain ⟨f4, d4, G4, g4, k4, b4⟩ := cLay
  obtain ⟨f5, d5, G5, g5, k5, b5⟩ := cWor
  obtain ⟨f6, d6, G6, g6, k6, b6⟩ := cLw
  obtain ⟨f7, d7, G7, g7, k7, b7⟩ := cTw
  obtain ⟨f8, d8, G8, g8, k8, b8⟩ := cOv
  obtain ⟨f9, d9, G9, g9, k9, b9⟩ := cAp
  obtain ⟨f10, d10, G10, g10, k10, b10⟩ := cTc
  obtain ⟨f11, d11, G11, g11, k11, b11⟩ := cDi
  obtain ⟨f12, d12, G12, g12, k12, b12⟩ := cTk
  have hu := hu_of hr
  have hu64 := hr.units
  have hu65 : (A.deeper (PyProof.Rows.envOfC "law" (defScope sLaw) s.heap.objs.size f cdv)).units + 65 < cLine := by have := hr.un; omega
  refine ⟨_, pss_cons (ps_asg (pe_tup (pa_cons (pe_call G1 (hr.mono (by decide)) (by rfl) g1 k1 b1 .nil pass0 (pa_cons (pv 3) (pa_cons (pv 5) (pa_cons (pv 9) (pa_cons (pv 8) pa_nil))))) (pa_cons (pe_callB call_len_seq (by rfl) B.len PySem.boot_len (pa_cons (pe_ix ix_tup (pv 3) pe_int (fun _ _ => rfl)) pa_nil)) (pa_cons (pe_call G2 (hr.mono (by decide)) (by rfl) g2 k2 b2 .nil pass0 (pa_cons (pv 3) (pa_cons (pv 5) pa_nil))) pa_nil))))
        (pg_tup (by rfl) (pgs_cons (pg_name (i := 10) scLaw.nd rfl (.inr rfl)) (pgs_cons (pg_name (i := 11) scLaw.nd rfl (.inr rfl)) (pgs_cons (pg_name (i := 12) scLaw.nd rfl (.inl rfl)) pgs_nil)))))
    (pss_cons (ps_par (i := 13) (j := 14) (by rfl) scLaw.nd rfl rfl (by decide) rfl rfl (pa_cons (pe_call G3 (hr.mono (by decide)) (by rfl) g3 k3 b3 .nil pass0 (pa_cons (pv 3) pa_nil)) (pa_cons (pe_call G3 (hr.mono (by decide)) (by rfl) g3 k3 b3 .nil pass0 (pa_cons (pv 10) pa_nil)) pa_nil)) (by rfl))
    (pss_cons (ps_if (PW.pt (pw_or (pt_cmpR (op_neE enG (by decide) hu64) (pv 10) (pe_call G4 (hr.mono (by decide)) (by rfl) g4 k4 b4 .nil pass0 (pa_cons (pv 3) (pa_cons (pv 5) (pa_cons (pv 9) (pa_cons (pv 8) pa_nil))))) (nomark _))
          (pw_or1 (pt_cmpR op_ne (pe_call G5 (hr.mono (by decide)) (by rfl) g5 k5 b5 .nil pass0 (pa_cons (pv 10) pa_nil)) (pe_call G5 (hr.mono (by decide)) (by rfl) g5 k5 b5 .nil pass0 (pa_cons (pv 3) pa_nil)) (nomark _))))) (pss_one (ps_ret pe_bl)) pss_nil)
    (pss_cons (ps_if (pt_cmpR (op_neE (enT enI (k := 1) (by decide)) (by decide) hu64) (pv 14) (pe_tup (pa_cons (pe_op op_add (pe_ix ix_tup (pv 13) pe_int (fun _ _ => rfl)) pe_int)
          (pa_cons (pe_op op_sub (pe_op op_add (pe_ix ix_tup (pv 13) pe_int (fun _ _ => rfl)) (pv 8)) (pv 9))
          (pa_cons (pe_op op_sub (pe_op op_sub (pe_op op_add (pe_ix ix_tup (pv 13) pe_int (fun _ _ => rfl)) (pv 8)) (pv 9)) pe_int)
          (pa_cons (pe_op op_sub (pe_op op_add (pe_ix ix_tup (pv 13) pe_int (fun _ _ => rfl)) (pv 9)) pe_int) pa_nil))))) (nomark _)) (pss_one (ps_ret pe_bl)) pss_nil)
    (pss_cons (ps_set (i := 15) scLaw.nd rfl (.inl rfl) (pe_call G6 (hr.mono (by decide)) (by rfl) g6 k6 b6 .nil pass0 (pa_cons (pv 12) (pa_cons pe_int (pa_cons (pv 9) (pa_cons (pv 8) pa_nil))))))
    (pss_cons (ps_if (PW.pt (pw_or (pt_cmpR (op_notInE enSz (by decide) hu65) (pv 15) (pe_call G7 (hr.mono (by decide)) (by rfl) g7 k7 b7 .nil pass0 (pa_cons (pe_call G2 (hr.mono (by decide)) (by rfl) g2 k2 b2 .nil pass0 (pa_cons (pv 10) (pa_cons (pe_tup (pa_cons (pv 11) (pa_cons (pv 9) pa_nil))) pa_nil))) pa_nil)) rfl)
          (pw_or1 (pt_cmpR op_ne (pe_callB call_len_seq (by rfl) B.len PySem.boot_len (pa_cons (pv 15) pa_nil)) (pe_op op_sub (pe_op op_add (pe_callB call_len_seq (by rfl) B.len PySem.boot_len (pa_cons (pv 12) pa_nil)) (pv 8)) (pe_op op_mul pe_int (pv 9))) (nomark _))))) (pss_one (ps_ret pe_bl)) pss_nil)
    (pss_cons (ps_set (i := 16) scLaw.nd rfl (.inl rfl) (pe_op op_cat (pe_revL (pe_lc (own := [("_law_one", 17)]) (g := gName 17) (tt := tYes) rfl scLaw.nd (pi_tup (pe_slice sl_tupA (pv 7) po_none (po_some (pv 9)))) (blkOk_by (N := nLaw) (sc := defScope sLaw) (by decide +kernel))
            (fun _ _ _ _ _ => pg_name (i := 17) scLaw.nd rfl (Or.inl rfl)) (fun _ _ _ _ _ => pts_nil) (fun _ _ _ _ _ => pe_ix (ix_tupK (K := K) rfl) (pv 17) pe_int (fun _ _ => rfl)))) (pe_op op_rep (pe_lst (pa_cons pe_non pa_nil)) (pe_op op_sub (pv 8) (pv 9)))))
    (pss_cons (ps_if (PW.pt (pw_or (pt_cmpR (op_neD hu64) (pe_call G8 (hr.mono (by decide)) (by rfl) g8 k8 b8 .nil pass0 (pa_cons (pv 10) (pa_cons (pv 11) pa_nil))) (pe_callTy call_tuple_of (by rfl) B.tup (by decide +kernel) (pa_cons (pv 16) pa_nil)) (nomark _))
          (pw_or1 (pt_cmpR op_ne (pe_call G9 (hr.mono (by decide)) (by rfl) g9 k9 b9 .nil pass0 (pa_cons (pv 10) (pa_cons (pv 11) (pa_cons (pe_ix ix_tup (pv 5) pe_int (fun _ _ => rfl)) pa_nil)))) pe_int (nomark _))))) (pss_one (ps_ret pe_bl)) pss_nil)
    (pss_cons (ps_if (pt_not (pt_val (pe_callB (cr_all rfl) (by rfl) B.all (by decide +kernel) (pa_cons (pe_lc (own := [("_law_t", 18)]) (g := gName 18) (tt := tYes) rfl scLaw.nd (pi_list (pe_call G10 (hr.mono (by decide)) (by rfl) g10 k10 b10 .nil pass0 (pa_cons (pv 10) (pa_cons (pv 11) pa_nil)))) (blkOk_by (N := nLaw) (sc := defScope sLaw) (by decide +kernel))
            (fun _ _ _ _ _ => pg_name (i := 18) scLaw.nd rfl (Or.inl rfl)) (fun _ _ _ _ _ => pts_nil) (fun _ _ _ _ _ => pe_cmpR (op_inN (K := K) rfl) (pv 11) (pe_call G10 (hr.mono (by decide)) (by rfl) g10 k10 b10 .nil pass0 (pa_cons (pv 10) (pa_cons (pv 18) pa_nil))) rfl)) pa_nil)))) (pss_one (ps_ret pe_bl)) pss_nil)
    (pss_one (ps_if (PW.pt (pw_or (PW.pt (pw_and (pt_val (pe_call G11 hr (by rfl) g11 k11 b11 .nil pass0 (pa_cons (pv 3) pa_nil))) (pw_and1 (pt_not (pt_val (pe_call G11 hr (by rfl) g11 k11 b11 .nil pass0 (pa_cons (pv 10) pa_nil)))))))
          (pw_or1 (pt_cmpR (op_neE enG (by decide) hu64) (pe_call G12 (hr.mono (by decide)) (by rfl) g12 k12 b12 .nil pass0 (pa_cons (pv 10) (pa_cons (pv 11) pa_nil))) (pv 3) (nomark _))))) (pss_one (ps_ret pe_bl)) pss_nil)))))))))), ?_⟩
  intro D H0 o0 o1 o2 o4 o6 o10 o11 o12 o13 o14 o15 o16 r u rc g x c0 k sN hg hx hc0 ok g7 ir0 hd0 k1' ks kb0 s3 s7 nx
  have x0 : x ∈ c0 := List.mem_of_mem_head? hd0
  have rx := ir0.orb.val x x0
  have ceq : ∀ c, IsRim g c → c.head? = some x → c = c0 := fun c ic hc => ic.orb.eq ok.biF ir0.orb hc hd0
  have L := lay_of (s := sN) (k := k) ok g7 ir0 k1' ks kb0 s3 s7
  have okm := L.okm
  have n8 := ok.few
  have hkc : ∀ c, IsRim g c → c.head? = some x → k ≤ c.length := fun c ic hc => by rw [ceq c ic hc]; omega
  -- more, many, word
  refine ⟨_, rfl, _, rfl, _, rfl, _, rfl, r, u, g, x, k, sN, rfl, hg, hx, ok, rx, k1', by omega, hkc, fun H1 rm c1 s1 ic1 hc1 hm => ?_⟩
  rw [ceq c1 ic1 hc1] at hm
  have hg1 := moG.mo (Same.ts s1) hg
  have hg1' := hg1
  obtain ⟨a, p1, p2, rfl, ha, h1, h2⟩ := hg1'
  obtain ⟨cs, rfl, hcs⟩ := sz_is h1
  refine ⟨_, rfl, a, _, 0, _, rfl, rfl, SqT.of ha, at_nat (n := 0) rfl, cs, _, rfl, .inr (SqT.of hcs), ?_⟩
  refine ⟨_, rfl, _, rfl, _, u, g, x, rfl, hg1, moSd.mo (Same.ts s1) hx, ok, rx, fun H2 rw c2 ws s2 hw ic2 hc2 iw => ?_⟩
  rw [ceq c2 ic2 hc2] at iw
  have wl := iw.1
  refine ⟨by show 3 ≤ sizeLine; decide, fun o no => ⟨o, _, rfl, SqT.of upd_same, rfl, _, _, rfl, _, _, rfl, _, _, rfl, rfl, ?_⟩⟩
  have so := same_new (o := .tup [rm, .int ((g.1.map fun n : Nat => V.int (n : Int)).length : Nat), rw]) no
  rw [List.length_map] at so ⊢
  have sA := s1.trans (s2.trans so)
  have hm3 := moG.mo (Same.ts (s2.trans so)) hm
  have hg3 := moG.mo (Same.ts sA) hg
  have hw3 := moSz.mo (Same.ts so) hw
  have hx3 := moSd.mo (Same.ts sA) hx
  have hc3 := moCo.mo (Same.ts sA) hc0
  generalize hH3 : upd H2 o _ = H3 at sA hm3 hg3 hw3 hx3 hc3 ⊢
  clear hH3 so hm hw hg1 h1 h2 ha hcs s1 s2 no
  -- old, new
  refine ⟨_, rfl, _, g, rfl, hg3, ok, fun H4 r1 C s4 hr1 cv => ⟨_, rfl, rm, _, rfl, moG.mo (Same.ts s4) hm3, okm, fun H5 r2 C' s5 hr2 cv' => ⟨_, _, rfl, ?_⟩⟩⟩
  have s45 := s4.trans s5
  have sB := sA.trans s45
  have hm5 := moG.mo (Same.ts s45) hm3
  have hg5 := moG.mo (Same.ts s45) hg3
  have hw5 := moSz.mo (Same.ts s45) hw3
  have hx5 := moSd.mo (Same.ts s45) hx3
  have hc5 := moCo.mo (Same.ts s45) hc3
  have hr1 := (moT moI).mo (Same.ts s5) hr1
  clear hm3 hg3 hw3 hx3 hc3
  -- more != _law_lay(..) or worth
  refine ⟨_, rfl, _, rfl, _, rfl, _, rfl, _, rfl, _, u, g, x, k, sN, rfl, hg5, hx5, ok, rx, k1', by omega, hkc, fun H6 rl c6 s6 ic6 hc6 hl => ?_⟩
  rw [ceq c6 ic6 hc6] at hl
  refine ⟨_, _, moG.mo (Same.ts s6) hm5, hl, false, congrArg V.bl (by rw [decide_eq_true rfl]; rfl), iteF ?_⟩
  refine ⟨_, rfl, rm, _, rfl, moG.mo (Same.ts s6) hm5, okm, fun H7 C1 s7' cv1 => ⟨_, rfl, _, g, rfl, moG.mo (Same.ts (s6.trans s7')) hg5, ok, fun H8 C2 s8 cv2 => ?_⟩⟩
  refine ⟨rfl, false, congrArg V.bl (by rw [dec_int_, wor_lay L cv2 cv1, decide_eq_true rfl]; rfl), iteF ?_⟩
  have s58 := s6.trans (s7'.trans s8)
  have sC := sB.trans s58
  have hm8 := moG.mo (Same.ts s58) hm5
  have hg8 := moG.mo (Same.ts s58) hg5
  have hw8 := moSz.mo (Same.ts s58) hw5
  have hx8 := moSd.mo (Same.ts s58) hx5
  have hc8 := moCo.mo (Same.ts s58) hc5
  have hr1 := (moT moI).mo (Same.ts s58) hr1
  have hr2 := (moT moI).mo (Same.ts s58) hr2
  clear hm5 hg5 hw5 hx5 hc5 hl s6 s7' s8 s58
  -- new != ..
  obtain ⟨q1, us1, rfl, hq1, al1⟩ := hr1
  rw [al1.eq_map (f := V.int) fun v x r => r] at hq1
  refine ⟨_, rfl, _, rfl, q1, _, 0, _, rfl, rfl, SqT.of hq1, at_nat (n := 0) rfl, _, _, rfl, rfl, ?_⟩
  refine ⟨_, rfl, q1, _, 1, _, rfl, rfl, SqT.of hq1, at_nat (n := 1) rfl, _, rfl, _, _, rfl, rfl, _, rfl, _, _, rfl, rfl, ?_⟩
  refine ⟨_, rfl, q1, _, 2, _, rfl, rfl, SqT.of hq1, at_nat (n := 2) rfl, _, rfl, _, _, rfl, rfl, _, rfl, _, _, rfl, rfl, _, _, rfl, rfl, ?_⟩
  refine ⟨_, rfl, q1, _, 3, _, rfl, rfl, SqT.of hq1, at_nat (n := 3) rfl, _, rfl, _, _, rfl, rfl, _, _, rfl, rfl, ?_⟩
  refine ⟨by show 4 ≤ sizeLine; decide, fun q2 nq2 => ?_⟩
  have sq := same_new (o := .tup [.int ((g.1.length : Int) + 1), .int ((g.1.sum : Int) - (g.2.length : Int) + (sN : Int) - (k : Int)), .int ((C.length : Int) + (sN : Int) - (k : Int) - 1), .int ((C.countP (inn g) : Int) + (k : Int) - 1)]) nq2
  refine ⟨cnt (layG g c0 k sN) C', _, (moT moI).mo (Same.ts sq) hr2, ⟨q2, _, rfl, upd_same, .cons rfl (.cons rfl (.cons rfl (.cons rfl .nil)))⟩, false, congrArg V.bl (by rw [cnt_lay L cv cv', decide_eq_true rfl]; rfl), iteF ?_⟩
  have sD := sC.trans sq
  have hm9 := moG.mo (Same.ts sq) hm8
  have hg9 := moG.mo (Same.ts sq) hg8
  have hw9 := moSz.mo (Same.ts sq) hw8
  have hx9 := moSd.mo (Same.ts sq) hx8
  have hc9 := moCo.mo (Same.ts sq) hc8
  have w56 : ws.length ≤ 56 := by
    rw [wl]
    exact grid7 ok ir0.orb.nd fun y hy => (ir0.orb.val y hy).va
  -- late
  refine ⟨_, rfl, _, rfl, _, rfl, rw, ws, k, sN, rfl, hw9, w56, k1', by omega, ks, by omega, fun H10 rlate s10 hlate => ?_⟩
  have sE := sD.trans s10
  have hm10 := moG.mo (Same.ts s10) hm9
  have hg10 := moG.mo (Same.ts s10) hg9
  have hw10 := moSz.mo (Same.ts s10) hw9
  have hx10 := moSd.mo (Same.ts s10) hx9
  have hc10 := moCo.mo (Same.ts s10) hc9
  clear hm8 hg8 hw8 hx8 hc8 hm9 hg9 hw9 hx9 hc9 hq1 al1 sq
  obtain ⟨al, rfl, hal⟩ := sz_is hlate
  obtain ⟨aw, rfl, haw⟩ := sz_is hw10
  -- late not in turned words
  refine ⟨_, rfl, _, rfl, _, rfl, _, rfl, by show 2 ≤ sizeLine; decide, fun o2 no2 => ?_⟩
  have s11 := same_new (o := .tup [.int (g.1.length : Int), .int (k : Int)]) no2
  refine ⟨rm, .ref o2, _, (g.1.length, k), rfl, moG.mo (Same.ts s11) hm10, mk_sd (x := (g.1.length, k)) upd_same, okm, L.rim_new (Nat.le_refl k) ks, fun H12 rw2 c12 ws2 s12 hw2 ic12 hd12 iw12 => ?_⟩
  have e12 := ic12.orb.eq okm.biF L.isRim.orb hd12 (rimN_head _ ks)
  rw [e12] at iw12
  have ew : ws2 = wordN ws k sN := iw12.eq okm (L.word iw)
  have wlen := wordN_len L iw
  refine ⟨rw2, ws2, rfl, hw2, by rw [ew]; omega, fun H13 p13 s13 hp13 => ?_⟩
  have s1013 := s11.trans (s12.trans s13)
  refine ⟨p13, wordN ws k sN, _, rfl, moSz.mo (Same.ts s1013) hlate, hp13, false, ?_, iteF ?_⟩
  · rw [if_pos rfl]
    have mem : wordN ws k sN ∈ (List.range ws2.length).map fun j => ws2.drop j ++ ws2.take j := by
      refine List.mem_map.mpr ⟨0, List.mem_range.mpr ?_, ?_⟩
      · rw [ew]
        exact Nat.succ_pos _
      · rw [ew, List.drop_zero, List.take_zero, List.append_nil]
    exact congrArg V.bl (by simp only [mem, decide_true, Bool.not_true])
  refine ⟨_, rfl, al, _, rfl, .inr (SqT.of (s1013 _ _ hal)), _, rfl, aw, _, rfl, .inr (SqT.of (s1013 _ _ haw)), _, rfl, _, _, rfl, rfl, _, rfl, _, _, rfl, rfl, .inl ⟨by decide, by decide⟩, _, _, rfl, rfl, rfl, false, ?_, iteF ?_⟩
  · refine congrArg V.bl ?_
    show (!decide (V.int (((wordN ws k sN).map fun n : Nat => V.int (n : Int)).length : Nat) = V.int ((((ws.map fun n : Nat => V.int (n : Int)).length : Nat) : Int) + (sN : Int) - 2 * (k : Int)))) = false
    rw [dec_int_, List.length_map, List.length_map, decide_eq_true (by omega)]
    rfl
  have sF := sE.trans s1013
  have hm13 := moG.mo (Same.ts s1013) hm10
  have hg13 := moG.mo (Same.ts s1013) hg10
  have hx13 := moSd.mo (Same.ts s1013) hx10
  have hc13 := moCo.mo (Same.ts s1013) hc10
  clear hm10 hg10 hx10 hc10 hal haw s11 s12 s13 s1013 hp13 hw2 no2
  -- over
  refine ⟨_, rfl, _, rfl, (k : Int), rfl, ?_⟩
  refine slA_to moSd hc13 fun H14 r14 s14 hr14 => ?_
  obtain ⟨b14, us14, rfl, hb14, al14⟩ := hr14
  have l14 : (c0.take k).length = k := by rw [List.length_take]; omega
  refine ⟨b14, rfl, ⟨_, SqT.of hb14⟩, fun D1 nD1 => ?_⟩
  refine lc_src moSd moN walk_tup (fun y : WM.Sd => some y.1) nD1 al14 (by omega) (fun H' s => SqT.of (s _ _ hb14)) ?_ fun H15 s15 r15 => ?_
  · intro y v H2' us Z Z0 hy sm hD hl ry z _
    obtain ⟨d, rfl, hd⟩ := sd_is ry
    exact ⟨rfl, _, rfl, d, _, 0, _, rfl, rfl, SqT.of hd, at_nat (n := 0) rfl, z _ _ _ rfl (Same.refl _) rfl⟩
  rw [List.filterMap_eq_map'] at r15
  have hD1 := rL_vI r15
  refine ⟨D1, _, rfl, SqL.of hD1, fun l1 nl1 => ?_⟩
  have t1 := same_new (o := .lst (vI ((c0.take k).map fun y : WM.Sd => y.1)).reverse) nl1
  refine ⟨by show 1 ≤ sizeLine; decide, fun l2 nl2 => ?_⟩
  have t2 := same_new (o := .lst [.non]) nl2
  refine ⟨_, rfl, _, rfl, _, _, rfl, rfl, l2, _, [.non], rfl, rfl, upd_same, by omega, by omega, ?_, fun l3 nl3 => ?_⟩
  · refine Nat.le_trans ?_ (by decide : 100 ≤ sizeLine)
    rw [List.length_singleton]
    omega
  have t3 := same_new (o := .lst (List.replicate ((sN : Int) - (k : Int)).toNat [V.non]).flatten) nl3
  refine ⟨l1, l3, _, _, rfl, rfl, (t2.trans t3) _ _ upd_same, upd_same, ?_, fun l4 nl4 => ?_⟩
  · refine Nat.le_trans ?_ (by decide : 200 ≤ sizeLine)
    show (vI ((c0.take k).map fun y : WM.Sd => y.1)).reverse.length + (List.replicate ((sN : Int) - (k : Int)).toNat [V.non]).flatten.length ≤ 200
    rw [List.flatten_replicate_singleton, List.length_replicate, List.length_reverse, List.length_map, List.length_map, l14]
    omega
  have t4 := same_new (o := .lst ((vI ((c0.take k).map fun y : WM.Sd => y.1)).reverse ++ (List.replicate ((sN : Int) - (k : Int)).toNat [V.non]).flatten)) nl4
  have t14 := s14.trans (s15.trans (t1.trans (t2.trans (t3.trans t4))))
  have sG := sF.trans t14
  have hm16 := moG.mo (Same.ts t14) hm13
  have hg16 := moG.mo (Same.ts t14) hg13
  have hx16 := moSd.mo (Same.ts t14) hx13
  clear hm13 hg13 hx13 hc13 hb14 al14 s14 s15 t1 t2 t3 r15 hD1
  -- over_sides(more, many) != tuple(over)
  refine ⟨_, rfl, _, rfl, rm, g.1.length, _, rfl, hm16, okm, by rw [lay_len]; omega, fun H17 ro ov s17 hro hov => ?_⟩
  have eov := over_lay L hov
  subst eov
  refine ⟨_, rfl, l4, _, rfl, .inl ⟨SqL.of (s17 _ _ upd_same), fun t5 nt5 => ?_⟩⟩
  have s18 := same_new (o := .tup ((vI ((c0.take k).map fun y : WM.Sd => y.1)).reverse ++ (List.replicate ((sN : Int) - (k : Int)).toNat [V.non]).flatten)) nt5
  refine ⟨eTO (overN c0 k sN), eTO (overN c0 k sN), dpTO _ ((moT (moO moN)).mo (Same.ts s18) hro), dpTO _ ⟨t5, _, rfl, upd_same, al_over _ _ _ _ _ (by omega)⟩, eTO_shaped _, eTO_shaped _, false, congrArg V.bl (by rw [PySem.SeqAt.eqv_refl _ (eTO_lay _)]; rfl), iteF ?_⟩
  have t18 := s17.trans s18
  have sH := sG.trans t18
  have hm18 := moG.mo (Same.ts t18) hm16
  have hg18 := moG.mo (Same.ts t18) hg16
  have hx18 := moSd.mo (Same.ts t18) hx16
  clear hm16 hg16 hx16 hro s17 s18
  -- apart
  obtain ⟨bu, rfl, hbu⟩ := sd_is hx18
  have r0 : (c0[0]'(by omega)) = x := by
    rw [List.head?_eq_getElem?, List.getElem?_eq_getElem (by omega)] at hd0
    exact Option.some.inj hd0
  have nbx : Nb (layG g c0 k sN) g.1.length x.1 := by
    have := L.nb_new
    rw [r0] at this
    exact nb_symm this
  have xlt : x.1 < g.1.length := rx.va.1
  refine ⟨_, rfl, _, rfl, _, rfl, bu, _, 0, _, rfl, rfl, SqT.of hbu, at_nat (n := 0) rfl, rm, g.1.length, x.1, _, rfl, hm18, okm, by rw [lay_len]; omega, by omega, nbx, fun H19 s19 => ⟨rfl, false, congrArg V.bl (by rw [dec_int_, decide_eq_true rfl]; rfl), iteF ?_⟩⟩
  have sI := sH.trans s19
  have hm19 := moG.mo (Same.ts s19) hm18
  have hg19 := moG.mo (Same.ts s19) hg18
  clear hm18 hg18 hbu
  -- touching
  refine ⟨_, rfl, _, rfl, rm, g.1.length, _, rfl, hm19, okm, fun H20 pa l s20 npa hpa hl8 hl => ⟨pa, rfl, ⟨_, SqL.of hpa⟩, fun D2 nD2 => ?_⟩⟩
  refine lc_src moN moBl walk_list (fun _ : Nat => some true) nD2 (al_vI _ l) (by omega) (fun H' s => SqL.of (s _ _ hpa)) ?_ fun H21 s21 r21 => ?_
  · intro t v H2' us Z Z0 ht sm hD hll rt z _
    have rt : v = .int (t : Int) := rt
    subst rt
    refine ⟨rfl, _, rfl, _, rfl, _, rfl, rm, t, _, rfl, moG.mo (Same.ts (s20.trans sm)) hm19, okm, fun H3' pb l2 sb npb hpb _ hl2 => ⟨pb, l2, g.1.length, rfl, rfl, .inl (SqL.of hpb), ?_⟩⟩
    have mem : g.1.length ∈ l2 := (hl2 _).mpr (tch_symm ((hl t).mp ht))
    exact z _ _ true rfl sb (congrArg V.bl (decide_eq_true mem))
  obtain ⟨us21, hD21, al21⟩ := r21
  rw [List.filterMap_eq_map'] at al21
  rw [al21.eq_map (f := V.bl) fun v x r => r] at hD21
  have hall : (l.map fun _ => true).all id = true := by
    rw [List.all_eq_true]
    intro b hb
    obtain ⟨_, _, rfl⟩ := List.mem_map.mp hb
    rfl
  refine ⟨D2, _, rfl, SqL.of hD21, true, congrArg V.bl hall, iteF ?_⟩
  have s2021 := s20.trans s21
  have sJ := sI.trans s2021
  have hm21 := moG.mo (Same.ts s2021) hm19
  have hg21 := moG.mo (Same.ts s2021) hg19
  -- discs; taken off
  dsimp only [tNext]
  show tOr _ _ _ _ _
  refine tor_false (fun H' => Same H21 H') ?_ ?_
  · intro Q' hQ'
    refine ⟨_, rfl, _, g, rfl, hg21, ok, fun H22 q1 s22 e1 => ⟨q1, rfl, ?_⟩⟩
    cases q1 with
    | false => exact iteF (hQ' _ s22)
    | true =>
      refine iteT ⟨_, rfl, rm, _, rfl, moG.mo (Same.ts s22) hm21, okm, fun H23 q2 s23 e2 => ⟨q2, rfl, ?_⟩⟩
      have e2 : q2 = true := e2.mpr (L.disc cv lay_ties (e1.mp rfl))
      subst e2
      exact hQ' _ (s22.trans s23)
  · intro H23 s23
    refine ⟨_, rfl, _, rfl, rm, _, g.1.length, rfl, moG.mo (Same.ts s23) hm21, okm, lay_len, fun H24 rt s24 ht => ⟨_, rfl, _, _, ht, moG.mo (Same.ts (s23.trans s24)) hg21, false, congrArg V.bl (by rw [part_lay L, decide_eq_true rfl]; rfl), iteF ?_⟩⟩
    exact nx _ _ _ _ _ _ _ _ (sJ.trans (s23.trans s24))
end
end WP
set_option Elab.async false
set_option linter.all false
set_option maxRecDepth 100000
set_option maxHeartbeats 4000000
/-! the law -/
namespace WP
open PySem L2 WR WM
theorem eqv_nilG {α : Type} (f : α → PyData) (l : List α) [Decidable (l = [])] : PyData.eqv (.list (l.map f)) (.list (([] : List α).map f)) = decide (l = []) := by
  cases l with
  | nil =>
    rw [decide_eq_true rfl]
    rfl
  | cons a l =>
    rw [decide_eq_false (List.cons_ne_nil _ _)]
    rfl
section
variable {P : Program} {w : World} {K : PySem.W.Frag} {mg : Str → Option Value} {base : Heap}
def spLaw (K : PySem.W.Frag) : Sp := fun vs H Q _ => ∃ (a : Addr) (ns : List Int), vs = [.ref a] ∧ SqL K H a (ns.map V.int) ∧ ns.length ≤ 63 ∧ ∀ H', Q (.bl true) H'
theorem ok_law {f : Addr} {fd : FuncData} (F : Fun K "law" "law" sLaw f fd) (B : Bl mg)
    (cLaid : Cal P w K mg base "laid" 7 ["gluing", "side", "k", "s"] spLaid) (cRw : Cal P w K mg base "rim_word" 6 ["gluing", "side"] spRw) (cCnt : Cal P w K mg base "counts" 5 ["gluing"] spCnt)
    (cLay : Cal P w K mg base "_law_lay" 5 ["_law_gluing", "_law_side", "_law_k", "_law_s"] spLaid) (cWor : Cal P w K mg base "worth" 6 ["gluing"] spWor) (cLw : Cal P w K mg base "laid_word" 1 ["word", "i", "k", "s"] spLw)
    (cTw : Cal P w K mg base "_law_turned_words" 1 ["_law_word"] spLtw) (cOv : Cal P w K mg base "over_sides" 2 ["gluing", "t"] spOvr) (cAp : Cal P w K mg base "apart" 3 ["gluing", "t", "u"] spApt) (cTc : Cal P w K mg base "touching" 5 ["gluing", "t"] spTch)
    (cDi : Cal P w K mg base "is_disc" 8 ["gluing"] spDis) (cTk : Cal P w K mg base "taken" 3 ["gluing", "t"] spTak)
    (cOp : Cal P w K mg base "_law_open_cells" 1 ["_law_script"] (spOpen K)) (cPi : Cal P w K mg base "_law_pick" 1 ["_law_source", "_law_most"] spPick) (cDp : Cal P w K mg base "_law_draw_plain" 6 ["_law_source", "_law_most"] spDp)
    (cDg : Cal P w K mg base "_law_draw_gluing" 7 ["_law_source", "_law_most"] spDg) (cMa : Cal P w K mg base "_law_mates" 1 ["_law_gluing"] spMates) (cSd : Cal P w K mg base "_law_sides" 1 ["_law_gluing"] spShr) (cRo : Cal P w K mg base "rim_of" 6 ["gluing", "side"] spRof) :
    FnOk P w K mg base CX0 9 f fd ["_law_script"] (spLaw K) := by
  obtain ⟨f1, d1, G1, g1, k1, b1⟩ := cOp
  obtain ⟨f2, d2, G2, g2, k2, b2⟩ := cPi
  obtain ⟨f3, d3, G3, g3, k3, b3⟩ := cDp
  obtain ⟨f4, d4, G4, g4, k4, b4⟩ := cDg
  obtain ⟨f5, d5, G5, g5, k5, b5⟩ := cMa
  obtain ⟨f6, d6, G6, g6, k6, b6⟩ := cSd
  obtain ⟨f7, d7, G7, g7, k7, b7⟩ := cRo
  refine F.ok scLaw (fun vs H Q E h => ?_) (fun cdv A outer s H vs Q E hr h => ?_)
  · obtain ⟨a, ns, rfl, _⟩ := h
    rfl
  · obtain ⟨a, ns, rfl, hS, h63, q⟩ := h
    have hu := hu_of hr
    have hu64 := hr.units
    obtain ⟨tT, hT, sem⟩ := law_tail (f := f) (cdv := cdv) (A := A) (outer := outer) (s := s) (H := H) (E := E) hr B cLaid cRw cCnt cLay cWor cLw cTw cOv cAp cTc cDi cTk
    refine ⟨_, pss_cons (ps_set (i := 1) scLaw.nd rfl (.inl rfl) (pe_call G1 (hr.mono (by decide)) (by rfl) g1 k1 b1 .nil pass0 (pa_cons (pv 0) pa_nil)))
      (pss_cons (ps_for PassesOwn.never rfl (pi_range1 (by rfl) B.ran (pa_cons pe_int pa_nil)) (pg_name (i := 2) scLaw.nd rfl (.inl rfl))
        (pss_cons (ps_set (i := 3) scLaw.nd rfl (.inl rfl) (pe_ifExp (pt_cmpR op_eq (pe_call G2 (hr.mono (by decide)) (by rfl) g2 k2 b2 .nil pass0 (pa_cons (pv 1) (pa_cons pe_int pa_nil))) pe_int (nomark _)) (pe_call G3 (hr.mono (by decide)) (by rfl) g3 k3 b3 .nil pass0 (pa_cons (pv 1) (pa_cons pe_int pa_nil))) (pe_call G4 (hr.mono (by decide)) (by rfl) g4 k4 b4 .nil pass0 (pa_cons (pv 1) (pa_cons pe_int pa_nil)))))
        (pss_cons (ps_set (i := 4) scLaw.nd rfl (.inr rfl) (pe_call G5 (hr.mono (by decide)) (by rfl) g5 k5 b5 .nil pass0 (pa_cons (pv 3) pa_nil)))
        (pss_cons (ps_setLc (i := 6) (own := [("_law_side", 5)]) (g := gName 5) rfl scLaw.nd rfl rfl (sw_true rfl rfl rfl (by decide +kernel)) (pi_list (pe_call G6 (hr.mono (by decide)) (by rfl) g6 k6 b6 .nil pass0 (pa_cons (pv 3) pa_nil))) (blkOk_by (N := nLaw) (sc := defScope sLaw) (by decide +kernel))
            (fun _ _ _ _ _ => pg_name (i := 5) scLaw.nd rfl (Or.inl rfl)) (fun _ _ _ _ _ => pts_one (pt_cmp (pc_dnotin hu (pv 5) (pv 4)) rfl)) (fun _ _ _ _ _ => pv 5))
        (pss_cons (ps_set (i := 5) scLaw.nd rfl (.inl rfl) (pe_ifExp (pt_cmpR (op_neD hu64) (pv 6) (pe_lst pa_nil) (nomark _)) (pe_ix ix_list (pv 6) (pe_call G2 (hr.mono (by decide)) (by rfl) g2 k2 b2 .nil pass0 (pa_cons (pv 1) (pa_cons (pe_callB call_len_seq (by rfl) B.len PySem.boot_len (pa_cons (pv 6) pa_nil)) pa_nil))) (fun _ _ => rfl)) pe_non))
        (pss_cons (ps_par (i := 7) (j := 8) (by rfl) scLaw.nd rfl rfl (by decide) rfl rfl (pa_cons (pe_ifExp (pt_cmpR (op_neD hu64) (pv 6) (pe_lst pa_nil) (nomark _)) (pe_call G7 (hr.mono (by decide)) (by rfl) g7 k7 b7 .nil pass0 (pa_cons (pv 3) (pa_cons (pv 5) pa_nil))) (pe_tup pa_nil)) (pa_cons (pe_op op_add pe_int (pe_call G2 (hr.mono (by decide)) (by rfl) g2 k2 b2 .nil pass0 (pa_cons (pv 1) (pa_cons pe_int pa_nil)))) pa_nil)) (by rfl))
        (pss_cons (ps_if (pt_cmp (pc_lt (pe_callB call_len_seq (by rfl) B.len PySem.boot_len (pa_cons (pv 7) pa_nil)) pe_int)) (pss_one ps_continue) pss_nil)
        (pss_cons (ps_set (i := 9) scLaw.nd rfl (.inl rfl) (pe_op op_add pe_int (pe_call G2 (hr.mono (by decide)) (by rfl) g2 k2 b2 .nil pass0 (pa_cons (pv 1) (pa_cons (pe_op op_sub (pe_callB (call_min2 rfl) (by rfl) B.min (by decide +kernel) (pa_cons (pv 8) (pa_cons (pe_callB call_len_seq (by rfl) B.len PySem.boot_len (pa_cons (pv 7) pa_nil)) pa_nil))) pe_int) pa_nil)))))
        hT))))))))
      (pss_one (ps_ret pe_bl))), ?_⟩
    refine ⟨_, rfl, a, ns, rfl, hS, h63, fun H1 d c s1 src1 => ?_⟩
    refine ⟨_, rfl, by decide, by decide, ?_⟩
    refine for_it (walk_range (n := (4 : Int).toNat)) (fun i σ H2 => ∃ o2 o3 o4 o5 o6 o7 o8 o9 o10 o11 o12 o13 o14 o15 o16, σ = [some (.ref a), some (.ref d), o2, o3, o4, o5, o6, o7, o8, o9, o10, o11, o12, o13, o14, o15, o16, none, none] ∧ Src H2 d c)
      ⟨none, none, none, none, none, none, none, none, none, none, none, none, none, none, none, rfl, src1⟩ (fun _ _ _ _ _ => trivial) ?_ ?_
    · rintro i x σ H2 H2' hi ⟨o2, o3, o4, o5, o6, o7, o8, o9, o10, o11, o12, o13, o14, o15, o16, rfl, src⟩ ⟨rfl, hx⟩
      clear s1 src1 hS
      -- the gluing
      show tIf _ _ _ _ _ _
      refine te_inv (fun v H' => ∃ g, Src H' d c ∧ rG H' v g ∧ Ok g ∧ g.1.length ≤ 7) ?_ ?_
      · rintro v H3 ⟨g, src, hg, ok, g7⟩
        -- mates, spare
        refine ⟨_, rfl, v, g, rfl, hg, ok, fun H4 dm s4 ndm tm => ?_⟩
        have hg4 := moG.mo (Same.ts s4) hg
        refine ⟨_, rfl, v, g, rfl, hg4, ok, fun H5 ps s5 nps ⟨us, hps, alS⟩ => ⟨ps, rfl, ⟨_, SqL.of hps⟩, fun D nD => ?_⟩⟩
        obtain ⟨kvs, hdm, tb⟩ := tbl_mo moSd s5 tm
        refine lc_src moSd moSd walk_list (fun x => if hasM g x = true then none else some x) nD alS (allS_few ok) (fun H' s => SqL.of (s _ _ hps)) ?_ fun H6 s6 r6 => ?_
        · intro y x H6 us' Z Z0 hy sm hD hl ry z z0
          have ry0 := ry
          obtain ⟨b, rfl, hb⟩ := sd_tup ry
          refine ⟨rfl, _, rfl, _, rfl, dm, _, rfl, DGet.t (sm _ _ hdm) hb, _, rfl, ?_⟩
          rw [has_m tb]
          cases e : hasM g y with
          | true => exact iteF (z0 (if_pos e) _ (Same.refl _))
          | false => exact iteT ⟨_, rfl, z _ _ y (if_neg (by rw [e]; exact Bool.false_ne_true)) (Same.refl _) ry0⟩
        · obtain ⟨us6, hD6, al6⟩ := r6
          have al6 : Al (rSd H6) us6 (WP.spare g) := al6
          have l6 := al6.length
          have sp64 := spare_few ok
          have s36 := s4.trans (s5.trans s6)
          have src6 := src.mo s36
          have hg6 := moG.mo (Same.ts s36) hg
          have nDs := (src.mo (s4.trans s5)).new nD
          -- side
          refine ⟨_, rfl, Nat.zero_le _, fun z1 nz1 => ?_⟩
          have t1 := same_new (o := .lst []) nz1
          refine ⟨eL eSd (WP.spare g), eL eSd [], enSd.dpL _ ⟨us6, t1 _ _ hD6, moSd.al (Same.ts t1) al6⟩, enSd.dpL _ ⟨_, upd_same, .nil⟩, enSd.shapedL (by decide) _, enSd.shapedL (by decide) _, ?_⟩
          by_cases h0 : WP.spare g = []
          · refine ⟨false, congrArg V.bl (by rw [show PyData.eqv (eL eSd (WP.spare g)) (eL eSd []) = decide (WP.spare g = []) from eqv_nilG eSd _, decide_eq_true h0]; rfl), iteF ?_⟩
            refine ⟨_, rfl, Nat.zero_le _, fun z2 nz2 => ?_⟩
            have t2 := same_new (o := .lst []) nz2
            refine ⟨eL eSd (WP.spare g), eL eSd [], enSd.dpL _ ⟨us6, (t1.trans t2) _ _ hD6, moSd.al (Same.ts (t1.trans t2)) al6⟩, enSd.dpL _ ⟨_, upd_same, .nil⟩, enSd.shapedL (by decide) _, enSd.shapedL (by decide) _, ?_⟩
            refine ⟨false, congrArg V.bl (by rw [show PyData.eqv (eL eSd (WP.spare g)) (eL eSd []) = decide (WP.spare g = []) from eqv_nilG eSd _, decide_eq_true h0]; rfl), iteF ?_⟩
            refine ⟨Nat.zero_le _, fun z3 nz3 => ?_⟩
            have t3 := same_new (o := .tup []) nz3
            have src7 := src6.mo (t1.trans (t2.trans t3))
            refine ⟨_, rfl, d, c, 4, rfl, by decide, src7, fun H8 n8 k8 src8 pk8 => ⟨_, _, rfl, rfl, _, _, rfl, ?_⟩⟩
            have hz3 := k8.ts src7 _ _ upd_same
            refine ⟨_, rfl, z3, [], rfl, .inr (SqT.of hz3), _, _, rfl, rfl, true, rfl, iteT ?_⟩
            exact ⟨_, _, _, _, _, _, _, _, _, _, _, _, _, _, _, rfl, src8⟩
          · refine ⟨true, congrArg V.bl (by rw [show PyData.eqv (eL eSd (WP.spare g)) (eL eSd []) = decide (WP.spare g = []) from eqv_nilG eSd _, decide_eq_false h0]; rfl), iteT ?_⟩
            have hD7 := t1 _ _ hD6
            have src7 := src6.mo t1
            have pos : 0 < (WP.spare g).length := List.length_pos_iff.mpr h0
            refine ⟨_, rfl, _, rfl, _, rfl, D, us6, rfl, .inl (SqL.of hD7), d, c, _, rfl, by omega, src7, fun H8 n k8 src8 pk8 => ?_⟩
            have hn : n < (WP.spare g).length := by
              by_cases z : (2 : Int) ≤ (us6.length : Int)
              · have := pk8.1 z
                omega
              · have := pk8.2 (by omega)
                omega
            have t8 := (Same.ts t1).trans (k8.ts src7)
            have hD8 : H8 D = some (.lst us6) := k8 D _ nDs.1 nDs.2 hD7
            have al8 := moSd.al t8 al6
            have hg8 := moG.mo t8 hg6
            obtain ⟨u, hu8, ru⟩ := al8.at (List.getElem?_eq_getElem hn)
            have rx : Rim g (WP.spare g)[n] := mem_spare.mp (List.getElem_mem hn)
            refine ⟨D, us6, _, u, rfl, rfl, SqL.of hD8, at_nat hu8, ?_⟩
            -- rim_here, s
            refine ⟨_, rfl, Nat.zero_le _, fun z2 nz2 => ?_⟩
            have t2 := same_new (o := .lst []) nz2
            refine ⟨eL eSd (WP.spare g), eL eSd [], enSd.dpL _ ⟨us6, t2 _ _ hD8, moSd.al (Same.ts t2) al8⟩, enSd.dpL _ ⟨_, upd_same, .nil⟩, enSd.shapedL (by decide) _, enSd.shapedL (by decide) _, ?_⟩
            refine ⟨true, congrArg V.bl (by rw [show PyData.eqv (eL eSd (WP.spare g)) (eL eSd []) = decide (WP.spare g = []) from eqv_nilG eSd _, decide_eq_false h0]; rfl), iteT ?_⟩
            refine ⟨_, rfl, _, rfl, v, u, g, _, rfl, moG.mo (Same.ts t2) hg8, moSd.mo (Same.ts t2) ru, ok, rx, fun H9 rc c0 s9 hrc ir hd0 => ?_⟩
            have t29 := t2.trans s9
            have src9 := src8.mo t29
            refine ⟨_, rfl, d, c, 4, rfl, by decide, src9, fun H10 n10 k10 src10 pk10 => ⟨_, _, rfl, rfl, _, _, rfl, ?_⟩⟩
            have n4 : n10 < 4 := by have := pk10.1 (by decide); omega
            have t10 := (Same.ts t29).trans (k10.ts src9)
            have hrc10 := moCo.mo (k10.ts src9) hrc
            have hrc10' := hrc10
            obtain ⟨b, vs, rfl, hb, alb⟩ := hrc10'
            have lb := alb.length
            have c64 := rim_few ok ir
            refine ⟨_, rfl, b, vs, rfl, .inr (SqT.of hb), _, _, rfl, rfl, ?_⟩
            by_cases h3 : (vs.length : Int) < 3
            · refine ⟨true, congrArg V.bl (decide_eq_true h3), iteT ?_⟩
              exact ⟨_, _, _, _, _, _, _, _, _, _, _, _, _, _, _, rfl, src10⟩
            · refine ⟨false, congrArg V.bl (decide_eq_false h3), iteF ?_⟩
              -- k
              refine ⟨_, rfl, _, rfl, _, rfl, b, vs, rfl, .inr (SqT.of hb), _, _, rfl, ?_⟩
              refine ⟨_, _, rfl, rfl, d, c, _, rfl, ?_, src10, fun H11 r7 k11 src11 pk7 => ⟨_, _, rfl, rfl, ?_⟩⟩
              · show (if ((vs.length : Nat) : Int) < ((3 : Int) + (n10 : Int)) then ((vs.length : Nat) : Int) else ((3 : Int) + (n10 : Int))) - 1 ≤ 1000
                split <;> omega
              have pk7 : Pk ((if ((vs.length : Nat) : Int) < ((3 : Int) + (n10 : Int)) then ((vs.length : Nat) : Int) else ((3 : Int) + (n10 : Int))) - 1) r7 := pk7
              have hk : 1 + r7 < 3 + n10 ∧ 1 + r7 < c0.length := by
                obtain ⟨p1, p2⟩ := pk7
                split at p1 <;> rename_i h
                · have := p1 (by omega)
                  omega
                · have := p1 (by omega)
                  omega
              have t11 := t10.trans (k11.ts src10)
              have e8 : (3 : Int) + (n10 : Int) = ((3 + n10 : Nat) : Int) := by omega
              have e9 : (1 : Int) + (r7 : Int) = ((1 + r7 : Nat) : Int) := by omega
              refine sem _ H11 (some (.ref a)) (some (.ref d)) _ _ _ o10 o11 o12 o13 o14 o15 o16 v u (.ref b) g _ c0 (1 + r7) (3 + n10) (moG.mo t11 hg8) (moSd.mo t11 ru) (moCo.mo (k11.ts src10) hrc10) ok g7 ir hd0 (by omega) hk.1 hk.2 (by omega) (by omega) ?_
              intro H' a1 b1 c1 d1 e1 f1 g1 sl
              exact ⟨_, _, _, _, _, _, _, _, _, _, _, _, _, _, _, rfl, src11.mo sl⟩
      · intro Q' hQ'
        refine ⟨_, rfl, d, c, 2, rfl, by decide, src, fun H3 n k3 src3 pk3 => ?_⟩
        by_cases h0 : n = 0
        · refine ⟨rfl, true, congrArg V.bl ((dec_nat n 0).trans (decide_eq_true h0)), iteT ?_⟩
          exact ⟨_, rfl, d, c, 5, rfl, by decide, by decide, src3, fun H4 r g k4 src4 hg ok pl len => hQ' _ _ ⟨g, src4, hg, ok, by omega⟩⟩
        · refine ⟨rfl, false, congrArg V.bl ((dec_nat n 0).trans (decide_eq_false h0)), iteF ?_⟩
          exact ⟨_, rfl, d, c, rfl, src3, fun H4 r g k4 src4 hg ok len => hQ' _ _ ⟨g, src4, hg, ok, len⟩⟩
    · rintro σ H2 _
      exact q _
end
end WP
set_option Elab.async false
set_option linter.all false
set_option maxRecDepth 100000
set_option maxHeartbeats 4000000
/-! every def as the top has left it; the law -/
namespace WP
open PySem L2 WR WM
/-- a def that the top has made -/
def Df (K : PySem.W.Frag) (mg : Str → Option Value) (x : Str) (i : Nat) : Prop := ∃ f fd, Fun K x x (topS i) f fd ∧ mg x = some (.ref f)
theorem mk_df {K : PySem.W.Frag} {h : Heap} {mg : Str → Option Value} {x : Str} {i : Nat} {f : Addr} {oc : Value} {od an : Option Addr} {osl : Array (Option Value)} {kV doc pm cdv ct : Value} (X : K.In h) (G : h.Ns mainGlobals mg) (a : PySem.W.nsIn K mainGlobals x = some (some (.ref f)))
    (l : K.lookup f = some ⟨oc, od, .func (PySem.W.fnOf x x (defArgs (topS i)) (defBody (topS i)) (defScope (topS i)) .none kV doc pm an cdv ct), osl⟩) (c : PySem.W.codeIn K cdv x = true) (k : PySem.W.keepIn K (.ref f) = true) : Df K mg x i :=
  ⟨f, _, fun_mk l c k, PySem.W.mg_of X G a⟩
theorem Df.cal {P : Program} {w : World} {K : PySem.W.Frag} {mg : Str → Option Value} {base : Heap} {x : Str} {i n : Nat} {ps : List Str} {sp : Sp} (D : Df K mg x i) (ok : ∀ f fd, Fun K x x (topS i) f fd → FnOk P w K mg base CX0 n f fd ps sp)
    (hb : ∀ (kV doc pm : Value) (an : Option Addr) (cdv ct : Value) (us : List Value), us.length = ps.length → bindArgs (PySem.W.fnOf x x (defArgs (topS i)) (defBody (topS i)) (defScope (topS i)) .none kV doc pm an cdv ct) ⟨us, []⟩ = pure (ps.zip us)) : Cal P w K mg base x n ps sp := by
  obtain ⟨f, fd, F, g⟩ := D
  exact ⟨f, fd, ok f fd F, g, F.kp, F.binds hb⟩
structure Dfs (K : PySem.W.Frag) (mg : Str → Option Value) : Prop where
  d1 : Df K mg "mates" 1
  d2 : Df K mg "step_on" 2
  d3 : Df K mg "step_back" 3
  d4 : Df K mg "onward" 4
  d5 : Df K mg "walked" 5
  d6 : Df K mg "corner_at" 6
  d7 : Df K mg "is_inner" 7
  d8 : Df K mg "shares" 8
  d9 : Df K mg "corners" 9
  d10 : Df K mg "corner_table" 10
  d12 : Df K mg "following" 12
  d13 : Df K mg "round_from" 13
  d14 : Df K mg "rim_of" 14
  d15 : Df K mg "rims" 15
  d16 : Df K mg "letters_along" 16
  d17 : Df K mg "rim_word" 17
  d19 : Df K mg "over_sides" 19
  d20 : Df K mg "neighbours" 20
  d21 : Df K mg "layers" 21
  d22 : Df K mg "apart" 22
  d23 : Df K mg "pieces" 23
  d24 : Df K mg "touching" 24
  d25 : Df K mg "counts" 25
  d26 : Df K mg "worth" 26
  d27 : Df K mg "twice" 27
  d28 : Df K mg "is_whole" 28
  d29 : Df K mg "is_disc" 29
  d31 : Df K mg "ordered" 31
  d32 : Df K mg "part_of" 32
  d34 : Df K mg "laid" 34
  d35 : Df K mg "laid_word" 35
  d37 : Df K mg "taken" 37
  d39 : Df K mg "_law_open_cells" 39
  d40 : Df K mg "_law_pick" 40
  d41 : Df K mg "_law_mates" 41
  d42 : Df K mg "_law_sides" 42
  d43 : Df K mg "_law_round" 43
  d44 : Df K mg "_law_onward" 44
  d45 : Df K mg "_law_next_rim" 45
  d46 : Df K mg "_law_rim" 46
  d47 : Df K mg "_law_rims" 47
  d48 : Df K mg "_law_lay" 48
  d49 : Df K mg "_law_draw_plain" 49
  d50 : Df K mg "_law_draw_gluing" 50
  d51 : Df K mg "_law_turned_words" 51
theorem all_ok {l : PySem.W.OpenLaw} {w : World} {K : PySem.W.Frag} {mg : Str → Option Value} (T : Dfs K mg) (DL : Df K mg "law" 52) (B : Bl mg) {fa : Addr} (hfa : mg "law" = some (.ref fa)) :
    ∃ fd : FuncData, (∀ (s : Shared) (v : Value), BindsTo s fd ⟨[v], []⟩ [("_law_script", v)]) ∧ ∀ base : Heap, FnOk l.prog w K mg base CX0 9 fa fd ["_law_script"] (spLaw K) := by
  obtain ⟨f2, fd, F, g2⟩ := DL
  cases hfa.symm.trans g2
  refine ⟨fd, ?_, fun base => ?_⟩
  · obtain ⟨oc, od, kV, doc, pm, an, cdv, ct, osl, rfl, _, _⟩ := F.ex
    exact fun s v => .of_eq rfl
  · have c1 : Cal l.prog w K mg base "mates" 1 ["gluing"] spMates := T.d1.cal (fun f fd F => ok_mates F) (fun _ _ _ _ _ _ us hl => match us, hl with | [_], _ => rfl)
    have c2 : Cal l.prog w K mg base "step_on" 1 ["sizes", "ties", "share"] spOn := T.d2.cal (fun f fd F => ok_on F) (fun _ _ _ _ _ _ us hl => match us, hl with | [_, _, _], _ => rfl)
    have c3 : Cal l.prog w K mg base "step_back" 1 ["sizes", "ties", "share"] spBack := T.d3.cal (fun f fd F => ok_back F) (fun _ _ _ _ _ _ us hl => match us, hl with | [_, _, _], _ => rfl)
    have c4 : Cal l.prog w K mg base "onward" 2 ["gluing", "share"] spOnw := T.d4.cal (fun f fd F => ok_onw F c2 c1) (fun _ _ _ _ _ _ us hl => match us, hl with | [_, _], _ => rfl)
    have c5 : Cal l.prog w K mg base "walked" 2 ["sizes", "ties", "share"] spWalk := T.d5.cal (fun f fd F => ok_walk F c2) (fun _ _ _ _ _ _ us hl => match us, hl with | [_, _, _], _ => rfl)
    have c6 : Cal l.prog w K mg base "corner_at" 3 ["sizes", "ties", "share"] spCat := T.d6.cal (fun f fd F => ok_cat F B c3 c5) (fun _ _ _ _ _ _ us hl => match us, hl with | [_, _, _], _ => rfl)
    have c7 : Cal l.prog w K mg base "is_inner" 3 ["gluing", "corner"] spInn := T.d7.cal (fun f fd F => ok_inn F c4) (fun _ _ _ _ _ _ us hl => match us, hl with | [_, _], _ => rfl)
    have c8 : Cal l.prog w K mg base "shares" 1 ["gluing"] spShr := T.d8.cal (fun f fd F => ok_shr F B) (fun _ _ _ _ _ _ us hl => match us, hl with | [_], _ => rfl)
    have c9 : Cal l.prog w K mg base "corners" 4 ["gluing"] spCor := T.d9.cal (fun f fd F => ok_cor F c1 c8 c6) (fun _ _ _ _ _ _ us hl => match us, hl with | [_], _ => rfl)
    have c10 : Cal l.prog w K mg base "corner_table" 5 ["gluing"] spCtb := T.d10.cal (fun f fd F => ok_ctb F c9) (fun _ _ _ _ _ _ us hl => match us, hl with | [_], _ => rfl)
    have c12 : Cal l.prog w K mg base "following" 1 ["sizes", "table", "side"] spFol := T.d12.cal (fun f fd F => ok_fol F) (fun _ _ _ _ _ _ us hl => match us, hl with | [_, _, _], _ => rfl)
    have c13 : Cal l.prog w K mg base "round_from" 2 ["sizes", "table", "side"] spRnd := T.d13.cal (fun f fd F => ok_rnd F B c12) (fun _ _ _ _ _ _ us hl => match us, hl with | [_, _, _], _ => rfl)
    have c14 : Cal l.prog w K mg base "rim_of" 6 ["gluing", "side"] spRof := T.d14.cal (fun f fd F => ok_rof F c13 c10) (fun _ _ _ _ _ _ us hl => match us, hl with | [_, _], _ => rfl)
    have c15 : Cal l.prog w K mg base "rims" 6 ["gluing"] spRms := T.d15.cal (fun f fd F => ok_rms F c10 c1 c8 c13) (fun _ _ _ _ _ _ us hl => match us, hl with | [_], _ => rfl)
    have c16 : Cal l.prog w K mg base "letters_along" 1 ["table", "rim"] spLet := T.d16.cal (fun f fd F => ok_let F B) (fun _ _ _ _ _ _ us hl => match us, hl with | [_, _], _ => rfl)
    have c17 : Cal l.prog w K mg base "rim_word" 6 ["gluing", "side"] spRw := T.d17.cal (fun f fd F => ok_rw F c13 c10 c16) (fun _ _ _ _ _ _ us hl => match us, hl with | [_, _], _ => rfl)
    have c19 : Cal l.prog w K mg base "over_sides" 2 ["gluing", "t"] spOvr := T.d19.cal (fun f fd F => ok_ovr F B c1) (fun _ _ _ _ _ _ us hl => match us, hl with | [_, _], _ => rfl)
    have c20 : Cal l.prog w K mg base "neighbours" 1 ["gluing"] spNbs := T.d20.cal (fun f fd F => ok_nbs F B) (fun _ _ _ _ _ _ us hl => match us, hl with | [_], _ => rfl)
    have c21 : Cal l.prog w K mg base "layers" 2 ["gluing", "t"] spLrs := T.d21.cal (fun f fd F => ok_lrs F B c20) (fun _ _ _ _ _ _ us hl => match us, hl with | [_, _], _ => rfl)
    have c22 : Cal l.prog w K mg base "apart" 3 ["gluing", "t", "u"] spApt := T.d22.cal (fun f fd F => ok_apt F B c21) (fun _ _ _ _ _ _ us hl => match us, hl with | [_, _, _], _ => rfl)
    have c23 : Cal l.prog w K mg base "pieces" 3 ["gluing"] spPcs := T.d23.cal (fun f fd F => ok_pcs F B c21) (fun _ _ _ _ _ _ us hl => match us, hl with | [_], _ => rfl)
    have c24 : Cal l.prog w K mg base "touching" 5 ["gluing", "t"] spTch := T.d24.cal (fun f fd F => ok_tch F B c9) (fun _ _ _ _ _ _ us hl => match us, hl with | [_, _], _ => rfl)
    have c25 : Cal l.prog w K mg base "counts" 5 ["gluing"] spCnt := T.d25.cal (fun f fd F => ok_cnt F B c9 c7) (fun _ _ _ _ _ _ us hl => match us, hl with | [_], _ => rfl)
    have c26 : Cal l.prog w K mg base "worth" 6 ["gluing"] spWor := T.d26.cal (fun f fd F => ok_wor F c25) (fun _ _ _ _ _ _ us hl => match us, hl with | [_], _ => rfl)
    have c27 : Cal l.prog w K mg base "twice" 5 ["gluing"] spTwi := T.d27.cal (fun f fd F => ok_twi F B c9) (fun _ _ _ _ _ _ us hl => match us, hl with | [_], _ => rfl)
    have c28 : Cal l.prog w K mg base "is_whole" 7 ["gluing", "many", "value"] spWho := T.d28.cal (fun f fd F => ok_who F B c23 c15 c26 c27) (fun _ _ _ _ _ _ us hl => match us, hl with | [_, _, _], _ => rfl)
    have c29 : Cal l.prog w K mg base "is_disc" 8 ["gluing"] spDis := T.d29.cal (fun f fd F => ok_dis F c28) (fun _ _ _ _ _ _ us hl => match us, hl with | [_], _ => rfl)
    have c31 : Cal l.prog w K mg base "ordered" 1 ["sizes", "ties"] spOrd := T.d31.cal (fun f fd F => ok_ord F B) (fun _ _ _ _ _ _ us hl => match us, hl with | [_, _], _ => rfl)
    have c32 : Cal l.prog w K mg base "part_of" 2 ["gluing", "tiles"] spPar := T.d32.cal (fun f fd F => ok_par F B c31) (fun _ _ _ _ _ _ us hl => match us, hl with | [_, _], _ => rfl)
    have c34 : Cal l.prog w K mg base "laid" 7 ["gluing", "side", "k", "s"] spLaid := T.d34.cal (fun f fd F => ok_laid F B c14) (fun _ _ _ _ _ _ us hl => match us, hl with | [_, _, _, _], _ => rfl)
    have c35 : Cal l.prog w K mg base "laid_word" 1 ["word", "i", "k", "s"] spLw := T.d35.cal (fun f fd F => ok_lw F B) (fun _ _ _ _ _ _ us hl => match us, hl with | [_, _, _, _], _ => rfl)
    have c37 : Cal l.prog w K mg base "taken" 3 ["gluing", "t"] spTak := T.d37.cal (fun f fd F => ok_tak F B c32) (fun _ _ _ _ _ _ us hl => match us, hl with | [_, _], _ => rfl)
    have c39 : Cal l.prog w K mg base "_law_open_cells" 1 ["_law_script"] (spOpen K) := T.d39.cal (fun f fd F => ok_open F B) (fun _ _ _ _ _ _ us hl => match us, hl with | [_], _ => rfl)
    have c40 : Cal l.prog w K mg base "_law_pick" 1 ["_law_source", "_law_most"] spPick := T.d40.cal (fun f fd F => ok_pick F B) (fun _ _ _ _ _ _ us hl => match us, hl with | [_, _], _ => rfl)
    have c41 : Cal l.prog w K mg base "_law_mates" 1 ["_law_gluing"] spMates := T.d41.cal (fun f fd F => ok_lmates F) (fun _ _ _ _ _ _ us hl => match us, hl with | [_], _ => rfl)
    have c42 : Cal l.prog w K mg base "_law_sides" 1 ["_law_gluing"] spShr := T.d42.cal (fun f fd F => ok_lsd F B) (fun _ _ _ _ _ _ us hl => match us, hl with | [_], _ => rfl)
    have c43 : Cal l.prog w K mg base "_law_round" 1 ["_law_gluing", "_law_side", "_law_k"] spLround := T.d43.cal (fun f fd F => ok_lround F) (fun _ _ _ _ _ _ us hl => match us, hl with | [_, _, _], _ => rfl)
    have c44 : Cal l.prog w K mg base "_law_onward" 2 ["_law_gluing", "_law_mates_here", "_law_share"] spLonw := T.d44.cal (fun f fd F => ok_lonw F c43) (fun _ _ _ _ _ _ us hl => match us, hl with | [_, _, _], _ => rfl)
    have c45 : Cal l.prog w K mg base "_law_next_rim" 3 ["_law_gluing", "_law_mates_here", "_law_side"] spLnr := T.d45.cal (fun f fd F => ok_lnr F c43 c44) (fun _ _ _ _ _ _ us hl => match us, hl with | [_, _, _], _ => rfl)
    have c46 : Cal l.prog w K mg base "_law_rim" 4 ["_law_gluing", "_law_side"] spRof := T.d46.cal (fun f fd F => ok_lrim F B c41 c45) (fun _ _ _ _ _ _ us hl => match us, hl with | [_, _], _ => rfl)
    have c47 : Cal l.prog w K mg base "_law_rims" 5 ["_law_gluing"] spRms := T.d47.cal (fun f fd F => ok_lrims F B c41 c42 c46) (fun _ _ _ _ _ _ us hl => match us, hl with | [_], _ => rfl)
    have c48 : Cal l.prog w K mg base "_law_lay" 5 ["_law_gluing", "_law_side", "_law_k", "_law_s"] spLaid := T.d48.cal (fun f fd F => ok_llay F B c46) (fun _ _ _ _ _ _ us hl => match us, hl with | [_, _, _, _], _ => rfl)
    have c49 : Cal l.prog w K mg base "_law_draw_plain" 6 ["_law_source", "_law_most"] spDp := T.d49.cal (fun f fd F => ok_dp F B c40 c47 c48) (fun _ _ _ _ _ _ us hl => match us, hl with | [_, _], _ => rfl)
    have c50 : Cal l.prog w K mg base "_law_draw_gluing" 7 ["_law_source", "_law_most"] spDg := T.d50.cal (fun f fd F => ok_dg F B c40 c49 c41 c42) (fun _ _ _ _ _ _ us hl => match us, hl with | [_, _], _ => rfl)
    have c51 : Cal l.prog w K mg base "_law_turned_words" 1 ["_law_word"] spLtw := T.d51.cal (fun f fd F => ok_ltw F B) (fun _ _ _ _ _ _ us hl => match us, hl with | [_], _ => rfl)
    exact ok_law F B c34 c17 c25 c48 c26 c35 c51 c19 c22 c24 c29 c37 c39 c40 c49 c50 c41 c42 c14
end WP
set_option Elab.async false
set_option linter.all false
set_option maxRecDepth 100000
open PySem PySem.W PyProof.Rows
set_option maxHeartbeats 0 in
theorem PySem.Challenge.cw_whatrims_k19_whole_layings_holds : PySem.Challenge.rw_whatrims_k19_whole_layings.Holds := by
  w_on; o_law; k_head; (case hw => w_witness2)
  k_fill
  refine L2.walk_of (l := PySem.Challenge.rw_whatrims_k19_whole_layings) (n := 63) (k := 9) (x := "_law_script") (CX := fun _ => L2.CX0) (sp := fun w => WP.spLaw _) rfl (by decide) rfl ⟨rfl, by decide, by decide⟩ (fun w h Y => PySem.W.kIn_of Y) ?F (fun _ _ a ns hl _ hS => ⟨a, ns, rfl, hS, hl, fun _ => rfl⟩) (fun _ _ _ _ _ h => h)
  case F =>
    intro w mg fa h KX G hmg
    have DL : WP.Df (L2.KOf KX) mg "law" 52 := by
      delta L2.KOf
      refine' WP.mk_df KX G ?a ?l ?c ?k
      (case a => k_is); (case l => k_is); (case c => k_is); (case k => k_is)
    have D1 : WP.Df (L2.KOf KX) mg "mates" 1 := by
      delta L2.KOf
      refine' WP.mk_df KX G ?a ?l ?c ?k
      (case a => k_is); (case l => k_is); (case c => k_is); (case k => k_is)
    have D2 : WP.Df (L2.KOf KX) mg "step_on" 2 := by
      delta L2.KOf
      refine' WP.mk_df KX G ?a ?l ?c ?k
      (case a => k_is); (case l => k_is); (case c => k_is); (case k => k_is)
    have D3 : WP.Df (L2.KOf KX) mg "step_back" 3 := by
      delta L2.KOf
      refine' WP.mk_df KX G ?a ?l ?c ?k
      (case a => k_is); (case l => k_is); (case c => k_is); (case k => k_is)
    have D4 : WP.Df (L2.KOf KX) mg "onward" 4 := by
      delta L2.KOf
      refine' WP.mk_df KX G ?a ?l ?c ?k
      (case a => k_is); (case l => k_is); (case c => k_is); (case k => k_is)
    have D5 : WP.Df (L2.KOf KX) mg "walked" 5 := by
      delta L2.KOf
      refine' WP.mk_df KX G ?a ?l ?c ?k
      (case a => k_is); (case l => k_is); (case c => k_is); (case k => k_is)
    have D6 : WP.Df (L2.KOf KX) mg "corner_at" 6 := by
      delta L2.KOf
      refine' WP.mk_df KX G ?a ?l ?c ?k
      (case a => k_is); (case l => k_is); (case c => k_is); (case k => k_is)
    have D7 : WP.Df (L2.KOf KX) mg "is_inner" 7 := by
      delta L2.KOf
      refine' WP.mk_df KX G ?a ?l ?c ?k
      (case a => k_is); (case l => k_is); (case c => k_is); (case k => k_is)
    have D8 : WP.Df (L2.KOf KX) mg "shares" 8 := by
      delta L2.KOf
      refine' WP.mk_df KX G ?a ?l ?c ?k
      (case a => k_is); (case l => k_is); (case c => k_is); (case k => k_is)
    have D9 : WP.Df (L2.KOf KX) mg "corners" 9 := by
      delta L2.KOf
      refine' WP.mk_df KX G ?a ?l ?c ?k
      (case a => k_is); (case l => k_is); (case c => k_is); (case k => k_is)
    have D10 : WP.Df (L2.KOf KX) mg "corner_table" 10 := by
      delta L2.KOf
      refine' WP.mk_df KX G ?a ?l ?c ?k
      (case a => k_is); (case l => k_is); (case c => k_is); (case k => k_is)
    have D12 : WP.Df (L2.KOf KX) mg "following" 12 := by
      delta L2.KOf
      refine' WP.mk_df KX G ?a ?l ?c ?k
      (case a => k_is); (case l => k_is); (case c => k_is); (case k => k_is)
    have D13 : WP.Df (L2.KOf KX) mg "round_from" 13 := by
      delta L2.KOf
      refine' WP.mk_df KX G ?a ?l ?c ?k
      (case a => k_is); (case l => k_is); (case c => k_is); (case k => k_is)
    have D14 : WP.Df (L2.KOf KX) mg "rim_of" 14 := by
      delta L2.KOf
      refine' WP.mk_df KX G ?a ?l ?c ?k
      (case a => k_is); (case l => k_is); (case c => k_is); (case k => k_is)
    have D15 : WP.Df (L2.KOf KX) mg "rims" 15 := by
      delta L2.KOf
      refine' WP.mk_df KX G ?a ?l ?c ?k
      (case a => k_is); (case l => k_is); (case c => k_is); (case k => k_is)
    have D16 : WP.Df (L2.KOf KX) mg "letters_along" 16 := by
      delta L2.KOf
      refine' WP.mk_df KX G ?a ?l ?c ?k
      (case a => k_is); (case l => k_is); (case c => k_is); (case k => k_is)
    have D17 : WP.Df (L2.KOf KX) mg "rim_word" 17 := by
      delta L2.KOf
      refine' WP.mk_df KX G ?a ?l ?c ?k
      (case a => k_is); (case l => k_is); (case c => k_is); (case k => k_is)
    have D19 : WP.Df (L2.KOf KX) mg "over_sides" 19 := by
      delta L2.KOf
      refine' WP.mk_df KX G ?a ?l ?c ?k
      (case a => k_is); (case l => k_is); (case c => k_is); (case k => k_is)
    have D20 : WP.Df (L2.KOf KX) mg "neighbours" 20 := by
      delta L2.KOf
      refine' WP.mk_df KX G ?a ?l ?c ?k
      (case a => k_is); (case l => k_is); (case c => k_is); (case k => k_is)
    have D21 : WP.Df (L2.KOf KX) mg "layers" 21 := by
      delta L2.KOf
      refine' WP.mk_df KX G ?a ?l ?c ?k
      (case a => k_is); (case l => k_is); (case c => k_is); (case k => k_is)
    have D22 : WP.Df (L2.KOf KX) mg "apart" 22 := by
      delta L2.KOf
      refine' WP.mk_df KX G ?a ?l ?c ?k
      (case a => k_is); (case l => k_is); (case c => k_is); (case k => k_is)
    have D23 : WP.Df (L2.KOf KX) mg "pieces" 23 := by
      delta L2.KOf
      refine' WP.mk_df KX G ?a ?l ?c ?k
      (case a => k_is); (case l => k_is); (case c => k_is); (case k => k_is)
    have D24 : WP.Df (L2.KOf KX) mg "touching" 24 := by
      delta L2.KOf
      refine' WP.mk_df KX G ?a ?l ?c ?k
      (case a => k_is); (case l => k_is); (case c => k_is); (case k => k_is)
    have D25 : WP.Df (L2.KOf KX) mg "counts" 25 := by
      delta L2.KOf
      refine' WP.mk_df KX G ?a ?l ?c ?k
      (case a => k_is); (case l => k_is); (case c => k_is); (case k => k_is)
    have D26 : WP.Df (L2.KOf KX) mg "worth" 26 := by
      delta L2.KOf
      refine' WP.mk_df KX G ?a ?l ?c ?k
      (case a => k_is); (case l => k_is); (case c => k_is); (case k => k_is)
    have D27 : WP.Df (L2.KOf KX) mg "twice" 27 := by
      delta L2.KOf
      refine' WP.mk_df KX G ?a ?l ?c ?k
      (case a => k_is); (case l => k_is); (case c => k_is); (case k => k_is)
    have D28 : WP.Df (L2.KOf KX) mg "is_whole" 28 := by
      delta L2.KOf
      refine' WP.mk_df KX G ?a ?l ?c ?k
      (case a => k_is); (case l => k_is); (case c => k_is); (case k => k_is)
    have D29 : WP.Df (L2.KOf KX) mg "is_disc" 29 := by
      delta L2.KOf
      refine' WP.mk_df KX G ?a ?l ?c ?k
      (case a => k_is); (case l => k_is); (case c => k_is); (case k => k_is)
    have D31 : WP.Df (L2.KOf KX) mg "ordered" 31 := by
      delta L2.KOf
      refine' WP.mk_df KX G ?a ?l ?c ?k
      (case a => k_is); (case l => k_is); (case c => k_is); (case k => k_is)
    have D32 : WP.Df (L2.KOf KX) mg "part_of" 32 := by
      delta L2.KOf
      refine' WP.mk_df KX G ?a ?l ?c ?k
      (case a => k_is); (case l => k_is); (case c => k_is); (case k => k_is)
    have D34 : WP.Df (L2.KOf KX) mg "laid" 34 := by
      delta L2.KOf
      refine' WP.mk_df KX G ?a ?l ?c ?k
      (case a => k_is); (case l => k_is); (case c => k_is); (case k => k_is)
    have D35 : WP.Df (L2.KOf KX) mg "laid_word" 35 := by
      delta L2.KOf
      refine' WP.mk_df KX G ?a ?l ?c ?k
      (case a => k_is); (case l => k_is); (case c => k_is); (case k => k_is)
    have D37 : WP.Df (L2.KOf KX) mg "taken" 37 := by
      delta L2.KOf
      refine' WP.mk_df KX G ?a ?l ?c ?k
      (case a => k_is); (case l => k_is); (case c => k_is); (case k => k_is)
    have D39 : WP.Df (L2.KOf KX) mg "_law_open_cells" 39 := by
      delta L2.KOf
      refine' WP.mk_df KX G ?a ?l ?c ?k
      (case a => k_is); (case l => k_is); (case c => k_is); (case k => k_is)
    have D40 : WP.Df (L2.KOf KX) mg "_law_pick" 40 := by
      delta L2.KOf
      refine' WP.mk_df KX G ?a ?l ?c ?k
      (case a => k_is); (case l => k_is); (case c => k_is); (case k => k_is)
    have D41 : WP.Df (L2.KOf KX) mg "_law_mates" 41 := by
      delta L2.KOf
      refine' WP.mk_df KX G ?a ?l ?c ?k
      (case a => k_is); (case l => k_is); (case c => k_is); (case k => k_is)
    have D42 : WP.Df (L2.KOf KX) mg "_law_sides" 42 := by
      delta L2.KOf
      refine' WP.mk_df KX G ?a ?l ?c ?k
      (case a => k_is); (case l => k_is); (case c => k_is); (case k => k_is)
    have D43 : WP.Df (L2.KOf KX) mg "_law_round" 43 := by
      delta L2.KOf
      refine' WP.mk_df KX G ?a ?l ?c ?k
      (case a => k_is); (case l => k_is); (case c => k_is); (case k => k_is)
    have D44 : WP.Df (L2.KOf KX) mg "_law_onward" 44 := by
      delta L2.KOf
      refine' WP.mk_df KX G ?a ?l ?c ?k
      (case a => k_is); (case l => k_is); (case c => k_is); (case k => k_is)
    have D45 : WP.Df (L2.KOf KX) mg "_law_next_rim" 45 := by
      delta L2.KOf
      refine' WP.mk_df KX G ?a ?l ?c ?k
      (case a => k_is); (case l => k_is); (case c => k_is); (case k => k_is)
    have D46 : WP.Df (L2.KOf KX) mg "_law_rim" 46 := by
      delta L2.KOf
      refine' WP.mk_df KX G ?a ?l ?c ?k
      (case a => k_is); (case l => k_is); (case c => k_is); (case k => k_is)
    have D47 : WP.Df (L2.KOf KX) mg "_law_rims" 47 := by
      delta L2.KOf
      refine' WP.mk_df KX G ?a ?l ?c ?k
      (case a => k_is); (case l => k_is); (case c => k_is); (case k => k_is)
    have D48 : WP.Df (L2.KOf KX) mg "_law_lay" 48 := by
      delta L2.KOf
      refine' WP.mk_df KX G ?a ?l ?c ?k
      (case a => k_is); (case l => k_is); (case c => k_is); (case k => k_is)
    have D49 : WP.Df (L2.KOf KX) mg "_law_draw_plain" 49 := by
      delta L2.KOf
      refine' WP.mk_df KX G ?a ?l ?c ?k
      (case a => k_is); (case l => k_is); (case c => k_is); (case k => k_is)
    have D50 : WP.Df (L2.KOf KX) mg "_law_draw_gluing" 50 := by
      delta L2.KOf
      refine' WP.mk_df KX G ?a ?l ?c ?k
      (case a => k_is); (case l => k_is); (case c => k_is); (case k => k_is)
    have D51 : WP.Df (L2.KOf KX) mg "_law_turned_words" 51 := by
      delta L2.KOf
      refine' WP.mk_df KX G ?a ?l ?c ?k
      (case a => k_is); (case l => k_is); (case c => k_is); (case k => k_is)
    have z_enu : mg "enumerate" = none := by
      refine PySem.W.mg_none_of KX G ?z
      (case z => k_is)
    have z_ran : mg "range" = none := by
      refine PySem.W.mg_none_of KX G ?z
      (case z => k_is)
    have z_tup : mg "tuple" = none := by
      refine PySem.W.mg_none_of KX G ?z
      (case z => k_is)
    have z_len : mg "len" = none := by
      refine PySem.W.mg_none_of KX G ?z
      (case z => k_is)
    have z_sum : mg "sum" = none := by
      refine PySem.W.mg_none_of KX G ?z
      (case z => k_is)
    have z_srt : mg "sorted" = none := by
      refine PySem.W.mg_none_of KX G ?z
      (case z => k_is)
    have z_min : mg "min" = none := by
      refine PySem.W.mg_none_of KX G ?z
      (case z => k_is)
    have z_max : mg "max" = none := by
      refine PySem.W.mg_none_of KX G ?z
      (case z => k_is)
    have z_lst : mg "list" = none := by
      refine PySem.W.mg_none_of KX G ?z
      (case z => k_is)
    have z_int : mg "int" = none := by
      refine PySem.W.mg_none_of KX G ?z
      (case z => k_is)
    have z_all : mg "all" = none := by
      refine PySem.W.mg_none_of KX G ?z
      (case z => k_is)
    have z_abs : mg "abs" = none := by
      refine PySem.W.mg_none_of KX G ?z
      (case z => k_is)
    obtain ⟨fd, hb, hF⟩ := WP.all_ok (l := PySem.Challenge.rw_whatrims_k19_whole_layings) (w := w) ⟨D1, D2, D3, D4, D5, D6, D7, D8, D9, D10, D12, D13, D14, D15, D16, D17, D19, D20, D21, D22, D23, D24, D25, D26, D27, D28, D29, D31, D32, D34, D35, D37, D39, D40, D41, D42, D43, D44, D45, D46, D47, D48, D49, D50, D51⟩ DL ⟨z_enu, z_ran, z_tup, z_len, z_sum, z_srt, z_min, z_max, z_lst, z_int, z_all, z_abs⟩ hmg
    exact ⟨fd, hb, fun base _ _ => hF base⟩

import PyProof.Rows.All
import Wide.All
import OpenK.AllK
import Wide.FinOn
import HandS.ForMost
import HandS.Deep
import HandS.SetFor
import HandS.Sort
import HandS.SortInts
import HandS.IsInst
import HandS.Wide
import HandS.Codes
import HandS.Walk
import KE.DataFind
import PyProof.SeqIndex
import PySem.Challenge.RW_ordershown_k49_whole_serializable_just_i
set_option Elab.async false
set_option linter.all false
set_option autoImplicit false
set_option maxRecDepth 100000
/-! The plain law of k49: lists, no program. -/
namespace K49
structure Op (S : Type) where
  k : S
  t : Int
  x : Option S
  deriving DecidableEq
section
variable {S : Type} [DecidableEq S]

/-! ### the graph, the transactions -/
def conf (w : S) (a b : Op S) : Bool :=
  a.x.isSome && (b.x.isSome && (decide (a.t ≠ b.t) && (decide (a.x = b.x) && (decide (a.k = w) || decide (b.k = w)))))
theorem conf_ne {w : S} {a b : Op S} (h : conf w a b = true) : a.t ≠ b.t := by
  simp only [conf, Bool.and_eq_true, decide_eq_true_eq] at h
  exact h.2.2.1
def aborted (ab : S) (s : List (Op S)) : List Int := (s.filter (fun o => decide (o.k = ab))).map (·.t)
def wa (ab : S) (s : List (Op S)) : List (Op S) := s.filter (fun o => !decide (o.t ∈ aborted ab s))
theorem wa_noab {ab : S} {s : List (Op S)} : ∀ o ∈ wa ab s, o.k ≠ ab := by
  intro o ho e
  rw [wa, List.mem_filter] at ho
  obtain ⟨h1, h2⟩ := ho
  have : o.t ∈ aborted ab s := List.mem_map.mpr ⟨o, List.mem_filter.mpr ⟨h1, decide_eq_true e⟩, rfl⟩
  simp [this] at h2
theorem wa_id {ab : S} {s : List (Op S)} (h : ∀ o ∈ s, o.k ≠ ab) : wa ab s = s := by
  have e : aborted ab s = [] := by
    unfold aborted
    rw [List.filter_eq_nil_iff.mpr fun o ho q => h o ho (of_decide_eq_true q)]
    rfl
  unfold wa
  rw [e]
  exact List.filter_eq_self.mpr fun o _ => by simp
theorem wa_sub {ab : S} {s : List (Op S)} : ∀ o ∈ wa ab s, o ∈ s := fun o ho => (List.mem_filter.mp ho).1
theorem wa_len {ab : S} {s : List (Op S)} : (wa ab s).length ≤ s.length := List.length_filter_le _ _

/-- the transactions of s, ascending -/
def IsTr (ns : List Int) (s : List (Op S)) : Prop := ns.Pairwise (· < ·) ∧ ∀ t, t ∈ ns ↔ ∃ o ∈ s, o.t = t
theorem asc_ext : ∀ {l m : List Int}, l.Pairwise (· < ·) → m.Pairwise (· < ·) → (∀ x, x ∈ l ↔ x ∈ m) → l = m
  | [], [], _, _, _ => rfl
  | [], y :: m, _, _, h => by have := (h y).mpr List.mem_cons_self; cases this
  | x :: l, [], _, _, h => by have := (h x).mp List.mem_cons_self; cases this
  | x :: l, y :: m, hl, hm, h => by
    rw [List.pairwise_cons] at hl hm
    have e : x = y := by
      rcases List.mem_cons.mp ((h x).mp List.mem_cons_self) with e | e
      · exact e
      · rcases List.mem_cons.mp ((h y).mpr List.mem_cons_self) with e' | e'
        · exact e'.symm
        · have := hm.1 x e
          have := hl.1 y e'
          omega
    subst e
    congr 1
    refine asc_ext hl.2 hm.2 fun z => ⟨fun hz => ?_, fun hz => ?_⟩
    · rcases List.mem_cons.mp ((h z).mp (List.mem_cons_of_mem _ hz)) with e | e
      · subst e
        have := hl.1 z hz
        omega
      · exact e
    · rcases List.mem_cons.mp ((h z).mpr (List.mem_cons_of_mem _ hz)) with e | e
      · subst e
        have := hm.1 z hz
        omega
      · exact e
theorem IsTr.uniq {ns ms : List Int} {s : List (Op S)} (h : IsTr ns s) (h' : IsTr ms s) : ns = ms :=
  asc_ext h.1 h'.1 fun x => (h.2 x).trans (h'.2 x).symm
theorem asc_nodup {ns : List Int} (h : ns.Pairwise (· < ·)) : ns.Nodup := h.imp fun h e => by omega

/-- p is an edge of the pairs seen ahead of (j, i) -/
def Gr (w : S) (s : List (Op S)) (j i : Nat) (p : Int × Int) : Prop :=
  ∃ (i' j' : Nat) (a b : Op S), i' < j' ∧ (j' < j ∨ (j' = j ∧ i' < i)) ∧ s[i']? = some a ∧ s[j']? = some b ∧ conf w a b = true ∧ p = (a.t, b.t)
theorem Gr.zero {w : S} {s : List (Op S)} {p : Int × Int} : ¬ Gr w s 0 0 p := by
  rintro ⟨i', j', a, b, h1, h2 | h2, _⟩ <;> omega
theorem Gr.next {w : S} {s : List (Op S)} {j : Nat} {p : Int × Int} : Gr w s j j p ↔ Gr w s (j + 1) 0 p := by
  constructor
  · rintro ⟨i', j', a, b, h1, h2, h3⟩
    exact ⟨i', j', a, b, h1, .inl (by omega), h3⟩
  · rintro ⟨i', j', a, b, h1, h2, h3⟩
    exact ⟨i', j', a, b, h1, by omega, h3⟩
theorem Gr.step {w : S} {s : List (Op S)} {j i : Nat} {a b : Op S} {p : Int × Int} (ha : s[i]? = some a) (hb : s[j]? = some b) (hij : i < j) :
    Gr w s j (i + 1) p ↔ Gr w s j i p ∨ (conf w a b = true ∧ p = (a.t, b.t)) := by
  constructor
  · rintro ⟨i', j', a', b', h1, h2, h3, h4, h5, h6⟩
    by_cases e : j' = j ∧ i' = i
    · obtain ⟨rfl, rfl⟩ := e
      rw [ha] at h3
      rw [hb] at h4
      cases h3; cases h4
      exact .inr ⟨h5, h6⟩
    · exact .inl ⟨i', j', a', b', h1, by omega, h3, h4, h5, h6⟩
  · rintro (⟨i', j', a', b', h1, h2, h3⟩ | ⟨h1, h2⟩)
    · exact ⟨i', j', a', b', h1, by omega, h3⟩
    · exact ⟨i, j, a, b, hij, by omega, ha, hb, h1, h2⟩
/-- the pairs of the conflict graph -/
def IsGr (w : S) (g : List (Int × Int)) (s : List (Op S)) : Prop := ∀ p, p ∈ g ↔ Gr w s s.length 0 p

/-! ### marked operations -/
def marked (s : List (Op S)) : List (Op S × Nat) := s.mapIdx fun k o => (o, (s.take k).count o)
theorem marked_len (s : List (Op S)) : (marked s).length = s.length := by simp [marked]
theorem marked_get (s : List (Op S)) (k : Nat) : (marked s)[k]? = (s[k]?).map fun o => (o, (s.take k).count o) := by
  simp [marked, List.getElem?_mapIdx]
theorem take_succ_count {s : List (Op S)} {k : Nat} {o : Op S} (h : s[k]? = some o) (p : Op S) : (s.take (k + 1)).count p = (s.take k).count p + (if o = p then 1 else 0) := by
  rw [List.take_add_one, h, Option.toList_some, List.count_append, List.count_singleton]
  congr 1
  by_cases e : o = p
  · simp [e]
  · simp [e]
/-- the c-th o stands in s where o stands there more than c times -/
theorem nth_of : ∀ (n : Nat) (s : List (Op S)) (o : Op S) (c : Nat), n ≤ s.length → c < (s.take n).count o → ∃ k, k < n ∧ s[k]? = some o ∧ (s.take k).count o = c
  | 0, s, o, c, _, h => by simp at h
  | n + 1, s, o, c, hn, h => by
    have hk : s[n]? = some s[n] := List.getElem?_eq_getElem (by omega)
    rw [take_succ_count hk] at h
    by_cases hc : c < (s.take n).count o
    · obtain ⟨k, h1, h2, h3⟩ := nth_of n s o c (by omega) hc
      exact ⟨k, by omega, h2, h3⟩
    · by_cases e : s[n] = o
      · rw [if_pos e] at h
        exact ⟨n, by omega, by rw [hk, e], by omega⟩
      · rw [if_neg e] at h
        omega
theorem mem_marked {s : List (Op S)} {o : Op S} {c : Nat} : (o, c) ∈ marked s ↔ c < s.count o := by
  constructor
  · intro h
    obtain ⟨k, hk⟩ := List.mem_iff_getElem?.mp h
    rw [marked_get] at hk
    cases e : s[k]? with
    | none => rw [e] at hk; cases hk
    | some a =>
      rw [e] at hk
      have hk' : (a, (s.take k).count a) = (o, c) := Option.some.inj hk
      obtain ⟨e1, e2⟩ := Prod.mk.inj hk'
      subst e1 e2
      have h1 := take_succ_count e a
      rw [if_pos rfl] at h1
      have h2 : (s.take (k + 1)).count a ≤ s.count a := (List.take_sublist _ _).count_le a
      omega
  · intro h
    obtain ⟨k, h1, h2, h3⟩ := nth_of s.length s o c (Nat.le_refl _) (by rw [List.take_length]; exact h)
    refine List.mem_iff_getElem?.mpr ⟨k, ?_⟩
    rw [marked_get, h2]
    simp [h3]
/-- the same operations, each as often -/
def Alike (s o : List (Op S)) : Prop := ∀ p, s.count p = o.count p
theorem Alike.mem {s o : List (Op S)} (h : Alike s o) {q : Op S × Nat} (hq : q ∈ marked s) : q ∈ marked o := by
  obtain ⟨p, c⟩ := q
  rw [mem_marked] at hq ⊢
  rw [← h p]
  exact hq
/-- where the k-th operation of s stands in o -/
def place (s o : List (Op S)) (k : Nat) : Nat := match (marked s)[k]? with
  | some q => (marked o).idxOf q
  | none => 0
theorem place_of {s o : List (Op S)} {k : Nat} {q : Op S × Nat} (h : (marked s)[k]? = some q) : place s o k = (marked o).idxOf q := by
  unfold place
  rw [h]
/-- no two conflicting operations stand the other way round -/
def NoClash (w : S) (s o : List (Op S)) : Prop := ∀ (j i : Nat) (a b : Op S), i < j → s[i]? = some a → s[j]? = some b → conf w a b = true → ¬ place s o i > place s o j
theorem idxOf_get {α : Type} [BEq α] [LawfulBEq α] : ∀ {l : List α} {x : α}, x ∈ l → l[l.idxOf x]? = some x
  | y :: l, x, h => by
    rw [List.idxOf_cons]
    by_cases e : y = x
    · simp [e]
    · have h' : x ∈ l := by
        rcases List.mem_cons.mp h with q | q
        · exact absurd q.symm e
        · exact q
      have eb : (y == x) = false := beq_eq_false_iff_ne.mpr e
      rw [eb]
      simpa using idxOf_get h'
theorem place_get {s o : List (Op S)} (h : Alike s o) {k : Nat} {a : Op S} (ha : s[k]? = some a) : o[place s o k]? = some a := by
  have h1 : (marked s)[k]? = some (a, (s.take k).count a) := by rw [marked_get, ha]; rfl
  have h2 := h.mem (List.mem_of_getElem? h1)
  have h3 := idxOf_get h2
  have h5 := place_of (o := o) h1
  rw [← h5, marked_get] at h3
  cases e : o[place s o k]? with
  | none => rw [e] at h3; cases h3
  | some b =>
    rw [e] at h3
    have h4 : (b, (o.take (place s o k)).count b) = (a, (s.take k).count a) := Option.some.inj h3
    rw [(Prod.mk.inj h4).1]

/-! ### serial schedules -/
def serial (s : List (Op S)) (os : List Int) : List (Op S) := os.flatMap fun t => s.filter fun o => decide (o.t = t)
/-- the first place of t -/
theorem idx_cons_ne {t u : Int} {r : List Int} (h : u ≠ t) : (u :: r).idxOf t = r.idxOf t + 1 := by
  rw [List.idxOf_cons, beq_eq_false_iff_ne.mpr h]
  rfl
theorem idx_cons_eq {t : Int} {r : List Int} : (t :: r).idxOf t = 0 := by
  rw [List.idxOf_cons, beq_self_eq_true]
  rfl
theorem mem_serial {s : List (Op S)} {os : List Int} {o : Op S} : o ∈ serial s os ↔ o ∈ s ∧ o.t ∈ os := by
  unfold serial
  rw [List.mem_flatMap]
  constructor
  · rintro ⟨t, ht, ho⟩
    rw [List.mem_filter, decide_eq_true_eq] at ho
    exact ⟨ho.1, ho.2 ▸ ht⟩
  · rintro ⟨h1, h2⟩
    exact ⟨o.t, h2, List.mem_filter.mpr ⟨h1, decide_eq_true rfl⟩⟩
theorem serial_cons (s : List (Op S)) (t : Int) (r : List Int) : serial s (t :: r) = (s.filter fun o => decide (o.t = t)) ++ serial s r := by simp [serial, List.flatMap_cons]
theorem serial_order (s : List (Op S)) : ∀ (os : List Int) (p q : Nat) (a b : Op S), os.Nodup → (serial s os)[p]? = some a → (serial s os)[q]? = some b → p < q → os.idxOf a.t ≤ os.idxOf b.t
  | [], p, q, a, b, _, h1, _, _ => by simp [serial] at h1
  | t :: r, p, q, a, b, hn, h1, h2, hpq => by
    rw [List.nodup_cons] at hn
    rw [serial_cons, List.getElem?_append] at h1 h2
    have mine : ∀ {x : Op S} {m : Nat}, (s.filter fun o => decide (o.t = t))[m]? = some x → x.t = t := fun {x m} hx =>
      of_decide_eq_true (List.mem_filter.mp (List.mem_of_getElem? hx)).2
    split at h1
    · rw [mine h1, idx_cons_eq]
      exact Nat.zero_le _
    · split at h2
      · omega
      · by_cases ea : t = a.t
        · rw [← ea, idx_cons_eq]
          exact Nat.zero_le _
        · by_cases eb : t = b.t
          · exfalso
            have := (mem_serial.mp (List.mem_of_getElem? h2)).2
            rw [← eb] at this
            exact hn.1 this
          · rw [idx_cons_ne ea, idx_cons_ne eb]
            exact Nat.succ_le_succ (serial_order s r _ _ a b hn.2 h1 h2 (by omega))
theorem serial_take (s : List (Op S)) (os : List Int) {i : Nat} {t : Int} (h : os[i]? = some t) : serial s (os.take (i + 1)) = serial s (os.take i) ++ s.filter fun o => decide (o.t = t) := by
  rw [List.take_add_one, h, Option.toList_some]
  simp [serial]
theorem serial_len (s : List (Op S)) : ∀ os : List Int, (serial s os).length ≤ s.length * os.length
  | [] => by simp [serial]
  | t :: r => by
    have h1 := serial_len s r
    have h2 := List.length_filter_le (fun o : Op S => decide (o.t = t)) s
    rw [serial_cons, List.length_append, List.length_cons, Nat.mul_succ]
    omega
theorem serial_count (s : List (Op S)) (p : Op S) : ∀ os : List Int, os.Nodup → (serial s os).count p = if p.t ∈ os then s.count p else 0
  | [], _ => by simp [serial]
  | t :: r, hn => by
    rw [List.nodup_cons] at hn
    rw [serial_cons, List.count_append, serial_count s p r hn.2]
    by_cases e : p.t = t
    · have hr : p.t ∉ r := by rw [e]; exact hn.1
      rw [if_neg hr, if_pos (by rw [e]; exact List.mem_cons_self), List.count_filter (by simp [e]), Nat.add_zero]
    · have h0 : (s.filter fun o => decide (o.t = t)).count p = 0 := List.count_eq_zero.mpr fun hm => e (of_decide_eq_true (List.mem_filter.mp hm).2)
      rw [h0, Nat.zero_add]
      by_cases hr : p.t ∈ r
      · rw [if_pos hr, if_pos (List.mem_cons_of_mem _ hr)]
      · rw [if_neg hr, if_neg fun h => (List.mem_cons.mp h).elim e hr]
theorem serial_alike {s : List (Op S)} {os : List Int} (hn : os.Nodup) (hs : ∀ o ∈ s, o.t ∈ os) : Alike s (serial s os) := fun p => by
  rw [serial_count s p os hn]
  by_cases h : p ∈ s
  · rw [if_pos (hs p h)]
  · rw [List.count_eq_zero.mpr h]
    split <;> rfl
/-- no pair of the graph is turned -/
def Topo (g : List (Int × Int)) (os : List Int) : Prop := ∀ p ∈ g, ¬ os.idxOf p.1 > os.idxOf p.2
theorem idxOf_inj {os : List Int} {t u : Int} (ht : t ∈ os) (h : os.idxOf t = os.idxOf u) : t = u := by
  have h1 := idxOf_get ht
  by_cases hu : u ∈ os
  · have h2 := idxOf_get hu
    rw [h, h2] at h1
    exact (Option.some.inj h1).symm
  · have h2 := List.idxOf_lt_length_of_mem ht
    have h3 : os.idxOf u = os.length := List.idxOf_eq_length hu
    omega
theorem noClash_serial {w : S} {s : List (Op S)} {g : List (Int × Int)} {os : List Int} (hg : IsGr w g s) (hn : os.Nodup) (hs : ∀ o ∈ s, o.t ∈ os) : NoClash w s (serial s os) ↔ Topo g os := by
  have ha := serial_alike hn hs
  have key : ∀ {i j : Nat} {a b : Op S}, s[i]? = some a → s[j]? = some b → a.t ≠ b.t → (place s (serial s os) i > place s (serial s os) j ↔ os.idxOf a.t > os.idxOf b.t) := by
    intro i j a b h1 h2 hne
    have p1 := place_get ha h1
    have p2 := place_get ha h2
    have ma := hs a (List.mem_of_getElem? h1)
    constructor
    · intro h
      have := serial_order s os _ _ b a hn p2 p1 h
      have ne : os.idxOf a.t ≠ os.idxOf b.t := fun e => hne (idxOf_inj ma e)
      omega
    · intro h
      rcases Nat.lt_trichotomy (place s (serial s os) i) (place s (serial s os) j) with q | q | q
      · have := serial_order s os _ _ a b hn p1 p2 q
        omega
      · rw [q, p2] at p1
        have : b = a := Option.some.inj p1
        exact absurd (by rw [this]) hne
      · exact q
  constructor
  · intro h p hp
    obtain ⟨i, j, a, b, h1, _, h3, h4, h5, h6⟩ := (hg p).mp hp
    subst h6
    exact fun q => h j i a b h1 h3 h4 h5 ((key h3 h4 (conf_ne h5)).mpr q)
  · intro h j i a b h1 h3 h4 h5 q
    have hj : j < s.length := (List.getElem?_eq_some_iff.mp h4).1
    exact h (a.t, b.t) ((hg _).mpr ⟨i, j, a, b, h1, .inl hj, h3, h4, h5, rfl⟩) ((key h3 h4 (conf_ne h5)).mp q)

end
/-! ### the serial order -/
def heldBy (g : List (Int × Int)) (left : List Int) : List Int := (g.filter fun p => decide (p.1 ∈ left)).map (·.2)
def readyOf (g : List (Int × Int)) (left : List Int) : List Int := left.filter fun n => !decide (n ∈ heldBy g left)
def ordF (g : List (Int × Int)) : Nat → List Int → Option (List Int)
  | 0, _ => some []
  | n + 1, left => match readyOf g left with
    | [] => none
    | r :: _ => (ordF g n (left.erase r)).map (r :: ·)
def ordOf (g : List (Int × Int)) (left : List Int) : Option (List Int) := ordF g left.length left
theorem mem_held {g : List (Int × Int)} {left : List Int} {u : Int} : u ∈ heldBy g left ↔ ∃ t, t ∈ left ∧ (t, u) ∈ g := by
  unfold heldBy
  rw [List.mem_map]
  constructor
  · rintro ⟨⟨a, b⟩, h, rfl⟩
    rw [List.mem_filter, decide_eq_true_eq] at h
    exact ⟨a, h.2, h.1⟩
  · rintro ⟨t, h1, h2⟩
    exact ⟨(t, u), List.mem_filter.mpr ⟨h2, decide_eq_true h1⟩, rfl⟩
theorem mem_ready {g : List (Int × Int)} {left : List Int} {u : Int} : u ∈ readyOf g left ↔ u ∈ left ∧ ∀ t ∈ left, (t, u) ∉ g := by
  unfold readyOf
  rw [List.mem_filter]
  constructor
  · rintro ⟨h1, h2⟩
    refine ⟨h1, fun t ht hg => ?_⟩
    have : u ∈ heldBy g left := mem_held.mpr ⟨t, ht, hg⟩
    simp [this] at h2
  · rintro ⟨h1, h2⟩
    refine ⟨h1, ?_⟩
    have : u ∉ heldBy g left := fun h => by
      obtain ⟨t, ht, hg⟩ := mem_held.mp h
      exact h2 t ht hg
    simp [this]
theorem erase_len {l : List Int} {r : Int} (h : r ∈ l) : (l.erase r).length + 1 = l.length := by
  have := List.length_erase_of_mem h
  have : 0 < l.length := List.length_pos_of_mem h
  omega
/-- one turn -/
theorem ordOf_step {g : List (Int × Int)} {left : List Int} {r : Int} {rs : List Int} (h : readyOf g left = r :: rs) : ordOf g left = (ordOf g (left.erase r)).map (r :: ·) := by
  have hr : r ∈ left := (mem_ready.mp (by rw [h]; exact List.mem_cons_self)).1
  unfold ordOf
  rw [← erase_len hr]
  conv => lhs; unfold ordF
  simp only [h]
theorem ordOf_stuck {g : List (Int × Int)} {left : List Int} (hl : left ≠ []) (h : readyOf g left = []) : ordOf g left = none := by
  obtain ⟨n, hn⟩ : ∃ n, left.length = n + 1 := by
    cases left with
    | nil => exact absurd rfl hl
    | cons a r => exact ⟨r.length, rfl⟩
  unfold ordOf
  rw [hn]
  simp only [ordF, h]
theorem ordOf_nil {g : List (Int × Int)} : ordOf g [] = some [] := rfl
/-- a kernel in which everything is held -/
def Stuck (g : List (Int × Int)) (ns S : List Int) : Prop := S ≠ [] ∧ (∀ t ∈ S, t ∈ ns) ∧ ∀ u ∈ S, ∃ t ∈ S, (t, u) ∈ g
theorem stuck_of {g : List (Int × Int)} : ∀ (n : Nat) (left : List Int), left.length = n → ordOf g left = none → ∃ S, Stuck g left S
  | 0, left, hn, h => by
    have : left = [] := List.length_eq_zero_iff.mp hn
    subst this
    cases h
  | n + 1, left, hn, h => by
    cases e : readyOf g left with
    | nil =>
      refine ⟨left, (fun z => by rw [z] at hn; cases hn), fun t ht => ht, fun u hu => ?_⟩
      refine Classical.byContradiction fun hc => ?_
      have : u ∈ readyOf g left := mem_ready.mpr ⟨hu, fun t ht hg => hc ⟨t, ht, hg⟩⟩
      rw [e] at this
      cases this
    | cons r rs =>
      rw [ordOf_step e] at h
      have hr : r ∈ left := (mem_ready.mp (by rw [e]; exact List.mem_cons_self)).1
      have h' : ordOf g (left.erase r) = none := by
        cases q : ordOf g (left.erase r) with
        | none => rfl
        | some o => rw [q] at h; cases h
      obtain ⟨S, h1, h2, h3⟩ := stuck_of n (left.erase r) (by have := erase_len hr; omega) h'
      exact ⟨S, h1, fun t ht => List.mem_of_mem_erase (h2 t ht), h3⟩
/-- the order is made of the numbers -/
theorem ordOf_perm {g : List (Int × Int)} : ∀ (n : Nat) (left o : List Int), left.length = n → ordOf g left = some o → o.Perm left
  | 0, left, o, hn, h => by
    have : left = [] := List.length_eq_zero_iff.mp hn
    subst this
    cases h
    exact .nil
  | n + 1, left, o, hn, h => by
    cases e : readyOf g left with
    | nil =>
      rw [ordOf_stuck (fun z => by rw [z] at hn; cases hn) e] at h
      cases h
    | cons r rs =>
      rw [ordOf_step e] at h
      have hr : r ∈ left := (mem_ready.mp (by rw [e]; exact List.mem_cons_self)).1
      cases q : ordOf g (left.erase r) with
      | none => rw [q] at h; cases h
      | some o' =>
        rw [q] at h
        cases h
        exact ((ordOf_perm n (left.erase r) o' (by have := erase_len hr; omega) q).cons r).trans (List.perm_cons_erase hr).symm

/-! ### all orders -/
def stepO (ns : List Int) (Ls : List (List Int)) : List (List Int) := Ls.flatMap fun p => (ns.filter fun t => !decide (t ∈ p)).map fun t => p ++ [t]
def itO (ns : List Int) : Nat → List (List Int) → List (List Int)
  | 0, Ls => Ls
  | k + 1, Ls => itO ns k (stepO ns Ls)
def orders (ns : List Int) : List (List Int) := itO ns ns.length [[]]
theorem itO_flat (ns : List Int) : ∀ (k : Nat) (Ls : List (List Int)), itO ns k Ls = Ls.flatMap fun p => itO ns k [p]
  | 0, Ls => by simp [itO]
  | k + 1, Ls => by
    have e1 : itO ns (k + 1) Ls = itO ns k (stepO ns Ls) := rfl
    rw [e1, itO_flat ns k, stepO, List.flatMap_assoc]
    congr 1
    funext p
    have e2 : itO ns (k + 1) [p] = itO ns k (stepO ns [p]) := rfl
    rw [e2, itO_flat ns k (stepO ns [p])]
    simp [stepO]
theorem itO_one (ns : List Int) (k : Nat) (p : List Int) : itO ns (k + 1) [p] = (ns.filter fun t => !decide (t ∈ p)).flatMap fun t => itO ns k [p ++ [t]] := by
  have e2 : itO ns (k + 1) [p] = itO ns k (stepO ns [p]) := rfl
  rw [e2, itO_flat]
  simp [stepO, List.flatMap_map]
/-- what has come stays ahead; nothing comes twice; only numbers come -/
theorem itO_mem (ns : List Int) : ∀ (k : Nat) (p o : List Int), o ∈ itO ns k [p] → ∃ q, o = p ++ q ∧ q.length = k ∧ (p.Nodup → o.Nodup) ∧ ∀ t ∈ q, t ∈ ns
  | 0, p, o, h => by
    have : o = p := by simpa [itO] using h
    subst this
    exact ⟨[], by simp, rfl, fun h => h, fun t ht => by cases ht⟩
  | k + 1, p, o, h => by
    rw [itO_one, List.mem_flatMap] at h
    obtain ⟨t, ht, ho⟩ := h
    rw [List.mem_filter] at ht
    obtain ⟨ht1, ht2⟩ := ht
    have ht2 : t ∉ p := by simpa using ht2
    obtain ⟨q, rfl, hl, hn, hq⟩ := itO_mem ns k (p ++ [t]) o ho
    refine ⟨t :: q, by simp, by simp [hl], fun hp => hn ?_, fun u hu => ?_⟩
    · rw [List.nodup_append]
      refine ⟨hp, by simp, fun a ha b hb e => ?_⟩
      have : b = t := by simpa using hb
      subst this
      subst e
      exact ht2 ha
    · rcases List.mem_cons.mp hu with e | e
      · exact e ▸ ht1
      · exact hq u e
theorem nodup_sub_len : ∀ {l m : List Int}, l.Nodup → (∀ x ∈ l, x ∈ m) → l.length ≤ m.length
  | [], m, _, _ => Nat.zero_le _
  | x :: l, m, hn, hs => by
    rw [List.nodup_cons] at hn
    have hx := hs x List.mem_cons_self
    have := nodup_sub_len (l := l) (m := m.erase x) hn.2 fun y hy => by
      have ne : y ≠ x := fun e => hn.1 (e ▸ hy)
      exact (List.mem_erase_of_ne ne).mpr (hs y (List.mem_cons_of_mem _ hy))
    have := erase_len hx
    simp only [List.length_cons]
    omega
/-- a list without doubles as long as the one that holds it holds all of it -/
theorem sub_all {l m : List Int} (hn : l.Nodup) (hs : ∀ x ∈ l, x ∈ m) (hl : m.length ≤ l.length) : ∀ x ∈ m, x ∈ l := fun x hx => by
  refine Classical.byContradiction fun hc => ?_
  have := nodup_sub_len (l := x :: l) (m := m) (List.nodup_cons.mpr ⟨hc, hn⟩) fun y hy => by
    rcases List.mem_cons.mp hy with e | e
    · exact e ▸ hx
    · exact hs y e
  simp only [List.length_cons] at this
  omega
theorem orders_mem {ns o : List Int} (h : o ∈ orders ns) : o.Nodup ∧ (∀ t, t ∈ o ↔ t ∈ ns) ∧ o.length = ns.length := by
  obtain ⟨q, e, hl, hn, hq⟩ := itO_mem ns ns.length [] o h
  have e : o = q := e
  subst e
  have hn' := hn List.nodup_nil
  exact ⟨hn', fun t => ⟨hq t, sub_all hn' hq (by omega) t⟩, hl⟩
/-- in a topological order nothing is stuck -/
theorem topo_free {g : List (Int × Int)} {ns o S : List Int} (hs : ∀ t ∈ S, t ∈ o) (hi : ∀ p ∈ g, p.1 ≠ p.2) (h : Topo g o) : ¬ Stuck g ns S := by
  rintro ⟨h1, h2, h3⟩
  -- the first of S in o
  have : ∀ n : Nat, ∀ u ∈ S, o.idxOf u = n → False := by
    intro n
    induction n using Nat.strongRecOn with
    | _ n ih =>
      intro u hu e
      obtain ⟨t, ht, hg⟩ := h3 u hu
      have h4 := h (t, u) hg
      have h5 : t ≠ u := hi (t, u) hg
      have h6 : o.idxOf t ≠ o.idxOf u := fun q => h5 (idxOf_inj (hs t ht) q)
      exact ih (o.idxOf t) (by simp only at h4; omega) t ht rfl
  cases S with
  | nil => exact h1 rfl
  | cons a r => exact this _ a List.mem_cons_self rfl
theorem idx_app_l {p q : List Int} {t : Int} (h : t ∈ p) : (p ++ q).idxOf t = p.idxOf t := by
  rw [List.idxOf_append, if_pos h]
theorem idx_app_r {p q : List Int} {t : Int} (h : t ∉ p) : (p ++ q).idxOf t = q.idxOf t + p.length := by
  rw [List.idxOf_append, if_neg h]
/-- THE FIRST of the alike orders is the serial order -/
theorem first_alike {g : List (Int × Int)} {ns : List Int} (d : List Int → Bool) (hd : ∀ o, o ∈ orders ns → (d o = true ↔ Topo g o)) (hns : ns.Nodup) (hi : ∀ p ∈ g, p.1 ≠ p.2) :
    ∀ (k : Nat) (p left o : List Int), left.length = k → left = (ns.filter fun t => !decide (t ∈ p)) → (∀ x, x ∈ itO ns k [p] → x ∈ orders ns) →
      (∀ e ∈ g, e.2 ∈ p → e.1 ∈ p) → (∀ e ∈ g, e.1 ∈ p → e.2 ∈ p → ¬ p.idxOf e.1 > p.idxOf e.2) → (∀ e ∈ g, e.2 ∈ ns ∧ e.1 ∈ ns) → ordOf g left = some o → ((itO ns k [p]).filter d).head? = some (p ++ o)
  | 0, p, left, o, hk, hl, hin, hc, ht, hgn, ho => by
    have e : left = [] := List.length_eq_zero_iff.mp hk
    subst e
    cases ho
    have hp : Topo g p := fun e he => by
      have all : ∀ t ∈ ns, t ∈ p := fun t htn => by
        refine Classical.byContradiction fun hcp => ?_
        have : t ∈ (ns.filter fun t => !decide (t ∈ p)) := List.mem_filter.mpr ⟨htn, by simp [hcp]⟩
        rw [← hl] at this
        cases this
      exact ht e he (all _ (hgn e he).2) (all _ (hgn e he).1)
    have hm : p ∈ itO ns 0 [p] := List.mem_cons_self
    have hdp : d p = true := (hd p (hin p hm)).mpr hp
    show (([p] : List (List Int)).filter d).head? = _
    rw [List.filter_cons_of_pos hdp, List.append_nil]
    rfl
  | k + 1, p, left, o, hk, hl, hin, hc, ht, hgn, ho => by
    cases er : readyOf g left with
    | nil =>
      rw [ordOf_stuck (fun z => by rw [z] at hk; cases hk) er] at ho
      cases ho
    | cons r rs =>
      rw [ordOf_step er] at ho
      obtain ⟨o', ho', rfl⟩ : ∃ o', ordOf g (left.erase r) = some o' ∧ r :: o' = o := by
        cases q : ordOf g (left.erase r) with
        | none => rw [q] at ho; cases ho
        | some o' => rw [q] at ho; exact ⟨o', rfl, Option.some.inj ho⟩
      have hr := mem_ready.mp (show r ∈ readyOf g left by rw [er]; exact List.mem_cons_self)
      have hmem : ∀ t, t ∈ left ↔ t ∈ ns ∧ t ∉ p := fun t => by rw [hl, List.mem_filter]; simp
      -- left = before ++ r :: behind, nothing before is ready
      obtain ⟨bf, bh, e1, e2, e3⟩ : ∃ bf bh, left = bf ++ r :: bh ∧ r ∉ bf ∧ ∀ t ∈ bf, t ∉ readyOf g left := by
        have h0 : (left.filter fun n => !decide (n ∈ heldBy g left)) = r :: rs := er
        obtain ⟨l1, l2, q1, q2, q3, q4⟩ := List.filter_eq_cons_iff.mp h0
        refine ⟨l1, l2, q1, fun hm => ?_, fun t ht hm => ?_⟩
        · exact q2 r hm q3
        · exact q2 t ht (List.mem_filter.mp hm).2
      have hln : left.Nodup := by rw [hl]; exact hns.sublist List.filter_sublist
      have eer : left.erase r = bf ++ bh := by
        rw [e1, List.erase_append_right _ e2, List.erase_cons_head]
      rw [itO_one, ← hl, e1, List.flatMap_append, List.flatMap_cons, List.filter_append, List.filter_append]
      have h0 : (bf.flatMap fun t => itO ns k [p ++ [t]]).filter d = [] := by
        rw [List.filter_eq_nil_iff]
        intro x hx hdx
        rw [List.mem_flatMap] at hx
        obtain ⟨t, htb, hxt⟩ := hx
        have htl : t ∈ left := by rw [e1]; exact List.mem_append_left _ htb
        have hxo : x ∈ orders ns := hin x (by
          rw [itO_one, ← hl, List.mem_flatMap]
          exact ⟨t, htl, hxt⟩)
        have hT := (hd x hxo).mp hdx
        -- t is held by u of left
        obtain ⟨u, hu, hug⟩ : ∃ u ∈ left, (u, t) ∈ g := Classical.byContradiction fun hcc => e3 t htb (mem_ready.mpr ⟨htl, fun u hu hug => hcc ⟨u, hu, hug⟩⟩)
        obtain ⟨q, rfl, _, hnq, _⟩ := itO_mem ns k _ _ hxt
        have hu' := (hmem u).mp hu
        have ht' := (hmem t).mp htl
        have i1 : (p ++ [t] ++ q).idxOf t = p.length := by
          rw [idx_app_l (by simp), idx_app_r ht'.2, idx_cons_eq, Nat.zero_add]
        have hnd : (p ++ [t] ++ q).Nodup := (orders_mem hxo).1
        have hT2 := hT (u, t) hug
        simp only at hT2
        by_cases e : u = t
        · exact hi (u, t) hug e
        · have i2 : (p ++ [t] ++ q).idxOf u = q.idxOf u + (p.length + 1) := by
            rw [idx_app_r (by simp [hu'.2, e])]
            simp
          omega
      rw [h0, List.nil_append]
      have ih := first_alike d hd hns hi k (p ++ [r]) (left.erase r) o' (by have := erase_len hr.1; omega)
        (by
          rw [eer, ]
          have : (ns.filter fun t => !decide (t ∈ p ++ [r])) = left.filter fun t => !decide (t = r) := by
            rw [hl, List.filter_filter]
            congr 1
            funext t
            simp [Bool.and_comm]
          rw [this, ← eer, hln.erase_eq_filter]
          congr 1)
        (fun x hx => hin x (by
          rw [itO_one, ← hl, List.mem_flatMap]
          exact ⟨r, hr.1, hx⟩))
        (fun e he h2 => by
          rcases List.mem_append.mp h2 with h2 | h2
          · exact List.mem_append_left _ (hc e he h2)
          · have h2 : e.2 = r := by simpa using h2
            refine Classical.byContradiction fun hcc => ?_
            have h3 : e.1 ∉ p := fun q => hcc (List.mem_append_left _ q)
            exact hr.2 e.1 ((hmem _).mpr ⟨(hgn e he).2, h3⟩) (by rw [← h2]; exact he))
        (fun e he h1 h2 => by
          have hrp : r ∉ p := ((hmem r).mp hr.1).2
          by_cases k2 : e.2 ∈ p
          · have k1 := hc e he k2
            rw [idx_app_l k1, idx_app_l k2]
            exact ht e he k1 k2
          · have k3 : e.2 = r := by
              rcases List.mem_append.mp h2 with h2 | h2
              · exact absurd h2 k2
              · simpa using h2
            rw [k3, idx_app_r hrp, idx_cons_eq]
            have h4 : (p ++ [r]).idxOf e.1 < (p ++ [r]).length := List.idxOf_lt_length_of_mem h1
            simp only [List.length_append, List.length_singleton] at h4
            omega)
        hgn ho'
      have ee : p ++ [r] ++ o' = p ++ (r :: o') := by simp
      rw [ee] at ih
      cases hf : (itO ns k [p ++ [r]]).filter d with
      | nil => rw [hf] at ih; cases ih
      | cons a b =>
        rw [hf] at ih
        exact ih

/-! ### rings -/
def headI (l : List Int) : Int := l.headD 0
def lastI (l : List Int) : Int := l.getLastD 0
def clo (g : List (Int × Int)) : Nat → List Int → Option (List Int)
  | 0, row => if (lastI row, headI row) ∈ g then some row else none
  | n + 1, row => g.findSome? fun p => if p.1 = lastI row ∧ p.2 > headI row ∧ p.2 ∉ row then clo g n (row ++ [p.2]) else none
def Chn (g : List (Int × Int)) : List Int → Prop
  | [] => True
  | a :: r => (match r with
    | [] => True
    | b :: _ => (a, b) ∈ g) ∧ Chn g r
def Cyc (g : List (Int × Int)) (row : List Int) : Prop := row ≠ [] ∧ Chn g row ∧ (lastI row, headI row) ∈ g
theorem headI_app {l m : List Int} (h : l ≠ []) : headI (l ++ m) = headI l := by
  cases l with
  | nil => exact absurd rfl h
  | cons a r => rfl
theorem lastI_app {l : List Int} {x : Int} : lastI (l ++ [x]) = x := by simp [lastI]
theorem lastI_app2 {l m : List Int} (h : m ≠ []) : lastI (l ++ m) = lastI m := by
  obtain ⟨a, b, rfl⟩ : ∃ a b, m = a ++ [b] := ⟨m.dropLast, m.getLast h, (List.dropLast_concat_getLast h).symm⟩
  rw [← List.append_assoc, lastI_app, lastI_app]
theorem chn_app {g : List (Int × Int)} : ∀ {l m : List Int}, l ≠ [] → m ≠ [] → (Chn g (l ++ m) ↔ Chn g l ∧ (lastI l, headI m) ∈ g ∧ Chn g m)
  | [], _, h, _ => absurd rfl h
  | [a], m, _, hm => by
    cases m with
    | nil => exact absurd rfl hm
    | cons b r => simp [Chn, lastI, headI]
  | a :: b :: r, m, _, hm => by
    have ih := chn_app (g := g) (l := b :: r) (m := m) (by simp) hm
    have e1 : lastI (a :: b :: r) = lastI (b :: r) := lastI_app2 (l := [a]) (m := b :: r) (by simp)
    rw [e1]
    show ((a, b) ∈ g ∧ Chn g ((b :: r) ++ m)) ↔ ((a, b) ∈ g ∧ Chn g (b :: r)) ∧ _
    rw [ih, and_assoc]
theorem clo_sound {g : List (Int × Int)} : ∀ (n : Nat) (row r : List Int), row ≠ [] → Chn g row → clo g n row = some r → Cyc g r
  | 0, row, r, hne, hc, h => by
    unfold clo at h
    split at h
    · rename_i hg
      cases h
      exact ⟨hne, hc, hg⟩
    · cases h
  | n + 1, row, r, hne, hc, h => by
    unfold clo at h
    obtain ⟨p, hp, hq⟩ := List.exists_of_findSome?_eq_some h
    split at hq
    · rename_i hg
      refine clo_sound n _ r (by simp) ((chn_app hne (by simp)).mpr ⟨hc, ?_, ?_⟩) hq
      · rw [← hg.1]
        exact hp
      · exact ⟨trivial, trivial⟩
    · cases hq
theorem clo_len {g : List (Int × Int)} : ∀ (n : Nat) (row r : List Int), clo g n row = some r → r.length = row.length + n
  | 0, row, r, h => by
    unfold clo at h
    split at h
    · cases h
      rfl
    · cases h
  | n + 1, row, r, h => by
    unfold clo at h
    obtain ⟨p, hp, hq⟩ := List.exists_of_findSome?_eq_some h
    split at hq
    · rw [clo_len n _ r hq, List.length_append, List.length_singleton]
      omega
    · cases hq
theorem clo_complete {g : List (Int × Int)} : ∀ (n : Nat) (row : List Int), row ≠ [] → clo g n row = none → ∀ l : List Int, l.length = n → Chn g (row ++ l) → (∀ x ∈ l, x > headI row) → (row ++ l).Nodup → (lastI (row ++ l), headI row) ∉ g
  | 0, row, hne, h, l, hl, _, _, _ => by
    have : l = [] := List.length_eq_zero_iff.mp hl
    subst this
    rw [List.append_nil]
    unfold clo at h
    split at h
    · cases h
    · rename_i hg
      exact hg
  | n + 1, row, hne, h, l, hl, hc, hm, hn => by
    cases l with
    | nil => cases hl
    | cons x l =>
      unfold clo at h
      have hc' := (chn_app hne (by simp)).mp hc
      have hx : (lastI row, x) ∈ g := hc'.2.1
      have h1 := List.findSome?_eq_none_iff.mp h (lastI row, x) hx
      have e : row ++ x :: l = (row ++ [x]) ++ l := by simp
      have hxr : x ∉ row := fun hin => by
        rw [List.nodup_append] at hn
        exact hn.2.2 x hin x List.mem_cons_self rfl
      rw [if_pos ⟨rfl, hm x List.mem_cons_self, hxr⟩] at h1
      have h2 := clo_complete n (row ++ [x]) (by simp) h1 l (by simpa using hl) (by rw [← e]; exact hc) (fun y hy => by
        rw [headI_app hne]
        exact hm y (List.mem_cons_of_mem _ hy)) (by rw [← e]; exact hn)
      rw [headI_app hne, ← e] at h2
      exact h2
/-- turned round -/
theorem cyc_turn {g : List (Int × Int)} {l m : List Int} (h : Cyc g (l ++ m)) : Cyc g (m ++ l) := by
  by_cases hl : l = []
  · subst hl
    simpa using h
  · by_cases hm : m = []
    · subst hm
      simpa using h
    · obtain ⟨h1, h2, h3⟩ := h
      obtain ⟨c1, c2, c3⟩ := (chn_app hl hm).mp h2
      rw [headI_app hl, lastI_app2 hm] at h3
      refine ⟨by simp [hl], (chn_app hm hl).mpr ⟨c3, h3, c1⟩, ?_⟩
      rw [headI_app hm, lastI_app2 hl]
      exact c2
theorem least_split : ∀ (l : List Int), l ≠ [] → ∃ a m b, l = a ++ m :: b ∧ ∀ x ∈ l, m ≤ x
  | [], h => absurd rfl h
  | [y], _ => ⟨[], y, [], rfl, fun x hx => by
    have : x = y := by simpa using hx
    omega⟩
  | y :: z :: r, _ => by
    obtain ⟨a, m, b, e, hm⟩ := least_split (z :: r) (by simp)
    by_cases hy : y ≤ m
    · refine ⟨[], y, z :: r, rfl, fun x hx => ?_⟩
      rcases List.mem_cons.mp hx with q | q
      · omega
      · have := hm x q
        omega
    · refine ⟨y :: a, m, b, by rw [e]; rfl, fun x hx => ?_⟩
      rcases List.mem_cons.mp hx with q | q
      · omega
      · exact hm x q
theorem cyc_least {g : List (Int × Int)} {row : List Int} (hn : row.Nodup) (h : Cyc g row) : ∃ x l, (x :: l).Nodup ∧ Cyc g (x :: l) ∧ ∀ y ∈ l, y > x := by
  obtain ⟨a, m, b, e, hm⟩ := least_split row h.1
  subst e
  have h1 := cyc_turn h
  have hn1 : ((m :: b) ++ a).Nodup := (List.perm_append_comm (l₁ := a) (l₂ := m :: b)).nodup_iff.mp hn
  refine ⟨m, b ++ a, hn1, h1, fun y hy => ?_⟩
  have h2 : m ≤ y := hm y (by
    rcases List.mem_append.mp hy with q | q
    · exact List.mem_append_right _ (List.mem_cons_of_mem _ q)
    · exact List.mem_append_left _ q)
  have h3 : m ∉ b ++ a := (List.nodup_cons.mp hn1).1
  have : y ≠ m := fun e => h3 (e ▸ hy)
  omega
/-- every number of a ring has a pair with another -/
theorem chn_out {g : List (Int × Int)} : ∀ {l : List Int}, Chn g l → ∀ x ∈ l, x = lastI l ∨ ∃ y, (x, y) ∈ g
  | [], _, x, hx => by cases hx
  | [a], _, x, hx => .inl (by
    have : x = a := by simpa using hx
    rw [this]
    rfl)
  | a :: b :: r, h, x, hx => by
    have e1 : lastI (a :: b :: r) = lastI (b :: r) := lastI_app2 (l := [a]) (m := b :: r) (by simp)
    rcases List.mem_cons.mp hx with q | q
    · exact .inr ⟨b, by rw [q]; exact h.1⟩
    · rw [e1]
      exact chn_out (l := b :: r) h.2 x q
theorem cyc_out {g : List (Int × Int)} {l : List Int} (h : Cyc g l) : ∀ x ∈ l, ∃ y, (x, y) ∈ g := fun x hx => by
  rcases chn_out h.2.1 x hx with e | e
  · exact ⟨headI l, by rw [e]; exact h.2.2⟩
  · exact e
/-- no ring was found: there is none -/
theorem no_cyc {g ord : List (Int × Int)} {st : List Int} (ho : ∀ p, p ∈ ord ↔ p ∈ g) (hs : ∀ p ∈ g, p.1 ∈ st) (hi : ∀ p ∈ g, p.1 ≠ p.2)
    (h : ∀ size : Nat, 2 ≤ size → size ≤ st.length → ∀ x ∈ st, clo ord (size - 1) [x] = none) : ∀ row : List Int, row.Nodup → ¬ Cyc g row := by
  intro row hn hc
  have hco : ∀ {r : List Int}, Chn g r → Chn ord r := by
    intro r
    induction r with
    | nil => exact fun _ => trivial
    | cons a r ih =>
      intro hr
      refine ⟨?_, ih hr.2⟩
      cases r with
      | nil => trivial
      | cons b r => exact (ho _).mpr hr.1
  obtain ⟨x, l, hn1, h1, h2⟩ := cyc_least hn hc
  have hin : ∀ y ∈ x :: l, y ∈ st := fun y hy => by
    obtain ⟨z, hz⟩ := cyc_out h1 y hy
    exact hs _ hz
  have hlen := nodup_sub_len hn1 hin
  have hl0 : l ≠ [] := fun e => by
    subst e
    exact hi _ h1.2.2 rfl
  have hl1 : 0 < l.length := List.length_pos_iff.mpr hl0
  simp only [List.length_cons] at hlen
  have h3 := h (l.length + 1) (by omega) hlen x (hin x List.mem_cons_self)
  rw [Nat.add_sub_cancel] at h3
  exact clo_complete l.length [x] (by simp) h3 l rfl (hco h1.2.1) h2 hn1 ((ho _).mpr h1.2.2)
/-- a kernel has a ring: a path backwards meets itself -/
theorem back_path {g : List (Int × Int)} {ns S : List Int} (h : Stuck g ns S) : ∀ (n : Nat) (path : List Int), S.length - path.length = n → path ≠ [] → path.Nodup → (∀ x ∈ path, x ∈ S) → Chn g path → ∃ row, row.Nodup ∧ Cyc g row
  | n, path, hn, hne, hnd, hin, hc => by
    cases path with
    | nil => exact absurd rfl hne
    | cons a r =>
      obtain ⟨u, hu, hg⟩ := h.2.2 a (hin a List.mem_cons_self)
      by_cases hup : u ∈ a :: r
      · obtain ⟨l1, l2, e⟩ := List.append_of_mem hup
        have e2 : a :: r = (l1 ++ [u]) ++ l2 := by rw [e]; simp
        have hh : headI (l1 ++ [u]) = a := by
          have : headI ((l1 ++ [u]) ++ l2) = headI (l1 ++ [u]) := headI_app (by simp)
          rw [← this, ← e2]
          rfl
        refine ⟨l1 ++ [u], ?_, by simp, ?_, ?_⟩
        · rw [e2] at hnd
          exact (List.nodup_append.mp hnd).1
        · rw [e2] at hc
          by_cases hl2 : l2 = []
          · subst hl2
            simpa using hc
          · exact ((chn_app (by simp) hl2).mp hc).1
        · rw [lastI_app, hh]
          exact hg
      · have hlt := nodup_sub_len (l := u :: a :: r) (m := S) (List.nodup_cons.mpr ⟨hup, hnd⟩) fun x hx => by
          rcases List.mem_cons.mp hx with q | q
          · exact q ▸ hu
          · exact hin x q
        cases n with
        | zero =>
          simp only [List.length_cons] at hlt hn
          omega
        | succ n =>
          refine back_path h n (u :: a :: r) (by simp only [List.length_cons] at hn ⊢; omega) (by simp) (List.nodup_cons.mpr ⟨hup, hnd⟩) (fun x hx => ?_) ⟨hg, hc⟩
          rcases List.mem_cons.mp hx with q | q
          · exact q ▸ hu
          · exact hin x q
theorem cyc_of_stuck {g : List (Int × Int)} {ns S : List Int} (h : Stuck g ns S) : ∃ row, row.Nodup ∧ Cyc g row := by
  cases hS : S with
  | nil => exact absurd hS h.1
  | cons a r =>
    exact back_path h (S.length - 1) [a] rfl (by simp) (by simp) (fun x hx => by
      have : x = a := by simpa using hx
      rw [this, hS]
      exact List.mem_cons_self) ⟨trivial, trivial⟩
/-- along a chain the places rise -/
theorem chn_rise {g : List (Int × Int)} {o : List Int} (ht : Topo g o) : ∀ {l : List Int}, l ≠ [] → Chn g l → o.idxOf (headI l) ≤ o.idxOf (lastI l)
  | [], h, _ => absurd rfl h
  | [a], _, _ => Nat.le_refl _
  | a :: b :: r, _, h => by
    have e1 : lastI (a :: b :: r) = lastI (b :: r) := lastI_app2 (l := [a]) (m := b :: r) (by simp)
    rw [e1]
    have h1 := ht _ h.1
    have h2 := chn_rise ht (l := b :: r) (by simp) h.2
    have h3 : headI (b :: r) = b := rfl
    have h4 : headI (a :: b :: r) = a := rfl
    rw [h3] at h2
    rw [h4]
    simp only at h1
    omega
theorem cyc_not_topo {g : List (Int × Int)} {o row : List Int} (hi : ∀ p ∈ g, p.1 ≠ p.2) (hm : ∀ p ∈ g, p.1 ∈ o) (h : Cyc g row) : ¬ Topo g o := fun ht => by
  have h1 := ht _ h.2.2
  have h2 := chn_rise ht h.1 h.2.1
  have h3 : lastI row ≠ headI row := hi _ h.2.2
  have h4 : o.idxOf (lastI row) ≠ o.idxOf (headI row) := fun e => h3 (idxOf_inj (hm _ h.2.2) e)
  simp only at h1
  omega
/-- the pairs round a ring -/
theorem cyc_pair {g : List (Int × Int)} : ∀ {row : List Int}, Chn g row → ∀ (k : Nat) (a b : Int), row[k]? = some a → row[k + 1]? = some b → (a, b) ∈ g
  | [], _, k, a, b, h, _ => by simp at h
  | [x], _, k, a, b, _, h => by simp at h
  | x :: y :: r, hc, 0, a, b, h1, h2 => by
    have e1 : x = a := by simpa using h1
    have e2 : y = b := by simpa using h2
    rw [← e1, ← e2]
    exact hc.1
  | x :: y :: r, hc, k + 1, a, b, h1, h2 => cyc_pair (row := y :: r) hc.2 k a b (by simpa using h1) (by simpa using h2)

/-! ### what the law asks of the three -/
structure Parts (g : List (Int × Int)) (ns : List Int) : Prop where
  nd : ns.Nodup
  ne : ∀ p ∈ g, p.1 ≠ p.2
  mem : ∀ p ∈ g, p.2 ∈ ns ∧ p.1 ∈ ns
/-- either: no order, a ring, no alike order; or an order, which is the first alike one, and no ring -/
theorem whole {g : List (Int × Int)} {ns : List Int} {r : Option (List Int)} (P : Parts g ns) (hr : ∀ row, r = some row → Cyc g row) (hr0 : r = none → ∀ row : List Int, row.Nodup → ¬ Cyc g row) (d : List Int → Bool) (hd : ∀ o, o ∈ orders ns → (d o = true ↔ Topo g o)) :
    (ordOf g ns = none ∧ r ≠ none ∧ (orders ns).filter d = []) ∨ (∃ o, ordOf g ns = some o ∧ r = none ∧ ((orders ns).filter d).head? = some o) := by
  cases e : ordOf g ns with
  | none =>
    obtain ⟨S, hS⟩ := stuck_of ns.length ns rfl e
    obtain ⟨row, h1, h2⟩ := cyc_of_stuck hS
    refine .inl ⟨rfl, fun z => hr0 z row h1 h2, ?_⟩
    rw [List.filter_eq_nil_iff]
    intro o ho hdo
    exact topo_free (fun t ht => ((orders_mem ho).2.1 t).mpr (hS.2.1 t ht)) P.ne ((hd o ho).mp hdo) hS
  | some o =>
    have h1 := first_alike d hd P.nd P.ne ns.length [] ns o rfl (List.filter_eq_self.mpr fun _ _ => by simp).symm (fun x hx => hx) (fun _ _ h => by cases h) (fun _ _ h => by cases h) P.mem e
    rw [List.nil_append] at h1
    refine .inr ⟨o, rfl, ?_, h1⟩
    have h2 : o ∈ (orders ns).filter d := List.mem_of_head? h1
    rw [List.mem_filter] at h2
    cases hrr : r with
    | none => rfl
    | some row =>
      exact absurd ((hd o h2.1).mp h2.2) (cyc_not_topo P.ne (fun p hp => ((orders_mem h2.1).2.1 _).mpr (P.mem p hp).2) (hr row hrr))

theorem gr_parts {S : Type} [DecidableEq S] {w : S} {s : List (Op S)} {g : List (Int × Int)} {ns : List Int} (hg : IsGr w g s) (hn : IsTr ns s) : Parts g ns := by
  refine ⟨asc_nodup hn.1, fun p hp => ?_, fun p hp => ?_⟩
  · obtain ⟨i, j, a, b, _, _, _, _, h5, h6⟩ := (hg p).mp hp
    rw [h6]
    exact conf_ne h5
  · obtain ⟨i, j, a, b, _, _, h3, h4, h5, h6⟩ := (hg p).mp hp
    rw [h6]
    exact ⟨(hn.2 _).mpr ⟨b, List.mem_of_getElem? h4, rfl⟩, (hn.2 _).mpr ⟨a, List.mem_of_getElem? h3, rfl⟩⟩
theorem ready_congr {g g' : List (Int × Int)} (h : ∀ p, p ∈ g ↔ p ∈ g') (left : List Int) : readyOf g left = readyOf g' left := by
  unfold readyOf
  refine List.filter_congr fun n _ => ?_
  have : n ∈ heldBy g left ↔ n ∈ heldBy g' left := by
    rw [mem_held, mem_held]
    exact exists_congr fun t => and_congr_right fun _ => h _
  simp [this]
theorem ordF_congr {g g' : List (Int × Int)} (h : ∀ p, p ∈ g ↔ p ∈ g') : ∀ (n : Nat) (left : List Int), ordF g n left = ordF g' n left
  | 0, _ => rfl
  | n + 1, left => by
    unfold ordF
    rw [ready_congr h left]
    cases readyOf g' left with
    | nil => rfl
    | cons r rs => simp only [ordF_congr h n]
theorem ordOf_congr {g g' : List (Int × Int)} (h : ∀ p, p ∈ g ↔ p ∈ g') (left : List Int) : ordOf g left = ordOf g' left := ordF_congr h _ _
theorem IsGr.uniq {S : Type} [DecidableEq S] {w : S} {s : List (Op S)} {g g' : List (Int × Int)} (h : IsGr w g s) (h' : IsGr w g' s) : ∀ p, p ∈ g ↔ p ∈ g' := fun p => (h p).trans (h' p).symm
end K49
namespace K49
open PySem PySem.Spec PyProof.Rows L2
def topS (i : Nat) : Stmt := PySem.Challenge.pw_ordershown_k49_whole_serializable_just_i.main.body.getD i (.Pass ⟨0, 0, 0, 0⟩)
abbrev sTr : Stmt := topS 1
abbrev sWa : Stmt := topS 2
abbrev sConf : Stmt := topS 4
abbrev sGraph : Stmt := topS 5
abbrev sOrd : Stmt := topS 6
abbrev sClo : Stmt := topS 7
abbrev sRing : Stmt := topS 8
abbrev sSerO : Stmt := topS 9
abbrev sRingOf : Stmt := topS 10
abbrev sOwn : Stmt := topS 11
abbrev sSer : Stmt := topS 12
abbrev sCnt : Stmt := topS 13
abbrev sCe : Stmt := topS 14
abbrev sCell : Stmt := topS 16
abbrev sDraw : Stmt := topS 17
abbrev sSch : Stmt := topS 18
abbrev sOrds : Stmt := topS 19
abbrev sMk : Stmt := topS 20
abbrev sAl : Stmt := topS 21
abbrev sLaw : Stmt := topS 22
end K49
namespace K49
open PySem PySem.Spec PyProof.Rows L2
/-! ### pairing -/
section
variable {α β : Type} {F : α → β → Prop}
theorem pd_get : ∀ {xs : List α} {ys : List β} {i : Nat} {y : β}, Paired F xs ys → ys[i]? = some y → ∃ x, xs[i]? = some x ∧ F x y
  | _, _, _, _, .nil, h => by simp at h
  | _, _, 0, _, .cons r _, h => by
    simp only [List.getElem?_cons_zero, Option.some.injEq] at h
    subst h
    exact ⟨_, rfl, r⟩
  | _, _, i + 1, _, .cons _ t, h => by
    obtain ⟨x, h1, h2⟩ := pd_get (i := i) t (by simpa using h)
    exact ⟨x, by simpa using h1, h2⟩
theorem pd_get' : ∀ {xs : List α} {ys : List β} {i : Nat} {x : α}, Paired F xs ys → xs[i]? = some x → ∃ y, ys[i]? = some y ∧ F x y
  | _, _, _, _, .nil, h => by simp at h
  | _, _, 0, _, .cons r _, h => by
    simp only [List.getElem?_cons_zero, Option.some.injEq] at h
    subst h
    exact ⟨_, rfl, r⟩
  | _, _, i + 1, _, .cons _ t, h => by
    obtain ⟨x, h1, h2⟩ := pd_get' (i := i) t (by simpa using h)
    exact ⟨x, by simpa using h1, h2⟩
theorem pd_append : ∀ {xs xs' : List α} {ys ys' : List β}, Paired F xs ys → Paired F xs' ys' → Paired F (xs ++ xs') (ys ++ ys')
  | _, _, _, _, .nil, h => h
  | _, _, _, _, .cons r t, h => .cons r (pd_append t h)
theorem pd_take : ∀ {xs : List α} {ys : List β} (n : Nat), Paired F xs ys → Paired F (xs.take n) (ys.take n)
  | _, _, 0, _ => .nil
  | _, _, _ + 1, .nil => .nil
  | _, _, n + 1, .cons r t => .cons r (pd_take n t)
theorem pd_set : ∀ {xs : List α} {ys : List β} (i : Nat) {x : α} {y : β}, Paired F xs ys → F x y → Paired F (xs.set i x) (ys.set i y)
  | _, _, _, _, _, .nil, _ => .nil
  | _, _, 0, _, _, .cons _ t, h => .cons h t
  | _, _, i + 1, _, _, .cons r t, h => .cons r (pd_set i t h)
theorem pd_mem : ∀ {xs : List α} {ys : List β} {x : α}, Paired F xs ys → x ∈ xs → ∃ y ∈ ys, F x y
  | _, _, _, .nil, h => by cases h
  | _, _, x, .cons r t, h => by
    rcases List.mem_cons.mp h with e | h
    · exact ⟨_, List.mem_cons_self, e ▸ r⟩
    · obtain ⟨y, h1, h2⟩ := pd_mem t h
      exact ⟨y, List.mem_cons_of_mem _ h1, h2⟩
/-- a rearrangement of the left side goes along on the right -/
theorem pd_perm : ∀ {xs' xs : List α} {ys : List β}, xs'.Perm xs → Paired F xs ys → ∃ ys', Paired F xs' ys' ∧ ys'.Perm ys := by
  intro xs' xs ys p
  induction p generalizing ys with
  | nil => exact fun h => ⟨ys, h, .refl _⟩
  | cons a _ ih =>
    intro h
    cases h with
    | cons r t =>
      obtain ⟨zs, h1, h2⟩ := ih t
      exact ⟨_, .cons r h1, h2.cons _⟩
  | swap a b l =>
    intro h
    cases h with
    | cons r t =>
      cases t with
      | cons r' t' => exact ⟨_, .cons r' (.cons r t'), .swap _ _ _⟩
  | trans _ _ ih1 ih2 =>
    intro h
    obtain ⟨zs, h1, h2⟩ := ih2 h
    obtain ⟨ws, h3, h4⟩ := ih1 h1
    exact ⟨ws, h3, h4.trans h2⟩
theorem pd_map {γ : Type} {f : γ → α} {g : γ → β} : ∀ {l : List γ}, (∀ x ∈ l, F (f x) (g x)) → Paired F (l.map f) (l.map g)
  | [], _ => .nil
  | x :: l, h => .cons (h x List.mem_cons_self) (pd_map fun y hy => h y (List.mem_cons_of_mem _ hy))
end

/-! ### heaps: the tuples stand -/
def TupKeep (H H' : Hp) : Prop := ∀ b xs, H b = some (.tup xs) → H' b = some (.tup xs)
theorem TupKeep.refl (H : Hp) : TupKeep H H := fun _ _ h => h
theorem TupKeep.trans {H H1 H2 : Hp} (a : TupKeep H H1) (b : TupKeep H1 H2) : TupKeep H H2 := fun c o h => b c o (a c o h)
theorem TupKeep.of {H H' : Hp} (h : Same H H') : TupKeep H H' := fun b xs e => h b _ e
theorem TupKeep.lst {H : Hp} {l : Addr} {xs : List V} {o : HO} (h : H l = some (.lst xs)) : TupKeep H (upd H l o) := fun b ys e => by
  have : b ≠ l := fun q => by
    rw [q, h] at e
    cases e
  rw [upd_ne this]
  exact e
theorem same_upd {H : Hp} {p : Addr} {o : HO} (h : H p = none) : Same H (upd H p o) := fun b x e => by
  rw [upd_ne (ne_of_none e h)]
  exact e
/-- what was new at the start may be written -/
theorem same_wr {H H1 : Hp} {p : Addr} {o : HO} (s : Same H H1) (h : H p = none) : Same H (upd H1 p o) := fun b x e => by
  rw [upd_ne (ne_of_none e h)]
  exact s b x e
theorem same_new {H H1 : Hp} {p : Addr} {o : HO} (s : Same H H1) (h : H1 p = none) : Same H (upd H1 p o) := s.trans (same_upd h)

/-! ### data over the heap -/
abbrev SOp := Op Str
def opVs (o : SOp) : List V := match o.x with
  | some x => [.str o.k, .int o.t, .str x]
  | none => [.str o.k, .int o.t]
def OpV (H : Hp) (v : V) (o : SOp) : Prop := ∃ p, v = .ref p ∧ H p = some (.tup (opVs o))
def MkV (H : Hp) (v : V) (q : SOp × Nat) : Prop := ∃ p u, v = .ref p ∧ H p = some (.tup [u, .int q.2]) ∧ OpV H u q.1
def PrV (H : Hp) (v : V) (p : Int × Int) : Prop := ∃ a, v = .ref a ∧ H a = some (.tup [.int p.1, .int p.2])
def IlV (H : Hp) (v : V) (ns : List Int) : Prop := ∃ a, v = .ref a ∧ H a = some (.lst (ns.map V.int))
def LsV {α : Type} (R : Hp → V → α → Prop) (H : Hp) (a : Addr) (xs : List α) : Prop := ∃ vs, H a = some (.lst vs) ∧ Paired (R H) vs xs
section
variable {H H' : Hp}
theorem OpV.keep (k : TupKeep H H') {v : V} {o : SOp} (h : OpV H v o) : OpV H' v o := by
  obtain ⟨p, e, h⟩ := h
  exact ⟨p, e, k _ _ h⟩
theorem MkV.keep (k : TupKeep H H') {v : V} {q : SOp × Nat} (h : MkV H v q) : MkV H' v q := by
  obtain ⟨p, u, e, h, h2⟩ := h
  exact ⟨p, u, e, k _ _ h, h2.keep k⟩
theorem PrV.keep (k : TupKeep H H') {v : V} {p : Int × Int} (h : PrV H v p) : PrV H' v p := by
  obtain ⟨a, e, h⟩ := h
  exact ⟨a, e, k _ _ h⟩
theorem IlV.same (k : Same H H') {v : V} {ns : List Int} (h : IlV H v ns) : IlV H' v ns := by
  obtain ⟨a, e, h⟩ := h
  exact ⟨a, e, k _ _ h⟩
theorem ops_keep (k : TupKeep H H') {vs : List V} {s : List SOp} (h : Paired (OpV H) vs s) : Paired (OpV H') vs s := h.mono fun _ _ => OpV.keep k
theorem mks_keep (k : TupKeep H H') {vs : List V} {s : List (SOp × Nat)} (h : Paired (MkV H) vs s) : Paired (MkV H') vs s := h.mono fun _ _ => MkV.keep k
theorem prs_keep (k : TupKeep H H') {vs : List V} {s : List (Int × Int)} (h : Paired (PrV H) vs s) : Paired (PrV H') vs s := h.mono fun _ _ => PrV.keep k
theorem ops_same (k : Same H H') {a : Addr} {s : List SOp} (h : LsV OpV H a s) : LsV OpV H' a s := by
  obtain ⟨vs, e, h⟩ := h
  exact ⟨vs, k _ _ e, ops_keep (.of k) h⟩
theorem mks_same (k : Same H H') {a : Addr} {s : List (SOp × Nat)} (h : LsV MkV H a s) : LsV MkV H' a s := by
  obtain ⟨vs, e, h⟩ := h
  exact ⟨vs, k _ _ e, mks_keep (.of k) h⟩
theorem prs_same (k : Same H H') {a : Addr} {s : List (Int × Int)} (h : LsV PrV H a s) : LsV PrV H' a s := by
  obtain ⟨vs, e, h⟩ := h
  exact ⟨vs, k _ _ e, prs_keep (.of k) h⟩
end

/-! ### as data -/
def opD (o : SOp) : PyData := match o.x with
  | some x => .tuple [.str o.k, .int o.t, .str x]
  | none => .tuple [.str o.k, .int o.t]
def mkD (q : SOp × Nat) : PyData := .tuple [opD q.1, .int q.2]
def prD (p : Int × Int) : PyData := .tuple [.int p.1, .int p.2]
def ilD (ns : List Int) : PyData := .list (ns.map PyData.int)
section
variable {K : PySem.W.Frag} {H : Hp}
theorem OpV.dp {v : V} {o : SOp} (h : OpV H v o) : Dp K H v (opD o) := by
  obtain ⟨p, rfl, h⟩ := h
  unfold opVs at h
  unfold opD
  cases e : o.x with
  | none =>
    rw [e] at h
    exact .tup (.of h) (.cons (.str _) (.cons (.int _) .nil))
  | some x =>
    rw [e] at h
    exact .tup (.of h) (.cons (.str _) (.cons (.int _) (.cons (.str _) .nil)))
theorem MkV.dp {v : V} {q : SOp × Nat} (h : MkV H v q) : Dp K H v (mkD q) := by
  obtain ⟨p, u, rfl, h, h2⟩ := h
  exact .tup (.of h) (.cons h2.dp (.cons (.int _) .nil))
theorem PrV.dp {v : V} {p : Int × Int} (h : PrV H v p) : Dp K H v (prD p) := by
  obtain ⟨a, rfl, h⟩ := h
  exact .tup (.of h) (.cons (.int _) (.cons (.int _) .nil))
theorem dp_all {α : Type} {R : V → α → Prop} {f : α → PyData} (hR : ∀ v x, R v x → Dp K H v (f x)) : ∀ {vs : List V} {xs : List α}, Paired R vs xs → DpAll K H vs (xs.map f)
  | _, _, .nil => .nil
  | _, _, .cons r t => .cons (hR _ _ r) (dp_all hR t)
theorem ints_dp : ∀ ns : List Int, DpAll K H (ns.map V.int) (ns.map PyData.int)
  | [] => .nil
  | n :: ns => .cons (.int n) (ints_dp ns)
theorem IlV.dp {v : V} {ns : List Int} (h : IlV H v ns) : Dp K H v (ilD ns) := by
  obtain ⟨a, rfl, h⟩ := h
  exact .lst (.of h) (ints_dp ns)
theorem ls_dp {α : Type} {R : Hp → V → α → Prop} {f : α → PyData} (hR : ∀ v x, R H v x → Dp K H v (f x)) {a : Addr} {xs : List α} (h : LsV R H a xs) : Dp K H (.ref a) (.list (xs.map f)) := by
  obtain ⟨vs, e, h⟩ := h
  exact .lst (.of e) (dp_all hR h)
end
theorem opD_lay (o : SOp) : (opD o).plain = true ∧ (opD o).depth ≤ 1 := by
  unfold opD
  cases o.x <;> simp [PyData.plain, PyData.plainAll, PyData.depth, PyData.depthAll]
theorem mkD_lay (q : SOp × Nat) : (mkD q).plain = true ∧ (mkD q).depth ≤ 2 := by
  have h := opD_lay q.1
  unfold mkD
  simp only [PyData.plain, PyData.plainAll, PyData.depth, PyData.depthAll, h.1]
  refine ⟨rfl, ?_⟩
  omega
theorem prD_lay (p : Int × Int) : (prD p).plain = true ∧ (prD p).depth ≤ 1 := by
  unfold prD
  simp [PyData.plain, PyData.plainAll, PyData.depth, PyData.depthAll]
theorem all_lay {α : Type} {f : α → PyData} {n : Nat} (h : ∀ x, (f x).plain = true ∧ (f x).depth ≤ n) : ∀ xs : List α, PyData.plainAll (xs.map f) = true ∧ PyData.depthAll (xs.map f) ≤ n
  | [] => by simp [PyData.plainAll, PyData.depthAll]
  | x :: xs => by
    have h1 := h x
    have h2 := all_lay h xs
    simp only [List.map_cons, PyData.plainAll, PyData.depthAll, h1.1, h2.1]
    refine ⟨rfl, ?_⟩
    omega
theorem ilD_lay (ns : List Int) : (ilD ns).plain = true ∧ (ilD ns).depth ≤ 1 := by
  have h := all_lay (f := PyData.int) (n := 0) (fun x => by simp [PyData.plain, PyData.depth]) ns
  unfold ilD
  simp only [PyData.plain, PyData.depth, h.1]
  refine ⟨trivial, ?_⟩
  omega
theorem int_eqv (a b : Int) : PyData.eqv (.int a) (.int b) = decide (a = b) := by
  simp only [PyData.eqv]
  exact Bool.beq_eq_decide_eq a b
theorem str_eqv (a b : Str) : PyData.eqv (.str a) (.str b) = decide (a = b) := by
  simp only [PyData.eqv]
  exact Bool.beq_eq_decide_eq a b
theorem opD_eqv (a b : SOp) : PyData.eqv (opD a) (opD b) = decide (a = b) := by
  obtain ⟨k, t, x⟩ := a
  obtain ⟨k', t', x'⟩ := b
  unfold opD
  cases x <;> cases x' <;> simp only [PyData.eqv, PyData.eqvAll, Op.mk.injEq, Bool.beq_eq_decide_eq, Bool.decide_and, Bool.and_true, Bool.and_false, Option.some.injEq, reduceCtorEq, decide_true, decide_false]
theorem mkD_eqv (a b : SOp × Nat) : PyData.eqv (mkD a) (mkD b) = decide (a = b) := by
  obtain ⟨o, n⟩ := a
  obtain ⟨o', n'⟩ := b
  unfold mkD
  simp only [PyData.eqv, PyData.eqvAll, opD_eqv, Prod.mk.injEq, Bool.beq_eq_decide_eq, Bool.decide_and, Bool.and_true, Int.natCast_inj]
theorem prD_eqv (a b : Int × Int) : PyData.eqv (prD a) (prD b) = decide (a = b) := by
  obtain ⟨o, n⟩ := a
  obtain ⟨o', n'⟩ := b
  unfold prD
  simp only [PyData.eqv, PyData.eqvAll, Prod.mk.injEq, Bool.beq_eq_decide_eq, Bool.decide_and, Bool.and_true]
theorem ilD_eqv : ∀ a b : List Int, PyData.eqv (ilD a) (ilD b) = decide (a = b)
  | [], [] => by simp [ilD, PyData.eqv, PyData.eqvAll]
  | [], y :: b => by simp [ilD, PyData.eqv, PyData.eqvAll]
  | x :: a, [] => by simp [ilD, PyData.eqv, PyData.eqvAll]
  | x :: a, y :: b => by
    have ih := ilD_eqv a b
    unfold ilD at ih ⊢
    simp only [PyData.eqv] at ih
    simp only [PyData.eqv, PyData.eqvAll, List.map_cons, ih, List.cons.injEq, Bool.beq_eq_decide_eq, Bool.decide_and]

/-! ### rules over what is alike in data -/
def IntV (_ : Hp) (v : V) (i : Int) : Prop := v = .int i
structure Mir {α : Type} (R : Hp → V → α → Prop) (f : α → PyData) : Prop where
  dp : ∀ (K : PySem.W.Frag) (H : Hp) (v : V) (x : α), R H v x → Dp K H v (f x)
  pl : ∀ x, (f x).plain = true ∧ (f x).depth ≤ 2
  eq : ∀ a b : α, PyData.eqv (f a) (f b) = true ↔ a = b
theorem mir_op : Mir OpV opD := ⟨fun _ _ _ _ => OpV.dp, fun x => ⟨(opD_lay x).1, Nat.le_trans (opD_lay x).2 (by decide)⟩, fun a b => by rw [opD_eqv, decide_eq_true_eq]⟩
theorem mir_mk : Mir MkV mkD := ⟨fun _ _ _ _ => MkV.dp, fun x => ⟨(mkD_lay x).1, Nat.le_trans (mkD_lay x).2 (by decide)⟩, fun a b => by rw [mkD_eqv, decide_eq_true_eq]⟩
theorem mir_pr : Mir PrV prD := ⟨fun _ _ _ _ => PrV.dp, fun x => ⟨(prD_lay x).1, Nat.le_trans (prD_lay x).2 (by decide)⟩, fun a b => by rw [prD_eqv, decide_eq_true_eq]⟩
theorem mir_il : Mir IlV ilD := ⟨fun _ _ _ _ => IlV.dp, fun x => ⟨(ilD_lay x).1, Nat.le_trans (ilD_lay x).2 (by decide)⟩, fun a b => by rw [ilD_eqv, decide_eq_true_eq]⟩
theorem mir_int : Mir IntV PyData.int := ⟨fun _ _ _ _ h => by
    rw [show _ = _ from h]
    exact .int _, fun x => by simp [PyData.plain, PyData.depth], fun a b => by rw [int_eqv, decide_eq_true_eq]⟩
theorem ints_pd {H : Hp} : ∀ ns : List Int, Paired (IntV H) (ns.map V.int) ns
  | [] => .nil
  | n :: ns => .cons rfl (ints_pd ns)
theorem ints_ls {H : Hp} {a : Addr} {ns : List Int} (h : H a = some (.lst (ns.map V.int))) : LsV IntV H a ns := ⟨_, h, ints_pd ns⟩
theorem decT {c : Prop} [Decidable c] {b : Bool} (h : b = true ↔ c) : b = decide c := by
  by_cases hc : c
  · rw [decide_eq_true hc]
    exact h.mpr hc
  · rw [decide_eq_false hc]
    cases b with
    | true => exact absurd (h.mp rfl) hc
    | false => rfl
theorem beq_uniq {α : Type} (i1 i2 : BEq α) [h1 : @LawfulBEq α i1] [h2 : @LawfulBEq α i2] : i1 = i2 := by
  obtain ⟨f⟩ := i1
  obtain ⟨g⟩ := i2
  congr 1
  funext a b
  have e1 : f a b = true ↔ a = b := ⟨fun h => @eq_of_beq α ⟨f⟩ h1 a b h, fun e => by subst e; exact @ReflBEq.rfl α ⟨f⟩ h1.toReflBEq a⟩
  have e2 : g a b = true ↔ a = b := ⟨fun h => @eq_of_beq α ⟨g⟩ h2 a b h, fun e => by subst e; exact @ReflBEq.rfl α ⟨g⟩ h2.toReflBEq a⟩
  exact Bool.eq_iff_iff.mpr (e1.trans e2.symm)
section
variable {X : Cx} {α : Type} [DecidableEq α] {R : Hp → V → α → Prop} {f : α → PyData}
theorem any_mem (M : Mir R f) (ps : List α) (p : α) : ((ps.map f).any fun z => PyData.eqv z (f p)) = decide (p ∈ ps) := by
  refine decT ?_
  rw [List.any_eq_true]
  constructor
  · rintro ⟨z, hz, e⟩
    obtain ⟨q, hq, rfl⟩ := List.mem_map.mp hz
    rw [← (M.eq q p).mp e]
    exact hq
  · intro h
    exact ⟨f p, List.mem_map.mpr ⟨p, h, rfl⟩, (M.eq p p).mpr rfl⟩
theorem op_eqM (M : Mir R f) (hu : X.A.units + 64 < cLine) : OpR X (compareOp .Eq) (fun x y H Q => ∃ a b : α, R H x a ∧ R H y b ∧ Q (.bl (decide (a = b))) H) := by
  intro pins s σ H x y v u Q I rx ry h
  obtain ⟨a, b, ha, hb, q⟩ := h
  obtain ⟨as, r1⟩ := Dp.reads I _ x v (M.dp X.K H x a ha) rx
  obtain ⟨bs, r2⟩ := Dp.reads I _ y u (M.dp X.K H y b hb) ry
  refine SeqAt.eq_plain r1 r2 (M.pl a).1 (M.pl b).1 (by have := (M.pl a).2; omega) ⟨.bl _, H, I, ?_, q⟩
  show _ = _
  rw [decT (M.eq a b)]
theorem op_neM (M : Mir R f) (hu : X.A.units + 64 < cLine) : OpR X (compareOp .NotEq) (fun x y H Q => ∃ a b : α, R H x a ∧ R H y b ∧ Q (.bl (!decide (a = b))) H) := by
  intro pins s σ H x y v u Q I rx ry h
  obtain ⟨a, b, ha, hb, q⟩ := h
  obtain ⟨as, r1⟩ := Dp.reads I _ x v (M.dp X.K H x a ha) rx
  obtain ⟨bs, r2⟩ := Dp.reads I _ y u (M.dp X.K H y b hb) ry
  refine SeqAt.ne_plain r1 r2 (M.pl a).1 (M.pl b).1 (by have := (M.pl a).2; omega) ⟨.bl _, H, I, ?_, q⟩
  show _ = _
  rw [decT (M.eq a b)]
theorem op_inM (M : Mir R f) (hu : X.A.units + 64 < cLine) : OpR X (compareOp .In) (fun x y H Q => ∃ (p : α) (a : Addr) (ps : List α), R H x p ∧ y = .ref a ∧ LsV R H a ps ∧ Q (.bl (decide (p ∈ ps))) H) := by
  intro pins s σ H x y v u Q I rx ry h
  obtain ⟨p, a, ps, hp, rfl, ha, q⟩ := h
  obtain ⟨as, r1⟩ := Dp.reads I _ x v (M.dp X.K H x p hp) rx
  obtain ⟨bs, r2⟩ := Dp.reads I _ _ u (ls_dp (K := X.K) (M.dp X.K H) ha) ry
  refine SeqAt.in_list_data r2 r1 (all_lay M.pl ps).1 (M.pl p).1 (by have := (M.pl p).2; omega) ⟨.bl _, H, I, ?_, q⟩
  show _ = _
  rw [any_mem M]
theorem op_notInM (M : Mir R f) (hu : X.A.units + 64 < cLine) : OpR X (compareOp .NotIn) (fun x y H Q => ∃ (p : α) (a : Addr) (ps : List α), R H x p ∧ y = .ref a ∧ LsV R H a ps ∧ Q (.bl (!decide (p ∈ ps))) H) := by
  intro pins s σ H x y v u Q I rx ry h
  obtain ⟨p, a, ps, hp, rfl, ha, q⟩ := h
  obtain ⟨as, r1⟩ := Dp.reads I _ x v (M.dp X.K H x p hp) rx
  obtain ⟨bs, r2⟩ := Dp.reads I _ _ u (ls_dp (K := X.K) (M.dp X.K H) ha) ry
  refine SeqAt.notIn_list_data r2 r1 (all_lay M.pl ps).1 (M.pl p).1 (by have := (M.pl p).2; omega) ⟨.bl _, H, I, ?_, q⟩
  show _ = _
  rw [any_mem M]
/-- xs.count(y) -/
theorem mt_countM [BEq α] [LawfulBEq α] (M : Mir R f) (hu : X.A.units + 64 < cLine) : MtR X "list.count" (fun x xs H Q => ∃ (a : Addr) (y : V) (p : α) (ps : List α), x = .ref a ∧ xs = [y] ∧ LsV R H a ps ∧ R H y p ∧ Q (.int (ps.count p : Nat)) H) := by
  intro pins s σ H x xs v us Q I rx rxs h
  obtain ⟨a, y, p, ps, rfl, rfl, ha, hp, q⟩ := h
  cases rx
  obtain ⟨u, rfl, ru⟩ := rxs.one
  obtain ⟨as, r1⟩ := Dp.reads I _ y u (M.dp X.K H y p hp) ru
  obtain ⟨vs, e, pd⟩ := ha
  obtain ⟨its, rv, pl, hz⟩ := I.list (SqL.of e)
  obtain ⟨bs, r2⟩ := Dp.readsAll I _ vs its (dp_all (K := X.K) (M.dp X.K H) pd) rv
  have ec : ((ps.map f).countP fun y => PyData.eqv y (f p)) = ps.count p := by
    rw [List.countP_map]
    unfold List.count
    refine List.countP_congr fun x _ => ?_
    show PyData.eqv (f x) (f p) = true ↔ _
    rw [M.eq, beq_iff_eq]
  exact SeqAt.count_list_data (vs := its.toArray) pl.isList (by simpa using r2) r1 (all_lay M.pl ps).1 (M.pl p).1 (by have := (M.pl p).2; omega) ⟨.int (ps.count p : Nat), H, I.tok _, ⟨_, by rw [ec]⟩, q⟩
/-- xs.index(y), y there -/
theorem mt_indexM [i2 : BEq α] [LawfulBEq α] (M : Mir R f) (hu : X.A.units + 64 < cLine) : MtR X "list.index" (fun x xs H Q => ∃ (a : Addr) (y : V) (p : α) (ps : List α), x = .ref a ∧ xs = [y] ∧ LsV R H a ps ∧ R H y p ∧ p ∈ ps ∧ Q (.int (ps.idxOf p : Nat)) H) := by
  intro pins s σ H x xs v us Q I rx rxs h
  obtain ⟨a, y, p, ps, rfl, rfl, ha, hp, hm, q⟩ := h
  cases rx
  obtain ⟨u, rfl, ru⟩ := rxs.one
  obtain ⟨as, r1⟩ := Dp.reads I _ y u (M.dp X.K H y p hp) ru
  obtain ⟨vs, e, pd⟩ := ha
  obtain ⟨its, rv, pl, hz⟩ := I.list (SqL.of e)
  have hl1 := pd.length
  have hl2 := rv.length
  have e0 : i2 = instBEqOfDecidableEq := beq_uniq _ _
  subst e0
  refine SeqAt.call_list_index (ks := ps) pl.isList ⟨by omega, fun j h1 h2 => ?_⟩ (by omega) hm ⟨.int (ps.idxOf p : Nat), H, I.tok _, ⟨_, rfl⟩, q⟩
  obtain ⟨x', h3, h4⟩ := pd_get pd (List.getElem?_eq_getElem h2)
  obtain ⟨u', h5, h6⟩ := rv.get h3
  rw [List.getElem?_eq_getElem h1] at h5
  cases h5
  obtain ⟨cs, r3⟩ := Dp.reads I _ x' _ (M.dp X.K H x' _ h4) h6
  rw [← decT (M.eq ps[j] p)]
  refine SeqAt.eqAt_plain _ _ X.A.in1 s _ _ _ _ r3 r1 (M.pl _).1 (M.pl p).1 ?_
  show X.A.units + 1 + _ < cLine
  have := (M.pl p).2
  omega
end
end K49
namespace K49
open PySem PySem.Spec PyProof.Rows L2
/-! ### operations' places -/
theorem op_at0 (o : SOp) : atI (opVs o) 0 = some (.str o.k) := by
  unfold opVs
  cases o.x <;> rfl
theorem op_at1 (o : SOp) : atI (opVs o) 1 = some (.int o.t) := by
  unfold opVs
  cases o.x <;> rfl
theorem op_at2 {o : SOp} {x : Str} (h : o.x = some x) : atI (opVs o) 2 = some (.str x) := by
  unfold opVs
  rw [h]
  rfl
theorem op_len (o : SOp) : (opVs o).length = if o.x.isSome then 3 else 2 := by
  unfold opVs
  cases o.x <;> rfl
theorem take_filter {α : Type} {s : List α} {i : Nat} {x : α} (h : s[i]? = some x) (p : α → Bool) : (s.take (i + 1)).filter p = (s.take i).filter p ++ (if p x = true then [x] else []) := by
  rw [List.take_add_one, h, Option.toList_some, List.filter_append]
  congr 1
  by_cases hp : p x = true
  · rw [if_pos hp, List.filter_cons_of_pos hp]
    rfl
  · rw [if_neg hp, List.filter_cons_of_neg hp]
    rfl
theorem line_of {n : Nat} (h : n < 16777216) : n < sizeLine := by rw [sizeLine_eq]; exact h
theorem small {n : Nat} (h : n ≤ 1000) : n ≤ sizeLine := Nat.le_of_lt (small1000 h)

/-! ### a comprehension over a tracked list, its element and its test change nothing that stands -/
theorem lc_pure {K : PySem.W.Frag} {α β : Type} {R : Hp → V → α → Prop} {E : Hp → V → β → Prop} (kR : ∀ H H' v x, TupKeep H H' → R H v x → R H' v x) (kE : ∀ H H' v x, TupKeep H H' → E H v x → E H' v x)
    (p : α → Bool) (f : α → β) {H0 : Hp} {a : Addr} {s : List α} (ha : LsV R H0 a s) (hz : s.length < 16777216) {g : TG} {tt : TT} {te : TE} {ws : List Nat} {σ : L2.St} {D : Addr} {Qd : Hp → Prop} (nD : H0 D = none)
    (hs : ∀ (i : Nat) (x : α) (v : V) (H' : Hp), s[i]? = some x → Same H0 H' → R H' v x → ∀ (Qn : Hp → Prop) (Qa : V → Hp → Prop), (p x = false → Qn H') → (p x = true → ∀ y H4, Same H' H4 → E H4 y (f x) → Qa y H4) →
      g v (wipe σ ws) H' fun σ2 H2 => wipe σ2 ws = wipe σ ws ∧ tt σ2 H2 fun b H3 => if b = true then te σ2 H3 Qa else Qn H3)
    (hd : ∀ H', Same H0 H' → LsV E H' D ((s.filter p).map f) → Qd H') :
    ∃ W : Nat → Nat → Hp → Prop, (∃ m, W 0 m (upd H0 D (.lst []))) ∧ ∀ i m H, W i m H →
      ((Itl K a).stop i H ∧ Qd H) ∨ ((Itl K a).go i H ∧ ∃ Nx : Hp → Prop, (∀ H', Nx H' → ∃ m', m' < m ∧ W (i + 1) m' H') ∧ ∀ x H', (Itl K a).yld i H x H' → g x (wipe σ ws) H' fun σ2 H2 => wipe σ2 ws = wipe σ ws ∧ tt σ2 H2 fun b H3 =>
        if b = true then te σ2 H3 fun y H4 => ∃ acc, H4 D = some (.lst acc) ∧ acc.length < sizeLine ∧ Nx (upd H4 D (.lst (acc ++ [y]))) else Nx H3) := by
  obtain ⟨vs, e, pd⟩ := ha
  have hl := pd.length
  refine lc_list (K := K) (a := a) (xs := vs) (fun i H' => Same H0 H' ∧ LsV E H' D (((s.take i).filter p).map f)) ⟨same_upd nD, [], upd_same, .nil⟩ (fun i H' _ h => SqL.of (h.1 _ _ e)) (fun i v H' hv h => ?_) (fun H' h => ?_)
  · obtain ⟨sm, acc, eD, pa⟩ := h
    obtain ⟨x, hx, rx⟩ := pd_get' (pd.mono fun v x => kR H0 H' v x (.of sm)) hv
    refine hs i x v H' hx sm rx _ _ (fun hp => ?_) (fun hp y H4 s4 ey => ?_)
    · refine ⟨sm, acc, eD, ?_⟩
      rw [take_filter hx, if_neg (by rw [hp]; exact Bool.false_ne_true), List.append_nil]
      exact pa
    · have hlen : acc.length < 16777216 := by
        rw [pa.length, List.length_map]
        refine Nat.lt_of_le_of_lt (List.length_filter_le _ _) ?_
        rw [List.length_take]
        omega
      have eD4 := s4 _ _ eD
      have kp : TupKeep H4 (upd H4 D (.lst (acc ++ [y]))) := TupKeep.lst eD4
      refine ⟨acc, eD4, line_of hlen, same_wr (sm.trans s4) nD, acc ++ [y], upd_same, ?_⟩
      rw [take_filter hx, if_pos hp, List.map_append]
      exact pd_append (pa.mono fun v x h => kE _ _ _ _ kp (kE _ _ _ _ (.of s4) h)) (.cons (kE _ _ _ _ kp ey) .nil)
  · obtain ⟨sm, h⟩ := h
    rw [hl, List.take_length] at h
    exact hd H' sm h
theorem k_int : ∀ (H H' : Hp) (v : V) (x : Int), TupKeep H H' → IntV H v x → IntV H' v x := fun _ _ _ _ _ h => h
theorem k_op : ∀ (H H' : Hp) (v : V) (x : SOp), TupKeep H H' → OpV H v x → OpV H' v x := fun _ _ _ _ k h => h.keep k
theorem k_mk : ∀ (H H' : Hp) (v : V) (x : SOp × Nat), TupKeep H H' → MkV H v x → MkV H' v x := fun _ _ _ _ k h => h.keep k
theorem k_pr : ∀ (H H' : Hp) (v : V) (x : Int × Int), TupKeep H H' → PrV H v x → PrV H' v x := fun _ _ _ _ k h => h.keep k
theorem ints_eq {H : Hp} : ∀ {vs : List V} {ns : List Int}, Paired (IntV H) vs ns → vs = ns.map V.int
  | _, _, .nil => rfl
  | _, _, .cons r t => by rw [show _ = _ from r, ints_eq t]; rfl
theorem LsV.ints {H : Hp} {a : Addr} {ns : List Int} (h : LsV IntV H a ns) : H a = some (.lst (ns.map V.int)) := by
  obtain ⟨vs, e, p⟩ := h
  rw [e, ints_eq p]
theorem dec_str_eq (a b : Str) : decide (V.str a = V.str b) = decide (a = b) := by
  by_cases h : a = b
  · subst h
    simp
  · rw [decide_eq_false h, decide_eq_false fun e => h (V.str.inj e)]
theorem dec_int_eq (a b : Int) : decide (V.int a = V.int b) = decide (a = b) := by
  by_cases h : a = b
  · subst h
    simp
  · rw [decide_eq_false h, decide_eq_false fun e => h (V.int.inj e)]

/-! ### within a comprehension's block: the written part by name -/
section
variable {X : Cx} (K : PySem.W.Frag)
theorem ixt (h : X.K = K := by rfl) : IxR X (rIxT K) := by
  subst h
  exact ix_tup
theorem ixl (h : X.K = K := by rfl) : IxR X (rIxL K) := by
  subst h
  exact ix_list
theorem sll (h : X.K = K := by rfl) : SlR X (rSlL K) := by
  subst h
  exact sl_list
theorem lenq (h : X.K = K := by rfl) : CallR X (.builtin "len") (fun xs H Q => ∃ p ys, xs = [.ref p] ∧ (SqL K H p ys ∨ SqT K H p ys) ∧ Q (.int ys.length) H) := by
  subst h
  exact call_len_seq
theorem pil {tg l : Expr} {tl : TE} (hl : PE X l tl) (h : X.K = K := by rfl) : PI X tg l (iList K tl) := by
  subst h
  exact pi_list hl
theorem bm {T name id : String} {e o : Expr} {es : List Expr} {to : TE} {t : TA} {r : V → List V → Hp → VK → Prop} {apos cpos : Pos} (pa : PlainAttrs T) (slot : Slot T name id) (hty : typeOf (.builtin id) = pure (.type "method_descriptor")) (hm : MtR X id r) (ho : PE X o to) (ha : PA X (e :: es) t)
    (hbase : attributeBase o name X.env (eval o X.env) = eval o X.env := by rfl)
    (hfew : ((backTo cpos (starEach (e :: es) X.env)).all (fun x => !x.1) && (backToKw cpos (keywordEach [] X.env)).all (fun x => x.1.isSome)
      && decide ((e :: es).length + ([] : List Keyword).length + (if ([] : List Keyword).isEmpty then 0 else 1) < 30)) = true := by rfl)
    (hline : (apos.endLine == cpos.line) = true := by rfl) (hs : starEach (e :: es) X.env = (false, eval e X.env) :: starEach es X.env := by rfl) (hplain : (backTo cpos (starEach es X.env)).any (·.1) = false := by rfl) (h : X.K = K := by rfl) :
    PE X (.Call (.Attribute o name apos) (e :: es) [] cpos) (tBM K T r to t) := by
  subst h
  exact pe_bm pa slot hty hm ho ha hbase hfew hline hs hplain
end
theorem yes_ {te : TE} {σ : L2.St} {H : Hp} {Qa : VK} {Qn : Hp → Prop} (h : te σ H Qa) : tYes σ H (fun b H3 => if b = true then te σ H3 Qa else Qn H3) := by
  show if true = true then te σ H Qa else Qn H
  exact iteT h
end K49
namespace K49
open PySem PySem.Spec PyProof.Rows L2
section
variable {P : Program} {w : World} {K : PySem.W.Frag} {mg : Str → Option Value} {base : Heap}
/-! ### without_aborted -/
theorem scWa : FnScope ["schedule", "aborted", "operation"] ["schedule"] (defScope sWa) := ⟨rfl, rfl, rfl, by decide +kernel, rfl, by decide +kernel, by decide +kernel⟩
def spWa : Sp := fun vs H Q _ => ∃ (a : Addr) (s : List SOp), vs = [.ref a] ∧ LsV OpV H a s ∧ s.length ≤ 1000 ∧ ∀ H' r, Same H H' → H r = none → LsV OpV H' r (wa ("abort" : Str) s) → Q (.ref r) H'
theorem ok_wa {f : Addr} {fd : FuncData} {k : Nat} (F : Fun K "without_aborted" "without_aborted" sWa f fd) : FnOk P w K mg base CX0 (k + 1) f fd ["schedule"] spWa := by
  refine F.ok scWa (fun vs H Q E h => ?_) (fun cdv A outer s H vs Q E hr h => ?_)
  · obtain ⟨a, s, rfl, _⟩ := h
    rfl
  obtain ⟨a, s, rfl, ha, hz, q⟩ := h
  refine ⟨_, pss_cons (ps_set (i := 1) scWa.nd rfl (Or.inr rfl)
      (pe_lc (own := [("operation", 2)]) (g := gName 2) rfl scWa.nd (pi_list (pv 0)) (blkOk_by (own := [("operation", 2)]) (N := ["schedule", "aborted", "operation"]) (sc := defScope sWa) (by decide +kernel))
        (fun _ _ _ _ _ => pg_name (i := 2) scWa.nd rfl (Or.inl rfl)) (fun _ _ _ _ _ => pts_one (pt_cmpR op_eq (pe_ix (ixt K) (pv 2) pe_int (fun _ _ => rfl)) pe_str (nomark _)))
        (fun _ _ _ _ _ => pe_ix (ixt K) (pv 2) pe_int (fun _ _ => rfl))))
    (pss_one (ps_ret
      (pe_lc (own := [("operation", 2)]) (g := gName 2) rfl scWa.nd (pi_list (pv 0)) (blkOk_by (own := [("operation", 2)]) (N := ["schedule", "aborted", "operation"]) (sc := defScope sWa) (by decide +kernel))
        (fun _ _ _ _ _ => pg_name (i := 2) scWa.nd rfl (Or.inl rfl)) (fun _ _ _ _ _ => pts_one (pt_cmpR (op_notInM mir_int hr.units) (pe_ix (ixt K) (pv 2) pe_int (fun _ _ => rfl)) (pv 1) rfl))
        (fun _ _ _ _ _ => pv 2)))), ?_⟩
  have ha' := ha
  obtain ⟨vs, ea, pa⟩ := ha'
  refine ⟨.ref a, rfl, a, rfl, ⟨_, SqL.of ea⟩, fun D nD => lc_pure k_op k_int (fun o => decide (o.k = ("abort" : Str))) (·.t) ha (by omega) nD (fun i o v H' hi sm hv Qn Qa h0 h1 => ?_) (fun H1 s1 hD => ?_)⟩
  · obtain ⟨p, rfl, hp⟩ := hv
    refine ⟨rfl, _, rfl, p, _, 0, _, rfl, rfl, .of hp, op_at0 o, rfl, _, rfl, ?_⟩
    rw [dec_str_eq]
    exact ite2 (fun e => ⟨_, rfl, p, _, 1, _, rfl, rfl, .of hp, op_at1 o, h1 e _ _ (.refl _) rfl⟩) (fun e => h0 (Bool.eq_false_iff.mpr e))
  · have ha1 := ops_same s1 ha
    obtain ⟨vs1, ea1, pa1⟩ := ha1
    refine ⟨.ref a, rfl, a, rfl, ⟨_, SqL.of ea1⟩, fun D2 nD2 => lc_pure k_op k_op (fun o => !decide (o.t ∈ aborted ("abort" : Str) s)) id (ops_same s1 ha) (by omega) nD2 (fun i o v H' hi sm hv Qn Qa h0 h1 => ?_) (fun H2 s2 hD2 => ?_)⟩
    · have hv' := hv
      obtain ⟨p, rfl, hp⟩ := hv'
      obtain ⟨vD, eD, pD⟩ := hD
      refine ⟨rfl, _, rfl, p, _, 1, _, rfl, rfl, .of hp, op_at1 o, .ref D, rfl, o.t, D, _, rfl, rfl, ⟨vD, sm _ _ eD, pD⟩, _, rfl, ?_⟩
      exact ite2 (fun e => ⟨_, rfl, h1 e _ _ (.refl _) hv⟩) (fun e => h0 (Bool.eq_false_iff.mpr e))
    · rw [List.map_id] at hD2
      exact q H2 D2 (s1.trans s2) (s1.free nD2) hD2
end
end K49
namespace K49
open PySem PySem.Spec PyProof.Rows L2
section
variable {P : Program} {w : World} {K : PySem.W.Frag} {mg : Str → Option Value} {base : Heap}
/-! ### transactions_of -/
theorem scTr : FnScope ["schedule", "found", "operation"] ["schedule"] (defScope sTr) := ⟨rfl, rfl, rfl, by decide +kernel, rfl, by decide +kernel, by decide +kernel⟩
def spTr : Sp := fun vs H Q _ => ∃ (a : Addr) (s : List SOp), vs = [.ref a] ∧ LsV OpV H a s ∧ s.length ≤ 1000 ∧ ∀ H' r ns, Same H H' → H r = none → H' r = some (.lst (ns.map V.int)) → IsTr ns s → Q (.ref r) H'
theorem ok_tr {f : Addr} {fd : FuncData} {k : Nat} (F : Fun K "transactions_of" "transactions_of" sTr f fd) (ms : mg "sorted" = none) : FnOk P w K mg base CX0 (k + 1) f fd ["schedule"] spTr := by
  refine F.ok scTr (fun vs H Q E h => ?_) (fun cdv A outer s H vs Q E hr h => ?_)
  · obtain ⟨a, s, rfl, _⟩ := h
    rfl
  obtain ⟨a, s, rfl, ha, hz, q⟩ := h
  refine ⟨_, pss_cons (ps_set (i := 1) scTr.nd rfl (Or.inl rfl) (pe_lst pa_nil))
    (pss_cons (ps_for PassesOwn.never rfl (pi_list (pv 0)) (pg_name (i := 2) scTr.nd rfl (Or.inl rfl))
      (pss_one (ps_if (pt_cmpR (op_notInM mir_int hr.units) (pe_ix ix_tup (pv 2) pe_int (fun _ _ => rfl)) (pv 1) rfl)
        (pss_one (ps_expr (pe_bm PySem.F.plainAttrs_list PySem.F.slot_list_append PySem.F.type_list_append mt_append (pv 1) (pa_cons (pe_ix ix_tup (pv 2) pe_int (fun _ _ => rfl)) pa_nil))))
        pss_nil)))
    (pss_one (ps_ret (pe_callB cr_sortedI (by rfl) ms (by decide +kernel) (pa_cons (pv 1) pa_nil))))), ?_⟩
  refine ⟨Nat.zero_le _, fun o no => ?_⟩
  have s1 : Same H (upd H o (.lst [])) := same_upd no
  have ha1 := ops_same s1 ha
  obtain ⟨vs, ea, pa⟩ := ha1
  refine ⟨.ref a, rfl, a, rfl, ⟨_, SqL.of ea⟩, for_list (K := K) (a := a) (xs := vs)
    (fun i σ H' => ∃ y ns, σ = [some (.ref a), some (.ref o), y] ∧ Same H H' ∧ H' o = some (.lst (ns.map V.int)) ∧ ns.Nodup ∧ ns.length ≤ i ∧ ∀ t, t ∈ ns ↔ ∃ p ∈ s.take i, p.t = t)
    ⟨none, [], rfl, s1, upd_same, List.nodup_nil, Nat.le_refl _, fun t => by simp⟩ (fun i σ H' _ h => ?_) (fun i v σ H' hv h => ?_) (fun σ H' h => ?_)⟩
  · obtain ⟨y, ns, _, sm, _⟩ := h
    obtain ⟨vs0, ea0, _⟩ := ha
    have : vs0 = vs := by
      have := s1 _ _ ea0
      rw [ea] at this
      exact (HO.lst.inj (Option.some.inj this)).symm
    subst this
    exact SqL.of (sm _ _ ea0)
  · obtain ⟨y, ns, rfl, sm, eo, hn, hlen, hm⟩ := h
    obtain ⟨vs0, ea0, pa0⟩ := ha
    have hvs : vs0 = vs := by
      have := s1 _ _ ea0
      rw [ea] at this
      exact (HO.lst.inj (Option.some.inj this)).symm
    subst hvs
    obtain ⟨x, hx, rx⟩ := pd_get' (ops_keep (.of sm) pa0) hv
    obtain ⟨p, rfl, hp⟩ := rx
    have hi : i < s.length := (List.getElem?_eq_some_iff.mp hx).1
    have tk : ∀ t, (∃ p ∈ s.take (i + 1), p.t = t) ↔ (∃ p ∈ s.take i, p.t = t) ∨ x.t = t := fun t => by
      rw [List.take_add_one, hx, Option.toList_some]
      constructor
      · rintro ⟨p, h1, h2⟩
        rcases List.mem_append.mp h1 with h1 | h1
        · exact .inl ⟨p, h1, h2⟩
        · have : p = x := by simpa using h1
          exact .inr (this ▸ h2)
      · rintro (⟨p, h1, h2⟩ | h2)
        · exact ⟨p, List.mem_append_left _ h1, h2⟩
        · exact ⟨x, List.mem_append_right _ (by simp), h2⟩
    refine ⟨_, rfl, p, _, 1, _, rfl, rfl, .of hp, op_at1 x, .ref o, rfl, x.t, o, ns, rfl, rfl, ints_ls eo, _, rfl, ite2 (fun e => ?_) (fun e => ?_)⟩
    · have hnot : x.t ∉ ns := by simpa using e
      refine ⟨.ref o, rfl, .inl ⟨rfl, _, SqL.of eo⟩, _, rfl, p, _, 1, _, rfl, rfl, .of hp, op_at1 x, o, _, _, rfl, rfl, eo, ?_, ?_⟩
      · rw [List.length_map]
        exact small1000 (by omega)
      · refine ⟨some (.ref p), ns ++ [x.t], rfl, same_wr sm no, ?_, ?_, ?_, fun t => ?_⟩
        · rw [upd_same, List.map_append]
          rfl
        · rw [List.nodup_append]
          refine ⟨hn, by simp, fun a h1 b h2 => ?_⟩
          have : b = x.t := by simpa using h2
          rw [this]
          exact fun e => hnot (e ▸ h1)
        · rw [List.length_append, List.length_singleton]
          omega
        · rw [tk, List.mem_append, hm t, List.mem_singleton]
          exact or_congr Iff.rfl eq_comm
    · have hin : x.t ∈ ns := by simpa using e
      refine ⟨some (.ref p), ns, rfl, sm, eo, hn, by omega, fun t => ?_⟩
      rw [tk, hm t]
      constructor
      · exact .inl
      · rintro (h | h)
        · exact h
        · exact (hm t).mp (h ▸ hin)
  · obtain ⟨y, ns, rfl, sm, eo, hn, hlen, hm⟩ := h
    refine ⟨.ref o, rfl, o, ns, rfl, SqL.of eo, fun ns' r pm sd nr => ?_⟩
    have s3 : Same H (upd H' r (.lst (ns'.map V.int))) := same_new sm nr
    refine q _ r ns' s3 (sm.free nr) upd_same ⟨?_, fun t => ?_⟩
    · have nd : ns'.Nodup := pm.nodup_iff.mpr hn
      exact (sd.and nd).imp fun ⟨h1, h2⟩ => by omega
    · rw [pm.mem_iff, hm t, pa.length, List.take_length]
/-! ### do_conflict -/
theorem scConf : FnScope ["first", "second"] ["first", "second"] (defScope sConf) := ⟨rfl, rfl, rfl, by decide +kernel, rfl, by decide +kernel, by decide +kernel⟩
def spConf : Sp := fun vs H Q _ => ∃ (x y : V) (a b : SOp), vs = [x, y] ∧ OpV H x a ∧ OpV H y b ∧ ∀ H', Same H H' → Q (.bl (conf ("write" : Str) a b)) H'
theorem conf_f1 {a b : SOp} (h : a.x.isSome = false) : conf ("write" : Str) a b = false := by simp [conf, h]
theorem conf_f2 {a b : SOp} (h : b.x.isSome = false) : conf ("write" : Str) a b = false := by simp [conf, h]
theorem conf_f3 {a b : SOp} (h : a.t = b.t) : conf ("write" : Str) a b = false := by simp [conf, h]
theorem conf_f4 {a b : SOp} (h : a.x ≠ b.x) : conf ("write" : Str) a b = false := by simp [conf, h]
theorem conf_t {a b : SOp} {x : Str} (h1 : a.x = some x) (h2 : b.x = some x) (h3 : a.t ≠ b.t) : conf ("write" : Str) a b = (decide (a.k = "write") || decide (b.k = "write")) := by simp [conf, h1, h2, h3]
theorem ok_conf {f : Addr} {fd : FuncData} {k : Nat} (F : Fun K "do_conflict" "do_conflict" sConf f fd) (ml : mg "len" = none) : FnOk P w K mg base CX0 (k + 1) f fd ["first", "second"] spConf := by
  refine F.ok scConf (fun vs H Q E h => ?_) (fun cdv A outer s H vs Q E hr h => ?_)
  · obtain ⟨x, y, a, b, rfl, _⟩ := h
    rfl
  obtain ⟨x, y, a, b, rfl, ⟨p, rfl, hp⟩, ⟨p', rfl, hp'⟩, q⟩ := h
  refine ⟨_, pss_cons (ps_if (PW.pt (pw_or (pt_cmpR op_lt (pe_callB call_len_seq (by rfl) ml PySem.boot_len (pa_cons (pv 0) pa_nil)) pe_int (nomark _))
      (pw_or (pt_cmpR op_lt (pe_callB call_len_seq (by rfl) ml PySem.boot_len (pa_cons (pv 1) pa_nil)) pe_int (nomark _))
      (pw_or (pt_cmpR op_eq (pe_ix ix_tup (pv 0) pe_int (fun _ _ => rfl)) (pe_ix ix_tup (pv 1) pe_int (fun _ _ => rfl)) (nomark _))
      (pw_or1 (pt_cmpR op_ne (pe_ix ix_tup (pv 0) pe_int (fun _ _ => rfl)) (pe_ix ix_tup (pv 1) pe_int (fun _ _ => rfl)) (nomark _)))))))
      (pss_one (ps_ret pe_bl)) pss_nil)
    (pss_one (ps_ret (pe_cmpR op_in_seq pe_str (pe_tup (pa_cons (pe_ix ix_tup (pv 0) pe_int (fun _ _ => rfl)) (pa_cons (pe_ix ix_tup (pv 1) pe_int (fun _ _ => rfl)) pa_nil))) rfl))), ?_⟩
  refine ⟨_, rfl, p, _, rfl, .inr (SqT.of hp), _, _, rfl, rfl, _, rfl, ?_⟩
  rw [op_len]
  cases e1 : a.x with
  | none =>
    refine iteT ?_
    have := q H (.refl _)
    rw [conf_f1 (by rw [e1]; rfl)] at this
    exact this
  | some x =>
    refine iteF ⟨_, rfl, p', _, rfl, .inr (SqT.of hp'), _, _, rfl, rfl, _, rfl, ?_⟩
    rw [op_len]
    cases e2 : b.x with
    | none =>
      refine iteT ?_
      have := q H (.refl _)
      rw [conf_f2 (by rw [e2]; rfl)] at this
      exact this
    | some y =>
      refine iteF ⟨_, rfl, p, _, 1, _, rfl, rfl, .of hp, op_at1 a, _, rfl, p', _, 1, _, rfl, rfl, .of hp', op_at1 b, rfl, _, rfl, ?_⟩
      rw [dec_int_eq]
      refine ite2 (fun e => ?_) (fun e => ?_)
      · have := q H (.refl _)
        rw [conf_f3 (of_decide_eq_true e)] at this
        exact iteT this
      · refine ⟨_, rfl, p, _, 2, _, rfl, rfl, .of hp, op_at2 e1, _, rfl, p', _, 2, _, rfl, rfl, .of hp', op_at2 e2, rfl, _, rfl, ?_⟩
        rw [dec_str_eq]
        have ht : a.t ≠ b.t := fun z => e (decide_eq_true z)
        refine ite2 (fun e => ?_) (fun e => ?_)
        · have := q H (.refl _)
          have hne : x ≠ y := by simpa using e
          rw [conf_f4 (by rw [e1, e2]; exact fun z => hne (Option.some.inj z))] at this
          exact this
        · have hxy : x = y := by simpa using e
          subst hxy
          refine ⟨_, rfl, p, _, 0, _, rfl, rfl, .of hp, op_at0 a, _, rfl, p', _, 0, _, rfl, rfl, .of hp', op_at0 b, (by show 2 ≤ sizeLine; decide), fun t nt => ?_⟩
          refine ⟨t, _, rfl, .inr (SqT.of upd_same), rfl, rfl, ?_⟩
          have := q _ (same_upd (o := .tup [.str a.k, .str b.k]) nt)
          rw [conf_t e1 e2 ht] at this
          have e3 : inV (.str "write") [.str a.k, .str b.k] = (decide (a.k = "write") || decide (b.k = "write")) := by
            simp [inV, eqV, Bool.beq_eq_decide_eq]
          show Q (.bl (inV (.str "write") [.str a.k, .str b.k])) _
          rw [e3]
          exact this
end
end K49
namespace K49
open PySem PySem.Spec PyProof.Rows L2
theorem cut_to (xs : List V) {i : Nat} {z : Int} (e : z = (i : Int)) (h : i ≤ xs.length) : cutV xs none (some z) = xs.take i := by
  subst e
  unfold cutV
  rw [HT.sIx_none, HT.sIx_nat, Nat.min_eq_left h, List.drop_zero, Nat.sub_zero]
section
variable {P : Program} {w : World} {K : PySem.W.Frag} {mg : Str → Option Value} {base : Heap}
/-! ### own_operations -/
theorem scOwn : FnScope ["schedule", "transaction", "operation"] ["schedule", "transaction"] (defScope sOwn) := ⟨rfl, rfl, rfl, by decide +kernel, rfl, by decide +kernel, by decide +kernel⟩
def spOwn : Sp := fun vs H Q _ => ∃ (a : Addr) (s : List SOp) (t : Int), vs = [.ref a, .int t] ∧ LsV OpV H a s ∧ s.length ≤ 1000 ∧ ∀ H' r, Same H H' → H r = none → LsV OpV H' r (s.filter fun o => decide (o.t = t)) → Q (.ref r) H'
theorem ok_own {f : Addr} {fd : FuncData} {k : Nat} (F : Fun K "own_operations" "own_operations" sOwn f fd) : FnOk P w K mg base CX0 (k + 1) f fd ["schedule", "transaction"] spOwn := by
  refine F.ok scOwn (fun vs H Q E h => ?_) (fun cdv A outer s H vs Q E hr h => ?_)
  · obtain ⟨a, s, t, rfl, _⟩ := h
    rfl
  obtain ⟨a, s, t, rfl, ha, hz, q⟩ := h
  refine ⟨_, pss_one (ps_ret
      (pe_lc (own := [("operation", 2)]) (g := gName 2) rfl scOwn.nd (pi_list (pv 0)) (blkOk_by (own := [("operation", 2)]) (N := ["schedule", "transaction", "operation"]) (sc := defScope sOwn) (by decide +kernel))
        (fun _ _ _ _ _ => pg_name (i := 2) scOwn.nd rfl (Or.inl rfl)) (fun _ _ _ _ _ => pts_one (pt_cmpR op_eq (pe_ix (ixt K) (pv 2) pe_int (fun _ _ => rfl)) (pv 1) (nomark _)))
        (fun _ _ _ _ _ => pv 2))), ?_⟩
  have ha' := ha
  obtain ⟨vs, ea, pa⟩ := ha'
  refine ⟨.ref a, rfl, a, rfl, ⟨_, SqL.of ea⟩, fun D nD => lc_pure k_op k_op (fun o => decide (o.t = t)) id ha (by omega) nD (fun i o v H' hi sm hv Qn Qa h0 h1 => ?_) (fun H1 s1 hD => ?_)⟩
  · have hv' := hv
    obtain ⟨p, rfl, hp⟩ := hv'
    refine ⟨rfl, _, rfl, p, _, 1, _, rfl, rfl, .of hp, op_at1 o, _, rfl, rfl, _, rfl, ?_⟩
    rw [dec_int_eq]
    exact ite2 (fun e => ⟨_, rfl, h1 e _ _ (.refl _) hv⟩) (fun e => h0 (Bool.eq_false_iff.mpr e))
  · rw [List.map_id] at hD
    exact q H1 D s1 nD hD
/-! ### serial_schedule -/
theorem scSer : FnScope ["schedule", "order", "made", "transaction"] ["schedule", "order"] (defScope sSer) := ⟨rfl, rfl, rfl, by decide +kernel, rfl, by decide +kernel, by decide +kernel⟩
def spSer : Sp := fun vs H Q _ => ∃ (a b : Addr) (s : List SOp) (os : List Int), vs = [.ref a, .ref b] ∧ LsV OpV H a s ∧ H b = some (.lst (os.map V.int)) ∧ s.length ≤ 60 ∧ os.length ≤ 8 ∧ ∀ H' r, Same H H' → H r = none → LsV OpV H' r (serial s os) → Q (.ref r) H'
theorem ok_ser {f g : Addr} {fd gd : FuncData} {k : Nat} (F : Fun K "serial_schedule" "serial_schedule" sSer f fd) (G : FnOk P w K mg base CX0 k g gd ["schedule", "transaction"] spOwn) (bG : Binds K gd ["schedule", "transaction"] []) (kG : PySem.W.keepIn K (.ref g) = true) (mG : mg "own_operations" = some (.ref g)) :
    FnOk P w K mg base CX0 (k + 1) f fd ["schedule", "order"] spSer := by
  refine F.ok scSer (fun vs H Q E h => ?_) (fun cdv A outer s H vs Q E hr h => ?_)
  · obtain ⟨a, b, s, os, rfl, _⟩ := h
    rfl
  obtain ⟨a, b, s, os, rfl, ha, hb, hz, ho, q⟩ := h
  refine ⟨_, pss_cons (ps_set (i := 2) scSer.nd rfl (Or.inl rfl) (pe_lst pa_nil))
    (pss_cons (ps_for PassesOwn.never rfl (pi_list (pv 1)) (pg_name (i := 3) scSer.nd rfl (Or.inl rfl))
      (pss_one (ps_expr (pe_bm PySem.F.plainAttrs_list PySem.F.slot_list_extend PySem.F.type_list_extend mt_extend (pv 2)
        (pa_cons (pe_call G hr rfl mG kG bG .nil pass0 (pa_cons (pv 0) (pa_cons (pv 3) pa_nil))) pa_nil)))))
    (pss_one (ps_ret (pv 2)))), ?_⟩
  refine ⟨Nat.zero_le _, fun o no => ?_⟩
  have s1 : Same H (upd H o (.lst [])) := same_upd no
  refine ⟨.ref b, rfl, b, rfl, ⟨_, SqL.of (s1 _ _ hb)⟩, for_list (K := K) (a := b) (xs := os.map V.int)
    (fun i σ H' => ∃ y, σ = [some (.ref a), some (.ref b), some (.ref o), y] ∧ Same H H' ∧ LsV OpV H' o (serial s (os.take i)))
    ⟨none, rfl, s1, [], upd_same, .nil⟩ (fun i σ H' _ h => ?_) (fun i v σ H' hv h => ?_) (fun σ H' h => ?_)⟩
  · obtain ⟨y, _, sm, _⟩ := h
    exact SqL.of (sm _ _ hb)
  · obtain ⟨y, rfl, sm, acc, eo, pa⟩ := h
    obtain ⟨t, ht, rfl⟩ := pd_get' (ints_pd (H := H) os) hv
    have hi : i < os.length := (List.getElem?_eq_some_iff.mp ht).1
    refine ⟨.ref o, rfl, .inl ⟨rfl, _, SqL.of eo⟩, .ref a, rfl, .int t, rfl, a, s, t, rfl, ops_same sm ha, by omega, fun H2 r s2 nr hr2 => ?_⟩
    obtain ⟨zs, er, pz⟩ := hr2
    have eo2 := s2 _ _ eo
    have kp : TupKeep H2 (upd H2 o (.lst (acc ++ zs))) := TupKeep.lst eo2
    refine ⟨o, r, acc, zs, rfl, rfl, eo2, er, ?_, some (.int t), rfl, same_wr (sm.trans s2) no, acc ++ zs, upd_same, ?_⟩
    · have h1 := pa.length
      have h2 := pz.length
      have h3 := serial_len s (os.take i)
      have h4 : (s.filter fun o => decide (o.t = t)).length ≤ s.length := List.length_filter_le _ _
      rw [List.length_take] at h3
      have h5 : s.length * min i os.length ≤ 60 * 8 := Nat.mul_le_mul hz (by omega)
      refine Nat.le_of_lt (line_of ?_)
      omega
    · rw [serial_take s os ht]
      exact pd_append (ops_keep kp (ops_keep (.of s2) pa)) (ops_keep kp pz)
  · obtain ⟨y, rfl, sm, h⟩ := h
    rw [List.length_map, List.take_length] at h
    exact ⟨_, rfl, q H' o sm no h⟩
/-! ### counted -/
theorem scCnt : FnScope ["schedule", "k"] ["schedule"] (defScope sCnt) := ⟨rfl, rfl, rfl, by decide +kernel, rfl, by decide +kernel, by decide +kernel⟩
def spCnt : Sp := fun vs H Q _ => ∃ (a : Addr) (s : List SOp), vs = [.ref a] ∧ LsV OpV H a s ∧ s.length ≤ 1000 ∧ ∀ H' r, Same H H' → H r = none → LsV MkV H' r (marked s) → Q (.ref r) H'
theorem ok_cnt {f : Addr} {fd : FuncData} {k : Nat} (F : Fun K "counted" "counted" sCnt f fd) (mr : mg "range" = none) (ml : mg "len" = none) : FnOk P w K mg base CX0 (k + 1) f fd ["schedule"] spCnt := by
  refine F.ok scCnt (fun vs H Q E h => ?_) (fun cdv A outer s H vs Q E hr h => ?_)
  · obtain ⟨a, s, rfl, _⟩ := h
    rfl
  obtain ⟨a, s, rfl, ha, hz, q⟩ := h
  refine ⟨_, pss_one (ps_ret
      (pe_lc (own := [("k", 1)]) (g := gName 1) rfl scCnt.nd (pi_range1 (by rfl) mr (pa_cons (pe_callB call_len_seq (by rfl) ml PySem.boot_len (pa_cons (pv 0) pa_nil)) pa_nil)) (blkOk_by (own := [("k", 1)]) (N := ["schedule", "k"]) (sc := defScope sCnt) (by decide +kernel))
        (fun _ _ _ _ _ => pg_name (i := 1) scCnt.nd rfl (Or.inl rfl)) (fun _ _ _ _ _ => pts_nil)
        (fun _ _ _ _ _ => pe_tup (pa_cons (pe_ix (ixl K) (pv 0) (pv 1) (fun _ _ => rfl)) (pa_cons
          (bm K PySem.F.plainAttrs_list PySem.F.slot_list_count PySem.F.type_list_count (mt_countM mir_op hr.units) (pe_slice (sll K) (pv 0) po_none (po_some (pv 1))) (pa_cons (pe_ix (ixl K) (pv 0) (pv 1) (fun _ _ => rfl)) pa_nil)) pa_nil))))), ?_⟩
  have ha' := ha
  obtain ⟨vs, ea, pa⟩ := ha'
  have hl := pa.length
  refine ⟨.ref a, rfl, a, vs, rfl, .inl (SqL.of ea), _, rfl, ?_, ?_, fun D nD => lc_range (lo := 0) (n := vs.length)
    (fun i H' => Same H H' ∧ LsV MkV H' D ((marked s).take i)) ⟨same_upd nD, [], upd_same, .nil⟩ (fun i H' hi h => ?_) (fun H' h => ?_)⟩
  · omega
  · omega
  · obtain ⟨sm, acc, eD, pD⟩ := h
    obtain ⟨v, hv⟩ : ∃ v, vs[i]? = some v := ⟨vs[i], List.getElem?_eq_getElem hi⟩
    obtain ⟨o, ho, hvo⟩ := pd_get' pa hv
    have ea1 := sm _ _ ea
    have z0 : (0 : Int) + (i : Int) = (i : Int) := Int.zero_add _
    refine ⟨rfl, ?_⟩
    refine yes_ ?_
    refine ⟨_, rfl, _, rfl, a, vs, _, v, rfl, rfl, .of ea1, at_of z0 hv, .ref a, rfl, _, rfl, _, rfl, a, vs, rfl, .of ea1, fun c nc => ?_⟩
    rw [cut_to vs z0 (by omega)]
    have s2 : Same H' (upd H' c (.lst (vs.take i))) := same_upd nc
    have ea2 := s2 _ _ ea1
    refine ⟨.inl ⟨rfl, _, SqL.of upd_same⟩, _, rfl, _, rfl, a, vs, _, v, rfl, rfl, .of ea2, at_of z0 hv, c, v, o, s.take i, rfl, rfl, ⟨_, upd_same, ops_keep (.of (sm.trans s2)) (pd_take i pa)⟩, hvo.keep (.of (sm.trans s2)), (by show 2 ≤ sizeLine; decide), fun t nt => ?_⟩
    have s3 := same_upd (o := .tup [v, .int ((s.take i).count o : Nat)]) nt
    have eD3 := s3 _ _ (s2 _ _ eD)
    have hmk : (marked s)[i]? = some (o, (s.take i).count o) := by rw [marked_get, ho]; rfl
    have kp := TupKeep.lst (o := .lst (acc ++ [V.ref t])) eD3
    refine ⟨acc, eD3, ?_, same_wr ((sm.trans s2).trans s3) nD, _, upd_same, ?_⟩
    · rw [pD.length, List.length_take]
      exact small1000 (by omega)
    · rw [List.take_add_one, hmk, Option.toList_some]
      refine pd_append (mks_keep kp (mks_keep (.of (s2.trans s3)) pD)) (.cons (MkV.keep kp ⟨t, v, rfl, upd_same, hvo.keep (.of ((sm.trans s2).trans s3))⟩) .nil)
  · obtain ⟨sm, h⟩ := h
    rw [List.take_of_length_le (by rw [marked_len]; omega)] at h
    exact q H' D sm nD h
end
end K49
namespace K49
open PySem PySem.Spec PyProof.Rows L2
section
variable {P : Program} {w : World} {K : PySem.W.Frag} {mg : Str → Option Value} {base : Heap}
/-! ### conflict_graph -/
theorem scGraph : FnScope ["schedule", "kept", "pairs", "j", "i", "pair"] ["schedule"] (defScope sGraph) := ⟨rfl, rfl, rfl, by decide +kernel, rfl, by decide +kernel, by decide +kernel⟩
def spGraph : Sp := fun vs H Q _ => ∃ (a : Addr) (s : List SOp), vs = [.ref a] ∧ LsV OpV H a s ∧ s.length ≤ 60 ∧ ∀ H' r g, Same H H' → H r = none → LsV PrV H' r g → g.length ≤ 4000 → IsGr ("write" : Str) g (wa ("abort" : Str) s) → Q (.ref r) H'
theorem ok_graph {f fW fC : Addr} {fd dW dC : FuncData} {k : Nat} (F : Fun K "conflict_graph" "conflict_graph" sGraph f fd)
    (GW : FnOk P w K mg base CX0 k fW dW ["schedule"] spWa) (bW : Binds K dW ["schedule"] []) (kW : PySem.W.keepIn K (.ref fW) = true) (mW : mg "without_aborted" = some (.ref fW))
    (GC : FnOk P w K mg base CX0 k fC dC ["first", "second"] spConf) (bC : Binds K dC ["first", "second"] []) (kC : PySem.W.keepIn K (.ref fC) = true) (mC : mg "do_conflict" = some (.ref fC))
    (mr : mg "range" = none) (ml : mg "len" = none) (ms : mg "sorted" = none) : FnOk P w K mg base CX0 (k + 1) f fd ["schedule"] spGraph := by
  refine F.ok scGraph (fun vs H Q E h => ?_) (fun cdv A outer s H vs Q E hr h => ?_)
  · obtain ⟨a, s, rfl, _⟩ := h
    rfl
  obtain ⟨a, s0, rfl, ha, hz, q⟩ := h
  refine ⟨_, pss_cons (ps_set (i := 1) scGraph.nd rfl (Or.inl rfl) (pe_call GW hr (by rfl) mW kW bW .nil pass0 (pa_cons (pv 0) pa_nil)))
    (pss_cons (ps_set (i := 2) scGraph.nd rfl (Or.inl rfl) (pe_lst pa_nil))
    (pss_cons (ps_for PassesOwn.never rfl (pi_range1 (by rfl) mr (pa_cons (pe_callB call_len_seq (by rfl) ml PySem.boot_len (pa_cons (pv 1) pa_nil)) pa_nil)) (pg_name (i := 3) scGraph.nd rfl (Or.inl rfl))
      (pss_one (ps_for PassesOwn.never rfl (pi_range1 (by rfl) mr (pa_cons (pv 3) pa_nil)) (pg_name (i := 4) scGraph.nd rfl (Or.inl rfl))
        (pss_cons (ps_set (i := 5) scGraph.nd rfl (Or.inl rfl) (pe_tup (pa_cons (pe_ix ix_tup (pe_ix ix_list (pv 1) (pv 4) (fun _ _ => rfl)) pe_int (fun _ _ => rfl)) (pa_cons (pe_ix ix_tup (pe_ix ix_list (pv 1) (pv 3) (fun _ _ => rfl)) pe_int (fun _ _ => rfl)) pa_nil))))
        (pss_one (ps_if (PW.pt (pw_and (pt_val (pe_call GC hr (by rfl) mC kC bC .nil pass0 (pa_cons (pe_ix ix_list (pv 1) (pv 4) (fun _ _ => rfl)) (pa_cons (pe_ix ix_list (pv 1) (pv 3) (fun _ _ => rfl)) pa_nil))))
            (pw_and1 (pt_cmpR (op_notInM mir_pr hr.units) (pv 5) (pv 2) rfl))))
          (pss_one (ps_expr (pe_bm PySem.F.plainAttrs_list PySem.F.slot_list_append PySem.F.type_list_append mt_append (pv 2) (pa_cons (pv 5) pa_nil)))) pss_nil))))))
    (pss_one (ps_ret (pe_callB cr_sortedP (by rfl) ms (by decide +kernel) (pa_cons (pv 2) pa_nil)))))), ?_⟩
  refine ⟨_, rfl, a, s0, rfl, ha, by omega, fun H1 kp s1 nkp hkp => ?_⟩
  have hlen := wa_len (ab := ("abort" : Str)) (s := s0)
  generalize wa ("abort" : Str) s0 = s at hkp hlen q
  refine ⟨Nat.zero_le _, fun o no => ?_⟩
  have s2 : Same H1 (upd H1 o (.lst [])) := same_upd no
  obtain ⟨vs, ek, pk⟩ := hkp
  have hl := pk.length
  -- the inner turn's state
  let IV : Nat → Nat → L2.St → Hp → Prop := fun j i σ H' => ∃ y4 y5 g, σ = [some (.ref a), some (.ref kp), some (.ref o), some (.int (j : Nat)), y4, y5] ∧ Same H1 H' ∧ LsV PrV H' o g ∧ g.length ≤ 60 * j + i ∧ ∀ p, p ∈ g ↔ Gr ("write" : Str) s j i p
  refine ⟨.ref kp, rfl, kp, vs, rfl, .inl (SqL.of (s2 _ _ ek)), _, rfl, by omega, by omega, for_range (lo := 0) (n := vs.length)
    (fun j σ H' => ∃ y3 y4 y5 g, σ = [some (.ref a), some (.ref kp), some (.ref o), y3, y4, y5] ∧ Same H1 H' ∧ LsV PrV H' o g ∧ g.length ≤ 60 * j ∧ ∀ p, p ∈ g ↔ Gr ("write" : Str) s j 0 p)
    ⟨none, none, none, [], rfl, s2, ⟨[], upd_same, .nil⟩, Nat.zero_le _, fun p => ⟨fun h => absurd h List.not_mem_nil, fun h => (Gr.zero h).elim⟩⟩ (fun j σ H' hj h => ?_) (fun σ H' h => ?_)⟩
  · obtain ⟨y3, y4, y5, g, rfl, sm, hg, hgl, hgm⟩ := h
    have zj : (0 : Int) + (j : Int) = (j : Int) := Int.zero_add _
    refine ⟨_, rfl, _, rfl, by omega, by omega, ?_⟩
    rw [zj]
    refine for_range (lo := 0) (n := j) (IV j) ⟨y4, y5, g, rfl, sm, hg, by omega, hgm⟩ (fun i σ H' hi h => ?_) (fun σ H' h => ?_)
    · obtain ⟨y4, y5, g, rfl, sm, hg, hgl, hgm⟩ := h
      have zi : (0 : Int) + (i : Int) = (i : Int) := Int.zero_add _
      rw [zi]
      have ek1 := sm _ _ ek
      obtain ⟨vi, hvi⟩ : ∃ v, vs[i]? = some v := ⟨vs[i], List.getElem?_eq_getElem (by omega)⟩
      obtain ⟨vj, hvj⟩ : ∃ v, vs[j]? = some v := ⟨vs[j], List.getElem?_eq_getElem hj⟩
      obtain ⟨oi, hoi, ri⟩ := pd_get' (ops_keep (.of sm) pk) hvi
      obtain ⟨oj, hoj, rj⟩ := pd_get' (ops_keep (.of sm) pk) hvj
      have ri' := ri
      have rj' := rj
      obtain ⟨pi, rfl, hpi⟩ := ri'
      obtain ⟨pj, rfl, hpj⟩ := rj'
      refine ⟨_, rfl, _, rfl, kp, vs, _, _, rfl, rfl, .of ek1, atI_nat hvi, pi, _, 1, _, rfl, rfl, .of hpi, op_at1 oi, _, rfl, _, rfl, kp, vs, _, _, rfl, rfl, .of ek1, atI_nat hvj, pj, _, 1, _, rfl, rfl, .of hpj, op_at1 oj, (by show 2 ≤ sizeLine; decide), fun t nt => ?_⟩
      have s3 : Same H' (upd H' t (.tup [.int oi.t, .int oj.t])) := same_upd nt
      have ek2 := s3 _ _ ek1
      refine ⟨_, rfl, _, rfl, kp, vs, _, _, rfl, rfl, .of ek2, atI_nat hvi, _, rfl, _, rfl, kp, vs, _, _, rfl, rfl, .of ek2, atI_nat hvj, _, _, oi, oj, rfl, ri.keep (.of s3), rj.keep (.of s3), fun H3 s4 => ?_⟩
      have s34 := s3.trans s4
      have hg3 := prs_same s34 hg
      have ht3 : PrV H3 (.ref t) (oi.t, oj.t) := ⟨t, rfl, s4 _ _ upd_same⟩
      have stay : (conf ("write" : Str) oi oj = true → (oi.t, oj.t) ∈ g) → IV j (i + 1) [some (.ref a), some (.ref kp), some (.ref o), some (.int (j : Nat)), some (.int (i : Nat)), some (.ref t)] H3 := fun hc => by
        refine ⟨_, _, g, rfl, sm.trans s34, hg3, by omega, fun p => ?_⟩
        rw [Gr.step hoi hoj hi, hgm p]
        constructor
        · exact .inl
        · rintro (h | ⟨h1, h2⟩)
          · exact h
          · rw [h2]
            exact (hgm _).mp (hc h1)
      refine ⟨_, rfl, ?_⟩
      refine ite2 (fun c => ?_) (fun c => ?_)
      · refine ⟨_, rfl, _, rfl, _, o, g, ht3, rfl, hg3, _, rfl, ite2 (fun e => ?_) (fun e => ?_)⟩
        · have hnot : (oi.t, oj.t) ∉ g := by simpa using e
          obtain ⟨acc, eo, pa⟩ := hg3
          have kp3 := TupKeep.lst (o := .lst (acc ++ [V.ref t])) eo
          refine ⟨_, rfl, .inl ⟨rfl, _, SqL.of eo⟩, _, rfl, o, acc, _, rfl, rfl, eo, ?_, _, _, g ++ [(oi.t, oj.t)], rfl, same_wr (sm.trans s34) no, ⟨_, upd_same, pd_append (prs_keep kp3 pa) (.cons (ht3.keep kp3) .nil)⟩, ?_, fun p => ?_⟩
          · rw [pa.length]
            refine line_of ?_
            omega
          · rw [List.length_append, List.length_singleton]
            omega
          · rw [List.mem_append, List.mem_singleton, Gr.step hoi hoj hi, hgm p]
            exact or_congr Iff.rfl ⟨fun h => ⟨c, h⟩, fun h => h.2⟩
        · exact stay fun _ => by simpa using e
      · exact iteF (stay fun h => absurd h c)
    · obtain ⟨y4, y5, g, rfl, sm, hg, hgl, hgm⟩ := h
      exact ⟨_, y4, y5, g, rfl, sm, hg, by omega, fun p => (hgm p).trans Gr.next⟩
  · obtain ⟨y3, y4, y5, g, rfl, sm, ⟨acc, eo, pa⟩, hgl, hgm⟩ := h
    refine ⟨_, rfl, o, acc, rfl, SqL.of eo, fun x hx => ?_, fun ys r pm nr => ?_⟩
    · obtain ⟨p, _, t, e1, e2⟩ := pd_mem pa hx
      exact ⟨t, p.1, p.2, e1, e2⟩
    · obtain ⟨g', h1, h2⟩ := pd_perm pm pa
      have s5 : Same H' (upd H' r (.lst ys)) := same_upd nr
      refine q _ r g' (s1.trans (sm.trans s5)) (s1.free (sm.free nr)) ⟨ys, upd_same, prs_keep (.of s5) h1⟩ (by rw [h2.length_eq]; omega) fun p => ?_
      rw [h2.mem_iff, hgm p, hl]
end
end K49
namespace K49
open PySem PySem.Spec PyProof.Rows L2
def OptI (H : Hp) (v : V) : Option (List Int) → Prop
  | none => v = .non
  | some l => IlV H v l
theorem erase_at : ∀ {l : List Int} {j : Nat} {r : Int}, l[j]? = some r → (∀ m : Nat, m < j → l[m]? ≠ some r) → l.eraseIdx j = l.erase r
  | [], j, r, h, _ => by simp at h
  | x :: l, 0, r, h, _ => by
    have e : x = r := by simpa using h
    subst e
    simp
  | x :: l, j + 1, r, h, hn => by
    have e : x ≠ r := fun e => hn 0 (Nat.succ_pos _) (by rw [e]; rfl)
    have ih := erase_at (l := l) (j := j) (r := r) (by simpa using h) fun m hm he => hn (m + 1) (Nat.succ_lt_succ hm) (by simpa using he)
    rw [List.eraseIdx_cons_succ, ih, List.erase_cons_tail (by simpa using e)]
theorem idx_first {l : List Int} {r : Int} : ∀ m : Nat, m < l.idxOf r → l[m]? ≠ some r := by
  induction l with
  | nil =>
    intro m h e
    simp at e
  | cons x l ih =>
    intro m h e
    by_cases hx : x = r
    · subst hx
      rw [idx_cons_eq] at h
      omega
    · rw [idx_cons_ne hx] at h
      cases m with
      | zero =>
        have : x = r := by simpa using e
        exact hx this
      | succ m => exact ih m (by omega) (by simpa using e)
theorem perm_asc {ns ms : List Int} (p : ns.Perm ms) (h : ns.Pairwise (· ≤ ·)) (hm : ms.Pairwise (· < ·)) : ns = ms := by
  have nd : ns.Nodup := p.nodup_iff.mpr (asc_nodup hm)
  exact asc_ext ((h.and nd).imp fun ⟨h1, h2⟩ => by omega) hm fun x => p.mem_iff
section
variable {P : Program} {w : World} {K : PySem.W.Frag} {mg : Str → Option Value} {base : Heap}
/-! ### order_of -/
theorem scOrd : FnScope ["numbers", "pairs", "left", "order", "held", "ready", "first", "second", "number"] ["numbers", "pairs"] (defScope sOrd) := ⟨rfl, rfl, rfl, by decide +kernel, rfl, by decide +kernel, by decide +kernel⟩
def spOrd : Sp := fun vs H Q _ => ∃ (a b : Addr) (ns : List Int) (g : List (Int × Int)), vs = [.ref a, .ref b] ∧ H a = some (.lst (ns.map V.int)) ∧ LsV PrV H b g ∧ ns.Pairwise (· < ·) ∧ ns.length ≤ 8 ∧ g.length ≤ 4000 ∧ ∀ H' v, Same H H' → OptI H' v (ordOf g ns) → Q v H'
theorem ok_ord {f : Addr} {fd : FuncData} {k : Nat} (F : Fun K "order_of" "order_of" sOrd f fd) (ms : mg "sorted" = none) (ml : mg "len" = none) : FnOk P w K mg base CX0 (k + 1) f fd ["numbers", "pairs"] spOrd := by
  refine F.ok scOrd (fun vs H Q E h => ?_) (fun cdv A outer s H vs Q E hr h => ?_)
  · obtain ⟨a, b, ns, g, rfl, _⟩ := h
    rfl
  obtain ⟨a, b, ns, g, rfl, ha, hb, hasc, hns, hgl, q⟩ := h
  refine ⟨_, (pss_cons (ps_set (i := 2) scOrd.nd rfl (Or.inr rfl) (pe_callB cr_sortedI (by rfl) ms (by decide +kernel) (pa_cons (pv 0) pa_nil)))
      (pss_cons (ps_set (i := 3) scOrd.nd rfl (Or.inl rfl) (pe_lst pa_nil))
      (pss_cons (ps_while PassesOwn.never (pt_cmpR op_gt (pe_callB call_len_seq (by rfl) ml PySem.boot_len (pa_cons (pv 2) pa_nil)) pe_int (nomark _))
      (pss_cons (ps_set (i := 4) scOrd.nd rfl (Or.inr rfl) (pe_lc (own := [("first", 6), ("second", 7)]) (g := gTup K 2 (gCons (gName 6) (gCons (gName 7) gNil))) rfl scOrd.nd (pi_list (pv 1)) (blkOk_by (own := [("first", 6), ("second", 7)]) (N := ["numbers", "pairs", "left", "order", "held", "ready", "first", "second", "number"]) (sc := defScope sOrd) (by decide +kernel))
        (fun _ _ _ _ _ => (pg_tup rfl (pgs_cons (pg_name (i := 6) scOrd.nd rfl (Or.inl rfl)) (pgs_cons (pg_name (i := 7) scOrd.nd rfl (Or.inl rfl)) pgs_nil)))) (fun _ _ _ _ _ => pts_one (pt_cmpR (op_inM mir_int hr.units) (pv 6) (pv 2) rfl)) (fun _ _ _ _ _ => (pv 7))))
      (pss_cons (ps_setLc (i := 5) (own := [("number", 8)]) (g := gName 8) (by rfl) scOrd.nd rfl rfl (sw_true rfl rfl rfl (by decide +kernel)) (pi_list (pv 2)) (blkOk_by (own := [("number", 8)]) (N := ["numbers", "pairs", "left", "order", "held", "ready", "first", "second", "number"]) (sc := defScope sOrd) (by decide +kernel))
        (fun _ _ _ _ _ => (pg_name (i := 8) scOrd.nd rfl (Or.inl rfl))) (fun _ _ _ _ _ => pts_one (pt_cmpR (op_notInM mir_int hr.units) (pv 8) (pv 4) rfl)) (fun _ _ _ _ _ => (pv 8)))
      (pss_cons (ps_if (pt_cmpR op_eq (pe_callB call_len_seq (by rfl) ml PySem.boot_len (pa_cons (pv 5) pa_nil)) pe_int (nomark _)) (pss_one (ps_ret pe_non)) pss_nil)
      (pss_cons (ps_expr (pe_bm PySem.F.plainAttrs_list PySem.F.slot_list_append PySem.F.type_list_append mt_append (pv 3) (pa_cons (pe_ix ix_list (pv 5) pe_int (fun _ _ => rfl)) pa_nil)))
      (pss_one (ps_expr (pe_bm PySem.F.plainAttrs_list PySem.F.slot_list_remove PySem.F.type_list_remove mt_remove (pv 2) (pa_cons (pe_ix ix_list (pv 5) pe_int (fun _ _ => rfl)) pa_nil)))))))))
      (pss_one (ps_ret (pv 3)))))), ?_⟩
  refine ⟨_, rfl, a, ns, rfl, SqL.of ha, fun ns' l pm sd nl => ?_⟩
  have ens := perm_asc pm sd hasc
  subst ens
  refine ⟨Nat.zero_le _, fun o no => ?_⟩
  have nlo : o ≠ l := fun e => by
    rw [e, upd_same] at no
    cases no
  have no' : H o = none := by
    rw [upd_ne nlo] at no
    exact no
  let W : Nat → L2.St → Hp → Prop := fun m σ H' => ∃ y4 y5 y6 y7 y8 left acc, σ = [some (.ref a), some (.ref b), some (.ref l), some (.ref o), y4, y5, y6, y7, y8] ∧ m = left.length ∧ Same H H' ∧ H' l = some (.lst (left.map V.int)) ∧ H' o = some (.lst (acc.map V.int)) ∧ acc.length + left.length ≤ 8 ∧ ordOf g ns' = (ordOf g left).map (acc ++ ·)
  refine ⟨W, ⟨_, none, none, none, none, none, ns', [], rfl, rfl, same_wr (same_upd nl) no', ?_, upd_same, by simpa using hns, ?_⟩, fun m σ H1 hW => ?_⟩
  · rw [upd_ne nlo.symm, upd_same]
  · cases ordOf g ns' <;> rfl
  obtain ⟨y4, y5, y6, y7, y8, left, acc, rfl, rfl, s1, el, eo, hlen, hord⟩ := hW
  refine ⟨_, rfl, l, _, rfl, .inl (SqL.of el), _, _, rfl, rfl, _, rfl, ite2 (fun c => ?_) (fun c => ?_)⟩
  · have hne : left ≠ [] := fun z => by
      subst z
      have := of_decide_eq_true c
      simp at this
    refine ⟨fun σ H' => ∃ m', m' < left.length ∧ W m' σ H', fun _ _ h => h, ?_⟩
    have hb1 := prs_same s1 hb
    have hb1' := hb1
    obtain ⟨ws, eb, pb⟩ := hb1'
    -- held
    refine ⟨.ref b, rfl, b, rfl, ⟨_, SqL.of eb⟩, fun D nD => lc_pure k_pr k_int (fun p => decide (p.1 ∈ left)) (·.2) hb1 (by omega) nD (fun i p v H' hi sm hv Qn Qa h0 h1 => ?_) (fun H2 s2 hD => ?_)⟩
    · obtain ⟨t, rfl, ht⟩ := hv
      refine ⟨t, _, rfl, .of ht, rfl, _, _, rfl, _, _, rfl, rfl, rfl, _, rfl, _, rfl, p.1, l, left, rfl, rfl, ints_ls (sm _ _ el), _, rfl, ?_⟩
      exact ite2 (fun e => ⟨_, rfl, h1 e _ _ (.refl _) rfl⟩) (fun e => h0 (Bool.eq_false_iff.mpr e))
    -- ready
    have el2 := s2 _ _ el
    have hD' := hD.ints
    refine ⟨.ref l, rfl, l, rfl, ⟨_, SqL.of el2⟩, fun D2 nD2 => lc_pure k_int k_int (fun n => !decide (n ∈ heldBy g left)) id (ints_ls el2) (by omega) nD2 (fun i n v H' hi sm hv Qn Qa h0 h1 => ?_) (fun H3 s3 hD2 => ?_)⟩
    · cases hv
      refine ⟨rfl, _, rfl, _, rfl, n, D, heldBy g left, rfl, rfl, ints_ls (sm _ _ hD'), _, rfl, ?_⟩
      exact ite2 (fun e => ⟨_, rfl, h1 e _ _ (.refl _) rfl⟩) (fun e => h0 (Bool.eq_false_iff.mpr e))
    rw [List.map_id] at hD2
    have hR : H3 D2 = some (.lst ((readyOf g left).map V.int)) := hD2.ints
    have s13 : Same H H3 := s1.trans (s2.trans s3)
    refine ⟨_, rfl, D2, _, rfl, .inl (SqL.of hR), rfl, _, rfl, ?_⟩
    rw [dec_int_eq]
    cases er : readyOf g left with
    | nil =>
      refine iteT ?_
      rw [ordOf_stuck hne er] at hord
      refine q H3 .non s13 ?_
      rw [hord]
      rfl
    | cons r rs =>
      rw [er] at hR
      refine iteF ?_
      have hr' := mem_ready.mp (show r ∈ readyOf g left by rw [er]; exact List.mem_cons_self)
      have eo3 := s3 _ _ (s2 _ _ eo)
      have el3 := s3 _ _ el2
      have nD2o : D2 ≠ o := fun e => by
        rw [e, s2 _ _ eo] at nD2
        cases nD2
      refine ⟨.ref o, rfl, .inl ⟨rfl, _, SqL.of eo3⟩, _, rfl, D2, _, 0, .int r, rfl, rfl, .of hR, atI_nat (j := 0) rfl, o, _, _, rfl, rfl, eo3, ?_, ?_⟩
      · rw [List.length_map]
        exact line_of (by omega)
      have el4 : (upd H3 o (.lst (acc.map V.int ++ [.int r]))) l = some (.lst (left.map V.int)) := by
        rw [upd_ne nlo.symm]
        exact el3
      refine ⟨.ref l, rfl, .inl ⟨rfl, _, SqL.of el4⟩, _, rfl, D2, _, 0, .int r, rfl, rfl, .of (by rw [upd_ne nD2o]; exact hR), atI_nat (j := 0) rfl, l, left, r, left.idxOf r, rfl, rfl, el4, idxOf_get hr'.1, idx_first, ?_⟩
      rw [erase_at (idxOf_get hr'.1) idx_first]
      have hel := erase_len hr'.1
      refine ⟨(left.erase r).length, by omega, _, _, _, _, _, left.erase r, acc ++ [r], rfl, rfl, same_wr (same_wr s13 no') nl, upd_same, ?_, ?_, ?_⟩
      · rw [upd_ne nlo, upd_same, List.map_append]
        rfl
      · rw [List.length_append, List.length_singleton]
        omega
      · rw [hord, ordOf_step er]
        cases ordOf g (left.erase r) with
        | none => rfl
        | some l => simp
  · have h0 : left = [] := by
      cases left with
      | nil => rfl
      | cons x r =>
        refine absurd (decide_eq_true ?_) c
        rw [List.length_map, List.length_cons]
        omega
    subst h0
    refine ⟨_, rfl, q H1 _ s1 ?_⟩
    rw [hord, ordOf_nil]
    show IlV H1 _ (acc ++ [])
    rw [List.append_nil]
    exact ⟨o, rfl, eo⟩
end
end K49
namespace K49
open PySem PySem.Spec PyProof.Rows L2
theorem at_head {row : List Int} (h : row ≠ []) : atI (row.map V.int) 0 = some (.int (headI row)) := by
  cases row with
  | nil => exact absurd rfl h
  | cons x r => exact atI_nat (j := 0) rfl
theorem at_last {row : List Int} (h : row ≠ []) : atI (row.map V.int) (-1) = some (.int (lastI row)) := by
  obtain ⟨a, b, rfl⟩ : ∃ a b, row = a ++ [b] := ⟨row.dropLast, row.getLast h, (List.dropLast_concat_getLast h).symm⟩
  rw [lastI_app, List.map_append]
  exact atI_last _ _
theorem ofd {p : Prop} {i : Decidable p} (h : @decide p i = true) : p := @of_decide_eq_true p i h
theorem ofn {p : Prop} {i : Decidable p} (h : ¬ @decide p i = true) : ¬ p := fun q => h (@decide_eq_true p i q)
section
variable {α β : Type} {F : α → Option β}
theorem fs_hit {g : List α} {i : Nat} {p : α} {r : β} (h : (g.take i).findSome? F = none) (hp : g[i]? = some p) (hr : F p = some r) : g.findSome? F = some r := by
  have hi : i < g.length := (List.getElem?_eq_some_iff.mp hp).1
  have e : g[i] = p := (List.getElem?_eq_some_iff.mp hp).2
  have : g = g.take i ++ p :: g.drop (i + 1) := by
    rw [← e, ← List.drop_eq_getElem_cons hi, List.take_append_drop]
  rw [this, List.findSome?_append, h, List.findSome?_cons, hr]
  rfl
theorem fs_miss {g : List α} {i : Nat} {p : α} (h : (g.take i).findSome? F = none) (hp : g[i]? = some p) (hr : F p = none) : (g.take (i + 1)).findSome? F = none := by
  rw [List.take_add_one, hp, Option.toList_some, List.findSome?_append, h, List.findSome?_cons, hr]
  rfl
end
section
variable {P : Program} {w : World} {K : PySem.W.Frag} {mg : Str → Option Value} {base : Heap}
/-! ### closing -/
theorem scClo : FnScope ["pairs", "row", "size", "first", "second", "found"] ["pairs", "row", "size"] (defScope sClo) := ⟨rfl, rfl, rfl, by decide +kernel, rfl, by decide +kernel, by decide +kernel⟩
def spClo (n : Nat) : Sp := fun vs H Q _ => ∃ (a b : Addr) (g : List (Int × Int)) (row : List Int) (m : Nat), vs = [.ref a, .ref b, .int ((row.length + m : Nat) : Int)] ∧ LsV PrV H a g ∧ H b = some (.lst (row.map V.int)) ∧ row ≠ [] ∧ row.length + m ≤ 100 ∧ m < n ∧
  ∀ H' v, Same H H' → OptI H' v (clo g m row) → Q v H'
theorem ok_clo {f : Addr} {fd : FuncData} {n : Nat} (F : Fun K "closing" "closing" sClo f fd) (G : FnOk P w K mg base CX0 n f fd ["pairs", "row", "size"] (spClo n)) (bC : Binds K fd ["pairs", "row", "size"] []) (kC : PySem.W.keepIn K (.ref f) = true) (mC : mg "closing" = some (.ref f)) (ml : mg "len" = none) :
    FnOk P w K mg base CX0 (n + 1) f fd ["pairs", "row", "size"] (spClo (n + 1)) := by
  refine F.ok scClo (fun vs H Q E h => ?_) (fun cdv A outer s H vs Q E hr h => ?_)
  · obtain ⟨a, b, g, row, m, rfl, _⟩ := h
    rfl
  obtain ⟨a, b, g, row, m, rfl, ha, hb, hne, hlen, hm, q⟩ := h
  refine ⟨_, (pss_cons (ps_if (pt_cmpR op_eq (pe_callB call_len_seq (by rfl) ml PySem.boot_len (pa_cons (pv 1) pa_nil)) (pv 2) (nomark _)) (pss_one (ps_ret (pe_ifExp (pt_cmpR (op_inM mir_pr hr.units) (pe_tup (pa_cons (pe_ix ix_list (pv 1) (pe_un un_neg pe_int) (fun _ _ => rfl)) (pa_cons (pe_ix ix_list (pv 1) pe_int (fun _ _ => rfl)) pa_nil))) (pv 0) rfl) (pv 1) pe_non))) pss_nil)
      (pss_cons (ps_for PassesOwn.never rfl (pi_list (pv 0)) (pg_tup rfl (pgs_cons (pg_name (i := 3) scClo.nd rfl (Or.inl rfl)) (pgs_cons (pg_name (i := 4) scClo.nd rfl (Or.inl rfl)) pgs_nil)))
      (pss_one (ps_if (PW.pt (pw_and (pt_cmpR op_eq (pv 3) (pe_ix ix_list (pv 1) (pe_un un_neg pe_int) (fun _ _ => rfl)) (nomark _)) (pw_and (pt_cmpR op_gt (pv 4) (pe_ix ix_list (pv 1) pe_int (fun _ _ => rfl)) (nomark _)) (pw_and1 (pt_cmpR (op_notInM mir_int hr.units) (pv 4) (pv 1) rfl))))) (pss_cons (ps_set (i := 5) scClo.nd rfl (Or.inl rfl) (pe_call G hr (by rfl) mC kC bC .nil pass0 (pa_cons (pv 0) (pa_cons (pe_op op_cat (pv 1) (pe_lst (pa_cons (pv 4) pa_nil))) (pa_cons (pv 2) pa_nil)))))
      (pss_one (ps_if (pt_cmpR op_notN (pv 5) pe_non (nomark _)) (pss_one (ps_ret (pv 5))) pss_nil))) pss_nil)))
      (pss_one (ps_ret pe_non)))), ?_⟩
  refine ⟨_, rfl, b, _, rfl, .inl (SqL.of hb), _, rfl, rfl, _, rfl, ?_⟩
  rw [dec_int_eq, List.length_map]
  refine ite2 (fun c => ?_) (fun c => ?_)
  · have hm0 : m = 0 := by
      have := of_decide_eq_true c
      omega
    subst hm0
    refine ⟨_, rfl, _, rfl, b, _, _, _, rfl, rfl, .of hb, at_last hne, _, rfl, b, _, _, _, rfl, rfl, .of hb, at_head hne, (by show 2 ≤ sizeLine; decide), fun t nt => ?_⟩
    have s1 : Same H (upd H t (.tup [.int (lastI row), .int (headI row)])) := same_upd nt
    refine ⟨_, rfl, (lastI row, headI row), a, g, ⟨t, rfl, upd_same⟩, rfl, prs_same s1 ha, _, rfl, ite2 (fun e => ?_) (fun e => ?_)⟩
    · refine ⟨_, rfl, q _ _ s1 ?_⟩
      unfold clo
      rw [if_pos (ofd e)]
      exact ⟨b, rfl, s1 _ _ hb⟩
    · refine q _ _ s1 ?_
      unfold clo
      rw [if_neg (ofn e)]
      rfl
  · obtain ⟨m, rfl⟩ : ∃ m', m = m' + 1 := ⟨m - 1, by
      cases m with
      | zero => exact absurd (decide_eq_true (by omega)) c
      | succ m => rfl⟩
    have hclo : clo g (m + 1) row = g.findSome? fun p => if p.1 = lastI row ∧ p.2 > headI row ∧ p.2 ∉ row then clo g m (row ++ [p.2]) else none := by
      conv => lhs; unfold clo
    generalize hF : (fun p : Int × Int => if p.1 = lastI row ∧ p.2 > headI row ∧ p.2 ∉ row then clo g m (row ++ [p.2]) else none) = F at hclo
    have ha' := ha
    obtain ⟨vs, ea, pa⟩ := ha'
    have hl := pa.length
    refine ⟨_, rfl, a, rfl, ⟨_, SqL.of ea⟩, for_list (K := K) (a := a) (xs := vs)
      (fun i σ H' => ∃ y3 y4 y5, σ = [some (.ref a), some (.ref b), some (.int ((row.length + (m + 1) : Nat) : Int)), y3, y4, y5] ∧ Same H H' ∧ (g.take i).findSome? F = none)
      ⟨none, none, none, rfl, .refl _, rfl⟩ (fun i σ H' _ h => ?_) (fun i v σ H' hv h => ?_) (fun σ H' h => ?_)⟩
    · obtain ⟨_, _, _, _, sm, _⟩ := h
      exact SqL.of (sm _ _ ea)
    · obtain ⟨y3, y4, y5, rfl, sm, hno⟩ := h
      obtain ⟨p, hp, t, rfl, ht⟩ := pd_get' (prs_keep (.of sm) pa) hv
      have hb1 := sm _ _ hb
      have miss : ∀ y5', F p = none → ∃ z3 z4 z5, ([some (.ref a), some (.ref b), some (.int ((row.length + (m + 1) : Nat) : Int)), some (.int p.1), some (.int p.2), y5'] : L2.St) = [some (.ref a), some (.ref b), some (.int ((row.length + (m + 1) : Nat) : Int)), z3, z4, z5] ∧ (g.take (i + 1)).findSome? F = none :=
        fun y5' h => ⟨_, _, _, rfl, fs_miss hno hp h⟩
      refine ⟨t, _, rfl, .of ht, rfl, _, _, rfl, _, _, rfl, rfl, ?_⟩
      refine ⟨_, rfl, _, rfl, _, rfl, b, _, _, _, rfl, rfl, .of hb1, at_last hne, rfl, _, rfl, ?_⟩
      rw [dec_int_eq]
      refine ite2 (fun c1 => ?_) (fun c1 => ?_)
      · refine ⟨_, rfl, _, rfl, b, _, _, _, rfl, rfl, .of hb1, at_head hne, _, _, rfl, rfl, _, rfl, ite2 (fun c2 => ?_) (fun c2 => ?_)⟩
        · refine ⟨_, rfl, _, rfl, p.2, b, row, rfl, rfl, ints_ls hb1, _, rfl, ite2 (fun c3 => ?_) (fun c3 => ?_)⟩
          · have hcond : p.1 = lastI row ∧ p.2 > headI row ∧ p.2 ∉ row := ⟨of_decide_eq_true c1, of_decide_eq_true c2, by simpa using c3⟩
            have hFp : F p = clo g m (row ++ [p.2]) := by
              rw [← hF]
              exact if_pos hcond
            refine ⟨_, rfl, _, rfl, _, rfl, (by show 1 ≤ sizeLine; decide), fun c nc => ?_⟩
            have s2 : Same H' (upd H' c (.lst [.int p.2])) := same_upd nc
            refine ⟨b, c, _, _, rfl, rfl, s2 _ _ hb1, upd_same, ?_, fun d nd => ?_⟩
            · rw [List.length_map, List.length_singleton]
              exact Nat.le_of_lt (line_of (by omega))
            have s3 := same_upd (o := .lst (row.map V.int ++ [.int p.2])) nd
            have s23 := s2.trans s3
            refine ⟨_, rfl, a, d, g, row ++ [p.2], m, ?_, prs_same (sm.trans s23) ha, ?_, by simp, ?_, by omega, fun H2 u s4 hu => ?_⟩
            · rw [List.length_append, List.length_singleton, Nat.add_assoc, Nat.add_comm 1 m]
              rfl
            · rw [upd_same, List.map_append]
              rfl
            · rw [List.length_append, List.length_singleton]
              omega
            · have sm4 := sm.trans (s23.trans s4)
              refine ⟨u, rfl, rfl, _, rfl, ?_⟩
              rw [← hFp] at hu
              cases e : F p with
              | none =>
                rw [e] at hu
                cases hu
                obtain ⟨z3, z4, z5, h1, h2⟩ := miss (some .non) e
                exact iteF ⟨z3, z4, z5, h1, sm4, h2⟩
              | some r =>
                rw [e] at hu
                obtain ⟨z, rfl, hz⟩ := hu
                refine iteT ⟨_, rfl, q H2 _ sm4 ?_⟩
                rw [hclo, fs_hit hno hp e]
                exact ⟨z, rfl, hz⟩
          · obtain ⟨z3, z4, z5, h1, h2⟩ := miss y5 (by rw [← hF]; exact if_neg fun h => c3 (by simpa using h.2.2))
            exact ⟨z3, z4, z5, h1, sm, h2⟩
        · obtain ⟨z3, z4, z5, h1, h2⟩ := miss y5 (by rw [← hF]; exact if_neg fun h => c2 (decide_eq_true h.2.1))
          exact iteF ⟨z3, z4, z5, h1, sm, h2⟩
      · obtain ⟨z3, z4, z5, h1, h2⟩ := miss y5 (by rw [← hF]; exact if_neg fun h => c1 (decide_eq_true h.1))
        exact iteF ⟨z3, z4, z5, h1, sm, h2⟩
    · obtain ⟨y3, y4, y5, rfl, sm, hno⟩ := h
      rw [hl, List.take_length] at hno
      refine q H' _ sm ?_
      rw [hclo, hno]
      rfl
theorem clo_none {f : Addr} {fd : FuncData} : FnOk P w K mg base CX0 0 f fd ["pairs", "row", "size"] (spClo 0) := by
  have no : ∀ vs H Q E, ¬ spClo 0 vs H Q E := fun vs H Q E h => by
    obtain ⟨a, b, g, row, m, _, _, _, _, _, h1, _⟩ := h
    omega
  exact ⟨fun vs H Q E h => absurd h (no vs H Q E), fun A outer s H args us vs Q E _ _ _ _ h => absurd h (no vs H Q E)⟩
theorem clo_all {f : Addr} {fd : FuncData} (F : Fun K "closing" "closing" sClo f fd) (bC : Binds K fd ["pairs", "row", "size"] []) (kC : PySem.W.keepIn K (.ref f) = true) (mC : mg "closing" = some (.ref f)) (ml : mg "len" = none) :
    ∀ n : Nat, FnOk P w K mg base CX0 n f fd ["pairs", "row", "size"] (spClo n)
  | 0 => clo_none
  | n + 1 => ok_clo F (clo_all F bC kC mC ml n) bC kC mC ml
end
end K49
namespace K49
open PySem PySem.Spec PyProof.Rows L2
theorem chn_congr {g g' : List (Int × Int)} (h : ∀ p, p ∈ g → p ∈ g') : ∀ {r : List Int}, Chn g r → Chn g' r := by
  intro r
  induction r with
  | nil => exact fun _ => trivial
  | cons a r ih =>
    intro hr
    refine ⟨?_, ih hr.2⟩
    cases r with
    | nil => trivial
    | cons b r => exact h _ hr.1
theorem cyc_congr {g g' : List (Int × Int)} (h : ∀ p, p ∈ g → p ∈ g') {r : List Int} (hc : Cyc g r) : Cyc g' r := ⟨hc.1, chn_congr h hc.2.1, h _ hc.2.2⟩
section
variable {P : Program} {w : World} {K : PySem.W.Frag} {mg : Str → Option Value} {base : Heap}
/-! ### ring_in -/
theorem scRing : FnScope ["pairs", "ordered", "starts", "first", "_", "size", "start", "found"] ["pairs"] (defScope sRing) := ⟨rfl, rfl, rfl, by decide +kernel, rfl, by decide +kernel, by decide +kernel⟩
def spRing : Sp := fun vs H Q _ => ∃ (a : Addr) (g : List (Int × Int)) (dom : List Int), vs = [.ref a] ∧ LsV PrV H a g ∧ dom.length ≤ 8 ∧ (∀ p ∈ g, p.1 ∈ dom) ∧ (∀ p ∈ g, p.1 ≠ p.2) ∧
  ∀ H' v r, Same H H' → OptI H' v r → (∀ row, r = some row → Cyc g row ∧ row.length ≤ 100) → (r = none → ∀ row : List Int, row.Nodup → ¬ Cyc g row) → Q v H'
theorem ok_ring {f fC : Addr} {fd dC : FuncData} (F : Fun K "ring_in" "ring_in" sRing f fd) (G : FnOk P w K mg base CX0 8 fC dC ["pairs", "row", "size"] (spClo 8)) (bC : Binds K dC ["pairs", "row", "size"] []) (kC : PySem.W.keepIn K (.ref fC) = true) (mC : mg "closing" = some (.ref fC))
    (ms : mg "sorted" = none) (mr : mg "range" = none) (ml : mg "len" = none) : FnOk P w K mg base CX0 9 f fd ["pairs"] spRing := by
  refine F.ok scRing (fun vs H Q E h => ?_) (fun cdv A outer s H vs Q E hr h => ?_)
  · obtain ⟨a, g, dom, rfl, _⟩ := h
    rfl
  obtain ⟨a, g, dom, rfl, ha, hdl, hdom, hne, q⟩ := h
  refine ⟨_, (pss_cons (ps_set (i := 1) scRing.nd rfl (Or.inl rfl) (pe_callB cr_sortedP (by rfl) ms (by decide +kernel) (pa_cons (pv 0) pa_nil)))
      (pss_cons (ps_set (i := 2) scRing.nd rfl (Or.inl rfl) (pe_lst pa_nil))
      (pss_cons (ps_for PassesOwn.never rfl (pi_list (pv 1)) (pg_tup rfl (pgs_cons (pg_name (i := 3) scRing.nd rfl (Or.inl rfl)) (pgs_cons (pg_name (i := 4) scRing.nd rfl (Or.inl rfl)) pgs_nil)))
      (pss_one (ps_if (pt_cmpR (op_notInM mir_int hr.units) (pv 3) (pv 2) rfl) (pss_one (ps_expr (pe_bm PySem.F.plainAttrs_list PySem.F.slot_list_append PySem.F.type_list_append mt_append (pv 2) (pa_cons (pv 3) pa_nil)))) pss_nil)))
      (pss_cons (ps_for PassesOwn.never rfl (pi_range2 (by rfl) mr (pa_cons pe_int (pa_cons (pe_op op_add (pe_callB call_len_seq (by rfl) ml PySem.boot_len (pa_cons (pv 2) pa_nil)) pe_int) pa_nil))) (pg_name (i := 5) scRing.nd rfl (Or.inl rfl))
      (pss_one (ps_for PassesOwn.never rfl (pi_list (pv 2)) (pg_name (i := 6) scRing.nd rfl (Or.inl rfl))
      (pss_cons (ps_set (i := 7) scRing.nd rfl (Or.inl rfl) (pe_call G hr (by rfl) mC kC bC .nil pass0 (pa_cons (pv 1) (pa_cons (pe_lst (pa_cons (pv 6) pa_nil)) (pa_cons (pv 5) pa_nil)))))
      (pss_one (ps_if (pt_cmpR op_notN (pv 7) pe_non (nomark _)) (pss_one (ps_ret (pv 7))) pss_nil))))))
      (pss_one (ps_ret pe_non)))))), ?_⟩
  obtain ⟨vs0, ea, pa⟩ := ha
  refine ⟨_, rfl, a, vs0, rfl, SqL.of ea, fun x hx => ?_, fun vs od pm nod => ?_⟩
  · obtain ⟨p, _, t, e1, e2⟩ := pd_mem pa hx
    exact ⟨t, p.1, p.2, e1, e2⟩
  obtain ⟨ord, hord, pmo⟩ := pd_perm pm pa
  have s1 : Same H (upd H od (.lst vs)) := same_upd nod
  have hord1 := prs_keep (.of s1) hord
  generalize hH1 : upd H od (.lst vs) = H1 at s1 hord1
  have eod : H1 od = some (.lst vs) := by rw [← hH1, upd_same]
  have hmem : ∀ p, p ∈ ord ↔ p ∈ g := fun p => pmo.mem_iff
  refine ⟨Nat.zero_le _, fun st nst => ?_⟩
  have hl := hord1.length
  -- the starts
  refine ⟨_, rfl, od, rfl, ⟨_, SqL.of (same_upd nst _ _ eod)⟩, for_list (K := K) (a := od) (xs := vs)
    (fun i σ H' => ∃ y3 y4 ss, σ = [some (.ref a), some (.ref od), some (.ref st), y3, y4, none, none, none] ∧ Same H1 H' ∧ H' st = some (.lst (ss.map V.int)) ∧ ss.Nodup ∧ ∀ x, x ∈ ss ↔ ∃ p ∈ ord.take i, p.1 = x)
    ⟨none, none, [], rfl, same_upd nst, upd_same, List.nodup_nil, fun x => by simp⟩ (fun i σ H' _ h => ?_) (fun i v σ H' hv h => ?_) (fun σ H' h => ?_)⟩
  · obtain ⟨_, _, _, _, sm, _⟩ := h
    exact SqL.of (sm _ _ eod)
  · obtain ⟨y3, y4, ss, rfl, sm, est, hn, hm⟩ := h
    obtain ⟨p, hp, t, rfl, ht⟩ := pd_get' (prs_keep (.of sm) hord1) hv
    have hss : ss.length ≤ 8 := Nat.le_trans (nodup_sub_len hn fun x hx => by
      obtain ⟨p, h1, h2⟩ := (hm x).mp hx
      rw [← h2]
      exact hdom p ((hmem p).mp (List.mem_of_mem_take h1))) hdl
    have tk : ∀ x, (∃ p ∈ ord.take (i + 1), p.1 = x) ↔ (∃ p ∈ ord.take i, p.1 = x) ∨ p.1 = x := fun x => by
      rw [List.take_add_one, hp, Option.toList_some]
      constructor
      · rintro ⟨p', h1, h2⟩
        rcases List.mem_append.mp h1 with h1 | h1
        · exact .inl ⟨p', h1, h2⟩
        · have : p' = p := by simpa using h1
          exact .inr (this ▸ h2)
      · rintro (⟨p', h1, h2⟩ | h2)
        · exact ⟨p', List.mem_append_left _ h1, h2⟩
        · exact ⟨p, List.mem_append_right _ (by simp), h2⟩
    refine ⟨t, _, rfl, .of ht, rfl, _, _, rfl, _, _, rfl, rfl, ?_⟩
    refine ⟨_, rfl, _, rfl, p.1, st, ss, rfl, rfl, ints_ls est, _, rfl, ite2 (fun e => ?_) (fun e => ?_)⟩
    · have hnot : p.1 ∉ ss := by simpa using e
      refine ⟨_, rfl, .inl ⟨rfl, _, SqL.of est⟩, _, rfl, st, _, _, rfl, rfl, est, ?_, some (.int p.1), some (.int p.2), ss ++ [p.1], rfl, same_wr sm nst, ?_, ?_, fun x => ?_⟩
      · rw [List.length_map]
        exact line_of (by omega)
      · rw [upd_same, List.map_append]
        rfl
      · rw [List.nodup_append]
        refine ⟨hn, by simp, fun a h1 b h2 => ?_⟩
        have : b = p.1 := by simpa using h2
        rw [this]
        exact fun e => hnot (e ▸ h1)
      · rw [tk, List.mem_append, hm x, List.mem_singleton]
        exact or_congr Iff.rfl eq_comm
    · have hin : p.1 ∈ ss := by simpa using e
      refine ⟨some (.int p.1), some (.int p.2), ss, rfl, sm, est, hn, fun x => ?_⟩
      rw [tk, hm x]
      constructor
      · exact .inl
      · rintro (h | h)
        · exact h
        · exact (hm x).mp (h ▸ hin)
  obtain ⟨y3, y4, ss, rfl, sm, est, hn, hm⟩ := h
  rw [hl, List.take_length] at hm
  have hss : ss.length ≤ 8 := Nat.le_trans (nodup_sub_len hn fun x hx => by
    obtain ⟨p, h1, h2⟩ := (hm x).mp hx
    rw [← h2]
    exact hdom p ((hmem p).mp h1)) hdl
  have hod' : LsV PrV H' od ord := ⟨vs, sm _ _ eod, prs_keep (.of sm) hord1⟩
  have s1' : Same H H' := s1.trans sm
  have es : ((ss.map V.int).length : Int) = (ss.length : Int) := by rw [List.length_map]
  -- the sizes
  refine ⟨_, rfl, st, _, rfl, .inl (SqL.of est), _, _, rfl, rfl, _, _, rfl, ⟨by omega, by omega, by omega, by omega⟩, for_range (lo := 2) (n := (((ss.map V.int).length : Int) + 1 - 2).toNat)
    (fun j σ H2 => ∃ z3 z4 z5 z6 z7, σ = [some (.ref a), some (.ref od), some (.ref st), z3, z4, z5, z6, z7] ∧ Same H' H2 ∧ ∀ size : Nat, 2 ≤ size → size < 2 + j → ∀ x ∈ ss, clo ord (size - 1) [x] = none)
    ⟨_, _, _, _, _, rfl, .refl _, fun size h1 h2 => by omega⟩ (fun j σ H2 hj h => ?_) (fun σ H2 h => ?_)⟩
  · obtain ⟨z3, z4, z5, z6, z7, rfl, sm2, hno⟩ := h
    have hj8 : j ≤ 8 := by omega
    refine ⟨_, rfl, st, rfl, ⟨_, SqL.of (sm2 _ _ est)⟩, for_list (K := K) (a := st) (xs := ss.map V.int)
      (fun i σ H3 => ∃ z3 z4 z6 z7, σ = [some (.ref a), some (.ref od), some (.ref st), z3, z4, some (.int (2 + (j : Int))), z6, z7] ∧ Same H' H3 ∧ ∀ x ∈ ss.take i, clo ord (j + 1) [x] = none)
      ⟨_, _, _, _, rfl, sm2, fun x hx => absurd hx (by simp)⟩ (fun i σ H3 _ h => ?_) (fun i v σ H3 hv h => ?_) (fun σ H3 h => ?_)⟩
    · obtain ⟨_, _, _, _, _, sm3, _⟩ := h
      exact SqL.of (sm3 _ _ est)
    · obtain ⟨z3, z4, z6, z7, rfl, sm3, hno3⟩ := h
      obtain ⟨x, hx, rfl⟩ := pd_get' (ints_pd (H := H) ss) hv
      refine ⟨_, rfl, _, rfl, (by show 1 ≤ sizeLine; decide), fun c nc => ?_⟩
      have s4 : Same H3 (upd H3 c (.lst [.int x])) := same_upd nc
      have sm4 := sm3.trans s4
      have ez : (2 : Int) + (j : Int) = ((([x] : List Int).length + (j + 1) : Nat) : Int) := by
        rw [List.length_singleton]
        omega
      refine ⟨_, rfl, od, c, ord, [x], j + 1, ?_, prs_same sm4 hod', upd_same, by simp, ?_, by omega, fun H4 u s5 hu => ?_⟩
      · rw [← ez]
        rfl
      · rw [List.length_singleton]
        omega
      have sm5 := sm4.trans s5
      refine ⟨u, rfl, rfl, _, rfl, ?_⟩
      cases e : clo ord (j + 1) [x] with
      | none =>
        rw [e] at hu
        cases hu
        refine iteF ⟨_, _, _, _, rfl, sm5, fun y hy => ?_⟩
        rw [List.take_add_one, hx, Option.toList_some] at hy
        rcases List.mem_append.mp hy with hy | hy
        · exact hno3 y hy
        · have : y = x := by simpa using hy
          rw [this, e]
      | some r =>
        rw [e] at hu
        obtain ⟨z, rfl, hz⟩ := hu
        refine iteT ⟨_, rfl, q H4 _ (some r) (s1'.trans sm5) ⟨z, rfl, hz⟩ (fun row hrow => ?_) (fun h => by cases h)⟩
        cases hrow
        refine ⟨cyc_congr (fun p hp => (hmem p).mp hp) (clo_sound (j + 1) [x] r (by simp) (show True ∧ True from ⟨trivial, trivial⟩) e), ?_⟩
        rw [clo_len _ _ _ e, List.length_singleton]
        omega
    · obtain ⟨z3, z4, z6, z7, rfl, sm3, hno3⟩ := h
      rw [List.length_map, List.take_length] at hno3
      refine ⟨_, _, _, _, _, rfl, sm3, fun size h1 h2 x hx => ?_⟩
      by_cases hs : size < 2 + j
      · exact hno size h1 hs x hx
      · have : size = j + 1 + 1 := by omega
        subst this
        exact hno3 x hx
  · obtain ⟨z3, z4, z5, z6, z7, rfl, sm2, hno⟩ := h
    refine q H2 _ none (s1'.trans sm2) rfl (fun row h => by cases h) fun _ => no_cyc hmem (fun p hp => (hm p.1).mpr ⟨p, (hmem p).mpr hp, rfl⟩) hne fun size h1 h2 x hx => hno size h1 (by omega) x hx
end
end K49
namespace K49
open PySem PySem.Spec PyProof.Rows L2
section
variable {P : Program} {w : World} {K : PySem.W.Frag} {mg : Str → Option Value} {base : Heap}
/-! ### serial_order, ring_of -/
theorem scSerO : FnScope ["schedule"] ["schedule"] (defScope sSerO) := ⟨rfl, rfl, rfl, by decide +kernel, rfl, by decide +kernel, by decide +kernel⟩
def spSerO : Sp := fun vs H Q _ => ∃ (a : Addr) (s : List SOp) (ns : List Int), vs = [.ref a] ∧ LsV OpV H a s ∧ s.length ≤ 60 ∧ (∀ o ∈ s, o.k ≠ ("abort" : Str)) ∧ IsTr ns s ∧ ns.length ≤ 8 ∧
  ∀ H' v, Same H H' → (∀ g, IsGr ("write" : Str) g s → OptI H' v (ordOf g ns)) → Q v H'
theorem ok_serO {f fO fT fW fG : Addr} {fd dO dT dW dG : FuncData} {k : Nat} (F : Fun K "serial_order" "serial_order" sSerO f fd)
    (GO : FnOk P w K mg base CX0 k fO dO ["numbers", "pairs"] spOrd) (bO : Binds K dO ["numbers", "pairs"] []) (kO : PySem.W.keepIn K (.ref fO) = true) (mO : mg "order_of" = some (.ref fO))
    (GT : FnOk P w K mg base CX0 k fT dT ["schedule"] spTr) (bT : Binds K dT ["schedule"] []) (kT : PySem.W.keepIn K (.ref fT) = true) (mT : mg "transactions_of" = some (.ref fT))
    (GW : FnOk P w K mg base CX0 k fW dW ["schedule"] spWa) (bW : Binds K dW ["schedule"] []) (kW : PySem.W.keepIn K (.ref fW) = true) (mW : mg "without_aborted" = some (.ref fW))
    (GG : FnOk P w K mg base CX0 k fG dG ["schedule"] spGraph) (bG : Binds K dG ["schedule"] []) (kG : PySem.W.keepIn K (.ref fG) = true) (mG : mg "conflict_graph" = some (.ref fG)) :
    FnOk P w K mg base CX0 (k + 1) f fd ["schedule"] spSerO := by
  refine F.ok scSerO (fun vs H Q E h => ?_) (fun cdv A outer s H vs Q E hr h => ?_)
  · obtain ⟨a, s, ns, rfl, _⟩ := h
    rfl
  obtain ⟨a, s, ns, rfl, ha, hz, hab, hns, hnl, q⟩ := h
  refine ⟨_, pss_one (ps_ret (pe_call GO hr (by rfl) mO kO bO .nil pass0 (pa_cons (pe_call GT hr (by rfl) mT kT bT .nil pass0 (pa_cons (pe_call GW hr (by rfl) mW kW bW .nil pass0 (pa_cons (pv 0) pa_nil)) pa_nil))
    (pa_cons (pe_call GG hr (by rfl) mG kG bG .nil pass0 (pa_cons (pv 0) pa_nil)) pa_nil)))), ?_⟩
  refine ⟨_, rfl, a, s, rfl, ha, by omega, fun H1 r1 s1 n1 h1 => ?_⟩
  rw [wa_id hab] at h1
  refine ⟨r1, s, rfl, h1, by omega, fun H2 r2 ns' s2 n2 h2 htr => ?_⟩
  have en := htr.uniq hns
  subst en
  refine ⟨_, rfl, a, s, rfl, ops_same (s1.trans s2) ha, hz, fun H3 r3 g s3 n3 h3 hgl hg => ?_⟩
  rw [wa_id hab] at hg
  refine ⟨r2, r3, ns', g, rfl, s3 _ _ h2, h3, hns.1, hnl, hgl, fun H4 v s4 hv => ?_⟩
  refine q H4 v (s1.trans (s2.trans (s3.trans s4))) fun g' hg' => ?_
  rw [ordOf_congr (hg'.uniq hg)]
  exact hv
theorem scRingOf : FnScope ["schedule"] ["schedule"] (defScope sRingOf) := ⟨rfl, rfl, rfl, by decide +kernel, rfl, by decide +kernel, by decide +kernel⟩
def spRingOf : Sp := fun vs H Q _ => ∃ (a : Addr) (s : List SOp) (ns : List Int), vs = [.ref a] ∧ LsV OpV H a s ∧ s.length ≤ 60 ∧ (∀ o ∈ s, o.k ≠ ("abort" : Str)) ∧ IsTr ns s ∧ ns.length ≤ 8 ∧
  ∀ H' v r, Same H H' → OptI H' v r → (∀ row, r = some row → row.length ≤ 100) → (∀ g, IsGr ("write" : Str) g s → (∀ row, r = some row → Cyc g row) ∧ (r = none → ∀ row : List Int, row.Nodup → ¬ Cyc g row)) → Q v H'
theorem ok_ringOf {f fR fG : Addr} {fd dR dG : FuncData} {k : Nat} (F : Fun K "ring_of" "ring_of" sRingOf f fd)
    (GR : FnOk P w K mg base CX0 k fR dR ["pairs"] spRing) (bR : Binds K dR ["pairs"] []) (kR : PySem.W.keepIn K (.ref fR) = true) (mR : mg "ring_in" = some (.ref fR))
    (GG : FnOk P w K mg base CX0 k fG dG ["schedule"] spGraph) (bG : Binds K dG ["schedule"] []) (kG : PySem.W.keepIn K (.ref fG) = true) (mG : mg "conflict_graph" = some (.ref fG)) :
    FnOk P w K mg base CX0 (k + 1) f fd ["schedule"] spRingOf := by
  refine F.ok scRingOf (fun vs H Q E h => ?_) (fun cdv A outer s H vs Q E hr h => ?_)
  · obtain ⟨a, s, ns, rfl, _⟩ := h
    rfl
  obtain ⟨a, s, ns, rfl, ha, hz, hab, hns, hnl, q⟩ := h
  refine ⟨_, pss_one (ps_ret (pe_call GR hr (by rfl) mR kR bR .nil pass0 (pa_cons (pe_call GG hr (by rfl) mG kG bG .nil pass0 (pa_cons (pv 0) pa_nil)) pa_nil))), ?_⟩
  refine ⟨_, rfl, a, s, rfl, ha, hz, fun H3 r3 g s3 n3 h3 hgl hg => ?_⟩
  rw [wa_id hab] at hg
  have hp := gr_parts hg hns
  refine ⟨r3, g, ns, rfl, h3, hnl, fun p h => (hp.mem p h).2, hp.ne, fun H4 v r s4 hv h1 h2 => ?_⟩
  refine q H4 v r (s3.trans s4) hv (fun row hrow => (h1 row hrow).2) fun g' hg' => ?_
  have e := hg'.uniq hg
  exact ⟨fun row hrow => cyc_congr (fun p hp => (e p).mpr hp) (h1 row hrow).1, fun hn row hnd hc => h2 hn row hnd (cyc_congr (fun p hp => (e p).mp hp) hc)⟩
/-! ### are_conflict_equivalent -/
def Ncl (s o : List SOp) (j i : Nat) : Prop := ∀ a b, s[i]? = some a → s[j]? = some b → conf ("write" : Str) a b = true → ¬ place s o i > place s o j
theorem scCe : FnScope ["schedule", "other", "first", "second", "places", "j", "i", "pair"] ["schedule", "other"] (defScope sCe) := ⟨rfl, rfl, rfl, by decide +kernel, rfl, by decide +kernel, by decide +kernel⟩
def spCe : Sp := fun vs H Q _ => ∃ (a b : Addr) (s o : List SOp), vs = [.ref a, .ref b] ∧ LsV OpV H a s ∧ LsV OpV H b o ∧ s.length ≤ 1000 ∧ o.length ≤ 1000 ∧ Alike s o ∧ ∀ H' c, Same H H' → (c = true ↔ NoClash ("write" : Str) s o) → Q (.bl c) H'
theorem ok_ce {f fN fC : Addr} {fd dN dC : FuncData} {k : Nat} (F : Fun K "are_conflict_equivalent" "are_conflict_equivalent" sCe f fd)
    (GN : FnOk P w K mg base CX0 k fN dN ["schedule"] spCnt) (bN : Binds K dN ["schedule"] []) (kN : PySem.W.keepIn K (.ref fN) = true) (mN : mg "counted" = some (.ref fN))
    (GC : FnOk P w K mg base CX0 k fC dC ["first", "second"] spConf) (bC : Binds K dC ["first", "second"] []) (kC : PySem.W.keepIn K (.ref fC) = true) (mC : mg "do_conflict" = some (.ref fC))
    (mr : mg "range" = none) (ml : mg "len" = none) : FnOk P w K mg base CX0 (k + 1) f fd ["schedule", "other"] spCe := by
  refine F.ok scCe (fun vs H Q E h => ?_) (fun cdv A outer s H vs Q E hr h => ?_)
  · obtain ⟨a, b, s, o, rfl, _⟩ := h
    rfl
  obtain ⟨a, b, s, o, rfl, ha, hb, hz, hzo, hal, q⟩ := h
  refine ⟨_, (pss_cons (ps_set (i := 2) scCe.nd rfl (Or.inl rfl) (pe_call GN hr (by rfl) mN kN bN .nil pass0 (pa_cons (pv 0) pa_nil)))
      (pss_cons (ps_set (i := 3) scCe.nd rfl (Or.inr rfl) (pe_call GN hr (by rfl) mN kN bN .nil pass0 (pa_cons (pv 1) pa_nil)))
      (pss_cons (ps_setLc (i := 4) (own := [("pair", 7)]) (g := gName 7) (by rfl) scCe.nd rfl rfl (sw_true rfl rfl rfl (by decide +kernel)) (pi_list (pv 2)) (blkOk_by (own := [("pair", 7)]) (N := ["schedule", "other", "first", "second", "places", "j", "i", "pair"]) (sc := defScope sCe) (by decide +kernel))
        (fun _ _ _ _ _ => (pg_name (i := 7) scCe.nd rfl (Or.inl rfl))) (fun _ _ _ _ _ => pts_nil) (fun _ _ _ _ _ => (bm K PySem.F.plainAttrs_list PySem.F.slot_list_index PySem.F.type_list_index (mt_indexM mir_mk hr.units) (pv 3) (pa_cons (pv 7) pa_nil))))
      (pss_cons (ps_for PassesOwn.never rfl (pi_range1 (by rfl) mr (pa_cons (pe_callB call_len_seq (by rfl) ml PySem.boot_len (pa_cons (pv 2) pa_nil)) pa_nil)) (pg_name (i := 5) scCe.nd rfl (Or.inl rfl))
      (pss_one (ps_for PassesOwn.never rfl (pi_range1 (by rfl) mr (pa_cons (pv 5) pa_nil)) (pg_name (i := 6) scCe.nd rfl (Or.inl rfl))
      (pss_one (ps_if (PW.pt (pw_and (pt_val (pe_call GC hr (by rfl) mC kC bC .nil pass0 (pa_cons (pe_ix ix_tup (pe_ix ix_list (pv 2) (pv 6) (fun _ _ => rfl)) pe_int (fun _ _ => rfl)) (pa_cons (pe_ix ix_tup (pe_ix ix_list (pv 2) (pv 5) (fun _ _ => rfl)) pe_int (fun _ _ => rfl)) pa_nil)))) (pw_and1 (pt_cmpR op_gt (pe_ix ix_list (pv 4) (pv 6) (fun _ _ => rfl)) (pe_ix ix_list (pv 4) (pv 5) (fun _ _ => rfl)) (nomark _))))) (pss_one (ps_ret pe_bl)) pss_nil)))))
      (pss_one (ps_ret pe_bl)))))), ?_⟩
  refine ⟨_, rfl, a, s, rfl, ha, hz, fun H1 r1 s1 n1 h1 => ?_⟩
  refine ⟨_, rfl, b, o, rfl, ops_same s1 hb, hzo, fun H2 r2 s2 n2 h2 => ?_⟩
  have h12 := mks_same s2 h1
  have h12' := h12
  obtain ⟨vs, er, pr⟩ := h12'
  have hml := marked_len s
  have hl := pr.length
  refine ⟨_, rfl, r1, rfl, ⟨_, SqL.of er⟩, fun D nD => lc_pure k_mk k_int (fun _ => true) (fun q => (((marked o).idxOf q : Nat) : Int)) h12 (by omega) nD (fun i x v H' hi sm hv Qn Qa h0 h1 => ?_) (fun H3 s3 hD => ?_)⟩
  · refine ⟨rfl, yes_ ?_⟩
    refine ⟨_, rfl, ?_⟩
    have h2' := mks_same sm h2
    obtain ⟨vs2, er2, _⟩ := id h2'
    exact ⟨.inl ⟨rfl, _, SqL.of er2⟩, _, rfl, r2, v, x, marked o, rfl, rfl, h2', hv, hal.mem (List.mem_of_getElem? hi), h1 rfl _ _ (.refl _) rfl⟩
  rw [List.filter_eq_self.mpr fun _ _ => rfl] at hD
  have hD := hD.ints
  have s13 := s1.trans (s2.trans s3)
  have er3 := s3 _ _ er
  have pl : ∀ {i : Nat}, i < s.length → ∃ x, s[i]? = some x ∧ ((((marked s).map fun q => (((marked o).idxOf q : Nat) : Int)).map V.int)[i]? = some (.int (place s o i : Nat))) ∧ (marked s)[i]? = some (x, (s.take i).count x) := fun {i} hi => by
    have e1 : s[i]? = some s[i] := List.getElem?_eq_getElem hi
    have e2 : (marked s)[i]? = some (s[i], (s.take i).count s[i]) := by rw [marked_get, e1]; rfl
    refine ⟨s[i], e1, ?_, e2⟩
    rw [List.getElem?_map, List.getElem?_map, e2, place_of e2]
    rfl
  refine ⟨_, rfl, r1, vs, rfl, .inl (SqL.of er3), _, rfl, by omega, by omega, for_range (lo := 0) (n := vs.length)
    (fun j σ H' => ∃ y5 y6 y7, σ = [some (.ref a), some (.ref b), some (.ref r1), some (.ref r2), some (.ref D), y5, y6, y7] ∧ Same H3 H' ∧ ∀ j' i, j' < j → i < j' → Ncl s o j' i)
    ⟨_, _, _, rfl, .refl _, fun j' i h => by omega⟩ (fun j σ H' hj h => ?_) (fun σ H' h => ?_)⟩
  · obtain ⟨y5, y6, y7, rfl, sm, hno⟩ := h
    have zj : (0 : Int) + (j : Int) = (j : Int) := Int.zero_add _
    refine ⟨_, rfl, _, rfl, by omega, by omega, ?_⟩
    rw [zj]
    refine for_range (lo := 0) (n := j) (fun i σ H' => ∃ y6 y7, σ = [some (.ref a), some (.ref b), some (.ref r1), some (.ref r2), some (.ref D), some (.int (j : Nat)), y6, y7] ∧ Same H3 H' ∧ ∀ i', i' < i → Ncl s o j i') ⟨_, _, rfl, sm, fun i' h => by omega⟩ (fun i σ H' hi h => ?_) (fun σ H' h => ?_)
    · obtain ⟨y6, y7, rfl, sm, hno2⟩ := h
      have zi : (0 : Int) + (i : Int) = (i : Int) := Int.zero_add _
      rw [zi]
      obtain ⟨x, hx, hpx, hmx⟩ := pl (i := i) (by omega)
      obtain ⟨y, hy, hpy, hmy⟩ := pl (i := j) (by omega)
      have er4 := sm _ _ er3
      have pr4 := mks_keep (.of (s3.trans sm)) pr
      obtain ⟨vx, hvx, tx, ux, e1, e2, e3⟩ := pd_get pr4 hmx
      obtain ⟨vy, hvy, ty, uy, e4, e5, e6⟩ := pd_get pr4 hmy
      subst e1 e4
      refine ⟨_, rfl, _, rfl, r1, vs, _, _, rfl, rfl, .of er4, atI_nat hvx, tx, _, 0, ux, rfl, rfl, .of e2, atI_nat (j := 0) rfl,
        _, rfl, _, rfl, r1, vs, _, _, rfl, rfl, .of er4, atI_nat hvy, ty, _, 0, uy, rfl, rfl, .of e5, atI_nat (j := 0) rfl, ux, uy, x, y, rfl, e3, e6, fun H5 s5 => ?_⟩
      have sm5 := sm.trans s5
      have more : Ncl s o j i → ∀ i', i' < i + 1 → Ncl s o j i' := fun h i' hi' => by
        by_cases e : i' = i
        · subst e
          exact h
        · exact hno2 i' (by omega)
      refine ⟨_, rfl, ite2 (fun c => ?_) (fun c => ?_)⟩
      · refine ⟨_, rfl, _, rfl, D, _, _, _, rfl, rfl, .of (sm5 _ _ hD), atI_nat hpx, _, rfl, _, rfl, D, _, _, _, rfl, rfl, .of (sm5 _ _ hD), atI_nat hpy, _, _, rfl, rfl, _, rfl, ite2 (fun e => ?_) (fun e => ?_)⟩
        · refine q H5 false (s13.trans sm5) ⟨fun h => absurd h Bool.false_ne_true, fun h => ?_⟩
          have := of_decide_eq_true e
          exact absurd (show place s o i > place s o j by omega) (h j i x y hi hx hy c)
        · refine ⟨_, _, rfl, sm5, more fun a' b' ha' hb' hc' hgt => e (decide_eq_true ?_)⟩
          show ((place s o j : Nat) : Int) < ((place s o i : Nat) : Int)
          omega
      · refine iteF ⟨_, _, rfl, sm5, more fun a' b' ha' hb' hc' => ?_⟩
        rw [hx] at ha'
        rw [hy] at hb'
        cases ha'
        cases hb'
        exact absurd hc' c
    · obtain ⟨y6, y7, rfl, sm, hno2⟩ := h
      refine ⟨_, _, _, rfl, sm, fun j' i' h1 h2 => ?_⟩
      by_cases e : j' = j
      · subst e
        exact hno2 i' h2
      · exact hno j' i' (by omega) h2
  · obtain ⟨y5, y6, y7, rfl, sm, hno⟩ := h
    refine q H' true (s13.trans sm) ⟨fun _ j i x y hij hx hy hc => ?_, fun _ => rfl⟩
    have hj : j < s.length := (List.getElem?_eq_some_iff.mp hy).1
    exact hno j i (by omega) hij x y hx hy hc
end
end K49
namespace K49
open PySem PySem.Spec PyProof.Rows L2
def lcScope (s : Stmt) : Scope := match defBody s with
  | .Return (some (.ListComp _ _ sc _)) _ :: _ => sc
  | _ => defScope s
abbrev mkScope : Scope := lcScope sMk
section
variable {P : Program} {w : World} {K : PySem.W.Frag} {mg : Str → Option Value} {base : Heap}
/-! ### _law_marked -/
theorem scMk : FnScope ["_law_schedule_here", "_law_k", "_law_op", "_law_other"] ["_law_schedule_here"] (defScope sMk) := ⟨rfl, rfl, rfl, by decide +kernel, rfl, by decide +kernel, by decide +kernel⟩
theorem ok_mk {f : Addr} {fd : FuncData} {k : Nat} (F : Fun K "_law_marked" "_law_marked" sMk f fd) (me : mg "enumerate" = none) (ml : mg "len" = none) : FnOk P w K mg base CX0 (k + 1) f fd ["_law_schedule_here"] spCnt := by
  refine F.ok scMk (fun vs H Q E h => ?_) (fun cdv A outer s H vs Q E hr h => ?_)
  · obtain ⟨a, s, rfl, _⟩ := h
    rfl
  obtain ⟨a, s, rfl, ha, hz, q⟩ := h
  refine ⟨_, (pss_one (ps_ret (pe_lc (own := [("_law_k", 1), ("_law_op", 2)]) (g := gTup K 2 (gCons (gName 1) (gCons (gName 2) gNil))) rfl scMk.nd (pi_enum (by rfl) me (pa_cons (pv 0) pa_nil)) (blkOk_by (own := [("_law_k", 1), ("_law_op", 2)]) (N := ["_law_schedule_here", "_law_k", "_law_op", "_law_other"]) (sc := defScope sMk) (by decide +kernel))
        (fun _ _ _ _ _ => pg_tup rfl (pgs_cons (pg_name (i := 1) scMk.nd rfl (Or.inl rfl)) (pgs_cons (pg_name (i := 2) scMk.nd rfl (Or.inr rfl)) pgs_nil))) (fun _ _ _ _ _ => pts_nil) (fun _ _ _ _ _ => pe_tup (pa_cons (pv 2) (pa_cons (pe_callB (lenq K) (by rfl) ml PySem.boot_len (pa_cons (pe_lc (own := [("_law_other", 3)]) (g := gName 3) rfl scMk.nd (pil K (pe_slice (sll K) (pv 0) po_none (po_some (pv 1)))) (blkOk_by (own := [("_law_other", 3)]) (N := ["_law_schedule_here", "_law_k", "_law_op", "_law_other"]) (sc := relS mkScope (defScope sMk)) (by decide +kernel))
        (fun _ _ _ _ _ => (pg_name (i := 3) scMk.nd rfl (Or.inl rfl))) (fun _ _ _ _ _ => pts_one (pt_cmpR (op_eqM mir_op hr.units) (pv 3) (pv 2) (nomark _))) (fun _ _ _ _ _ => pe_int)) pa_nil)) pa_nil)))))), ?_⟩
  have ha' := ha
  obtain ⟨vs, ea, pa⟩ := ha'
  have hl := pa.length
  refine ⟨_, rfl, a, vs, rfl, .of ea, fun D nD => lc_it walk_enum (fun i H' => Same H H' ∧ LsV MkV H' D ((marked s).take i)) ⟨same_upd nD, [], upd_same, .nil⟩ (fun i H' _ h => SqL.of (h.1 _ _ ea)) (fun i v H' H2 hi h hy => ?_) (fun H' h => ?_)⟩
  · obtain ⟨sm, acc, eD, pD⟩ := h
    obtain ⟨T, x, y, rfl, nT, rfl, hx, hy⟩ := hy
    cases hx
    obtain ⟨o, ho, hvo⟩ := pd_get' pa hy
    have s2 : Same H' (upd H' T (.tup [.int (i : Nat), y])) := same_upd nT
    have sm2 := sm.trans s2
    have ea2 := sm2 _ _ ea
    refine ⟨T, _, rfl, .of upd_same, rfl, _, _, rfl, _, _, rfl, rfl, rfl, yes_ ?_⟩
    -- the inner list
    refine ⟨_, rfl, _, rfl, _, rfl, _, rfl, a, vs, rfl, .of ea2, fun c nc => ?_⟩
    rw [cut_to vs rfl (by omega)]
    generalize hH2 : upd H' T (.tup [.int (i : Nat), y]) = H2 at s2 sm2 ea2 nc
    have s3 : Same H2 (upd H2 c (.lst (vs.take i))) := same_upd nc
    have hvo3 := hvo.keep (.of (sm2.trans s3))
    refine ⟨c, rfl, ⟨_, SqL.of upd_same⟩, fun D2 nD2 => lc_pure (α := SOp) (β := Int) (s := s.take i) k_op k_int (fun x => decide (x = o)) (fun _ => 1) ⟨_, upd_same, ops_keep (.of (sm2.trans s3)) (pd_take i pa)⟩ (by rw [List.length_take]; omega) nD2 (fun i' x v' H4 hi' sm4 hv' Qn Qa h0 h1 => ?_) (fun H5 s5 hD2 => ?_)⟩
    · refine ⟨rfl, _, rfl, _, rfl, x, o, hv', hvo3.keep (.of sm4), _, rfl, ?_⟩
      exact ite2 (fun e => h1 e _ _ (.refl _) rfl) (fun e => h0 (Bool.eq_false_iff.mpr e))
    have hD2' := hD2.ints
    have ec : ((((s.take i).filter fun x => decide (x = o)).map fun _ => (1 : Int)).map V.int).length = (s.take i).count o := by
      rw [List.length_map, List.length_map, List.count_eq_length_filter]
      congr 1
    refine ⟨D2, _, rfl, .inl (SqL.of hD2'), (by show 2 ≤ sizeLine; decide), fun t nt => ?_⟩
    rw [ec]
    have sm5 := sm2.trans (s3.trans s5)
    have s6 := same_upd (H := H5) (o := .tup [y, .int ((s.take i).count o : Nat)]) nt
    have eD6 := s6 _ _ (s5 _ _ (s3 _ _ (s2 _ _ eD)))
    have hmk : (marked s)[i]? = some (o, (s.take i).count o) := by rw [marked_get, ho]; rfl
    have kp := TupKeep.lst (o := .lst (acc ++ [V.ref t])) eD6
    refine ⟨acc, eD6, ?_, same_wr (sm5.trans s6) nD, _, upd_same, ?_⟩
    · rw [pD.length, List.length_take]
      exact small1000 (by omega)
    · rw [List.take_add_one, hmk, Option.toList_some]
      refine pd_append (mks_keep kp (mks_keep (.of (s2.trans (s3.trans (s5.trans s6)))) pD)) (.cons (MkV.keep kp ⟨t, y, rfl, upd_same, hvo.keep (.of (sm5.trans s6))⟩) .nil)
  · obtain ⟨sm, h⟩ := h
    rw [List.take_of_length_le (by rw [marked_len]; omega)] at h
    exact q H' D sm nD h
/-! ### _law_alike -/
theorem scAl : FnScope ["_law_schedule_here", "_law_other", "_law_one", "_law_two", "_law_k", "_law_j", "_law_first", "_law_second", "_law_clash"] ["_law_schedule_here", "_law_other"] (defScope sAl) := ⟨rfl, rfl, rfl, by decide +kernel, rfl, by decide +kernel, by decide +kernel⟩
theorem ok_al {f fM : Addr} {fd dM : FuncData} {k : Nat} (F : Fun K "_law_alike" "_law_alike" sAl f fd)
    (GM : FnOk P w K mg base CX0 k fM dM ["_law_schedule_here"] spCnt) (bM : Binds K dM ["_law_schedule_here"] []) (kM : PySem.W.keepIn K (.ref fM) = true) (mM : mg "_law_marked" = some (.ref fM))
    (mr : mg "range" = none) (ml : mg "len" = none) : FnOk P w K mg base CX0 (k + 1) f fd ["_law_schedule_here", "_law_other"] spCe := by
  refine F.ok scAl (fun vs H Q E h => ?_) (fun cdv A outer s H vs Q E hr h => ?_)
  · obtain ⟨a, b, s, o, rfl, _⟩ := h
    rfl
  obtain ⟨a, b, s, o, rfl, ha, hb, hz, hzo, hal, q⟩ := h
  refine ⟨_, (pss_cons (ps_set (i := 2) scAl.nd rfl (Or.inl rfl) (pe_call GM hr (by rfl) mM kM bM .nil pass0 (pa_cons (pv 0) pa_nil)))
      (pss_cons (ps_set (i := 3) scAl.nd rfl (Or.inl rfl) (pe_call GM hr (by rfl) mM kM bM .nil pass0 (pa_cons (pv 1) pa_nil)))
      (pss_cons (ps_for PassesOwn.never rfl (pi_range1 (by rfl) mr (pa_cons (pe_callB call_len_seq (by rfl) ml PySem.boot_len (pa_cons (pv 2) pa_nil)) pa_nil)) (pg_name (i := 4) scAl.nd rfl (Or.inl rfl))
      (pss_one (ps_for PassesOwn.never rfl (pi_range1 (by rfl) mr (pa_cons (pv 4) pa_nil)) (pg_name (i := 5) scAl.nd rfl (Or.inl rfl))
      (pss_cons (ps_set (i := 6) scAl.nd rfl (Or.inl rfl) (pe_ix ix_tup (pe_ix ix_list (pv 2) (pv 5) (fun _ _ => rfl)) pe_int (fun _ _ => rfl)))
      (pss_cons (ps_set (i := 7) scAl.nd rfl (Or.inl rfl) (pe_ix ix_tup (pe_ix ix_list (pv 2) (pv 4) (fun _ _ => rfl)) pe_int (fun _ _ => rfl)))
      (pss_cons (ps_set (i := 8) scAl.nd rfl (Or.inl rfl) (pe_and (pe_cmpR op_gt (pe_callB call_len_seq (by rfl) ml PySem.boot_len (pa_cons (pv 6) pa_nil)) pe_int (nomark _)) (pe_and (pe_cmpR op_gt (pe_callB call_len_seq (by rfl) ml PySem.boot_len (pa_cons (pv 7) pa_nil)) pe_int (nomark _)) (pe_and (pe_cmpR op_ne (pe_ix ix_tup (pv 6) pe_int (fun _ _ => rfl)) (pe_ix ix_tup (pv 7) pe_int (fun _ _ => rfl)) (nomark _)) (pe_one (pe_cmpR op_eq (pe_ix ix_tup (pv 6) pe_int (fun _ _ => rfl)) (pe_ix ix_tup (pv 7) pe_int (fun _ _ => rfl)) (nomark _)))))))
      (pss_one (ps_if (PW.pt (pw_and (pt_val (pv 8)) (pw_and (pt_cmpR op_in_seq pe_str (pe_lst (pa_cons (pe_ix ix_tup (pv 6) pe_int (fun _ _ => rfl)) (pa_cons (pe_ix ix_tup (pv 7) pe_int (fun _ _ => rfl)) pa_nil))) rfl) (pw_and1 (pt_cmpR op_gt (pe_bm PySem.F.plainAttrs_list PySem.F.slot_list_index PySem.F.type_list_index (mt_indexM mir_mk hr.units) (pv 3) (pa_cons (pe_ix ix_list (pv 2) (pv 5) (fun _ _ => rfl)) pa_nil)) (pe_bm PySem.F.plainAttrs_list PySem.F.slot_list_index PySem.F.type_list_index (mt_indexM mir_mk hr.units) (pv 3) (pa_cons (pe_ix ix_list (pv 2) (pv 4) (fun _ _ => rfl)) pa_nil)) (nomark _)))))) (pss_one (ps_ret pe_bl)) pss_nil))))))))
      (pss_one (ps_ret pe_bl))))), ?_⟩
  refine ⟨_, rfl, a, s, rfl, ha, hz, fun H1 r1 s1 n1 h1 => ?_⟩
  refine ⟨_, rfl, b, o, rfl, ops_same s1 hb, hzo, fun H2 r2 s2 n2 h2 => ?_⟩
  have h12 := mks_same s2 h1
  have h12' := h12
  obtain ⟨vs, er, pr⟩ := h12'
  have hml := marked_len s
  have hl := pr.length
  have s12 := s1.trans s2
  have pl : ∀ {i : Nat}, i < s.length → ∃ x, s[i]? = some x ∧ (marked s)[i]? = some (x, (s.take i).count x) := fun {i} hi => by
    have e1 : s[i]? = some s[i] := List.getElem?_eq_getElem hi
    exact ⟨s[i], e1, by rw [marked_get, e1]; rfl⟩
  refine ⟨_, rfl, r1, vs, rfl, .inl (SqL.of er), _, rfl, by omega, by omega, for_range (lo := 0) (n := vs.length)
    (fun j σ H' => ∃ y4 y5 y6 y7 y8, σ = [some (.ref a), some (.ref b), some (.ref r1), some (.ref r2), y4, y5, y6, y7, y8] ∧ Same H2 H' ∧ ∀ j' i, j' < j → i < j' → Ncl s o j' i)
    ⟨_, _, _, _, _, rfl, .refl _, fun j' i h => by omega⟩ (fun j σ H' hj h => ?_) (fun σ H' h => ?_)⟩
  · obtain ⟨y4, y5, y6, y7, y8, rfl, sm, hno⟩ := h
    have zj : (0 : Int) + (j : Int) = (j : Int) := Int.zero_add _
    refine ⟨_, rfl, _, rfl, by omega, by omega, ?_⟩
    rw [zj]
    refine for_range (lo := 0) (n := j) (fun i σ H' => ∃ y5 y6 y7 y8, σ = [some (.ref a), some (.ref b), some (.ref r1), some (.ref r2), some (.int (j : Nat)), y5, y6, y7, y8] ∧ Same H2 H' ∧ ∀ i', i' < i → Ncl s o j i') ⟨_, _, _, _, rfl, sm, fun i' h => by omega⟩ (fun i σ H' hi h => ?_) (fun σ H' h => ?_)
    · obtain ⟨y5, y6, y7, y8, rfl, sm, hno2⟩ := h
      have zi : (0 : Int) + (i : Int) = (i : Int) := Int.zero_add _
      rw [zi]
      obtain ⟨x, hx, hmx⟩ := pl (i := i) (by omega)
      obtain ⟨y, hy, hmy⟩ := pl (i := j) (by omega)
      have er4 := sm _ _ er
      have pr4 := mks_keep (.of sm) pr
      obtain ⟨vx, hvx, rx⟩ := pd_get pr4 hmx
      obtain ⟨vy, hvy, ry⟩ := pd_get pr4 hmy
      have rx' := rx
      have ry' := ry
      obtain ⟨tx, ux, e1, e2, px, e7, e3⟩ := rx'
      obtain ⟨ty, uy, e4, e5, py, e8, e6⟩ := ry'
      subst e1 e4 e7 e8
      have more : Ncl s o j i → ∀ i', i' < i + 1 → Ncl s o j i' := fun h i' hi' => by
        by_cases e : i' = i
        · subst e
          exact h
        · exact hno2 i' (by omega)
      have nco : conf ("write" : Str) x y = false → Ncl s o j i := fun h a' b' ha' hb' hc' => by
        rw [hx] at ha'
        rw [hy] at hb'
        cases ha'
        cases hb'
        rw [h] at hc'
        cases hc'
      refine ⟨_, rfl, _, rfl, r1, vs, _, _, rfl, rfl, .of er4, atI_nat hvx, tx, _, 0, _, rfl, rfl, .of e2, atI_nat (j := 0) rfl, ?_⟩
      refine ⟨_, rfl, _, rfl, r1, vs, _, _, rfl, rfl, .of er4, atI_nat hvy, ty, _, 0, _, rfl, rfl, .of e5, atI_nat (j := 0) rfl, ?_⟩
      have stay : ∀ H5, Same H' H5 → Ncl s o j i → ∀ v8, ∃ y5 y6 y7 y8, ([some (.ref a), some (.ref b), some (.ref r1), some (.ref r2), some (.int (j : Nat)), some (.int (i : Nat)), some (.ref px), some (.ref py), v8] : L2.St) = [some (.ref a), some (.ref b), some (.ref r1), some (.ref r2), some (.int (j : Nat)), y5, y6, y7, y8] ∧ Same H2 H5 ∧ ∀ i', i' < i + 1 → Ncl s o j i' :=
        fun H5 s5 hn v8 => ⟨_, _, _, _, rfl, sm.trans s5, more hn⟩
      refine ⟨_, rfl, px, _, rfl, .inr (SqT.of e3), _, _, rfl, rfl, _, rfl, ?_⟩
      rw [op_len]
      cases ex : x.x with
      | none => exact iteF ⟨_, rfl, _, rfl, iteF (iteF (stay H' (.refl _) (nco (conf_f1 (by rw [ex]; rfl))) _))⟩
      | some zx =>
        refine iteT ⟨_, rfl, py, _, rfl, .inr (SqT.of e6), _, _, rfl, rfl, _, rfl, ?_⟩
        rw [op_len]
        cases ey : y.x with
        | none => exact iteF ⟨_, rfl, _, rfl, iteF (iteF (stay H' (.refl _) (nco (conf_f2 (by rw [ey]; rfl))) _))⟩
        | some zy =>
          refine iteT ⟨_, rfl, px, _, 1, _, rfl, rfl, .of e3, op_at1 x, _, rfl, py, _, 1, _, rfl, rfl, .of e6, op_at1 y, rfl, _, rfl, ?_⟩
          rw [dec_int_eq]
          refine ite2 (fun c1 => ?_) (fun c1 => ?_)
          · have ht : x.t ≠ y.t := by simpa using c1
            refine ⟨_, rfl, px, _, 2, _, rfl, rfl, .of e3, op_at2 ex, _, rfl, py, _, 2, _, rfl, rfl, .of e6, op_at2 ey, rfl, _, rfl, _, rfl, ?_⟩
            rw [dec_str_eq]
            refine ite2 (fun c2 => ?_) (fun c2 => ?_)
            · have hz2 : zx = zy := of_decide_eq_true c2
              subst hz2
              have hct := conf_t ex ey ht
              refine ⟨_, rfl, px, _, 0, _, rfl, rfl, .of e3, op_at0 x, _, rfl, py, _, 0, _, rfl, rfl, .of e6, op_at0 y, (by show 2 ≤ sizeLine; decide), fun l nl => ?_⟩
              have s5 : Same H' (upd H' l (.lst [.str x.k, .str y.k])) := same_upd nl
              have e9 : inV (.str "write") [.str x.k, .str y.k] = conf ("write" : Str) x y := by
                rw [hct]
                simp [inV, eqV, Bool.beq_eq_decide_eq]
              refine ⟨l, _, rfl, .inl (SqL.of upd_same), rfl, rfl, _, rfl, ?_⟩
              show if inV (.str "write") [.str x.k, .str y.k] = true then _ else _
              rw [e9]
              refine ite2 (fun c3 => ?_) (fun c3 => ?_)
              · have sm5 := sm.trans s5
                have er5 := s5 _ _ er4
                have h2' := mks_same sm5 h2
                obtain ⟨vs2, er2, _⟩ := id h2'
                refine ⟨_, rfl, .inl ⟨rfl, _, SqL.of er2⟩, _, rfl, _, rfl, r1, vs, _, _, rfl, rfl, .of er5, atI_nat hvx, r2, _, _, marked o, rfl, rfl, h2', rx.keep (.of s5), hal.mem (List.mem_of_getElem? hmx),
                  _, rfl, .inl ⟨rfl, _, SqL.of er2⟩, _, rfl, _, rfl, r1, vs, _, _, rfl, rfl, .of er5, atI_nat hvy, r2, _, _, marked o, rfl, rfl, h2', ry.keep (.of s5), hal.mem (List.mem_of_getElem? hmy), _, _, rfl, rfl, _, rfl, ?_⟩
                rw [← place_of (o := o) hmx, ← place_of (o := o) hmy]
                refine ite2 (fun c4 => ?_) (fun c4 => ?_)
                · refine q _ false (s12.trans sm5) ⟨fun h => absurd h Bool.false_ne_true, fun h => ?_⟩
                  have := of_decide_eq_true c4
                  exact absurd (show place s o i > place s o j by omega) (h j i x y hi hx hy c3)
                · refine stay _ s5 (fun a' b' ha' hb' hc' hgt => c4 (decide_eq_true ?_)) _
                  show ((place s o j : Nat) : Int) < ((place s o i : Nat) : Int)
                  omega
              · exact iteF (stay _ s5 (nco (Bool.eq_false_iff.mpr c3)) _)
            · exact iteF (stay H' (.refl _) (nco (conf_f4 (by rw [ex, ey]; exact fun z => c2 (decide_eq_true (Option.some.inj z))))) _)
          · exact ⟨_, rfl, _, rfl, iteF (iteF (stay H' (.refl _) (nco (conf_f3 (by simpa using c1))) _))⟩
    · obtain ⟨y5, y6, y7, y8, rfl, sm, hno2⟩ := h
      refine ⟨_, _, _, _, _, rfl, sm, fun j' i' h1 h2 => ?_⟩
      by_cases e : j' = j
      · subst e
        exact hno2 i' h2
      · exact hno j' i' (by omega) h2
  · obtain ⟨y4, y5, y6, y7, y8, rfl, sm, hno⟩ := h
    refine q H' true (s12.trans sm) ⟨fun _ j i x y hij hx hy hc => ?_, fun _ => rfl⟩
    have hj : j < s.length := (List.getElem?_eq_some_iff.mp hy).1
    exact hno j i (by omega) hij x y hx hy hc
end
end K49
namespace K49
open PySem PySem.Spec PyProof.Rows L2
section
variable {P : Program} {w : World} {K : PySem.W.Frag} {mg : Str → Option Value} {base : Heap}
/-! ### _law_cell -/
theorem scCell : FnScope ["_law_script", "_law_k"] ["_law_script", "_law_k"] (defScope sCell) := ⟨rfl, rfl, rfl, by decide +kernel, rfl, by decide +kernel, by decide +kernel⟩
def spCell (K : PySem.W.Frag) : Sp := fun vs H Q _ => ∃ (a : Addr) (ns : List Int) (k : Int), vs = [.ref a, .int k] ∧ SqL K H a (ns.map V.int) ∧ 0 ≤ k ∧ ∀ H' z, Same H H' → Q (.int z) H'
theorem ok_cell {f : Addr} {fd : FuncData} {n : Nat} (F : Fun K "_law_cell" "_law_cell" sCell f fd) (ml : mg "len" = none) : FnOk P w K mg base CX0 (n + 1) f fd ["_law_script", "_law_k"] (spCell K) := by
  refine F.ok scCell (fun vs H Q E h => ?_) (fun cdv A outer s H vs Q E hr h => ?_)
  · obtain ⟨a, ns, k, rfl, _⟩ := h
    rfl
  obtain ⟨a, ns, k, rfl, ha, hk, q⟩ := h
  refine ⟨_, (pss_cons (ps_if (pt_cmpR op_lt (pv 1) (pe_callB call_len_seq (by rfl) ml PySem.boot_len (pa_cons (pv 0) pa_nil)) (nomark _)) (pss_one (ps_ret (pe_ix ix_list (pv 0) (pv 1) (fun _ _ => rfl)))) pss_nil)
      (pss_one (ps_ret pe_int))), ?_⟩
  refine ⟨_, rfl, _, rfl, a, _, rfl, .inl ha, _, _, rfl, rfl, _, rfl, ite2 (fun c => ?_) (fun c => ?_)⟩
  · have c' := of_decide_eq_true c
    rw [List.length_map] at c'
    have hk' : k.toNat < ns.length := by omega
    refine ⟨_, rfl, _, rfl, a, _, _, _, rfl, rfl, ha, at_of (j := k.toNat) (by omega) (by rw [List.getElem?_map, List.getElem?_eq_getElem hk']; rfl), q H _ (.refl _)⟩
  · exact q H _ (.refl _)
/-! ### _law_draw -/
theorem scDraw : FnScope ["_law_script", "_law_k", "_law_sizes", "_law_cell_here", "_law_drawn", "_law_size", "_law_mixed", "_law_j"] ["_law_script", "_law_k", "_law_sizes"] (defScope sDraw) := ⟨rfl, rfl, rfl, by decide +kernel, rfl, by decide +kernel, by decide +kernel⟩
/-- each of ds lies below its size -/
def Drawn (ds zs : List Int) : Prop := ds.length = zs.length ∧ ∀ (i : Nat) (d z : Int), ds[i]? = some d → zs[i]? = some z → 0 ≤ d ∧ d < z
def spDraw (K : PySem.W.Frag) : Sp := fun vs H Q _ => ∃ (a : Addr) (ns : List Int) (k : Int) (b : Addr) (zs : List Int), vs = [.ref a, .int k, .ref b] ∧ SqL K H a (ns.map V.int) ∧ 0 ≤ k ∧ H b = some (.lst (zs.map V.int)) ∧ zs.length ≤ 100 ∧ (∀ z ∈ zs, 0 < z ∧ z < 1000) ∧
  ∀ H' r ds, Same H H' → H r = none → H' r = some (.lst (ds.map V.int)) → Drawn ds zs → Q (.ref r) H'
theorem drawn_snoc {ds zs : List Int} {i : Nat} {d z : Int} (h : Drawn ds (zs.take i)) (hz : zs[i]? = some z) (h0 : 0 ≤ d) (h1 : d < z) : Drawn (ds ++ [d]) (zs.take (i + 1)) := by
  have hi : i < zs.length := (List.getElem?_eq_some_iff.mp hz).1
  obtain ⟨hl, hd⟩ := h
  have hl' : ds.length = i := by
    rw [hl, List.length_take]
    omega
  refine ⟨by rw [List.length_append, List.length_singleton, List.length_take]; omega, fun j d' z' e1 e2 => ?_⟩
  by_cases hj : j < i
  · rw [List.getElem?_append_left (by omega)] at e1
    rw [List.getElem?_take_of_lt (by omega)] at e2
    exact hd j d' z' e1 (by rw [List.getElem?_take_of_lt hj]; exact e2)
  · by_cases hji : j = i
    · subst hji
      rw [List.getElem?_take_of_lt (by omega), hz] at e2
      rw [List.getElem?_append_right (by omega), hl', Nat.sub_self] at e1
      cases e2
      have : d = d' := by simpa using e1
      subst this
      exact ⟨h0, h1⟩
    · rw [List.getElem?_eq_none (by rw [List.length_take]; omega)] at e2
      cases e2
theorem ok_draw {f fL : Addr} {fd dL : FuncData} {n : Nat} (F : Fun K "_law_draw" "_law_draw" sDraw f fd) (GL : FnOk P w K mg base CX0 n fL dL ["_law_script", "_law_k"] (spCell K)) (bL : Binds K dL ["_law_script", "_law_k"] []) (kL : PySem.W.keepIn K (.ref fL) = true) (mL : mg "_law_cell" = some (.ref fL))
    (mr : mg "range" = none) (ml : mg "len" = none) : FnOk P w K mg base CX0 (n + 1) f fd ["_law_script", "_law_k", "_law_sizes"] (spDraw K) := by
  refine F.ok scDraw (fun vs H Q E h => ?_) (fun cdv A outer s H vs Q E hr h => ?_)
  · obtain ⟨a, ns, k, b, zs, rfl, _⟩ := h
    rfl
  obtain ⟨a, ns, k, b, zs, rfl, ha, hk, hb, hzl, hz, q⟩ := h
  refine ⟨_, (pss_cons (ps_set (i := 3) scDraw.nd rfl (Or.inl rfl) (pe_call GL hr (by rfl) mL kL bL .nil pass0 (pa_cons (pv 0) (pa_cons (pv 1) pa_nil))))
      (C8.pss_cut (ps_if (pt_cmpR op_lt (pv 3) pe_int (nomark _)) (pss_one (ps_set (i := 3) scDraw.nd rfl (Or.inl rfl) (pe_un un_neg (pv 3)))) pss_nil)
      (pss_cons (ps_set (i := 4) scDraw.nd rfl (Or.inl rfl) (pe_lst pa_nil))
      (pss_cons (ps_if (pt_cmpR op_ge (pv 3) (pe_op op_pow pe_int pe_int) (nomark _)) (pss_cons (ps_set (i := 3) scDraw.nd rfl (Or.inl rfl) (pe_op op_sub (pv 3) (pe_op op_pow pe_int pe_int)))
      (pss_cons (ps_for PassesOwn.never rfl (pi_list (pv 2)) (pg_name (i := 5) scDraw.nd rfl (Or.inl rfl))
      (pss_cons (ps_expr (pe_bm PySem.F.plainAttrs_list PySem.F.slot_list_append PySem.F.type_list_append mt_append (pv 4) (pa_cons (pe_op op_mod (pv 3) (pv 5)) pa_nil)))
      (pss_one (ps_set (i := 3) scDraw.nd rfl (Or.inl rfl) (pe_op op_fdiv (pv 3) (pv 5))))))
      (pss_one (ps_ret (pv 4))))) pss_nil)
      (pss_cons (ps_set (i := 6) scDraw.nd rfl (Or.inl rfl) (pe_op op_mod (pe_op op_add (pe_op op_add (pv 3) pe_int) (pe_op op_mul pe_int (pv 1))) pe_int))
      (pss_cons (ps_for PassesOwn.never rfl (pi_range1 (by rfl) mr (pa_cons (pe_callB call_len_seq (by rfl) ml PySem.boot_len (pa_cons (pv 2) pa_nil)) pa_nil)) (pg_name (i := 7) scDraw.nd rfl (Or.inl rfl))
      (pss_cons (ps_set (i := 6) scDraw.nd rfl (Or.inl rfl) (pe_op op_mod (pe_op op_add (pe_op op_add (pe_op op_mul (pv 6) pe_int) pe_int) (pv 7)) pe_int))
      (pss_cons (ps_set (i := 6) scDraw.nd rfl (Or.inl rfl) (pe_op op_mod (pe_op op_add (pe_op op_mul (pv 6) pe_int) pe_int) pe_int))
      (pss_one (ps_expr (pe_bm PySem.F.plainAttrs_list PySem.F.slot_list_append PySem.F.type_list_append mt_append (pv 4) (pa_cons (pe_op op_mod (pe_op op_fdiv (pv 6) pe_int) (pe_ix ix_list (pv 2) (pv 7) (fun _ _ => rfl))) pa_nil)))))))
      (pss_one (ps_ret (pv 4))))))))), ?_⟩
  refine ⟨_, rfl, _, rfl, a, ns, k, rfl, ha, hk, fun H1 c0 s1 => ?_⟩
  refine ⟨fun σ H' => ∃ c1 : Int, σ = [some (.ref a), some (.int k), some (.ref b), some (.int c1), none, none, none, none] ∧ H' = H1, ?_, fun σ H' hσ => ?_⟩
  · refine ⟨_, rfl, _, _, rfl, rfl, _, rfl, ite2 (fun c => ?_) (fun c => ?_)⟩
    · exact ⟨_, rfl, _, rfl, _, rfl, rfl⟩
    · exact ⟨_, rfl, rfl⟩
  obtain ⟨c1, rfl, rfl⟩ := hσ
  have hb1 := s1 _ _ hb
  refine ⟨Nat.zero_le _, fun o no => ?_⟩
  have no' : H o = none := s1.free no
  have s2 : Same H' (upd H' o (.lst [])) := same_upd no
  have nbo : b ≠ o := ne_of_none hb1 no
  have s12 := s1.trans s2
  refine ⟨_, rfl, 10, 18, rfl, rfl, ⟨by decide, by decide, by decide⟩, _, _, rfl, rfl, _, rfl, ite2 (fun c => ?_) (fun c => ?_)⟩
  · refine ⟨_, rfl, 10, 18, rfl, rfl, ⟨by decide, by decide, by decide⟩, _, _, rfl, rfl, ?_⟩
    refine ⟨_, rfl, b, rfl, ⟨_, SqL.of (s2 _ _ hb1)⟩, for_list (K := K) (a := b) (xs := zs.map V.int)
      (fun i σ H2 => ∃ (c : Int) (y5 : Option V) (ds : List Int), σ = [some (.ref a), some (.int k), some (.ref b), some (.int c), some (.ref o), y5, none, none] ∧ Same H H2 ∧ H2 o = some (.lst (ds.map V.int)) ∧ Drawn ds (zs.take i))
      ⟨_, _, [], rfl, s12, upd_same, rfl, fun i d z h => by simp at h⟩ (fun i σ H2 _ h => ?_) (fun i v σ H2 hv h => ?_) (fun σ H2 h => ?_)⟩
    · obtain ⟨_, _, _, _, sm, _⟩ := h
      exact SqL.of (sm _ _ hb)
    · obtain ⟨c, y5, ds, rfl, sm, eo, hd⟩ := h
      obtain ⟨z, hzi, rfl⟩ := pd_get' (ints_pd (H := H) zs) hv
      obtain ⟨z0, z1⟩ := hz z (List.mem_of_getElem? hzi)
      refine ⟨_, rfl, .inl ⟨rfl, _, SqL.of eo⟩, _, rfl, _, rfl, _, _, rfl, rfl, z0, o, _, _, rfl, rfl, eo, ?_, ?_⟩
      · rw [List.length_map, hd.1, List.length_take]
        exact line_of (by omega)
      · refine ⟨_, rfl, _, rfl, _, _, rfl, rfl, ⟨z0, by omega⟩, _, _, ds ++ [c % z], rfl, same_wr sm no', ?_, drawn_snoc hd hzi (Int.emod_nonneg _ (by omega)) (Int.emod_lt_of_pos _ z0)⟩
        rw [upd_same, List.map_append]
        rfl
    · obtain ⟨c, y5, ds, rfl, sm, eo, hd⟩ := h
      rw [List.length_map, List.take_length] at hd
      exact ⟨_, rfl, q H2 o ds sm no' eo hd⟩
  · refine ⟨_, rfl, _, _, rfl, rfl, _, rfl, _, _, rfl, rfl, .inl ⟨by decide, by decide⟩, _, _, rfl, rfl, _, _, rfl, rfl, (show (0 : Int) < 2147483647 by decide), ?_⟩
    refine ⟨_, rfl, b, _, rfl, .inl (SqL.of (s2 _ _ hb1)), _, rfl, ?_, ?_, for_range (lo := 0) (n := (zs.map V.int).length)
      (fun i σ H2 => ∃ (c m : Int) (y7 : Option V) (ds : List Int), σ = [some (.ref a), some (.int k), some (.ref b), some (.int c), some (.ref o), none, some (.int m), y7] ∧ Same H H2 ∧ H2 o = some (.lst (ds.map V.int)) ∧ Drawn ds (zs.take i))
      ⟨_, _, _, [], rfl, s12, upd_same, rfl, fun i d z h => by simp at h⟩ (fun i σ H2 hi h => ?_) (fun σ H2 h => ?_)⟩
    · rw [List.length_map]
      omega
    · rw [List.length_map]
      omega
    · obtain ⟨c, m, y7, ds, rfl, sm, eo, hd⟩ := h
      rw [List.length_map] at hi
      have hzi : zs[i]? = some zs[i] := List.getElem?_eq_getElem hi
      obtain ⟨z0, z1⟩ := hz _ (List.mem_of_getElem? hzi)
      have zi : (0 : Int) + (i : Int) = (i : Int) := Int.zero_add _
      refine ⟨_, rfl, _, _, rfl, rfl, .inr ⟨by decide, by decide⟩, _, _, rfl, rfl, _, rfl, _, _, rfl, rfl, _, _, rfl, rfl, (show (0 : Int) < 2147483647 by decide), ?_⟩
      refine ⟨_, rfl, _, _, rfl, rfl, .inr ⟨by decide, by decide⟩, _, _, rfl, rfl, _, _, rfl, rfl, (show (0 : Int) < 2147483647 by decide), ?_⟩
      refine ⟨_, rfl, .inl ⟨rfl, _, SqL.of eo⟩, _, rfl, _, _, rfl, rfl, ⟨by decide, by decide⟩, _, rfl, _, rfl, b, _, _, _, rfl, rfl, .of (sm _ _ hb), at_of zi (by rw [List.getElem?_map, hzi]; rfl), _, _, rfl, rfl, z0, o, _, _, rfl, rfl, eo, ?_, ?_⟩
      · rw [List.length_map, hd.1, List.length_take]
        exact line_of (by omega)
      · refine ⟨_, _, _, ds ++ [((m * 48271 + 11 + (0 + (i : Int))) % 2147483647 * 69621 + 3) % 2147483647 / 7 % zs[i]], rfl, same_wr sm no', ?_, drawn_snoc hd hzi (Int.emod_nonneg _ (by omega)) (Int.emod_lt_of_pos _ z0)⟩
        rw [upd_same, List.map_append]
        rfl
    · obtain ⟨c, m, y7, ds, rfl, sm, eo, hd⟩ := h
      rw [List.length_map, List.take_length] at hd
      exact ⟨_, rfl, q H2 o ds sm no' eo hd⟩
end
end K49
namespace K49
open PySem PySem.Spec PyProof.Rows L2
theorem cut_from (xs : List V) {i : Nat} {z : Int} (e : z = (i : Int)) (h : i ≤ xs.length) : cutV xs (some z) none = xs.drop i := by
  subst e
  unfold cutV
  rw [HT.sIx_none, HT.sIx_nat, Nat.min_eq_left h]
  exact List.take_of_length_le (by rw [List.length_drop]; exact Nat.le_refl _)
def z42 : List Int := [5, 11, 3, 5, 11, 3, 5, 11, 3, 5, 11, 3, 5, 11, 3, 5, 11, 3, 5, 11, 3, 5, 11, 3, 5, 11, 3, 5, 11, 3, 5, 11, 3, 5, 11, 3, 5, 11, 3, 5, 11, 3]
theorem z42_at : ∀ q : Nat, q < 14 → z42[3 * q]? = some 5 ∧ z42[3 * q + 1]? = some 11 ∧ z42[3 * q + 2]? = some 3 := by decide
theorem z42_rep : (List.replicate ((14 : Int).toNat) ([.int 5, .int 11, .int 3] : List V)).flatten = z42.map V.int := by decide
section
variable {P : Program} {w : World} {K : PySem.W.Frag} {mg : Str → Option Value} {base : Heap}
/-! ### _law_schedule -/
theorem scSch : FnScope ["_law_script", "_law_k", "_law_head", "_law_schedule_here", "_law_ended", "_law_j", "_law_digits", "_law_t", "_law_item"] ["_law_script", "_law_k"] (defScope sSch) := ⟨rfl, rfl, rfl, by decide +kernel, rfl, by decide +kernel, by decide +kernel⟩
def spSch (K : PySem.W.Frag) : Sp := fun vs H Q _ => ∃ (a : Addr) (ns : List Int) (k : Int), vs = [.ref a, .int k] ∧ SqL K H a (ns.map V.int) ∧ 0 ≤ k ∧
  ∀ H' r s, Same H H' → H r = none → LsV OpV H' r s → s.length ≤ 26 → (∀ o ∈ s, 1 ≤ o.t ∧ o.t ≤ 5) → Q (.ref r) H'
theorem drawn3 {ds : List Int} {x y z : Int} (h : Drawn ds [x, y, z]) : ∃ d0 d1 d2, ds = [d0, d1, d2] ∧ (0 ≤ d0 ∧ d0 < x) ∧ (0 ≤ d1 ∧ d1 < y) ∧ (0 ≤ d2 ∧ d2 < z) := by
  obtain ⟨hl, hd⟩ := h
  match ds, hl with
  | [d0, d1, d2], _ => exact ⟨d0, d1, d2, rfl, hd 0 _ _ rfl rfl, hd 1 _ _ rfl rfl, hd 2 _ _ rfl rfl⟩
theorem drawn_at {ds zs : List Int} (h : Drawn ds zs) {i : Nat} {z : Int} (hz : zs[i]? = some z) : ∃ d, ds[i]? = some d ∧ 0 ≤ d ∧ d < z := by
  have hi : i < zs.length := (List.getElem?_eq_some_iff.mp hz).1
  have hi2 : i < ds.length := by rw [h.1]; exact hi
  exact ⟨ds[i], List.getElem?_eq_getElem hi2, h.2 i _ z (List.getElem?_eq_getElem hi2) hz⟩
theorem xyz_at {z : Int} (h0 : 0 ≤ z) (h1 : z < 3) : ∃ c, atI ("xyz" : Str).cps.toList z = some c := by
  have : z = 0 ∨ z = 1 ∨ z = 2 := by omega
  rcases this with rfl | rfl | rfl
  · exact ⟨_, rfl⟩
  · exact ⟨_, rfl⟩
  · exact ⟨_, rfl⟩
theorem ca_at {z : Int} (h0 : 0 ≤ z) (h1 : z < 2) : ∃ c : Str, atI ([.str "commit", .str "abort"] : List V) z = some (.str c) := by
  have : z = 0 ∨ z = 1 := by omega
  rcases this with rfl | rfl
  · exact ⟨_, rfl⟩
  · exact ⟨_, rfl⟩
theorem ok_sch {f fD : Addr} {fd dD : FuncData} {n : Nat} (F : Fun K "_law_schedule" "_law_schedule" sSch f fd) (GD : FnOk P w K mg base CX0 n fD dD ["_law_script", "_law_k", "_law_sizes"] (spDraw K)) (bD : Binds K dD ["_law_script", "_law_k", "_law_sizes"] []) (kD : PySem.W.keepIn K (.ref fD) = true) (mD : mg "_law_draw" = some (.ref fD))
    (mr : mg "range" = none) : FnOk P w K mg base CX0 (n + 1) f fd ["_law_script", "_law_k"] (spSch K) := by
  refine F.ok scSch (fun vs H Q E h => ?_) (fun cdv A outer s H vs Q E hr h => ?_)
  · obtain ⟨a, ns, k, rfl, _⟩ := h
    rfl
  obtain ⟨a, ns, k, rfl, ha, hk, q⟩ := h
  refine ⟨_, (pss_cons (ps_set (i := 2) scSch.nd rfl (Or.inl rfl) (pe_call GD hr (by rfl) mD kD bD .nil pass0 (pa_cons (pv 0) (pa_cons (pv 1) (pa_cons (pe_lst (pa_cons pe_int (pa_cons pe_int (pa_cons pe_int pa_nil)))) pa_nil)))))
      (pss_cons (ps_set (i := 3) scSch.nd rfl (Or.inl rfl) (pe_lst pa_nil))
      (pss_cons (ps_set (i := 4) scSch.nd rfl (Or.inl rfl) (pe_lst pa_nil))
      (pss_cons (ps_for PassesOwn.never rfl (pi_range1 (by rfl) mr (pa_cons (pe_op op_mul pe_int (pe_ix ix_list (pv 2) pe_int (fun _ _ => rfl))) pa_nil)) (pg_name (i := 5) scSch.nd rfl (Or.inl rfl))
      (pss_cons (ps_set (i := 6) scSch.nd rfl (Or.inl rfl) (pe_slice sl_list (pe_call GD hr (by rfl) mD kD bD .nil pass0 (pa_cons (pv 0) (pa_cons (pe_op op_add (pe_op op_add (pv 1) pe_int) (pe_op op_fdiv (pv 5) pe_int)) (pa_cons (pe_op op_rep (pe_lst (pa_cons pe_int (pa_cons pe_int (pa_cons pe_int pa_nil)))) pe_int) pa_nil)))) (po_some (pe_op op_mul pe_int (pe_op op_mod (pv 5) pe_int))) po_none))
      (pss_cons (ps_set (i := 7) scSch.nd rfl (Or.inl rfl) (pe_op op_add pe_int (pe_op op_mod (pe_ix ix_list (pv 6) pe_int (fun _ _ => rfl)) (pe_op op_add pe_int (pe_ix ix_list (pv 2) pe_int (fun _ _ => rfl))))))
      (pss_cons (ps_if (pt_cmpR (op_inM mir_int hr.units) (pv 7) (pv 4) rfl) (pss_one ps_continue) pss_nil)
      (pss_cons (ps_set (i := 8) scSch.nd rfl (Or.inl rfl) (pe_ix ix_str pe_str (pe_op op_mod (pe_ix ix_list (pv 6) pe_int (fun _ _ => rfl)) (pe_op op_add pe_int (pe_ix ix_list (pv 2) pe_int (fun _ _ => rfl)))) (fun _ _ => rfl)))
      (pss_one (ps_if (pt_cmpR op_lt (pe_ix ix_list (pv 6) pe_int (fun _ _ => rfl)) pe_int (nomark _)) (pss_one (ps_expr (pe_bm PySem.F.plainAttrs_list PySem.F.slot_list_append PySem.F.type_list_append mt_append (pv 3) (pa_cons (pe_tup (pa_cons pe_str (pa_cons (pv 7) (pa_cons (pv 8) pa_nil)))) pa_nil)))) (pss_one (ps_if (pt_cmpR op_lt (pe_ix ix_list (pv 6) pe_int (fun _ _ => rfl)) pe_int (nomark _)) (pss_one (ps_expr (pe_bm PySem.F.plainAttrs_list PySem.F.slot_list_append PySem.F.type_list_append mt_append (pv 3) (pa_cons (pe_tup (pa_cons pe_str (pa_cons (pv 7) (pa_cons (pv 8) pa_nil)))) pa_nil)))) (pss_cons (ps_expr (pe_bm PySem.F.plainAttrs_list PySem.F.slot_list_append PySem.F.type_list_append mt_append (pv 3) (pa_cons (pe_tup (pa_cons (pe_ix ix_list (pe_lst (pa_cons pe_str (pa_cons pe_str pa_nil))) (pe_op op_sub (pe_ix ix_list (pv 6) pe_int (fun _ _ => rfl)) pe_int) (fun _ _ => rfl)) (pa_cons (pv 7) pa_nil))) pa_nil)))
      (pss_one (ps_expr (pe_bm PySem.F.plainAttrs_list PySem.F.slot_list_append PySem.F.type_list_append mt_append (pv 4) (pa_cons (pv 7) pa_nil))))))))))))))
      (pss_one (ps_ret (pv 3))))))), ?_⟩
  -- head
  refine ⟨_, rfl, _, rfl, (by show 3 ≤ sizeLine; decide), fun b nb => ?_⟩
  have s0 : Same H (upd H b (.lst [.int 14, .int 4, .int 3])) := same_upd nb
  refine ⟨a, ns, k, b, [14, 4, 3], rfl, s0.seq ha, hk, upd_same, by decide, by decide, fun H1 hd ds s1 nhd ehd dr => ?_⟩
  obtain ⟨h0, h1, h2, rfl, ⟨a0, b0⟩, ⟨a1, b1⟩, ⟨a2, b2⟩⟩ := drawn3 dr
  have s01 := s0.trans s1
  refine ⟨Nat.zero_le _, fun o no => ?_⟩
  have s2 : Same H1 (upd H1 o (.lst [])) := same_upd no
  refine ⟨Nat.zero_le _, fun e ne => ?_⟩
  have s3 := s2.trans (same_upd (o := .lst []) ne)
  have noe : e ≠ o := fun h => by
    rw [h, upd_same] at ne
    cases ne
  have ne' : H1 e = none := s2.free ne
  have z0 : ([.int h0, .int h1, .int h2] : List V) = ([h0, h1, h2] : List Int).map V.int := rfl
  refine ⟨_, rfl, hd, _, _, _, rfl, rfl, .of (s3 _ _ ehd), atI_nat (j := 0) rfl, _, _, rfl, rfl, .inl ⟨by decide, by decide⟩, _, rfl, by omega, by omega, for_range (lo := 0) (n := (2 * h0).toNat)
    (fun i σ H' => ∃ (y5 y6 y7 y8 : Option V) (sc : List SOp) (en : List Int), σ = [some (.ref a), some (.int k), some (.ref hd), some (.ref o), some (.ref e), y5, y6, y7, y8] ∧ Same H1 H' ∧ LsV OpV H' o sc ∧ H' e = some (.lst (en.map V.int)) ∧ sc.length ≤ i ∧ en.length ≤ i ∧ ∀ p ∈ sc, 1 ≤ p.t ∧ p.t ≤ 5)
    ⟨_, _, _, _, [], [], rfl, s3, ⟨[], by rw [upd_ne noe.symm, upd_same], .nil⟩, upd_same, Nat.le_refl _, Nat.le_refl _, fun p hp => absurd hp (by simp)⟩ (fun i σ H' hi h => ?_) (fun σ H' h => ?_)⟩
  · obtain ⟨y5, y6, y7, y8, sc, en, rfl, sm, ho, he, hsl, hel, hsc⟩ := h
    have hi26 : i < 26 := by omega
    have hq : i % 14 < 14 := Nat.mod_lt _ (by decide)
    obtain ⟨y0, y1, y2⟩ := z42_at (i % 14) hq
    have sH := s01.trans sm
    -- the draw
    refine ⟨_, rfl, _, rfl, _, _, rfl, rfl, _, rfl, _, _, rfl, rfl, ⟨by decide, by decide⟩, _, _, rfl, rfl, (by show 3 ≤ sizeLine; decide), fun b2 nb2 => ?_⟩
    have s4 : Same H' (upd H' b2 (.lst [.int 5, .int 11, .int 3])) := same_upd nb2
    refine ⟨b2, 14, [.int 5, .int 11, .int 3], rfl, rfl, upd_same, by decide, by decide, (by show 3 * 14 ≤ sizeLine; decide), fun b3 nb3 => ?_⟩
    rw [z42_rep]
    have s5 := s4.trans (same_upd (o := .lst (z42.map V.int)) nb3)
    refine ⟨a, ns, _, b3, z42, rfl, (sH.trans s5).seq ha, by omega, upd_same, by decide, by decide, fun H2 r ds s6 nr er drw => ?_⟩
    have s456 := s5.trans s6
    refine ⟨_, rfl, _, _, rfl, rfl, (show (0 : Int) < 14 by decide), _, _, rfl, rfl, .inl ⟨by decide, by decide⟩, _, rfl, r, _, rfl, .of er, fun c nc => ?_⟩
    have hdl : ds.length = 42 := drw.1
    rw [cut_from (ds.map V.int) (i := 3 * (i % 14)) (by show 3 * ((0 + (i : Int)) % 14) = ((3 * (i % 14) : Nat) : Int); omega) (by rw [List.length_map]; omega)]
    have s7 : Same H2 (upd H2 c (.lst ((ds.map V.int).drop (3 * (i % 14))))) := same_upd nc
    generalize hH3 : upd H2 c (.lst ((ds.map V.int).drop (3 * (i % 14)))) = H3 at s7
    have ec : H3 c = some (.lst ((ds.map V.int).drop (3 * (i % 14)))) := by rw [← hH3, upd_same]
    have s47 := s456.trans s7
    have sm3 := sm.trans s47
    obtain ⟨d0, e0, p0, q0⟩ := drawn_at drw y0
    obtain ⟨d1, e1, p1, q1⟩ := drawn_at drw y1
    obtain ⟨d2, e2, p2, q2⟩ := drawn_at drw y2
    have g0 : ((ds.map V.int).drop (3 * (i % 14)))[0]? = some (.int d0) := by
      rw [List.getElem?_drop, List.getElem?_map, Nat.add_zero, e0]
      rfl
    have g1 : ((ds.map V.int).drop (3 * (i % 14)))[1]? = some (.int d1) := by
      rw [List.getElem?_drop, List.getElem?_map, e1]
      rfl
    have g2 : ((ds.map V.int).drop (3 * (i % 14)))[2]? = some (.int d2) := by
      rw [List.getElem?_drop, List.getElem?_map, e2]
      rfl
    have hh3 := sm3 _ _ ehd
    have ho3 := ops_same s47 ho
    have he3 := s47 _ _ he
    -- t
    refine ⟨_, rfl, c, _, _, _, rfl, rfl, .of ec, atI_nat (j := 0) g0, _, rfl, hd, _, _, _, rfl, rfl, .of hh3, atI_nat (j := 1) rfl, _, _, rfl, rfl, _, _, rfl, rfl, (show (0 : Int) < 2 + h1 by omega), _, _, rfl, rfl, ?_⟩
    have t1 : 1 ≤ 1 + d0 % (2 + h1) ∧ 1 + d0 % (2 + h1) ≤ 5 := by
      have := Int.emod_nonneg d0 (show 2 + h1 ≠ 0 by omega)
      have := Int.emod_lt_of_pos d0 (show 0 < 2 + h1 by omega)
      omega
    show tSeq _ _ _ (List.set _ 7 (some (.int (1 + d0 % (2 + h1))))) H3
    generalize 1 + d0 % (2 + h1) = tt at t1
    refine ⟨_, rfl, _, rfl, tt, e, en, rfl, rfl, ints_ls he3, _, rfl, ite2 (fun c1 => ?_) (fun c1 => ?_)⟩
    · exact ⟨_, _, _, _, sc, en, rfl, sm3, ho3, he3, by omega, by omega, hsc⟩
    -- item
    obtain ⟨it, hit⟩ := xyz_at (Int.emod_nonneg d2 (show 1 + h2 ≠ 0 by omega)) (show d2 % (1 + h2) < 3 by
      have := Int.emod_lt_of_pos d2 (show 0 < 1 + h2 by omega)
      omega)
    refine ⟨_, rfl, c, _, _, _, rfl, rfl, .of ec, atI_nat (j := 2) g2, _, rfl, hd, _, _, _, rfl, rfl, .of hh3, atI_nat (j := 2) rfl, _, _, rfl, rfl, _, _, rfl, rfl, (show (0 : Int) < 1 + h2 by omega), _, _, it, rfl, rfl, (by decide +kernel), hit, ?_⟩
    obtain ⟨acc, eo, pa⟩ := ho3
    have hal := pa.length
    have put : ∀ (Hx : Hp) (p : Addr) (op : SOp), Same H3 Hx → Hx p = some (.tup (opVs op)) → Same H1 (upd Hx o (.lst (acc ++ [.ref p]))) ∧ LsV OpV (upd Hx o (.lst (acc ++ [.ref p]))) o (sc ++ [op]) ∧ (upd Hx o (.lst (acc ++ [.ref p]))) e = some (.lst (en.map V.int)) := fun Hx p op sx hp => by
      have eox := sx _ _ eo
      have kp := TupKeep.lst (o := .lst (acc ++ [V.ref p])) eox
      refine ⟨same_wr (sm3.trans sx) no, ⟨_, upd_same, pd_append (ops_keep kp (ops_keep (.of sx) pa)) (.cons (OpV.keep kp ⟨p, rfl, hp⟩) .nil)⟩, ?_⟩
      rw [upd_ne noe]
      exact sx _ _ he3
    have more : ∀ (op : SOp), op.t = tt → ∀ p ∈ sc ++ [op], 1 ≤ p.t ∧ p.t ≤ 5 := fun op ht p hp => by
      rcases List.mem_append.mp hp with hp | hp
      · exact hsc p hp
      · have : p = op := by simpa using hp
        rw [this, ht]
        exact t1
    have lens : ∀ op : SOp, (sc ++ [op]).length ≤ i + 1 := fun op => by
      rw [List.length_append, List.length_singleton]
      omega
    refine ⟨_, rfl, c, _, _, _, rfl, rfl, .of ec, atI_nat (j := 1) g1, _, _, rfl, rfl, _, rfl, ite2 (fun c2 => ?_) (fun c2 => ?_)⟩
    · refine ⟨_, rfl, .inl ⟨rfl, _, SqL.of eo⟩, _, rfl, _, rfl, (by show 3 ≤ sizeLine; decide), fun p np => ?_⟩
      have s8 := same_upd (H := H3) (o := .tup [.str "read", .int tt, .str ⟨#[it]⟩]) np
      obtain ⟨r1, r2, r3⟩ := put _ p ⟨"read", tt, some ⟨#[it]⟩⟩ s8 upd_same
      exact ⟨o, acc, _, rfl, rfl, s8 _ _ eo, line_of (by omega), _, _, _, _, _, en, rfl, r1, r2, r3, lens _, by omega, more _ rfl⟩
    · refine ⟨_, rfl, c, _, _, _, rfl, rfl, .of ec, atI_nat (j := 1) g1, _, _, rfl, rfl, _, rfl, ite2 (fun c3 => ?_) (fun c3 => ?_)⟩
      · refine ⟨_, rfl, .inl ⟨rfl, _, SqL.of eo⟩, _, rfl, _, rfl, (by show 3 ≤ sizeLine; decide), fun p np => ?_⟩
        have s8 := same_upd (H := H3) (o := .tup [.str "write", .int tt, .str ⟨#[it]⟩]) np
        obtain ⟨r1, r2, r3⟩ := put _ p ⟨"write", tt, some ⟨#[it]⟩⟩ s8 upd_same
        exact ⟨o, acc, _, rfl, rfl, s8 _ _ eo, line_of (by omega), _, _, _, _, _, en, rfl, r1, r2, r3, lens _, by omega, more _ rfl⟩
      · have c3' : ¬ d1 < 9 := ofn c3
        obtain ⟨kd, hkd⟩ := ca_at (z := d1 - 9) (by omega) (by omega)
        refine ⟨_, rfl, .inl ⟨rfl, _, SqL.of eo⟩, (by show 2 ≤ sizeLine; decide), fun l nl => ?_⟩
        have s8 := same_upd (H := H3) (o := .lst [.str "commit", .str "abort"]) nl
        refine ⟨_, rfl, c, _, _, _, rfl, rfl, .of (s8 _ _ ec), atI_nat (j := 1) g1, _, _, rfl, rfl, l, _, _, _, rfl, rfl, .of upd_same, hkd, _, rfl, (by show 2 ≤ sizeLine; decide), fun p np => ?_⟩
        have s9 := s8.trans (same_upd (o := .tup [.str kd, .int tt]) np)
        obtain ⟨r1, r2, r3⟩ := put _ p ⟨kd, tt, none⟩ s9 upd_same
        refine ⟨o, acc, _, rfl, rfl, s9 _ _ eo, line_of (by omega), ?_⟩
        refine ⟨_, rfl, .inl ⟨rfl, _, SqL.of r3⟩, _, rfl, e, _, _, rfl, rfl, r3, ?_, ?_⟩
        · rw [List.length_map]
          exact line_of (by omega)
        obtain ⟨acc2, r4, r5⟩ := r2
        refine ⟨_, _, _, _, _, en ++ [tt], rfl, same_wr r1 ne', ⟨acc2, ?_, ops_keep (TupKeep.lst r3) r5⟩, ?_, lens _, ?_, more _ rfl⟩
        · rw [upd_ne noe.symm]
          exact r4
        · rw [upd_same, List.map_append]
          rfl
        · rw [List.length_append, List.length_singleton]
          omega
  · obtain ⟨y5, y6, y7, y8, sc, en, rfl, sm, ho, he, hsl, hel, hsc⟩ := h
    exact ⟨_, rfl, q H' o sc (s01.trans sm) (s01.free no) ho (by omega) hsc⟩
end
end K49
namespace K49
open PySem PySem.Spec PyProof.Rows L2
/-! ### the levels of the orders -/
def lev (ns : List Int) : Nat → List (List Int)
  | 0 => [[]]
  | k + 1 => stepO ns (lev ns k)
theorem itO_snoc (ns : List Int) : ∀ (k : Nat) (Ls : List (List Int)), itO ns (k + 1) Ls = stepO ns (itO ns k Ls)
  | 0, _ => rfl
  | k + 1, Ls => itO_snoc ns k (stepO ns Ls)
theorem lev_eq (ns : List Int) : ∀ k : Nat, lev ns k = itO ns k [[]]
  | 0 => rfl
  | k + 1 => by rw [itO_snoc, ← lev_eq ns k]; rfl
theorem stepO_len {ns : List Int} {n : Nat} (h : ns.length ≤ n) : ∀ Ls : List (List Int), (stepO ns Ls).length ≤ Ls.length * n
  | [] => by simp [stepO]
  | p :: Ls => by
    have h1 := stepO_len h Ls
    have h2 := List.length_filter_le (fun t => !decide (t ∈ p)) ns
    have e : stepO ns (p :: Ls) = ((ns.filter fun t => !decide (t ∈ p)).map fun t => p ++ [t]) ++ stepO ns Ls := by simp [stepO]
    rw [e, List.length_append, List.length_map, List.length_cons, Nat.succ_mul]
    omega
theorem lev_len {ns : List Int} (h : ns.length ≤ 4) : ∀ k : Nat, (lev ns k).length ≤ 4 ^ k
  | 0 => Nat.le_refl _
  | k + 1 => by
    have h1 := lev_len h k
    have h2 := stepO_len h (lev ns k)
    rw [Nat.pow_succ]
    exact Nat.le_trans h2 (Nat.mul_le_mul_right 4 h1)
theorem stepO_take (ns : List Int) {Ls : List (List Int)} {i : Nat} {p : List Int} (h : Ls[i]? = some p) : stepO ns (Ls.take (i + 1)) = stepO ns (Ls.take i) ++ ((ns.filter fun t => !decide (t ∈ p)).map fun t => p ++ [t]) := by
  rw [List.take_add_one, h, Option.toList_some]
  simp [stepO]
/-- lists of ints made since H0; such that stand elsewhere than at l -/
def IlF (H0 H : Hp) (v : V) (ns : List Int) : Prop := ∃ b, v = .ref b ∧ H0 b = none ∧ H b = some (.lst (ns.map V.int))
def IlA (H0 : Hp) (l : Addr) (H : Hp) (v : V) (ns : List Int) : Prop := ∃ b, v = .ref b ∧ H0 b = none ∧ b ≠ l ∧ H b = some (.lst (ns.map V.int))
theorem IlA.same {H0 : Hp} {l : Addr} {H H' : Hp} (k : Same H H') {v : V} {ns : List Int} (h : IlA H0 l H v ns) : IlA H0 l H' v ns := by
  obtain ⟨b, e, f, n, h⟩ := h
  exact ⟨b, e, f, n, k _ _ h⟩
theorem IlA.wr {H0 : Hp} {l : Addr} {H : Hp} {o : HO} {v : V} {ns : List Int} (h : IlA H0 l H v ns) : IlA H0 l (upd H l o) v ns := by
  obtain ⟨b, e, f, n, h⟩ := h
  exact ⟨b, e, f, n, by rw [upd_ne n]; exact h⟩
theorem IlF.same {H0 H H' : Hp} (k : Same H H') {v : V} {ns : List Int} (h : IlF H0 H v ns) : IlF H0 H' v ns := by
  obtain ⟨b, e, f, h⟩ := h
  exact ⟨b, e, f, k _ _ h⟩
section
variable {P : Program} {w : World} {K : PySem.W.Frag} {mg : Str → Option Value} {base : Heap}
/-! ### _law_orders -/
theorem scOrds : FnScope ["_law_numbers", "_law_orders_here", "_law_turn", "_law_longer", "_law_order", "_law_t"] ["_law_numbers"] (defScope sOrds) := ⟨rfl, rfl, rfl, by decide +kernel, rfl, by decide +kernel, by decide +kernel⟩
def spOrds : Sp := fun vs H Q _ => ∃ (a : Addr) (ns : List Int), vs = [.ref a] ∧ H a = some (.lst (ns.map V.int)) ∧ ns.length ≤ 4 ∧ ∀ H' r, Same H H' → H r = none → LsV (IlF H) H' r (orders ns) → Q (.ref r) H'
theorem ok_ords {f : Addr} {fd : FuncData} {n : Nat} (F : Fun K "_law_orders" "_law_orders" sOrds f fd) (mr : mg "range" = none) (ml : mg "len" = none) (mL : mg "list" = none) : FnOk P w K mg base CX0 (n + 1) f fd ["_law_numbers"] spOrds := by
  refine F.ok scOrds (fun vs H Q E h => ?_) (fun cdv A outer s H vs Q E hr h => ?_)
  · obtain ⟨a, ns, rfl, _⟩ := h
    rfl
  obtain ⟨a, ns, rfl, ha, hnl, q⟩ := h
  refine ⟨_, (pss_cons (ps_set (i := 1) scOrds.nd rfl (Or.inl rfl) (pe_lst (pa_cons (pe_lst pa_nil) pa_nil)))
      (pss_cons (ps_for PassesOwn.never rfl (pi_range1 (by rfl) mr (pa_cons (pe_callB call_len_seq (by rfl) ml PySem.boot_len (pa_cons (pv 0) pa_nil)) pa_nil)) (pg_name (i := 2) scOrds.nd rfl (Or.inl rfl))
      (pss_cons (ps_set (i := 3) scOrds.nd rfl (Or.inl rfl) (pe_lst pa_nil))
      (pss_cons (ps_for PassesOwn.never rfl (pi_list (pe_callTy call_list_of (by rfl) mL (by decide +kernel) (pa_cons (pv 1) pa_nil))) (pg_name (i := 4) scOrds.nd rfl (Or.inl rfl))
      (pss_one (ps_for PassesOwn.never rfl (pi_list (pv 0)) (pg_name (i := 5) scOrds.nd rfl (Or.inl rfl))
      (pss_one (ps_if (pt_cmpR (op_notInM mir_int hr.units) (pv 5) (pv 4) rfl) (pss_one (ps_expr (pe_bm PySem.F.plainAttrs_list PySem.F.slot_list_append PySem.F.type_list_append mt_append (pv 3) (pa_cons (pe_op op_cat (pv 4) (pe_lst (pa_cons (pv 5) pa_nil))) pa_nil)))) pss_nil)))))
      (pss_one (ps_set (i := 1) scOrds.nd rfl (Or.inl rfl) (pv 3))))))
      (pss_one (ps_ret (pv 1))))), ?_⟩
  refine ⟨Nat.zero_le _, fun e ne => ?_⟩
  have s1 : Same H (upd H e (.lst [])) := same_upd ne
  refine ⟨(by show 1 ≤ sizeLine; decide), fun o no => ?_⟩
  have s2 := s1.trans (same_upd (o := .lst [.ref e]) no)
  have noe : e ≠ o := fun h => by
    rw [← h, upd_same] at no
    cases no
  refine ⟨_, rfl, a, _, rfl, .inl (SqL.of (s2 _ _ ha)), _, rfl, by rw [List.length_map]; omega, by rw [List.length_map]; omega, for_range (lo := 0) (n := (ns.map V.int).length)
    (fun k σ H' => ∃ (y2 y3 y4 y5 : Option V) (r : Addr), σ = [some (.ref a), some (.ref r), y2, y3, y4, y5] ∧ Same H H' ∧ H r = none ∧ LsV (IlF H) H' r (lev ns k))
    ⟨_, _, _, _, o, rfl, s2, s1.free no, ⟨[.ref e], upd_same, .cons ⟨e, rfl, ne, by rw [upd_ne noe, upd_same]; rfl⟩ .nil⟩⟩ (fun k σ H1 hk h => ?_) (fun σ H' h => ?_)⟩
  · obtain ⟨y2, y3, y4, y5, r, rfl, sm, nr, hr1⟩ := h
    rw [List.length_map] at hk
    have hll : (lev ns k).length ≤ 64 := Nat.le_trans (lev_len hnl k) (Nat.pow_le_pow_right (by decide) (show k ≤ 3 by omega))
    obtain ⟨vs, er, pr⟩ := hr1
    have hvl := pr.length
    refine ⟨Nat.zero_le _, fun l nl => ?_⟩
    have s3 : Same H1 (upd H1 l (.lst [])) := same_upd nl
    refine ⟨_, rfl, r, vs, rfl, .inl (SqL.of (s3 _ _ er)), fun c nc => ?_⟩
    have ncl : c ≠ l := fun h => by
      rw [h, upd_same] at nc
      cases nc
    have nc1 : H1 c = none := s3.free nc
    -- over the orders so far
    let J : Nat → Nat → List Int → L2.St → Hp → Prop := fun i m p σ H' => ∃ (y4 y5 : Option V), σ = [some (.ref a), some (.ref r), some (.int (0 + (k : Int))), some (.ref l), y4, y5] ∧ Same H1 H' ∧ H' c = some (.lst vs) ∧ ∃ acc, H' l = some (.lst acc) ∧ Paired (IlA H l H') acc (stepO ns ((lev ns k).take i) ++ (((ns.take m).filter fun t => !decide (t ∈ p)).map fun t => p ++ [t])) ∧ acc.length ≤ 4 * i + m
    refine ⟨c, rfl, ⟨_, SqL.of upd_same⟩, for_list (K := K) (a := c) (xs := vs) (fun i σ H' => J i 0 [] σ H') ⟨_, _, rfl, s3.trans (same_upd nc), upd_same, [], ?_, .nil, Nat.le_refl _⟩ (fun i σ H' _ h => ?_) (fun i v σ H' hv h => ?_) (fun σ H' h => ?_)⟩
    · rw [upd_ne ncl.symm, upd_same]
    · obtain ⟨_, _, _, _, ec, _⟩ := h
      exact SqL.of ec
    · obtain ⟨y4, y5, rfl, sm2, ec, acc, el, pl, hal⟩ := h
      obtain ⟨p, hp, b, rfl, hbf, hb⟩ := pd_get' pr hv
      have hi : i < 64 := by
        have := (List.getElem?_eq_some_iff.mp hp).1
        omega
      refine ⟨_, rfl, a, rfl, ⟨_, SqL.of (sm2 _ _ (sm _ _ ha))⟩, for_list (K := K) (a := a) (xs := ns.map V.int) (fun m σ H' => ∃ y5', J i m p (σ.set 4 none) H' ∧ σ = [some (.ref a), some (.ref r), some (.int (0 + (k : Int))), some (.ref l), some (.ref b), y5'])
        ⟨_, ⟨_, _, rfl, sm2, ec, acc, el, pl, hal⟩, rfl⟩ (fun m σ H2 _ h => ?_) (fun m u σ H2 hu h => ?_) (fun σ H2 h => ?_)⟩
      · obtain ⟨_, ⟨_, _, _, sm3, _⟩, _⟩ := h
        exact SqL.of (sm3 _ _ (sm _ _ ha))
      · obtain ⟨y5', ⟨_, _, _, sm3, ec3, acc3, el3, pl3, hal3⟩, rfl⟩ := h
        obtain ⟨t, ht, rfl⟩ := pd_get' (ints_pd (H := H) ns) hu
        have hm : m < 4 := by
          have := (List.getElem?_eq_some_iff.mp ht).1
          omega
        have hb3 := sm3 _ _ hb
        refine ⟨_, rfl, _, rfl, t, b, p, rfl, rfl, ints_ls hb3, _, rfl, ite2 (fun c1 => ?_) (fun c1 => ?_)⟩
        · refine ⟨_, rfl, .inl ⟨rfl, _, SqL.of el3⟩, _, rfl, _, rfl, (by show 1 ≤ sizeLine; decide), fun d nd => ?_⟩
          have s4 : Same H2 (upd H2 d (.lst [.int t])) := same_upd nd
          refine ⟨b, d, _, _, rfl, rfl, s4 _ _ hb3, upd_same, ?_, fun x nx => ?_⟩
          · rw [List.length_map, List.length_singleton]
            have hpl : p.length ≤ 1000 := by
              have h1 : p ∈ itO ns k [[]] := by
                rw [← lev_eq]
                exact List.mem_of_getElem? hp
              obtain ⟨q', e1, e2, _⟩ := itO_mem ns k [] p h1
              have e1 : p = q' := e1
              rw [e1, e2]
              omega
            exact Nat.le_of_lt (line_of (by omega))
          have s5 := s4.trans (same_upd (o := .lst (p.map V.int ++ [.int t])) nx)
          have el5 := s5 _ _ el3
          have nxl : x ≠ l := fun h => by
            rw [h, s4 _ _ el3] at nx
            cases nx
          refine ⟨l, acc3, _, rfl, rfl, el5, line_of (by omega), _, ⟨_, _, rfl, same_wr (sm3.trans s5) nl, ?_, acc3 ++ [.ref x], upd_same, ?_, ?_⟩, rfl⟩
          · rw [upd_ne ncl]
            exact s5 _ _ ec3
          · rw [take_filter ht, if_pos c1, List.map_append, ← List.append_assoc]
            refine pd_append (pl3.mono fun _ _ h => (h.same s5).wr) (.cons (IlA.wr ⟨x, rfl, sm.free (sm3.free (s4.free nx)), nxl, ?_⟩) .nil)
            rw [upd_same, List.map_append]
            rfl
          · rw [List.length_append, List.length_singleton]
            omega
        · refine ⟨_, ⟨_, _, rfl, sm3, ec3, acc3, el3, ?_, by omega⟩, rfl⟩
          rw [take_filter ht, if_neg c1, List.append_nil]
          exact pl3
      · obtain ⟨y5', ⟨_, _, _, sm3, ec3, acc3, el3, pl3, hal3⟩, rfl⟩ := h
        rw [List.length_map, List.take_length] at pl3
        rw [List.length_map] at hal3
        refine ⟨_, _, rfl, sm3, ec3, acc3, el3, ?_, by omega⟩
        rw [stepO_take ns hp]
        simpa using pl3
    · obtain ⟨y4, y5, rfl, sm2, ec, acc, el, pl, hal⟩ := h
      refine ⟨_, rfl, _, _, _, _, l, rfl, sm.trans sm2, sm.free nl, acc, el, ?_⟩
      rw [hvl, List.take_length] at pl
      have pl' : Paired (IlA H l H') acc (stepO ns (lev ns k)) := by simpa using pl
      exact pl'.mono fun _ _ ⟨b, e, f, _, h⟩ => ⟨b, e, f, h⟩
  · obtain ⟨y2, y3, y4, y5, r, rfl, sm, nr, hr1⟩ := h
    rw [List.length_map, lev_eq] at hr1
    exact ⟨_, rfl, q H' r sm nr hr1⟩
end
end K49
namespace K49
open PySem PySem.Spec PyProof.Rows L2
/-! ### what the law wants besides -/
noncomputable def dT (g : List (Int × Int)) (o : List Int) : Bool := @decide (Topo g o) (Classical.propDecidable _)
theorem dT_iff {g : List (Int × Int)} {o : List Int} : dT g o = true ↔ Topo g o := ⟨fun h => ofd h, fun h => @decide_eq_true _ (Classical.propDecidable _) h⟩
theorem cut_last (xs : List V) : cutV xs none (some (-1)) = xs.dropLast := by
  unfold cutV
  rw [HT.sIx_none, List.drop_zero, Nat.sub_zero]
  have : HT.sIx xs.length xs.length (some (-1)) = xs.length - 1 := by
    show (if (-1 : Int) < 0 then ((-1 : Int) + (xs.length : Int)).toNat else min (-1 : Int).toNat xs.length) = _
    rw [if_pos (by decide)]
    omega
  rw [this, List.dropLast_eq_take]
theorem tr_len {ns : List Int} {s : List SOp} (h : IsTr ns s) (hs : ∀ o ∈ s, 1 ≤ o.t ∧ o.t ≤ 5) : ns.length ≤ 5 := by
  refine nodup_sub_len (m := [1, 2, 3, 4, 5]) (asc_nodup h.1) fun x hx => ?_
  obtain ⟨o, ho, e⟩ := (h.2 x).mp hx
  have := hs o ho
  have : x = 1 ∨ x = 2 ∨ x = 3 ∨ x = 4 ∨ x = 5 := by omega
  simpa using this
theorem tr_drop {ns : List Int} {m : Int} {s : List SOp} (h : IsTr (ns ++ [m]) s) : IsTr ns (s.filter fun o => !decide (o.t = m)) := by
  obtain ⟨h1, h2⟩ := h
  rw [List.pairwise_append] at h1
  refine ⟨h1.1, fun t => ?_⟩
  constructor
  · intro ht
    obtain ⟨o, ho, e⟩ := (h2 t).mp (List.mem_append_left _ ht)
    have := h1.2.2 t ht m (by simp)
    exact ⟨o, List.mem_filter.mpr ⟨ho, by simp; omega⟩, e⟩
  · rintro ⟨o, ho, e⟩
    rw [List.mem_filter] at ho
    have hm : o.t ≠ m := by simpa using ho.2
    rcases List.mem_append.mp ((h2 t).mpr ⟨o, ho.1, e⟩) with h | h
    · exact h
    · have : t = m := by simpa using h
      exact absurd (e.trans this) hm
/-- two neighbors exchanged -/
theorem swap_alike {s o : List SOp} (h : Alike s o) {k : Nat} {x y : SOp} (hx : o[k]? = some x) (hy : o[k + 1]? = some y) : Alike s ((o.set k y).set (k + 1) x) := by
  have h1 : k + 1 < o.length := (List.getElem?_eq_some_iff.mp hy).1
  have e0 : o = o.take k ++ x :: y :: o.drop (k + 1 + 1) := by
    have e1 : o[k] = x := (List.getElem?_eq_some_iff.mp hx).2
    have e2 : o[k + 1] = y := (List.getElem?_eq_some_iff.mp hy).2
    rw [← e1, ← e2, ← List.drop_eq_getElem_cons h1, ← List.drop_eq_getElem_cons (by omega), List.take_append_drop]
  have hl : (o.take k).length = k := by
    rw [List.length_take]
    omega
  generalize o.take k = A at e0 hl
  generalize o.drop (k + 1 + 1) = B at e0
  subst e0
  have e3 : ((A ++ x :: y :: B).set k y).set (k + 1) x = A ++ y :: x :: B := by
    rw [List.set_append_right _ _ (by omega), hl, Nat.sub_self, List.set_cons_zero, List.set_append_right _ _ (by omega), hl]
    have : k + 1 - k = 1 := by omega
    rw [this]
    rfl
  rw [e3]
  intro p
  rw [h p]
  refine List.Perm.count_eq ?_ p
  exact List.Perm.append_left A (List.Perm.swap y x B)
theorem alike_refl (s : List SOp) : Alike s s := fun _ => rfl
theorem OptI.same {H H' : Hp} (k : Same H H') {v : V} {o : Option (List Int)} (h : OptI H v o) : OptI H' v o := by
  cases o with
  | none => exact h
  | some l => exact IlV.same k h
theorem optI_non {H : Hp} {v : V} {o : Option (List Int)} (h : OptI H v o) : decide (v = .non) = o.isNone := by
  cases o with
  | none => rw [show v = .non from h]; rfl
  | some l =>
    obtain ⟨a, rfl, _⟩ := h
    rfl
theorem rep12 : (List.replicate ((12 : Int).toNat) ([.int 26] : List V)).flatten = (List.replicate 12 (26 : Int)).map V.int := by decide
theorem ixn_nat {n j : Nat} {z : Int} (e : z = (j : Int)) (h : j < n) : ixN n z = some j := by
  subst e
  unfold ixN
  rw [if_pos (by omega), if_pos (by omega), Int.toNat_natCast]
theorem not_beq_self (b : Bool) : (!decide (V.bl b = V.bl b)) = false := by simp
/-! ### the law -/
abbrev lawN : List Str := ["_law_script", "_law_w", "_law_schedule_here", "_law_numbers", "_law_graph", "_law_order", "_law_ring", "_law_alike_here", "_law_other", "_law_turned", "_law_told", "_law_digits", "_law_j", "_law_k", "_law_op", "_law_t", "_law_u"]
theorem scLaw : FnScope lawN ["_law_script"] (defScope sLaw) := ⟨rfl, rfl, rfl, by decide +kernel, rfl, by decide +kernel, by decide +kernel⟩
def spLaw (K : PySem.W.Frag) : Sp := fun vs H Q _ => ∃ (a : Addr) (ns : List Int), vs = [.ref a] ∧ SqL K H a (ns.map V.int) ∧ ns.length ≤ 63 ∧ ∀ H', Q (.bl true) H'
section
variable {P : Program} {w : World} {K : PySem.W.Frag} {mg : Str → Option Value} {base : Heap}
set_option maxHeartbeats 4000000 in
theorem ok_law {f fWa fSc fTr fGr fSo fRi fOr fCe fSe fDr fAl : Addr} {fd dWa dSc dTr dGr dSo dRi dOr dCe dSe dDr dAl : FuncData} (F : Fun K "law" "law" sLaw f fd)
    (FWa : Fun K "without_aborted" "without_aborted" sWa fWa dWa) (GWa : FnOk P w K mg base CX0 10 fWa dWa ["schedule"] spWa) (bWa : Binds K dWa ["schedule"] []) (mWa : mg "without_aborted" = some (.ref fWa))
    (FSc : Fun K "_law_schedule" "_law_schedule" sSch fSc dSc) (GSc : FnOk P w K mg base CX0 10 fSc dSc ["_law_script", "_law_k"] (spSch K)) (bSc : Binds K dSc ["_law_script", "_law_k"] []) (mSc : mg "_law_schedule" = some (.ref fSc))
    (FTr : Fun K "transactions_of" "transactions_of" sTr fTr dTr) (GTr : FnOk P w K mg base CX0 10 fTr dTr ["schedule"] spTr) (bTr : Binds K dTr ["schedule"] []) (mTr : mg "transactions_of" = some (.ref fTr))
    (FGr : Fun K "conflict_graph" "conflict_graph" sGraph fGr dGr) (GGr : FnOk P w K mg base CX0 10 fGr dGr ["schedule"] spGraph) (bGr : Binds K dGr ["schedule"] []) (mGr : mg "conflict_graph" = some (.ref fGr))
    (FSo : Fun K "serial_order" "serial_order" sSerO fSo dSo) (GSo : FnOk P w K mg base CX0 10 fSo dSo ["schedule"] spSerO) (bSo : Binds K dSo ["schedule"] []) (mSo : mg "serial_order" = some (.ref fSo))
    (FRi : Fun K "ring_of" "ring_of" sRingOf fRi dRi) (GRi : FnOk P w K mg base CX0 10 fRi dRi ["schedule"] spRingOf) (bRi : Binds K dRi ["schedule"] []) (mRi : mg "ring_of" = some (.ref fRi))
    (FOr : Fun K "_law_orders" "_law_orders" sOrds fOr dOr) (GOr : FnOk P w K mg base CX0 10 fOr dOr ["_law_numbers"] spOrds) (bOr : Binds K dOr ["_law_numbers"] []) (mOr : mg "_law_orders" = some (.ref fOr))
    (FCe : Fun K "are_conflict_equivalent" "are_conflict_equivalent" sCe fCe dCe) (GCe : FnOk P w K mg base CX0 10 fCe dCe ["schedule", "other"] spCe) (bCe : Binds K dCe ["schedule", "other"] []) (mCe : mg "are_conflict_equivalent" = some (.ref fCe))
    (FSe : Fun K "serial_schedule" "serial_schedule" sSer fSe dSe) (GSe : FnOk P w K mg base CX0 10 fSe dSe ["schedule", "order"] spSer) (bSe : Binds K dSe ["schedule", "order"] []) (mSe : mg "serial_schedule" = some (.ref fSe))
    (FDr : Fun K "_law_draw" "_law_draw" sDraw fDr dDr) (GDr : FnOk P w K mg base CX0 10 fDr dDr ["_law_script", "_law_k", "_law_sizes"] (spDraw K)) (bDr : Binds K dDr ["_law_script", "_law_k", "_law_sizes"] []) (mDr : mg "_law_draw" = some (.ref fDr))
    (FAl : Fun K "_law_alike" "_law_alike" sAl fAl dAl) (GAl : FnOk P w K mg base CX0 10 fAl dAl ["_law_schedule_here", "_law_other"] spCe) (bAl : Binds K dAl ["_law_schedule_here", "_law_other"] []) (mAl : mg "_law_alike" = some (.ref fAl))
    (mr : mg "range" = none) (mMi : mg "min" = none) (ml : mg "len" = none) (mIs : mg "isinstance" = none) (mBo : mg "bool" = none) (mLi : mg "list" = none) (mMa : mg "max" = none) :
    FnOk P w K mg base CX0 11 f fd ["_law_script"] (spLaw K) := by
  refine F.ok scLaw (fun vs H Q E h => ?_) (fun cdv A outer s H vs Q E hr h => ?_)
  · obtain ⟨a, ns, rfl, _⟩ := h
    rfl
  obtain ⟨a, sc, rfl, ha, hsl, q⟩ := h
  refine ⟨_, (pss_cons (ps_for PassesOwn.never rfl (pi_range1 (by rfl) mr (pa_cons (pe_callB (call_min2 rfl) (by rfl) mMi (by decide +kernel) (pa_cons pe_int (pa_cons (pe_op op_add pe_int (pe_op op_fdiv (pe_callB call_len_seq (by rfl) ml PySem.boot_len (pa_cons (pv 0) pa_nil)) pe_int)) pa_nil))) pa_nil)) (pg_name (i := 1) scLaw.nd rfl (Or.inl rfl))
      (pss_cons (ps_set (i := 2) scLaw.nd rfl (Or.inl rfl) (pe_call GWa hr (by rfl) mWa FWa.kp bWa .nil pass0 (pa_cons (pe_call GSc hr (by rfl) mSc FSc.kp bSc .nil pass0 (pa_cons (pv 0) (pa_cons (pe_op op_mul pe_int (pv 1)) pa_nil))) pa_nil)))
      (pss_cons (ps_set (i := 3) scLaw.nd rfl (Or.inr rfl) (pe_call GTr hr (by rfl) mTr FTr.kp bTr .nil pass0 (pa_cons (pv 2) pa_nil)))
      (C8.pss_cut (ps_if (pt_cmpR op_gt (pe_callB call_len_seq (by rfl) ml PySem.boot_len (pa_cons (pv 3) pa_nil)) pe_int (nomark _)) (pss_cons (ps_setLc (i := 2) (own := [("_law_op", 14)]) (g := gName 14) (by rfl) scLaw.nd rfl rfl (sw_true rfl rfl rfl (by decide +kernel)) (pi_list (pv 2)) (blkOk_by (own := [("_law_op", 14)]) (N := lawN) (sc := defScope sLaw) (by decide +kernel))
        (fun _ _ _ _ _ => (pg_name (i := 14) scLaw.nd rfl (Or.inl rfl))) (fun _ _ _ _ _ => pts_one (pt_cmpR op_ne (pe_ix (ixt K) (pv 14) pe_int (fun _ _ => rfl)) (pe_ix (ixl K) (pv 3) (pe_un un_neg pe_int) (fun _ _ => rfl)) (nomark _))) (fun _ _ _ _ _ => (pv 14)))
      (pss_one (ps_set (i := 3) scLaw.nd rfl (Or.inr rfl) (pe_slice sl_list (pv 3) po_none (po_some (pe_un un_neg pe_int)))))) pss_nil)
      (pss_cons (ps_set (i := 4) scLaw.nd rfl (Or.inl rfl) (pe_call GGr hr (by rfl) mGr FGr.kp bGr .nil pass0 (pa_cons (pv 2) pa_nil)))
      (pss_cons (ps_set (i := 5) scLaw.nd rfl (Or.inl rfl) (pe_call GSo hr (by rfl) mSo FSo.kp bSo .nil pass0 (pa_cons (pv 2) pa_nil)))
      (pss_cons (ps_set (i := 6) scLaw.nd rfl (Or.inl rfl) (pe_call GRi hr (by rfl) mRi FRi.kp bRi .nil pass0 (pa_cons (pv 2) pa_nil)))
      (pss_cons (ps_if (pt_cmpR op_ne (pe_cmpR op_isN (pv 5) pe_non (nomark _)) (pe_cmpR op_notN (pv 6) pe_non (nomark _)) (nomark _)) (pss_one (ps_ret pe_bl)) pss_nil)
      (pss_cons (ps_set (i := 7) scLaw.nd rfl (Or.inl rfl) (pe_lst pa_nil))
      (pss_cons (ps_for PassesOwn.never rfl (pi_list (pe_call GOr hr (by rfl) mOr FOr.kp bOr .nil pass0 (pa_cons (pv 3) pa_nil))) (pg_name (i := 8) scLaw.nd rfl (Or.inr rfl))
      (pss_cons (ps_setLc (i := 9) (own := [("_law_t", 15), ("_law_u", 16)]) (g := gTup K 2 (gCons (gName 15) (gCons (gName 16) gNil))) (by rfl) scLaw.nd rfl rfl (sw_true rfl rfl rfl (by decide +kernel)) (pi_list (pv 4)) (blkOk_by (own := [("_law_t", 15), ("_law_u", 16)]) (N := lawN) (sc := defScope sLaw) (by decide +kernel))
        (fun _ _ _ _ _ => (pg_tup rfl (pgs_cons (pg_name (i := 15) scLaw.nd rfl (Or.inl rfl)) (pgs_cons (pg_name (i := 16) scLaw.nd rfl (Or.inl rfl)) pgs_nil)))) (fun _ _ _ _ _ => pts_one (pt_cmpR op_gt (bm K PySem.F.plainAttrs_list PySem.F.slot_list_index PySem.F.type_list_index (mt_indexM mir_int hr.units) (pv 8) (pa_cons (pv 15) pa_nil)) (bm K PySem.F.plainAttrs_list PySem.F.slot_list_index PySem.F.type_list_index (mt_indexM mir_int hr.units) (pv 8) (pa_cons (pv 16) pa_nil)) (nomark _))) (fun _ _ _ _ _ => pe_int))
      (pss_cons (ps_set (i := 10) scLaw.nd rfl (Or.inl rfl) (pe_call GCe hr (by rfl) mCe FCe.kp bCe .nil pass0 (pa_cons (pv 2) (pa_cons (pe_call GSe hr (by rfl) mSe FSe.kp bSe .nil pass0 (pa_cons (pv 2) (pa_cons (pv 8) pa_nil))) pa_nil))))
      (pss_cons (ps_if (PW.pt (pw_or (pt_not (pt_val (pe_callB call_isi (by rfl) mIs (by decide +kernel) (pa_cons (pv 10) (pa_cons (pe_bltn (by rfl) mBo (by decide +kernel) (v := .ty "bool") (u := .type "bool") rfl) pa_nil))))) (pw_or1 (pt_cmpR op_ne (pv 10) (pe_cmpR op_eq (pe_callB call_len_seq (by rfl) ml PySem.boot_len (pa_cons (pv 9) pa_nil)) pe_int (nomark _)) (nomark _))))) (pss_one (ps_ret pe_bl)) pss_nil)
      (pss_one (ps_if (pt_val (pv 10)) (pss_one (ps_expr (pe_bm PySem.F.plainAttrs_list PySem.F.slot_list_append PySem.F.type_list_append mt_append (pv 7) (pa_cons (pv 8) pa_nil)))) pss_nil))))))
      (C8.pss_cut (ps_if (PW.pt (pw_or (pt_cmpR op_ne (pe_cmpR op_isN (pv 5) pe_non (nomark _)) (pe_cmpR op_eq (pe_callB call_len_seq (by rfl) ml PySem.boot_len (pa_cons (pv 7) pa_nil)) pe_int (nomark _)) (nomark _)) (pw_or1 (PW.pt (pw_and (pt_cmpR op_notN (pv 5) pe_non (nomark _)) (pw_and1 (pt_cmpR (op_neM mir_il hr.units) (pv 5) (pe_ix ix_list (pv 7) pe_int (fun _ _ => rfl)) (nomark _)))))))) (pss_one (ps_ret pe_bl)) pss_nil)
      (pss_cons (ps_set (i := 8) scLaw.nd rfl (Or.inr rfl) (pe_callTy call_list_of (by rfl) mLi (by decide +kernel) (pa_cons (pv 2) pa_nil)))
      (pss_cons (ps_set (i := 11) scLaw.nd rfl (Or.inl rfl) (pe_call GDr hr (by rfl) mDr FDr.kp bDr .nil pass0 (pa_cons (pv 0) (pa_cons (pe_op op_add (pe_op op_mul pe_int (pv 1)) pe_int) (pa_cons (pe_op op_rep (pe_lst (pa_cons pe_int pa_nil)) pe_int) pa_nil)))))
      (pss_cons (ps_for PassesOwn.never rfl (pi_range1 (by rfl) mr (pa_cons pe_int pa_nil)) (pg_name (i := 12) scLaw.nd rfl (Or.inl rfl))
      (pss_cons (ps_set (i := 13) scLaw.nd rfl (Or.inl rfl) (pe_op op_mod (pe_ix ix_list (pv 11) (pv 12) (fun _ _ => rfl)) (pe_callB (call_max2 rfl) (by rfl) mMa (by decide +kernel) (pa_cons pe_int (pa_cons (pe_callB call_len_seq (by rfl) ml PySem.boot_len (pa_cons (pv 8) pa_nil)) pa_nil)))))
      (C8.pss_cut (ps_if (PW.pt (pw_and (pt_cmpR op_gt (pv 13) pe_int (nomark _)) (pw_and1 (pt_cmpR op_ne (pe_ix ix_tup (pe_ix ix_list (pv 8) (pe_op op_sub (pv 13) pe_int) (fun _ _ => rfl)) pe_int (fun _ _ => rfl)) (pe_ix ix_tup (pe_ix ix_list (pv 8) (pv 13) (fun _ _ => rfl)) pe_int (fun _ _ => rfl)) (nomark _))))) (pss_one (ps_asg (pe_tup (pa_cons (pe_ix ix_list (pv 8) (pv 13) (fun _ _ => rfl)) (pa_cons (pe_ix ix_list (pv 8) (pe_op op_sub (pv 13) pe_int) (fun _ _ => rfl)) pa_nil))) (pg_tup rfl (pgs_cons (pg_sub (pv 8) (pe_op op_sub (pv 13) pe_int) set_list) (pgs_cons (pg_sub (pv 8) (pv 13) set_list) pgs_nil))))) pss_nil)
      (pss_cons (ps_set (i := 10) scLaw.nd rfl (Or.inl rfl) (pe_call GCe hr (by rfl) mCe FCe.kp bCe .nil pass0 (pa_cons (pv 2) (pa_cons (pe_callTy call_list_of (by rfl) mLi (by decide +kernel) (pa_cons (pv 8) pa_nil)) pa_nil))))
      (pss_one (ps_if (PW.pt (pw_or (pt_not (pt_val (pe_callB call_isi (by rfl) mIs (by decide +kernel) (pa_cons (pv 10) (pa_cons (pe_bltn (by rfl) mBo (by decide +kernel) (v := .ty "bool") (u := .type "bool") rfl) pa_nil))))) (pw_or1 (pt_cmpR op_ne (pv 10) (pe_call GAl hr (by rfl) mAl FAl.kp bAl .nil pass0 (pa_cons (pv 2) (pa_cons (pv 8) pa_nil))) (nomark _))))) (pss_one (ps_ret pe_bl)) pss_nil))))))
      (pss_one (ps_if (pt_cmpR op_notN (pv 6) pe_non (nomark _)) (pss_one (ps_for PassesOwn.never rfl (pi_range1 (by rfl) mr (pa_cons (pe_callB call_len_seq (by rfl) ml PySem.boot_len (pa_cons (pv 6) pa_nil)) pa_nil)) (pg_name (i := 13) scLaw.nd rfl (Or.inl rfl))
      (pss_one (ps_if (pt_cmpR (op_notInM mir_pr hr.units) (pe_tup (pa_cons (pe_ix ix_list (pv 6) (pe_op op_sub (pv 13) pe_int) (fun _ _ => rfl)) (pa_cons (pe_ix ix_list (pv 6) (pv 13) (fun _ _ => rfl)) pa_nil))) (pv 4) rfl) (pss_one (ps_ret pe_bl)) pss_nil)))) pss_nil))))))))))))))))
      (pss_one (ps_ret pe_bl))), ?_⟩
  refine ⟨_, rfl, a, _, rfl, .inl ha, _, _, rfl, rfl, ⟨by decide, by decide⟩, _, _, rfl, rfl, 3, _, rfl, _, rfl, ?_, ?_, ?_⟩
  · split <;> omega
  · split <;> omega
  refine for_range (lo := 0) (n := _) (fun i σ H' => ∃ (y1 y2 y3 y4 y5 y6 y7 y8 y9 y10 y11 y12 y13 y14 y15 y16 : Option V), σ = [some (.ref a), y1, y2, y3, y4, y5, y6, y7, y8, y9, y10, y11, y12, y13, y14, y15, y16] ∧ Same H H')
    ⟨_, _, _, _, _, _, _, _, _, _, _, _, _, _, _, _, rfl, .refl _⟩ (fun i σ H0 hi h => ?_) (fun σ H' _ => q H')
  obtain ⟨y1, y2, y3, y4, y5, y6, y7, y8, y9, y10, y11, y12, y13, y14, y15, y16, rfl, sH0⟩ := h
  -- the schedule, its numbers
  refine ⟨_, rfl, _, rfl, _, _, rfl, rfl, .inl ⟨by decide, by decide⟩, a, sc, _, rfl, sH0.seq ha, by omega, fun H1 r1 s0 t1 n1 hs0 hl26 ht5 => ?_⟩
  refine ⟨r1, s0, rfl, hs0, by omega, fun H2 h t2 n2 hh => ?_⟩
  have hwl := wa_len (ab := ("abort" : Str)) (s := s0)
  have hab0 := wa_noab (ab := ("abort" : Str)) (s := s0)
  have hws : ∀ o ∈ wa ("abort" : Str) s0, 1 ≤ o.t ∧ o.t ≤ 5 := fun o ho => ht5 o (wa_sub o ho)
  generalize wa ("abort" : Str) s0 = sw at hh hwl hab0 hws
  refine ⟨_, rfl, h, sw, rfl, hh, by omega, fun H3 nn ns0 t3 n3 hn htr0 => ?_⟩
  have sH3 : Same H H3 := sH0.trans (t1.trans (t2.trans t3))
  have hh3 := ops_same t3 hh
  refine ⟨fun σ' H' => ∃ (h nn : Addr) (s : List SOp) (ns : List Int), σ' = [some (.ref a), some (.int (0 + (i : Int))), some (.ref h), some (.ref nn), y4, y5, y6, y7, y8, y9, y10, y11, y12, y13, y14, y15, y16] ∧ Same H H' ∧ LsV OpV H' h s ∧ H' nn = some (.lst (ns.map V.int)) ∧ s.length ≤ 26 ∧ (∀ o ∈ s, o.k ≠ ("abort" : Str)) ∧ IsTr ns s ∧ ns.length ≤ 4, ?_, fun σ' H' hM => ?_⟩
  · refine ⟨_, rfl, nn, _, rfl, .inl (SqL.of hn), _, _, rfl, rfl, _, rfl, ite2 (fun c => ?_) (fun c => ?_)⟩
    · have c' := ofd c
      rw [List.length_map] at c'
      have h5 := tr_len htr0 hws
      have hne : ns0 ≠ [] := fun z => by
        subst z
        simp at c'
      obtain ⟨ns, m, rfl⟩ : ∃ ns m, ns0 = ns ++ [m] := ⟨ns0.dropLast, ns0.getLast hne, (List.dropLast_concat_getLast hne).symm⟩
      have hnm : H3 nn = some (.lst (ns.map V.int ++ [.int m])) := by
        rw [hn, List.map_append]
        rfl
      obtain ⟨vh, eh, ph⟩ := id hh3
      refine ⟨_, rfl, h, rfl, ⟨_, SqL.of eh⟩, fun D nD => lc_pure k_op k_op (fun o => !decide (o.t = m)) id hh3 (by omega) nD (fun i' o v H' hi' sm hv Qn Qa h0 h1 => ?_) (fun H4 t4 hD => ?_)⟩
      · have hv' := hv
        obtain ⟨p, rfl, hp⟩ := hv'
        refine ⟨rfl, _, rfl, p, _, 1, _, rfl, rfl, .of hp, op_at1 o, _, rfl, _, rfl, nn, _, _, _, rfl, rfl, .of (sm _ _ hnm), atI_last _ _, rfl, _, rfl, ?_⟩
        rw [dec_int_eq]
        exact ite2 (fun e => ⟨_, rfl, h1 e _ _ (.refl _) hv⟩) (fun e => h0 (Bool.eq_false_iff.mpr e))
      · rw [List.map_id] at hD
        refine ⟨_, rfl, _, rfl, _, rfl, nn, _, rfl, .of (t4 _ _ hnm), fun c nc => ?_⟩
        have ecut := cut_last (ns.map V.int ++ [.int m])
        rw [List.dropLast_concat] at ecut
        have t5 : Same H4 (upd H4 c (.lst (cutV (ns.map V.int ++ [.int m]) none (some (-1))))) := same_upd nc
        refine ⟨D, c, _, ns, rfl, sH3.trans (t4.trans t5), ops_same t5 hD, ?_, ?_, fun o ho => hab0 o (List.mem_filter.mp ho).1, tr_drop htr0, ?_⟩
        · show (upd H4 c (.lst (cutV (ns.map V.int ++ [.int m]) none (some (-1))))) c = _
          rw [upd_same, ecut]
        · exact Nat.le_trans (List.length_filter_le _ _) (by omega)
        · rw [List.length_append, List.length_singleton] at h5
          omega
    · have c' := ofn c
      rw [List.length_map] at c'
      exact ⟨h, nn, sw, ns0, rfl, sH3, hh3, hn, by omega, hab0, htr0, by omega⟩
  clear hh hh3 hn htr0 hws hab0 hwl t3 sH3 H3 n3 t2 n2 H2 hs0 hl26 ht5
  obtain ⟨h, nn, s, ns, rfl, sH, hs, hn, hsl26, hab, htr, hnl⟩ := hM
  -- graph, order, ring
  refine ⟨_, rfl, h, s, rfl, hs, by omega, fun H1 gr g t1 n1 hg hgl hG => ?_⟩
  rw [wa_id hab] at hG
  refine ⟨_, rfl, h, s, ns, rfl, ops_same t1 hs, by omega, hab, htr, by omega, fun H2 v5 t2 h5 => ?_⟩
  have h5 := h5 g hG
  refine ⟨_, rfl, h, s, ns, rfl, ops_same (t1.trans t2) hs, by omega, hab, htr, by omega, fun H3 v6 r t3 h6 hrl hr6 => ?_⟩
  obtain ⟨rc, rn⟩ := hr6 g hG
  have W := whole (gr_parts hG htr) rc rn (dT g) (fun o _ => dT_iff)
  have t13 := t1.trans (t2.trans t3)
  have sH3 := sH.trans t13
  have hs3 := ops_same t13 hs
  have hg3 := prs_same (t2.trans t3) hg
  have hn3 := t13 _ _ hn
  have h53 := h5.same t3
  have e56 : decide (v5 = V.non) = !decide (v6 = V.non) := by
    rw [optI_non h53, optI_non h6]
    rcases W with ⟨w1, w2, _⟩ | ⟨o, w1, w2, _⟩
    · rw [w1]
      cases r with
      | none => exact absurd rfl w2
      | some x => rfl
    · rw [w1, w2]
      rfl
  clear h5 hg hn hs t1 t2 t3 t13 n1 hr6 rn
  refine ⟨_, rfl, rfl, _, rfl, rfl, rfl, _, rfl, ?_⟩
  rw [e56, not_beq_self]
  refine iteF ⟨Nat.zero_le _, fun al nal => ?_⟩
  -- over all orders
  have t4 : Same H3 (upd H3 al (.lst [])) := same_upd nal
  generalize hH4 : upd H3 al (.lst []) = H4 at t4
  have eal4 : H4 al = some (.lst []) := by rw [← hH4, upd_same]
  refine ⟨_, rfl, nn, ns, rfl, t4 _ _ hn3, hnl, fun H5 ro t5 nro hro => ?_⟩
  obtain ⟨vs, ero, pro⟩ := hro
  have nral : ro ≠ al := fun z => by
    rw [z, eal4] at nro
    cases nro
  have pro2 : Paired (IlA H4 al H5) vs (orders ns) := pro.mono fun v o ⟨b, e1, e2, e3⟩ => ⟨b, e1, e2, (fun z => by
    rw [z, eal4] at e2
    cases e2), e3⟩
  have hvl := pro.length
  have hol : (orders ns).length ≤ 1000 := by
    have h1 := lev_len hnl ns.length
    rw [lev_eq] at h1
    exact Nat.le_trans h1 (Nat.le_trans (Nat.pow_le_pow_right (by decide) hnl) (by decide))
  refine ⟨ro, rfl, ⟨_, SqL.of ero⟩, for_list (K := K) (a := ro) (xs := vs)
    (fun k σ H' => ∃ (y8 y9 y10 y11 y12 y13 y14 y15 y16 : Option V) (acc : List V), σ = [some (.ref a), some (.int (0 + (i : Int))), some (.ref h), some (.ref nn), some (.ref gr), some v5, some v6, some (.ref al), y8, y9, y10, y11, y12, y13, y14, y15, y16] ∧ Same H3 H' ∧ H' ro = some (.lst vs) ∧ Paired (IlA H4 al H') vs (orders ns) ∧ H' al = some (.lst acc) ∧ Paired (IlA H4 al H') acc (((orders ns).take k).filter (dT g)) ∧ acc.length ≤ k)
    ⟨_, _, _, _, _, _, _, _, _, [], rfl, t4.trans t5, ero, pro2, t5 _ _ eal4, .nil, Nat.le_refl _⟩ (fun k σ H' _ h => ?_) (fun k v σ H' hv h => ?_) (fun σ H' h => ?_)⟩
  · obtain ⟨_, _, _, _, _, _, _, _, _, _, _, _, er, _⟩ := h
    exact SqL.of er
  · obtain ⟨y8, y9, y10, y11, y12, y13, y14, y15, y16, acc, rfl, sm, er, pr, eal, pa, hacc⟩ := h
    obtain ⟨o, ho, b, rfl, fb, nb, hb⟩ := pd_get' pr hv
    obtain ⟨ond, omem, olen⟩ := orders_mem (List.mem_of_getElem? ho)
    have hk : k < (orders ns).length := (List.getElem?_eq_some_iff.mp ho).1
    have hP := gr_parts hG htr
    have hgk := prs_same sm hg3
    obtain ⟨vg, eg, pg⟩ := id hgk
    refine ⟨_, rfl, gr, rfl, ⟨_, SqL.of eg⟩, fun D nD => lc_pure (α := Int × Int) (β := Int) k_pr k_int (fun p => decide (((o.idxOf p.2 : Nat) : Int) < ((o.idxOf p.1 : Nat) : Int))) (fun _ => 1) hgk (by omega) nD (fun i' p v H6 hi' sm6 hv Qn Qa h0 h1 => ?_) (fun H6 t6 hD => ?_)⟩
    · obtain ⟨t, rfl, ht⟩ := hv
      have hpm := hP.mem p (List.mem_of_getElem? hi')
      have hb6 := sm6 _ _ hb
      refine ⟨t, _, rfl, .of ht, rfl, _, _, rfl, _, _, rfl, rfl, rfl, ?_⟩
      refine ⟨_, rfl, .inl ⟨rfl, _, SqL.of hb6⟩, _, rfl, b, _, p.1, o, rfl, rfl, ints_ls hb6, rfl, (omem _).mpr hpm.2, _, rfl, .inl ⟨rfl, _, SqL.of hb6⟩, _, rfl, b, _, p.2, o, rfl, rfl, ints_ls hb6, rfl, (omem _).mpr hpm.1, _, _, rfl, rfl, _, rfl, ?_⟩
      exact ite2 (fun e => h1 e _ _ (.refl _) rfl) (fun e => h0 (Bool.eq_false_iff.mpr e))
    have hD' := hD.ints
    have sm6 := sm.trans t6
    -- told
    have hs6 := ops_same sm6 hs3
    have hb6 := t6 _ _ hb
    refine ⟨_, rfl, _, rfl, _, rfl, h, b, s, o, rfl, hs6, hb6, by omega, by omega, fun H7 sr t7 nsr hsr => ?_⟩
    have hosub : ∀ p ∈ s, p.t ∈ o := fun p hp => (omem _).mpr ((htr.2 _).mpr ⟨p, hp, rfl⟩)
    refine ⟨h, sr, s, serial s o, rfl, ops_same t7 hs6, hsr, by omega, ?_, serial_alike ond hosub, fun H8 cb t8 hcb => ?_⟩
    · refine Nat.le_trans (serial_len s o) ?_
      exact Nat.le_trans (Nat.mul_le_mul hsl26 (show o.length ≤ 4 by omega)) (by decide)
    have hct : cb = dT g o := Bool.eq_iff_iff.mpr (hcb.trans ((noClash_serial hG ond hosub).trans dT_iff.symm))
    subst hct
    have t68 := t7.trans t8
    have hD8 := t68 _ _ hD'
    have elen : decide (V.int ((((g.filter fun p => decide (((o.idxOf p.2 : Nat) : Int) < ((o.idxOf p.1 : Nat) : Int))).map fun _ => (1 : Int)).map V.int).length : Nat) = V.int 0) = dT g o := by
      rw [dec_int_eq]
      refine (decT (b := dT g o) (dT_iff.trans ?_)).symm
      rw [List.length_map, List.length_map]
      constructor
      · intro hT
        rw [List.filter_eq_nil_iff.mpr fun p hp hc => hT p hp (by have := of_decide_eq_true hc; omega)]
        rfl
      · intro hl p hp hgt
        have h0 : (g.filter fun p => decide (((o.idxOf p.2 : Nat) : Int) < ((o.idxOf p.1 : Nat) : Int))) = [] := List.length_eq_zero_iff.mp (by omega)
        exact (List.filter_eq_nil_iff.mp h0 p hp) (decide_eq_true (by omega))
    refine ⟨_, rfl, _, _, _, _, true, rfl, .ty "bool", .base (.bl _), kit_ty (by decide +kernel), _, rfl, iteF ?_⟩
    refine ⟨_, rfl, _, rfl, D, _, rfl, .inl (SqL.of hD8), rfl, rfl, _, rfl, ?_⟩
    rw [elen, not_beq_self]
    refine iteF ⟨_, rfl, _, rfl, ?_⟩
    have eal8 := t68 _ _ (t6 _ _ eal)
    have t8all := t6.trans t68
    have sm8 := sm.trans t8all
    refine ite2 (fun c => ?_) (fun c => ?_)
    · refine ⟨_, rfl, .inl ⟨rfl, _, SqL.of eal8⟩, _, rfl, al, acc, _, rfl, rfl, eal8, line_of (by omega), ?_⟩
      refine ⟨_, _, _, _, _, _, _, _, _, acc ++ [.ref b], rfl, same_wr sm8 nal, ?_, pr.mono fun _ _ h => (h.same t8all).wr, upd_same, ?_, ?_⟩
      · rw [upd_ne nral]
        exact t8all _ _ er
      · rw [take_filter ho, if_pos c]
        refine pd_append (pa.mono fun _ _ h => (h.same t8all).wr) (.cons (IlA.wr ⟨b, rfl, fb, nb, t8all _ _ hb⟩) .nil)
      · rw [List.length_append, List.length_singleton]
        omega
    · refine ⟨_, _, _, _, _, _, _, _, _, acc, rfl, sm8, t8all _ _ er, pr.mono fun _ _ h => h.same t8all, eal8, ?_, by omega⟩
      rw [take_filter ho, if_neg c, List.append_nil]
      exact pa.mono fun _ _ h => h.same t8all
  -- the order is the first
  obtain ⟨y8, y9, y10, y11, y12, y13, y14, y15, y16, acc, rfl, sm, er, pr, eal, pa, hacc⟩ := h
  rw [hvl, List.take_length] at pa
  refine ⟨fun σ' H' => ∃ (y8 y9 y10 y11 y12 y13 y14 y15 y16 : Option V), σ' = [some (.ref a), some (.int (0 + (i : Int))), some (.ref h), some (.ref nn), some (.ref gr), some v5, some v6, some (.ref al), y8, y9, y10, y11, y12, y13, y14, y15, y16] ∧ Same H3 H', ?_, fun σ' Hx hM => ?_⟩
  · have h5m := h53.same sm
    have elen : decide (v5 = V.non) = decide (V.int (acc.length : Nat) = V.int 0) := by
      rw [dec_int_eq, optI_non h53, pa.length]
      rcases W with ⟨w1, _, w3⟩ | ⟨o, w1, _, w3⟩
      · rw [w1, w3]
        rfl
      · rw [w1]
        cases hf : (orders ns).filter (dT g) with
        | nil =>
          rw [hf] at w3
          cases w3
        | cons x y =>
          refine (decide_eq_false ?_).symm
          rw [List.length_cons]
          omega
    refine ⟨_, rfl, rfl, _, rfl, al, acc, rfl, .inl (SqL.of eal), rfl, rfl, _, rfl, ?_⟩
    rw [elen, not_beq_self]
    refine iteF ⟨_, rfl, rfl, _, rfl, ?_⟩
    rw [optI_non h53]
    rcases W with ⟨w1, _, w3⟩ | ⟨o, w1, _, w3⟩
    · rw [w1]
      exact iteF (iteF ⟨_, _, _, _, _, _, _, _, _, rfl, sm⟩)
    · rw [w1]
      refine iteT ?_
      rw [w1] at h5m
      cases hf : (orders ns).filter (dT g) with
      | nil =>
        rw [hf] at w3
        cases w3
      | cons x y =>
        rw [hf] at w3 pa
        have hxo : x = o := Option.some.inj w3
        subst hxo
        obtain ⟨z, hz, b, rfl, _, _, hb⟩ := pd_get (i := 0) pa rfl
        refine ⟨_, rfl, _, rfl, al, acc, _, _, rfl, rfl, .of eal, atI_nat (j := 0) hz, x, x, h5m, ⟨b, rfl, hb⟩, _, rfl, ?_⟩
        rw [decide_eq_true rfl]
        exact iteF ⟨_, _, _, _, _, _, _, _, _, rfl, sm⟩
  clear pa eal pr er hacc sm pro2 pro ero t5 nro
  obtain ⟨y8, y9, y10, y11, y12, y13, y14, y15, y16, rfl, sx⟩ := hM
  have hsx := ops_same sx hs3
  have sHx := sH3.trans sx
  obtain ⟨vh, eh, ph⟩ := id hsx
  -- neighbors exchanged
  refine ⟨_, rfl, h, vh, rfl, .inl (SqL.of eh), fun ot not => ?_⟩
  have u1 : Same Hx (upd Hx ot (.lst vh)) := same_upd not
  refine ⟨_, rfl, _, rfl, _, _, rfl, rfl, .inl ⟨by decide, by decide⟩, _, _, rfl, rfl, (by show 1 ≤ sizeLine; decide), fun b1 nb1 => ?_⟩
  have u2 := u1.trans (same_upd (o := .lst [.int 26]) nb1)
  refine ⟨b1, 12, [.int 26], rfl, rfl, upd_same, by decide, by decide, (by show 1 * 12 ≤ sizeLine; decide), fun b2 nb2 => ?_⟩
  rw [rep12]
  have u3 := u2.trans (same_upd (o := .lst ((List.replicate 12 (26 : Int)).map V.int)) nb2)
  have v3 := (same_upd (o := .lst [.int 26]) nb1).trans (same_upd (o := .lst ((List.replicate 12 (26 : Int)).map V.int)) nb2)
  refine ⟨a, sc, _, b2, List.replicate 12 26, rfl, (sHx.trans u3).seq ha, by omega, upd_same, by decide, by decide, fun H6 dg ds t6 ndg edg drw => ?_⟩
  have u6 := u3.trans t6
  have v6' := v3.trans t6
  have eot6 : H6 ot = some (.lst vh) := v6' _ _ upd_same
  have ndo : dg ≠ ot := fun z => by
    have z2 := v3 ot _ (upd_same (H := Hx) (a := ot) (o := .lst vh))
    rw [z, z2] at ndg
    cases ndg
  have hdl : ds.length = 12 := drw.1
  refine ⟨12, rfl, by decide, by decide, for_range (lo := 0) (n := 12)
    (fun j σ H' => ∃ (y9 y10 y12 y13 y14 y15 y16 : Option V) (vo : List V) (o : List SOp), σ = [some (.ref a), some (.int (0 + (i : Int))), some (.ref h), some (.ref nn), some (.ref gr), some v5, some v6, some (.ref al), some (.ref ot), y9, y10, some (.ref dg), y12, y13, y14, y15, y16] ∧ Same Hx H' ∧ H' dg = some (.lst (ds.map V.int)) ∧ H' ot = some (.lst vo) ∧ Paired (OpV H') vo o ∧ Alike s o ∧ o.length = s.length)
    ⟨_, _, _, _, _, _, _, vh, s, rfl, u6, edg, eot6, ops_keep (.of u6) ph, alike_refl s, rfl⟩ (fun j σ H' hj h => ?_) (fun σ H' h => ?_)⟩
  · obtain ⟨y9, y10, y12, y13, y14, y15, y16, vo, o, rfl, sm, ed, eo, po, hal, hol⟩ := h
    have zj : (0 : Int) + (j : Int) = (j : Int) := Int.zero_add _
    have hjd : ds[j]? = some ds[j] := List.getElem?_eq_getElem (by omega)
    have hvo := po.length
    refine ⟨_, rfl, _, rfl, dg, _, _, .int ds[j], rfl, rfl, .of ed, at_of zj (by rw [List.getElem?_map, hjd]; rfl), _, rfl, ot, vo, rfl, .inl (SqL.of eo), _, _, rfl, _, _, rfl, rfl, (show (0 : Int) < (if ((vo.length : Nat) : Int) > 1 then ((vo.length : Nat) : Int) else 1) by split <;> omega), ?_⟩
    have hM0 : (0 : Int) < (if ((vo.length : Nat) : Int) > 1 then ((vo.length : Nat) : Int) else 1) := by split <;> omega
    have k0 := Int.emod_nonneg ds[j] (show (if ((vo.length : Nat) : Int) > 1 then ((vo.length : Nat) : Int) else 1) ≠ 0 by omega)
    have k1 := Int.emod_lt_of_pos ds[j] hM0
    have k2 : 0 < ds[j] % (if ((vo.length : Nat) : Int) > 1 then ((vo.length : Nat) : Int) else 1) → ds[j] % (if ((vo.length : Nat) : Int) > 1 then ((vo.length : Nat) : Int) else 1) < (vo.length : Int) := fun hp => by
      split at k1 <;> rename_i hc
      · rw [if_pos hc]
        exact k1
      · rw [if_neg hc] at hp
        omega
    show C8.tCut _ _ _ (List.set _ 13 (some (.int (ds[j] % (if ((vo.length : Nat) : Int) > 1 then ((vo.length : Nat) : Int) else 1))))) H'
    generalize ds[j] % (if ((vo.length : Nat) : Int) > 1 then ((vo.length : Nat) : Int) else 1) = kk at k0 k2
    clear hM0 k1
    refine ⟨fun σ' H'' => ∃ (vo : List V) (o : List SOp), σ' = [some (.ref a), some (.int (0 + (i : Int))), some (.ref h), some (.ref nn), some (.ref gr), some v5, some v6, some (.ref al), some (.ref ot), y9, y10, some (.ref dg), some (.int (0 + (j : Int))), some (.int kk), y14, y15, y16] ∧ Same Hx H'' ∧ H'' dg = some (.lst (ds.map V.int)) ∧ H'' ot = some (.lst vo) ∧ Paired (OpV H'') vo o ∧ Alike s o ∧ o.length = s.length, ?_, fun σ' H'' hM => ?_⟩
    · refine ⟨_, rfl, _, _, rfl, rfl, _, rfl, ite2 (fun c => ?_) (fun c => ?_)⟩
      · have c' : 0 < kk := ofd c
        have k3 := k2 c'
        obtain ⟨m, hm⟩ : ∃ m : Nat, kk = ((m + 1 : Nat) : Int) := ⟨kk.toNat - 1, by omega⟩
        have hm1 : kk - 1 = (m : Int) := by omega
        have hml : m + 1 < vo.length := by omega
        obtain ⟨vx, hvx⟩ : ∃ v, vo[m]? = some v := ⟨vo[m], List.getElem?_eq_getElem (by omega)⟩
        obtain ⟨vy, hvy⟩ : ∃ v, vo[m + 1]? = some v := ⟨vo[m + 1], List.getElem?_eq_getElem hml⟩
        obtain ⟨ox, hox, rx⟩ := pd_get' po hvx
        obtain ⟨oy, hoy, ry⟩ := pd_get' po hvy
        obtain ⟨px, e1, hpx⟩ := id rx
        obtain ⟨py, e2, hpy⟩ := id ry
        subst e1 e2
        refine ⟨_, rfl, _, rfl, _, _, rfl, rfl, ot, vo, _, _, rfl, rfl, .of eo, at_of hm1 hvx, px, _, 1, _, rfl, rfl, .of hpx, op_at1 ox, _, rfl, _, rfl, ot, vo, _, _, rfl, rfl, .of eo, at_of hm hvy, py, _, 1, _, rfl, rfl, .of hpy, op_at1 oy, rfl, _, rfl, ite2 (fun c2 => ?_) (fun c2 => ?_)⟩
        · refine ⟨_, rfl, _, rfl, ot, vo, _, _, rfl, rfl, .of eo, at_of hm hvy, _, rfl, _, rfl, _, _, rfl, rfl, ot, vo, _, _, rfl, rfl, .of eo, at_of hm1 hvx, (by show 2 ≤ sizeLine; decide), fun t nt => ?_⟩
          have w1 : Same H' (upd H' t (.tup [.ref py, .ref px])) := same_upd nt
          have eo1 := w1 _ _ eo
          have et1 : (upd H' t (.tup [.ref py, .ref px])) t = some (.tup [.ref py, .ref px]) := upd_same
          generalize upd H' t (.tup [.ref py, .ref px]) = H1' at w1 eo1 et1
          refine ⟨t, _, rfl, .of et1, rfl, _, _, rfl, _, rfl, _, rfl, _, _, rfl, rfl, ot, vo, _, m, rfl, rfl, eo1, ixn_nat hm1 (by omega), ?_⟩
          have eo2 : (upd H1' ot (.lst (vo.set m (.ref py)))) ot = some (.lst (vo.set m (.ref py))) := upd_same
          refine ⟨_, _, rfl, _, rfl, _, rfl, ot, vo.set m (.ref py), _, m + 1, rfl, rfl, eo2, ixn_nat hm (by rw [List.length_set]; exact hml), rfl, ?_⟩
          have w2 := same_wr (o := .lst ((vo.set m (.ref py)).set (m + 1) (.ref px))) (same_wr (o := .lst (vo.set m (.ref py))) (sm.trans w1) not) not
          have kp1 : TupKeep H1' (upd (upd H1' ot (.lst (vo.set m (.ref py)))) ot (.lst ((vo.set m (.ref py)).set (m + 1) (.ref px)))) := (TupKeep.lst eo1).trans (TupKeep.lst eo2)
          have kp := (TupKeep.of w1).trans kp1
          refine ⟨(vo.set m (.ref py)).set (m + 1) (.ref px), (o.set m oy).set (m + 1) ox, rfl, w2, ?_, upd_same, pd_set _ (pd_set _ (ops_keep kp po) (ry.keep kp)) (rx.keep kp), swap_alike hal hox hoy, by rw [List.length_set, List.length_set]; exact hol⟩
          rw [upd_ne ndo, upd_ne ndo]
          exact w1 _ _ ed
        · exact ⟨vo, o, rfl, sm, ed, eo, po, hal, hol⟩
      · exact iteF ⟨vo, o, rfl, sm, ed, eo, po, hal, hol⟩
    clear hal po eo ed sm hol k2 k0 hvo hjd
    obtain ⟨vo, o, rfl, sm, ed, eo, po, hal, hol⟩ := hM
    have hs1 := ops_same sm hsx
    refine ⟨_, rfl, _, rfl, ot, vo, rfl, .inl (SqL.of eo), fun c nc => ?_⟩
    have w1 : Same H'' (upd H'' c (.lst vo)) := same_upd nc
    refine ⟨h, c, s, o, rfl, ops_same w1 hs1, ⟨vo, upd_same, ops_keep (.of w1) po⟩, by omega, by omega, hal, fun H8 cb w2 hcb => ?_⟩
    have w12 := w1.trans w2
    refine ⟨_, rfl, _, _, _, _, true, rfl, .ty "bool", .base (.bl _), kit_ty (by decide +kernel), _, rfl, iteF ?_⟩
    refine ⟨_, rfl, _, rfl, _, rfl, h, ot, s, o, rfl, ops_same w12 hs1, ⟨vo, w12 _ _ eo, ops_keep (.of w12) po⟩, by omega, by omega, hal, fun H9 cb2 w3 hcb2 => ?_⟩
    have ecb : cb = cb2 := Bool.eq_iff_iff.mpr (hcb.trans hcb2.symm)
    subst ecb
    refine ⟨rfl, _, rfl, ?_⟩
    rw [not_beq_self]
    have w13 := w12.trans w3
    exact iteF ⟨_, _, _, _, _, _, _, vo, o, rfl, sm.trans w13, w13 _ _ ed, w13 _ _ eo, ops_keep (.of w13) po, hal, hol⟩
  -- the ring
  obtain ⟨y9, y10, y12, y13, y14, y15, y16, vo, o, rfl, sm, ed, eo, po, hal, hol⟩ := h
  have sHf := sHx.trans sm
  have h6f := h6.same (sx.trans sm)
  have hgf := prs_same (sx.trans sm) hg3
  refine ⟨_, rfl, rfl, _, rfl, ?_⟩
  rw [optI_non h6]
  cases r with
  | none => exact iteF ⟨_, _, _, _, _, _, _, _, _, _, _, _, _, _, _, _, rfl, sHf⟩
  | some row =>
    refine iteT ?_
    have hcyc := rc row rfl
    obtain ⟨br, rfl, hbr⟩ := h6f
    have hrow := hrl row rfl
    refine ⟨_, rfl, br, _, rfl, .inl (SqL.of hbr), _, rfl, by rw [List.length_map]; omega, by rw [List.length_map]; omega, for_range (lo := 0) (n := (row.map V.int).length)
      (fun k σ H2 => ∃ (y13 : Option V), σ = [some (.ref a), some (.int (0 + (i : Int))), some (.ref h), some (.ref nn), some (.ref gr), some v5, some (.ref br), some (.ref al), some (.ref ot), y9, y10, some (.ref dg), y12, y13, y14, y15, y16] ∧ Same H' H2)
      ⟨_, rfl, .refl _⟩ (fun k σ H2 hk h => ?_) (fun σ H2 h => ?_)⟩
    · obtain ⟨y13, rfl, w1⟩ := h
      rw [List.length_map] at hk
      have zk : (0 : Int) + (k : Int) = (k : Int) := Int.zero_add _
      have hb2 := w1 _ _ hbr
      have e2 : row[k]? = some row[k] := List.getElem?_eq_getElem hk
      obtain ⟨x, hx, hxg⟩ : ∃ x, atI (row.map V.int) (0 + (k : Int) - 1) = some (.int x) ∧ (x, row[k]) ∈ g := by
        cases k with
        | zero =>
          refine ⟨lastI row, at_last hcyc.1, ?_⟩
          have : row[0] = headI row := by
            cases row with
            | nil => exact absurd rfl hcyc.1
            | cons a b => rfl
          rw [this]
          exact hcyc.2.2
        | succ k =>
          have e1 : row[k]? = some row[k] := List.getElem?_eq_getElem (by omega)
          exact ⟨row[k], at_of (j := k) (by omega) (by rw [List.getElem?_map, e1]; rfl), cyc_pair hcyc.2.1 k _ _ e1 e2⟩
      refine ⟨_, rfl, _, rfl, _, _, rfl, rfl, br, _, _, _, rfl, rfl, .of hb2, hx, _, rfl, _, rfl, br, _, _, _, rfl, rfl, .of hb2, at_of zk (by rw [List.getElem?_map, e2]; rfl), (by show 2 ≤ sizeLine; decide), fun t nt => ?_⟩
      have w2 : Same H2 (upd H2 t (.tup [.int x, .int row[k]])) := same_upd nt
      refine ⟨_, rfl, (x, row[k]), gr, g, ⟨t, rfl, upd_same⟩, rfl, prs_same (w1.trans w2) hgf, _, rfl, ?_⟩
      exact ite2 (fun c => by simp [hxg] at c) (fun _ => ⟨_, rfl, w1.trans w2⟩)
    · obtain ⟨y13, rfl, w1⟩ := h
      exact ⟨_, _, _, _, _, _, _, _, _, _, _, _, _, _, _, _, rfl, sHf.trans w1⟩
end
end K49
namespace K49
open PySem PySem.Spec PyProof.Rows L2
/-! ### what the top has written -/
set_option maxHeartbeats 4000000 in
theorem all_mk {l : PySem.W.OpenLaw} {w : World} {K : PySem.W.Frag} {h : Heap} {mg : Str → Option Value} {fa fTr fWa fCf fGr fOd fCl fRg fSo fRi fOw fSe fCt fCe fLe fDr fSc fOr fMk fAl fLa : Addr} (X : K.In h) (G : h.Ns mainGlobals mg) (hfa : mg "law" = some (.ref fa))
    {odTr anTr : Option Addr} {slTr : Array (Option Value)} {ocTr kVTr dcTr pmTr cdTr ctTr : Value} {odWa anWa : Option Addr} {slWa : Array (Option Value)} {ocWa kVWa dcWa pmWa cdWa ctWa : Value} {odCf anCf : Option Addr} {slCf : Array (Option Value)} {ocCf kVCf dcCf pmCf cdCf ctCf : Value} {odGr anGr : Option Addr} {slGr : Array (Option Value)} {ocGr kVGr dcGr pmGr cdGr ctGr : Value} {odOd anOd : Option Addr} {slOd : Array (Option Value)} {ocOd kVOd dcOd pmOd cdOd ctOd : Value} {odCl anCl : Option Addr} {slCl : Array (Option Value)} {ocCl kVCl dcCl pmCl cdCl ctCl : Value} {odRg anRg : Option Addr} {slRg : Array (Option Value)} {ocRg kVRg dcRg pmRg cdRg ctRg : Value} {odSo anSo : Option Addr} {slSo : Array (Option Value)} {ocSo kVSo dcSo pmSo cdSo ctSo : Value} {odRi anRi : Option Addr} {slRi : Array (Option Value)} {ocRi kVRi dcRi pmRi cdRi ctRi : Value} {odOw anOw : Option Addr} {slOw : Array (Option Value)} {ocOw kVOw dcOw pmOw cdOw ctOw : Value} {odSe anSe : Option Addr} {slSe : Array (Option Value)} {ocSe kVSe dcSe pmSe cdSe ctSe : Value} {odCt anCt : Option Addr} {slCt : Array (Option Value)} {ocCt kVCt dcCt pmCt cdCt ctCt : Value} {odCe anCe : Option Addr} {slCe : Array (Option Value)} {ocCe kVCe dcCe pmCe cdCe ctCe : Value} {odLe anLe : Option Addr} {slLe : Array (Option Value)} {ocLe kVLe dcLe pmLe cdLe ctLe : Value} {odDr anDr : Option Addr} {slDr : Array (Option Value)} {ocDr kVDr dcDr pmDr cdDr ctDr : Value} {odSc anSc : Option Addr} {slSc : Array (Option Value)} {ocSc kVSc dcSc pmSc cdSc ctSc : Value} {odOr anOr : Option Addr} {slOr : Array (Option Value)} {ocOr kVOr dcOr pmOr cdOr ctOr : Value} {odMk anMk : Option Addr} {slMk : Array (Option Value)} {ocMk kVMk dcMk pmMk cdMk ctMk : Value} {odAl anAl : Option Addr} {slAl : Array (Option Value)} {ocAl kVAl dcAl pmAl cdAl ctAl : Value} {odLa anLa : Option Addr} {slLa : Array (Option Value)} {ocLa kVLa dcLa pmLa cdLa ctLa : Value}
    (aTr : PySem.W.nsIn K mainGlobals "transactions_of" = some (some (.ref fTr))) (lTr : K.lookup fTr = some ⟨ocTr, odTr, .func (PySem.W.fnOf "transactions_of" "transactions_of" (defArgs sTr) (defBody sTr) (defScope sTr) .none kVTr dcTr pmTr anTr cdTr ctTr), slTr⟩) (cTr : PySem.W.codeIn K cdTr "transactions_of" = true) (kTr : PySem.W.keepIn K (.ref fTr) = true)
    (aWa : PySem.W.nsIn K mainGlobals "without_aborted" = some (some (.ref fWa))) (lWa : K.lookup fWa = some ⟨ocWa, odWa, .func (PySem.W.fnOf "without_aborted" "without_aborted" (defArgs sWa) (defBody sWa) (defScope sWa) .none kVWa dcWa pmWa anWa cdWa ctWa), slWa⟩) (cWa : PySem.W.codeIn K cdWa "without_aborted" = true) (kWa : PySem.W.keepIn K (.ref fWa) = true)
    (aCf : PySem.W.nsIn K mainGlobals "do_conflict" = some (some (.ref fCf))) (lCf : K.lookup fCf = some ⟨ocCf, odCf, .func (PySem.W.fnOf "do_conflict" "do_conflict" (defArgs sConf) (defBody sConf) (defScope sConf) .none kVCf dcCf pmCf anCf cdCf ctCf), slCf⟩) (cCf : PySem.W.codeIn K cdCf "do_conflict" = true) (kCf : PySem.W.keepIn K (.ref fCf) = true)
    (aGr : PySem.W.nsIn K mainGlobals "conflict_graph" = some (some (.ref fGr))) (lGr : K.lookup fGr = some ⟨ocGr, odGr, .func (PySem.W.fnOf "conflict_graph" "conflict_graph" (defArgs sGraph) (defBody sGraph) (defScope sGraph) .none kVGr dcGr pmGr anGr cdGr ctGr), slGr⟩) (cGr : PySem.W.codeIn K cdGr "conflict_graph" = true) (kGr : PySem.W.keepIn K (.ref fGr) = true)
    (aOd : PySem.W.nsIn K mainGlobals "order_of" = some (some (.ref fOd))) (lOd : K.lookup fOd = some ⟨ocOd, odOd, .func (PySem.W.fnOf "order_of" "order_of" (defArgs sOrd) (defBody sOrd) (defScope sOrd) .none kVOd dcOd pmOd anOd cdOd ctOd), slOd⟩) (cOd : PySem.W.codeIn K cdOd "order_of" = true) (kOd : PySem.W.keepIn K (.ref fOd) = true)
    (aCl : PySem.W.nsIn K mainGlobals "closing" = some (some (.ref fCl))) (lCl : K.lookup fCl = some ⟨ocCl, odCl, .func (PySem.W.fnOf "closing" "closing" (defArgs sClo) (defBody sClo) (defScope sClo) .none kVCl dcCl pmCl anCl cdCl ctCl), slCl⟩) (cCl : PySem.W.codeIn K cdCl "closing" = true) (kCl : PySem.W.keepIn K (.ref fCl) = true)
    (aRg : PySem.W.nsIn K mainGlobals "ring_in" = some (some (.ref fRg))) (lRg : K.lookup fRg = some ⟨ocRg, odRg, .func (PySem.W.fnOf "ring_in" "ring_in" (defArgs sRing) (defBody sRing) (defScope sRing) .none kVRg dcRg pmRg anRg cdRg ctRg), slRg⟩) (cRg : PySem.W.codeIn K cdRg "ring_in" = true) (kRg : PySem.W.keepIn K (.ref fRg) = true)
    (aSo : PySem.W.nsIn K mainGlobals "serial_order" = some (some (.ref fSo))) (lSo : K.lookup fSo = some ⟨ocSo, odSo, .func (PySem.W.fnOf "serial_order" "serial_order" (defArgs sSerO) (defBody sSerO) (defScope sSerO) .none kVSo dcSo pmSo anSo cdSo ctSo), slSo⟩) (cSo : PySem.W.codeIn K cdSo "serial_order" = true) (kSo : PySem.W.keepIn K (.ref fSo) = true)
    (aRi : PySem.W.nsIn K mainGlobals "ring_of" = some (some (.ref fRi))) (lRi : K.lookup fRi = some ⟨ocRi, odRi, .func (PySem.W.fnOf "ring_of" "ring_of" (defArgs sRingOf) (defBody sRingOf) (defScope sRingOf) .none kVRi dcRi pmRi anRi cdRi ctRi), slRi⟩) (cRi : PySem.W.codeIn K cdRi "ring_of" = true) (kRi : PySem.W.keepIn K (.ref fRi) = true)
    (aOw : PySem.W.nsIn K mainGlobals "own_operations" = some (some (.ref fOw))) (lOw : K.lookup fOw = some ⟨ocOw, odOw, .func (PySem.W.fnOf "own_operations" "own_operations" (defArgs sOwn) (defBody sOwn) (defScope sOwn) .none kVOw dcOw pmOw anOw cdOw ctOw), slOw⟩) (cOw : PySem.W.codeIn K cdOw "own_operations" = true) (kOw : PySem.W.keepIn K (.ref fOw) = true)
    (aSe : PySem.W.nsIn K mainGlobals "serial_schedule" = some (some (.ref fSe))) (lSe : K.lookup fSe = some ⟨ocSe, odSe, .func (PySem.W.fnOf "serial_schedule" "serial_schedule" (defArgs sSer) (defBody sSer) (defScope sSer) .none kVSe dcSe pmSe anSe cdSe ctSe), slSe⟩) (cSe : PySem.W.codeIn K cdSe "serial_schedule" = true) (kSe : PySem.W.keepIn K (.ref fSe) = true)
    (aCt : PySem.W.nsIn K mainGlobals "counted" = some (some (.ref fCt))) (lCt : K.lookup fCt = some ⟨ocCt, odCt, .func (PySem.W.fnOf "counted" "counted" (defArgs sCnt) (defBody sCnt) (defScope sCnt) .none kVCt dcCt pmCt anCt cdCt ctCt), slCt⟩) (cCt : PySem.W.codeIn K cdCt "counted" = true) (kCt : PySem.W.keepIn K (.ref fCt) = true)
    (aCe : PySem.W.nsIn K mainGlobals "are_conflict_equivalent" = some (some (.ref fCe))) (lCe : K.lookup fCe = some ⟨ocCe, odCe, .func (PySem.W.fnOf "are_conflict_equivalent" "are_conflict_equivalent" (defArgs sCe) (defBody sCe) (defScope sCe) .none kVCe dcCe pmCe anCe cdCe ctCe), slCe⟩) (cCe : PySem.W.codeIn K cdCe "are_conflict_equivalent" = true) (kCe : PySem.W.keepIn K (.ref fCe) = true)
    (aLe : PySem.W.nsIn K mainGlobals "_law_cell" = some (some (.ref fLe))) (lLe : K.lookup fLe = some ⟨ocLe, odLe, .func (PySem.W.fnOf "_law_cell" "_law_cell" (defArgs sCell) (defBody sCell) (defScope sCell) .none kVLe dcLe pmLe anLe cdLe ctLe), slLe⟩) (cLe : PySem.W.codeIn K cdLe "_law_cell" = true) (kLe : PySem.W.keepIn K (.ref fLe) = true)
    (aDr : PySem.W.nsIn K mainGlobals "_law_draw" = some (some (.ref fDr))) (lDr : K.lookup fDr = some ⟨ocDr, odDr, .func (PySem.W.fnOf "_law_draw" "_law_draw" (defArgs sDraw) (defBody sDraw) (defScope sDraw) .none kVDr dcDr pmDr anDr cdDr ctDr), slDr⟩) (cDr : PySem.W.codeIn K cdDr "_law_draw" = true) (kDr : PySem.W.keepIn K (.ref fDr) = true)
    (aSc : PySem.W.nsIn K mainGlobals "_law_schedule" = some (some (.ref fSc))) (lSc : K.lookup fSc = some ⟨ocSc, odSc, .func (PySem.W.fnOf "_law_schedule" "_law_schedule" (defArgs sSch) (defBody sSch) (defScope sSch) .none kVSc dcSc pmSc anSc cdSc ctSc), slSc⟩) (cSc : PySem.W.codeIn K cdSc "_law_schedule" = true) (kSc : PySem.W.keepIn K (.ref fSc) = true)
    (aOr : PySem.W.nsIn K mainGlobals "_law_orders" = some (some (.ref fOr))) (lOr : K.lookup fOr = some ⟨ocOr, odOr, .func (PySem.W.fnOf "_law_orders" "_law_orders" (defArgs sOrds) (defBody sOrds) (defScope sOrds) .none kVOr dcOr pmOr anOr cdOr ctOr), slOr⟩) (cOr : PySem.W.codeIn K cdOr "_law_orders" = true) (kOr : PySem.W.keepIn K (.ref fOr) = true)
    (aMk : PySem.W.nsIn K mainGlobals "_law_marked" = some (some (.ref fMk))) (lMk : K.lookup fMk = some ⟨ocMk, odMk, .func (PySem.W.fnOf "_law_marked" "_law_marked" (defArgs sMk) (defBody sMk) (defScope sMk) .none kVMk dcMk pmMk anMk cdMk ctMk), slMk⟩) (cMk : PySem.W.codeIn K cdMk "_law_marked" = true) (kMk : PySem.W.keepIn K (.ref fMk) = true)
    (aAl : PySem.W.nsIn K mainGlobals "_law_alike" = some (some (.ref fAl))) (lAl : K.lookup fAl = some ⟨ocAl, odAl, .func (PySem.W.fnOf "_law_alike" "_law_alike" (defArgs sAl) (defBody sAl) (defScope sAl) .none kVAl dcAl pmAl anAl cdAl ctAl), slAl⟩) (cAl : PySem.W.codeIn K cdAl "_law_alike" = true) (kAl : PySem.W.keepIn K (.ref fAl) = true)
    (aLa : PySem.W.nsIn K mainGlobals "law" = some (some (.ref fLa))) (lLa : K.lookup fLa = some ⟨ocLa, odLa, .func (PySem.W.fnOf "law" "law" (defArgs sLaw) (defBody sLaw) (defScope sLaw) .none kVLa dcLa pmLa anLa cdLa ctLa), slLa⟩) (cLa : PySem.W.codeIn K cdLa "law" = true) (kLa : PySem.W.keepIn K (.ref fLa) = true)
    (zsorted : PySem.W.nsIn K mainGlobals "sorted" = some none) (zlen : PySem.W.nsIn K mainGlobals "len" = some none) (zrange : PySem.W.nsIn K mainGlobals "range" = some none) (zenumerate : PySem.W.nsIn K mainGlobals "enumerate" = some none) (zlist : PySem.W.nsIn K mainGlobals "list" = some none) (zmin : PySem.W.nsIn K mainGlobals "min" = some none) (zmax : PySem.W.nsIn K mainGlobals "max" = some none) (zisinstance : PySem.W.nsIn K mainGlobals "isinstance" = some none) (zbool : PySem.W.nsIn K mainGlobals "bool" = some none) :
    ∃ fd : FuncData, (∀ (s : Shared) (v : Value), BindsTo s fd ⟨[v], []⟩ [("_law_script", v)]) ∧ ∀ base : Heap, K.In base → base.Ns mainGlobals mg → FnOk l.prog w K mg base CX0 11 fa fd ["_law_script"] (spLaw K) := by
  have e := hfa.symm.trans (PySem.W.mg_of X G aLa)
  cases e
  have FTr := fun_mk (st := sTr) lTr cTr kTr
  have FWa := fun_mk (st := sWa) lWa cWa kWa
  have FCf := fun_mk (st := sConf) lCf cCf kCf
  have FGr := fun_mk (st := sGraph) lGr cGr kGr
  have FOd := fun_mk (st := sOrd) lOd cOd kOd
  have FCl := fun_mk (st := sClo) lCl cCl kCl
  have FRg := fun_mk (st := sRing) lRg cRg kRg
  have FSo := fun_mk (st := sSerO) lSo cSo kSo
  have FRi := fun_mk (st := sRingOf) lRi cRi kRi
  have FOw := fun_mk (st := sOwn) lOw cOw kOw
  have FSe := fun_mk (st := sSer) lSe cSe kSe
  have FCt := fun_mk (st := sCnt) lCt cCt kCt
  have FCe := fun_mk (st := sCe) lCe cCe kCe
  have FLe := fun_mk (st := sCell) lLe cLe kLe
  have FDr := fun_mk (st := sDraw) lDr cDr kDr
  have FSc := fun_mk (st := sSch) lSc cSc kSc
  have FOr := fun_mk (st := sOrds) lOr cOr kOr
  have FMk := fun_mk (st := sMk) lMk cMk kMk
  have FAl := fun_mk (st := sAl) lAl cAl kAl
  have FLa := fun_mk (st := sLaw) lLa cLa kLa
  have bTr := FTr.binds (ps := ["schedule"]) fun _ _ _ _ _ _ us hl => match us, hl with | [_], _ => rfl
  have bWa := FWa.binds (ps := ["schedule"]) fun _ _ _ _ _ _ us hl => match us, hl with | [_], _ => rfl
  have bCf := FCf.binds (ps := ["first", "second"]) fun _ _ _ _ _ _ us hl => match us, hl with | [_, _], _ => rfl
  have bGr := FGr.binds (ps := ["schedule"]) fun _ _ _ _ _ _ us hl => match us, hl with | [_], _ => rfl
  have bOd := FOd.binds (ps := ["numbers", "pairs"]) fun _ _ _ _ _ _ us hl => match us, hl with | [_, _], _ => rfl
  have bCl := FCl.binds (ps := ["pairs", "row", "size"]) fun _ _ _ _ _ _ us hl => match us, hl with | [_, _, _], _ => rfl
  have bRg := FRg.binds (ps := ["pairs"]) fun _ _ _ _ _ _ us hl => match us, hl with | [_], _ => rfl
  have bSo := FSo.binds (ps := ["schedule"]) fun _ _ _ _ _ _ us hl => match us, hl with | [_], _ => rfl
  have bRi := FRi.binds (ps := ["schedule"]) fun _ _ _ _ _ _ us hl => match us, hl with | [_], _ => rfl
  have bOw := FOw.binds (ps := ["schedule", "transaction"]) fun _ _ _ _ _ _ us hl => match us, hl with | [_, _], _ => rfl
  have bSe := FSe.binds (ps := ["schedule", "order"]) fun _ _ _ _ _ _ us hl => match us, hl with | [_, _], _ => rfl
  have bCt := FCt.binds (ps := ["schedule"]) fun _ _ _ _ _ _ us hl => match us, hl with | [_], _ => rfl
  have bCe := FCe.binds (ps := ["schedule", "other"]) fun _ _ _ _ _ _ us hl => match us, hl with | [_, _], _ => rfl
  have bLe := FLe.binds (ps := ["_law_script", "_law_k"]) fun _ _ _ _ _ _ us hl => match us, hl with | [_, _], _ => rfl
  have bDr := FDr.binds (ps := ["_law_script", "_law_k", "_law_sizes"]) fun _ _ _ _ _ _ us hl => match us, hl with | [_, _, _], _ => rfl
  have bSc := FSc.binds (ps := ["_law_script", "_law_k"]) fun _ _ _ _ _ _ us hl => match us, hl with | [_, _], _ => rfl
  have bOr := FOr.binds (ps := ["_law_numbers"]) fun _ _ _ _ _ _ us hl => match us, hl with | [_], _ => rfl
  have bMk := FMk.binds (ps := ["_law_schedule_here"]) fun _ _ _ _ _ _ us hl => match us, hl with | [_], _ => rfl
  have bAl := FAl.binds (ps := ["_law_schedule_here", "_law_other"]) fun _ _ _ _ _ _ us hl => match us, hl with | [_, _], _ => rfl
  have mTr := PySem.W.mg_of X G aTr
  have mWa := PySem.W.mg_of X G aWa
  have mCf := PySem.W.mg_of X G aCf
  have mGr := PySem.W.mg_of X G aGr
  have mOd := PySem.W.mg_of X G aOd
  have mCl := PySem.W.mg_of X G aCl
  have mRg := PySem.W.mg_of X G aRg
  have mSo := PySem.W.mg_of X G aSo
  have mRi := PySem.W.mg_of X G aRi
  have mOw := PySem.W.mg_of X G aOw
  have mSe := PySem.W.mg_of X G aSe
  have mCt := PySem.W.mg_of X G aCt
  have mCe := PySem.W.mg_of X G aCe
  have mLe := PySem.W.mg_of X G aLe
  have mDr := PySem.W.mg_of X G aDr
  have mSc := PySem.W.mg_of X G aSc
  have mOr := PySem.W.mg_of X G aOr
  have mMk := PySem.W.mg_of X G aMk
  have mAl := PySem.W.mg_of X G aAl
  have nsorted := PySem.W.mg_none_of X G zsorted
  have nlen := PySem.W.mg_none_of X G zlen
  have nrange := PySem.W.mg_none_of X G zrange
  have nenumerate := PySem.W.mg_none_of X G zenumerate
  have nlist := PySem.W.mg_none_of X G zlist
  have nmin := PySem.W.mg_none_of X G zmin
  have nmax := PySem.W.mg_none_of X G zmax
  have nisinstance := PySem.W.mg_none_of X G zisinstance
  have nbool := PySem.W.mg_none_of X G zbool
  refine ⟨PySem.W.fnOf "law" "law" (defArgs sLaw) (defBody sLaw) (defScope sLaw) .none kVLa dcLa pmLa anLa cdLa ctLa, fun s v => .of_eq rfl, fun base _ _ => ?_⟩
  have wa := fun k => ok_wa (P := l.prog) (w := w) (mg := mg) (base := base) (k := k) FWa
  have cf := fun k => ok_conf (P := l.prog) (w := w) (mg := mg) (base := base) (k := k) FCf nlen
  have tr := fun k => ok_tr (P := l.prog) (w := w) (mg := mg) (base := base) (k := k) FTr nsorted
  have gr := fun k => ok_graph FGr (wa k) bWa kWa mWa (cf k) bCf kCf mCf nrange nlen nsorted
  have od := fun k => ok_ord (P := l.prog) (w := w) (mg := mg) (base := base) (k := k) FOd nsorted nlen
  have ce := ok_ce FCe (ok_cnt (P := l.prog) (w := w) (base := base) (k := 8) FCt nrange nlen) bCt kCt mCt (cf 8) bCf kCf mCf nrange nlen
  have rg := ok_ring FRg (clo_all (P := l.prog) (w := w) (base := base) FCl bCl kCl mCl nlen 8) bCl kCl mCl nsorted nrange nlen
  have ri := ok_ringOf FRi rg bRg kRg mRg (gr 7) bGr kGr mGr
  have so := ok_serO FSo (od 8) bOd kOd mOd (tr 8) bTr kTr mTr (wa 8) bWa kWa mWa (gr 7) bGr kGr mGr
  have se := ok_ser FSe (ok_own (P := l.prog) (w := w) (base := base) (k := 8) FOw) bOw kOw mOw
  have dr := fun k => ok_draw FDr (ok_cell (P := l.prog) (w := w) (base := base) (n := k) FLe nlen) bLe kLe mLe nrange nlen
  have sc := ok_sch FSc (dr 7) bDr kDr mDr nrange
  have od' := ok_ords (P := l.prog) (w := w) (base := base) (n := 9) FOr nrange nlen nlist
  have al := ok_al FAl (ok_mk (P := l.prog) (w := w) (base := base) (k := 8) FMk nenumerate nlen) bMk kMk mMk nrange nlen
  exact ok_law FLa FWa (wa 9) bWa mWa FSc sc bSc mSc FTr (tr 9) bTr mTr FGr (gr 8) bGr mGr FSo so bSo mSo FRi ri bRi mRi FOr od' bOr mOr FCe ce bCe mCe FSe se bSe mSe FDr (dr 8) bDr mDr FAl al bAl mAl
    nrange nmin nlen nisinstance nbool nlist nmax
end K49
open PySem PySem.W PyProof.Rows
set_option maxHeartbeats 0 in
theorem PySem.Challenge.cw_ordershown_k49_whole_serializable_just_i_holds : PySem.Challenge.rw_ordershown_k49_whole_serializable_just_i.Holds := by
  w_on; o_law; k_head; (case hw => w_witness2)
  k_fill
  refine L2.walk_of (l := PySem.Challenge.rw_ordershown_k49_whole_serializable_just_i) (n := 63) (k := 11) (x := "_law_script") (CX := fun _ => L2.CX0) (sp := fun w => K49.spLaw _) rfl (by decide) rfl ⟨rfl, by decide, by decide⟩ (fun w h Y => PySem.W.kIn_of Y) ?F (fun _ _ a ns hl _ hS => ⟨a, ns, rfl, hS, hl, fun _ => rfl⟩) (fun _ _ _ _ _ h => h)
  case F =>
    intro w mg fa h KX G hmg
    refine' K49.all_mk KX G hmg ?aTr ?lTr ?cTr ?kTr ?aWa ?lWa ?cWa ?kWa ?aCf ?lCf ?cCf ?kCf ?aGr ?lGr ?cGr ?kGr ?aOd ?lOd ?cOd ?kOd ?aCl ?lCl ?cCl ?kCl ?aRg ?lRg ?cRg ?kRg ?aSo ?lSo ?cSo ?kSo ?aRi ?lRi ?cRi ?kRi ?aOw ?lOw ?cOw ?kOw ?aSe ?lSe ?cSe ?kSe ?aCt ?lCt ?cCt ?kCt ?aCe ?lCe ?cCe ?kCe ?aLe ?lLe ?cLe ?kLe ?aDr ?lDr ?cDr ?kDr ?aSc ?lSc ?cSc ?kSc ?aOr ?lOr ?cOr ?kOr ?aMk ?lMk ?cMk ?kMk ?aAl ?lAl ?cAl ?kAl ?aLa ?lLa ?cLa ?kLa ?zsorted ?zlen ?zrange ?zenumerate ?zlist ?zmin ?zmax ?zisinstance ?zbool
    (case aTr => k_is); (case lTr => k_is); (case cTr => k_is); (case kTr => k_is)
    (case aWa => k_is); (case lWa => k_is); (case cWa => k_is); (case kWa => k_is)
    (case aCf => k_is); (case lCf => k_is); (case cCf => k_is); (case kCf => k_is)
    (case aGr => k_is); (case lGr => k_is); (case cGr => k_is); (case kGr => k_is)
    (case aOd => k_is); (case lOd => k_is); (case cOd => k_is); (case kOd => k_is)
    (case aCl => k_is); (case lCl => k_is); (case cCl => k_is); (case kCl => k_is)
    (case aRg => k_is); (case lRg => k_is); (case cRg => k_is); (case kRg => k_is)
    (case aSo => k_is); (case lSo => k_is); (case cSo => k_is); (case kSo => k_is)
    (case aRi => k_is); (case lRi => k_is); (case cRi => k_is); (case kRi => k_is)
    (case aOw => k_is); (case lOw => k_is); (case cOw => k_is); (case kOw => k_is)
    (case aSe => k_is); (case lSe => k_is); (case cSe => k_is); (case kSe => k_is)
    (case aCt => k_is); (case lCt => k_is); (case cCt => k_is); (case kCt => k_is)
    (case aCe => k_is); (case lCe => k_is); (case cCe => k_is); (case kCe => k_is)
    (case aLe => k_is); (case lLe => k_is); (case cLe => k_is); (case kLe => k_is)
    (case aDr => k_is); (case lDr => k_is); (case cDr => k_is); (case kDr => k_is)
    (case aSc => k_is); (case lSc => k_is); (case cSc => k_is); (case kSc => k_is)
    (case aOr => k_is); (case lOr => k_is); (case cOr => k_is); (case kOr => k_is)
    (case aMk => k_is); (case lMk => k_is); (case cMk => k_is); (case kMk => k_is)
    (case aAl => k_is); (case lAl => k_is); (case cAl => k_is); (case kAl => k_is)
    (case aLa => k_is); (case lLa => k_is); (case cLa => k_is); (case kLa => k_is)
    (case zsorted => k_is)
    (case zlen => k_is)
    (case zrange => k_is)
    (case zenumerate => k_is)
    (case zlist => k_is)
    (case zmin => k_is)
    (case zmax => k_is)
    (case zisinstance => k_is)
    (case zbool => k_is)

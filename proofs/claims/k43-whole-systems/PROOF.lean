import PyProof.Rows.All
import Wide.All
import OpenK.AllK
import Wide.FinOn
import HandS.ForMost
import HandS.TupSets
import HandS.Star
import HandS.Conv
import KE.GoesEnum
import KE.GoesComp
import KE.GoesMore
import KE.SortData
import KE.KDictSum
import PyProof.RulesMatch
import HandS.SetFor
import HandS.Defaults
import PyProof.ReprRoads
import PyProof.InstNe
import KE.KStateDown
import HandS.More
import HandS.Codes
import HandS.IsInst
import HandS.Property
import HandS.Head0
import HandS.Head1
import HandS.Head2
import HandS.HeadEnd
import HandS.HeadHook1
import HandS.HeadHook2
import HandS.Style
import HandS.DictComp
import HandS.Wide
import HandS.TupAny
import HandS.TupLe
import PySem.Challenge.RW_offside_k43_whole_systems_put_together
set_option Elab.async false
set_option linter.all false
set_option maxRecDepth 100000
set_option maxHeartbeats 0

/-! Plain mathematics of the demands: chains of greatest length, with the round in which a length was last made greater. -/
namespace K43

abbrev Dem := Int × Int × Int

/-- f meets all demands of D -/
def Meets (f : Int → Int) (D : List Dem) : Prop := ∀ e ∈ D, f e.2.1 + e.2.2 ≤ f e.1
def Feas (D : List Dem) : Prop := ∃ f, Meets f D

/-! ### lists without a number twice -/
theorem nodup_len : ∀ (n : Nat) (a : Int) (l : List Int), l.Nodup → (∀ x ∈ l, a ≤ x ∧ x < a + n) → l.length ≤ n
  | 0, a, l, _, h => by
    cases l with
    | nil => exact Nat.le_refl _
    | cons x l =>
      have := h x List.mem_cons_self
      omega
  | n + 1, a, l, hd, h => by
    by_cases ha : a ∈ l
    · have h1 : (l.erase a).length ≤ n := by
        refine nodup_len n (a + 1) (l.erase a) (hd.erase a) fun x hx => ?_
        have hx' : x ∈ l := List.mem_of_mem_erase hx
        have hne : x ≠ a := by
          intro e
          subst e
          exact (List.Nodup.not_mem_erase hd) hx
        have := h x hx'
        omega
      have h2 := List.length_erase_of_mem ha
      have h3 : 0 < l.length := List.length_pos_of_mem ha
      omega
    · have h1 : l.length ≤ n := by
        refine nodup_len n (a + 1) l hd fun x hx => ?_
        have hne : x ≠ a := by
          intro e
          subst e
          exact ha hx
        have := h x hx
        omega
      omega

/-- the points: the ground -1 and n lines -/
def IsPt (n : Nat) (p : Int) : Prop := -1 ≤ p ∧ p < n
/-- a demand between the points -/
def Betw (n : Nat) (e : Dem) : Prop := IsPt n e.1 ∧ IsPt n e.2.1

theorem pts_len {n : Nat} {l : List Int} (hd : l.Nodup) (h : ∀ x ∈ l, IsPt n x) : l.length ≤ n + 1 :=
  nodup_len (n + 1) (-1) l hd fun x hx => by
    have := h x hx
    unfold IsPt at this
    omega

/-! ### the machine -/
structure WS where
  L : Int → Option Int
  P : Int → Option Dem

def WS.put (s : WS) (e : Dem) (y : Int) : WS :=
  ⟨fun p => if p = e.1 then some y else s.L p, fun p => if p = e.1 then some e else s.P p⟩

/-- whether a demand asks for a greater length, and which -/
def asks (s : WS) (e : Dem) : Option Int :=
  match s.L e.2.1 with
  | none => none
  | some x => match s.L e.1 with
    | none => some (x + e.2.2)
    | some y => if y < x + e.2.2 then some (x + e.2.2) else none

def stepW (q : WS × Option Int) (e : Dem) : WS × Option Int :=
  match asks q.1 e with
  | none => q
  | some y => (q.1.put e y, some e.1)

def goOn (D : List Dem) (s : WS) : WS × Option Int := D.foldl stepW (s, none)

def Tight (s : WS) (e : Dem) : Prop := ∀ x, s.L e.2.1 = some x → ∃ y, s.L e.1 = some y ∧ x + e.2.2 ≤ y

theorem asks_none {s : WS} {e : Dem} (h : asks s e = none) : Tight s e := by
  intro x hx
  unfold asks at h
  rw [hx] at h
  cases hy : s.L e.1 with
  | none => rw [hy] at h; simp at h
  | some y =>
    rw [hy] at h
    refine ⟨y, rfl, ?_⟩
    by_cases c : y < x + e.2.2
    · simp [c] at h
    · omega

theorem asks_some {s : WS} {e : Dem} {z : Int} (h : asks s e = some z) : ∃ x, s.L e.2.1 = some x ∧ z = x + e.2.2 ∧ ∀ y, s.L e.1 = some y → y < z := by
  unfold asks at h
  cases hx : s.L e.2.1 with
  | none => rw [hx] at h; simp at h
  | some x =>
    rw [hx] at h
    refine ⟨x, rfl, ?_⟩
    cases hy : s.L e.1 with
    | none =>
      rw [hy] at h
      simp at h
      exact ⟨h.symm, fun y e => by cases e⟩
    | some y =>
      rw [hy] at h
      by_cases c : y < x + e.2.2
      · simp [c] at h
        refine ⟨h.symm, fun y' e' => ?_⟩
        cases e'
        omega
      · simp [c] at h

theorem fold_late : ∀ (D : List Dem) (s s' : WS) (lt : Option Int), D.foldl stepW (s, lt) = (s', none) → lt = none ∧ s' = s ∧ ∀ e ∈ D, Tight s e
  | [], s, s', lt, h => by
    simp at h
    exact ⟨h.2, h.1.symm, fun e he => by cases he⟩
  | d :: D, s, s', lt, h => by
    rw [List.foldl_cons] at h
    cases ha : asks s d with
    | none =>
      have e1 : stepW (s, lt) d = (s, lt) := by unfold stepW; simp [ha]
      rw [e1] at h
      obtain ⟨h1, h2, h3⟩ := fold_late D s s' lt h
      refine ⟨h1, h2, fun e he => ?_⟩
      rcases List.mem_cons.mp he with rfl | he
      · exact asks_none ha
      · exact h3 e he
    | some y =>
      have e1 : stepW (s, lt) d = (s.put d y, some d.1) := by unfold stepW; simp [ha]
      rw [e1] at h
      obtain ⟨h1, _, _⟩ := fold_late D _ s' _ h
      cases h1

/-! ### what stays true -/
/-- W: the points and lengths by which the length x at p came about, back to a start -/
def Way (D : List Dem) (S : List Int) : Int → Int → List (Int × Int) → Prop
  | p, x, [] => p ∈ S ∧ x = 0
  | p, x, (q, y) :: r => (∃ d, (p, q, d) ∈ D ∧ x = y + d) ∧ Way D S q y r

theorem Way.meets {D : List Dem} {S : List Int} {f : Int → Int} (m : Meets f D) : ∀ {W : List (Int × Int)} {p x : Int}, Way D S p x W →
    (∀ q y, (q, y) ∈ W → x - f p ≤ y - f q) ∧ ∃ s ∈ S, x ≤ f p - f s
  | [], p, x, h => ⟨fun q y hm => (by cases hm), p, h.1, by have := h.2; omega⟩
  | (q, y) :: r, p, x, ⟨⟨d, hd, e⟩, h⟩ => by
    obtain ⟨h1, s, hs, h2⟩ := Way.meets m h
    have := m _ hd
    simp only at this
    refine ⟨fun q' y' hm => ?_, s, hs, by omega⟩
    rcases List.mem_cons.mp hm with e' | hm
    · cases e'
      omega
    · have := h1 q' y' hm
      omega

theorem Way.pts {D : List Dem} {S : List Int} {n : Nat} (hD : ∀ e ∈ D, Betw n e) (hS : ∀ s ∈ S, IsPt n s) : ∀ {W : List (Int × Int)} {p x : Int}, Way D S p x W → IsPt n p ∧ ∀ q ∈ W.map (·.1), IsPt n q
  | [], p, x, h => ⟨hS p h.1, fun q hq => (by cases hq)⟩
  | (q, y) :: r, p, x, ⟨⟨d, hd, e⟩, h⟩ => by
    obtain ⟨h1, h2⟩ := Way.pts hD hS h
    refine ⟨(hD _ hd).1, fun q' hq' => ?_⟩
    rcases List.mem_cons.mp hq' with e' | hq'
    · rw [e']
      exact h1
    · exact h2 q' hq'

structure G (D : List Dem) (S : List Int) (s : WS) (Rd : Int → Nat) : Prop where
  pred : ∀ p, 1 ≤ Rd p → ∃ l d, s.P p = some (p, l, d) ∧ (p, l, d) ∈ D ∧ Rd p ≤ Rd l + 1
  wit : ∀ p x, s.L p = some x → ∃ W, Way D S p x W ∧ Rd p ≤ W.length ∧ (∀ q y, (q, y) ∈ W → ∃ z, s.L q = some z ∧ y ≤ z) ∧ ∀ f, Meets f D → (p :: W.map (·.1)).Nodup

def Rlx (s : WS) (Rd : Int → Nat) (k : Nat) (e : Dem) : Prop := ∀ x, s.L e.2.1 = some x → k ≤ Rd e.2.1 ∨ ∃ y, s.L e.1 = some y ∧ x + e.2.2 ≤ y

structure Mid (D : List Dem) (S : List Int) (r : Nat) (pre : List Dem) (q : WS × Option Int) (Rd : Int → Nat) : Prop where
  g : G D S q.1 Rd
  old : ∀ e ∈ D, Rlx q.1 Rd r e
  new : ∀ e ∈ pre, Rlx q.1 Rd (r + 1) e
  most : ∀ p, Rd p ≤ r + 1
  late : ∀ v, q.2 = some v → Rd v = r + 1

theorem Mid.step {D : List Dem} {S : List Int} {r : Nat} {pre : List Dem} {q : WS × Option Int} {Rd : Int → Nat} (M : Mid D S r pre q Rd) {e : Dem} (he : e ∈ D) :
    ∃ Rd', Mid D S r (pre ++ [e]) (stepW q e) Rd' := by
  obtain ⟨s, lt⟩ := q
  cases ha : asks s e with
  | none =>
    have e1 : stepW (s, lt) e = (s, lt) := by unfold stepW; simp [ha]
    rw [e1]
    refine ⟨Rd, M.g, M.old, fun d hd => ?_, M.most, M.late⟩
    rcases List.mem_append.mp hd with hd | hd
    · exact M.new d hd
    · rw [List.mem_singleton.mp hd]
      intro x hx
      exact .inr (asks_none ha x hx)
  | some z =>
    have e1 : stepW (s, lt) e = (s.put e z, some e.1) := by unfold stepW; simp [ha]
    rw [e1]
    obtain ⟨u, l, d⟩ := e
    obtain ⟨x, hx, hz, hy⟩ := asks_some ha
    simp only at hx hz hy
    -- the lower one was made greater in this round or the last
    have hl : r ≤ Rd l := by
      rcases M.old _ he x hx with h | ⟨y, h1, h2⟩
      · exact h
      · have := hy y h1
        simp only at h2
        omega
    have hLu : (s.put (u, l, d) z).L u = some z := by simp [WS.put]
    have hLo : ∀ p, p ≠ u → (s.put (u, l, d) z).L p = s.L p := fun p hp => by simp [WS.put, hp]
    have hPu : (s.put (u, l, d) z).P u = some (u, l, d) := by simp [WS.put]
    have hPo : ∀ p, p ≠ u → (s.put (u, l, d) z).P p = s.P p := fun p hp => by simp [WS.put, hp]
    -- lengths only become greater
    have up : ∀ p y, s.L p = some y → ∃ y', (s.put (u, l, d) z).L p = some y' ∧ y ≤ y' := fun p y h => by
      by_cases hp : p = u
      · subst hp
        have := hy y h
        exact ⟨z, hLu, by omega⟩
      · exact ⟨y, by rw [hLo p hp]; exact h, Int.le_refl _⟩
    have Ru : ∀ p, Rd p ≤ (if p = u then r + 1 else Rd p) := fun p => by
      split
      · exact M.most p
      · exact Nat.le_refl _
    have rlx : ∀ k d', k ≤ r + 1 → Rlx s Rd k d' → Rlx (s.put (u, l, d) z) (fun p => if p = u then r + 1 else Rd p) k d' := fun k d' hk h x' hx' => by
      by_cases hp : d'.2.1 = u
      · left
        simp only [hp, if_true]
        exact hk
      · rw [hLo _ hp] at hx'
        rcases h x' hx' with h | ⟨y, h1, h2⟩
        · left
          simp only [hp, if_false]
          exact h
        · obtain ⟨y', h3, h4⟩ := up _ y h1
          exact .inr ⟨y', h3, by omega⟩
    refine ⟨fun p => if p = u then r + 1 else Rd p, ⟨fun p hp => ?_, fun p y h => ?_⟩, fun d' hd' => rlx r d' (Nat.le_succ _) (M.old d' hd'), fun d' hd' => ?_, fun p => ?_, fun v hv => ?_⟩
    · by_cases hpu : p = u
      · subst hpu
        refine ⟨l, d, hPu, he, ?_⟩
        have := Ru l
        simp only [if_true] at hp ⊢
        omega
      · simp only [hpu, if_false] at hp ⊢
        obtain ⟨l', d', h1, h2, h3⟩ := M.g.pred p hp
        refine ⟨l', d', by rw [hPo p hpu]; exact h1, h2, ?_⟩
        have := Ru l'
        omega
    · by_cases hpu : p = u
      · subst hpu
        rw [hLu] at h
        cases h
        obtain ⟨W, h1, h2, h3, h4⟩ := M.g.wit l x hx
        have all : ∀ q y, (q, y) ∈ (l, x) :: W → ∃ z', s.L q = some z' ∧ y ≤ z' := fun q y hm => by
          rcases List.mem_cons.mp hm with e' | hm
          · cases e'
            exact ⟨x, hx, Int.le_refl _⟩
          · exact h3 q y hm
        refine ⟨(l, x) :: W, ⟨⟨d, he, hz⟩, h1⟩, ?_, fun q y hm => ?_, fun f m => ?_⟩
        · simp only [if_true, List.length_cons]
          omega
        · obtain ⟨z', h5, h6⟩ := all q y hm
          obtain ⟨y', h7, h8⟩ := up q z' h5
          exact ⟨y', h7, by omega⟩
        · refine List.nodup_cons.mpr ⟨fun hm => ?_, h4 f m⟩
          obtain ⟨⟨q, y⟩, hm1, hm2⟩ := List.mem_map.mp (show p ∈ ((l, x) :: W).map (·.1) from hm)
          simp only at hm2
          subst hm2
          obtain ⟨z', h5, h6⟩ := all q y hm1
          have h7 := hy z' h5
          have h8 := m _ he
          simp only at h8
          have h9 : x - f l ≤ y - f q := by
            rcases List.mem_cons.mp hm1 with e' | hm1
            · cases e'
              exact Int.le_refl _
            · exact (Way.meets m h1).1 q y hm1
          omega
      · rw [hLo p hpu] at h
        obtain ⟨W, h1, h2, h3, h4⟩ := M.g.wit p y h
        refine ⟨W, h1, ?_, fun q y' hm => ?_, h4⟩
        · simp only [hpu, if_false]
          exact h2
        · obtain ⟨z', h5, h6⟩ := h3 q y' hm
          obtain ⟨y'', h7, h8⟩ := up q z' h5
          exact ⟨y'', h7, by omega⟩
    · rcases List.mem_append.mp hd' with hd' | hd'
      · exact rlx (r + 1) d' (Nat.le_refl _) (M.new d' hd')
      · rw [List.mem_singleton.mp hd']
        intro x' hx'
        simp only at hx' ⊢
        by_cases hlu : l = u
        · left
          simp only [hlu, if_true]
          exact Nat.le_refl _
        · right
          rw [hLo l hlu, hx] at hx'
          cases hx'
          exact ⟨z, hLu, by omega⟩
    · split
      · exact Nat.le_refl _
      · exact M.most p
    · cases hv
      simp

theorem Mid.fold {D : List Dem} {S : List Int} {r : Nat} : ∀ (rest pre : List Dem) (q : WS × Option Int) (Rd : Int → Nat), Mid D S r pre q Rd → (∀ e ∈ rest, e ∈ D) →
    ∃ Rd', Mid D S r (pre ++ rest) (rest.foldl stepW q) Rd'
  | [], pre, q, Rd, M, _ => ⟨Rd, by rw [List.append_nil]; exact M⟩
  | e :: rest, pre, q, Rd, M, h => by
    obtain ⟨Rd1, M1⟩ := M.step (h e List.mem_cons_self)
    obtain ⟨Rd2, M2⟩ := Mid.fold rest (pre ++ [e]) _ Rd1 M1 fun d hd => h d (List.mem_cons_of_mem _ hd)
    rw [List.append_assoc] at M2
    exact ⟨Rd2, M2⟩

/-- behind k rounds, each of which made a length greater -/
structure Rnd (D : List Dem) (S : List Int) (k : Nat) (s : WS) (Rd : Int → Nat) : Prop where
  g : G D S s Rd
  rlx : ∀ e ∈ D, Rlx s Rd k e
  most : ∀ p, Rd p ≤ k

theorem Rnd.next {D : List Dem} {S : List Int} {k : Nat} {s s' : WS} {lt : Option Int} {Rd : Int → Nat} (R : Rnd D S k s Rd) (h : goOn D s = (s', lt)) :
    ∃ Rd', Rnd D S (k + 1) s' Rd' ∧ ∀ v, lt = some v → Rd' v = k + 1 := by
  obtain ⟨Rd', M⟩ := Mid.fold (S := S) (r := k) D [] (s, none) Rd ⟨R.g, R.rlx, fun e he => (by cases he), fun p => Nat.le_succ_of_le (R.most p), fun v hv => by cases hv⟩ fun e he => he
  rw [List.nil_append] at M
  have e1 : D.foldl stepW (s, none) = (s', lt) := h
  rw [e1] at M
  exact ⟨Rd', ⟨M.g, M.new, M.most⟩, M.late⟩

/-- the state at the beginning -/
def WS.init (S : List Int) : WS := ⟨fun p => if p ∈ S then some 0 else none, fun _ => none⟩

theorem Rnd.zero (D : List Dem) (S : List Int) : Rnd D S 0 (WS.init S) (fun _ => 0) := by
  refine ⟨⟨fun p hp => by omega, fun p x h => ?_⟩, fun e _ x _ => .inl (Nat.zero_le _), fun p => Nat.le_refl _⟩
  unfold WS.init at h
  dsimp only at h
  by_cases hp : p ∈ S
  · simp [hp] at h
    exact ⟨[], ⟨hp, h.symm⟩, Nat.zero_le _, fun q y hm => (by cases hm), fun f m => (by simp)⟩
  · simp [hp] at h

/-- k rounds have been gone, and the last one (if any) told v -/
inductive Runs (D : List Dem) (S : List Int) : Nat → WS → Option Int → Prop
  | zero : Runs D S 0 (WS.init S) none
  | step {k : Nat} {s s' : WS} {lt : Option Int} {v : Int} : Runs D S k s lt → goOn D s = (s', some v) → Runs D S (k + 1) s' (some v)

theorem Runs.rnd {D : List Dem} {S : List Int} {k : Nat} {s : WS} {lt : Option Int} (R : Runs D S k s lt) : ∃ Rd, Rnd D S k s Rd ∧ ∀ v, lt = some v → Rd v = k := by
  induction R with
  | zero => exact ⟨_, Rnd.zero D S, fun v hv => by cases hv⟩
  | step _ h ih =>
    obtain ⟨Rd, R, _⟩ := ih
    exact R.next h

/-- all lengths stand: a start has at least 0 -/
theorem put_up {s : WS} {e : Dem} {z : Int} (ha : asks s e = some z) {p y : Int} (h : s.L p = some y) : ∃ y', (s.put e z).L p = some y' ∧ y ≤ y' := by
  obtain ⟨x, _, _, hy⟩ := asks_some ha
  by_cases hp : p = e.1
  · subst hp
    have := hy y h
    exact ⟨z, by simp [WS.put], by omega⟩
  · exact ⟨y, by simp [WS.put, hp, h], Int.le_refl _⟩
theorem fold_up : ∀ (D : List Dem) (q : WS × Option Int) (p y : Int), q.1.L p = some y → ∃ y', (D.foldl stepW q).1.L p = some y' ∧ y ≤ y'
  | [], q, p, y, h => ⟨y, h, Int.le_refl _⟩
  | d :: D, (s, lt), p, y, h => by
    rw [List.foldl_cons]
    cases ha : asks s d with
    | none =>
      have e1 : stepW (s, lt) d = (s, lt) := by unfold stepW; simp [ha]
      rw [e1]
      exact fold_up D _ p y h
    | some z =>
      have e1 : stepW (s, lt) d = (s.put d z, some d.1) := by unfold stepW; simp [ha]
      rw [e1]
      obtain ⟨y1, h1, h2⟩ := put_up ha h
      obtain ⟨y2, h3, h4⟩ := fold_up D (s.put d z, some d.1) p y1 h1
      exact ⟨y2, h3, by omega⟩
theorem Runs.start {D : List Dem} {S : List Int} {k : Nat} {s : WS} {lt : Option Int} (R : Runs D S k s lt) : ∀ p ∈ S, ∃ y, s.L p = some y ∧ 0 ≤ y := by
  induction R with
  | zero => exact fun p hp => ⟨0, by simp [WS.init, hp], Int.le_refl _⟩
  | @step k s s' lt v _ h ih =>
    intro p hp
    obtain ⟨y, h1, h2⟩ := ih p hp
    obtain ⟨y', h3, h4⟩ := fold_up D (s, none) p y h1
    have e1 : D.foldl stepW (s, none) = (s', some v) := h
    rw [e1] at h3
    exact ⟨y', h3, by omega⟩

/-- with columns there are no more rounds than lines -/
theorem Runs.few {D : List Dem} {S : List Int} {n k : Nat} {s : WS} {v : Int} (hD : ∀ e ∈ D, Betw n e) (hS : ∀ p ∈ S, IsPt n p) (R : Runs D S k s (some v)) (hF : Feas D) : k ≤ n := by
  obtain ⟨f, m⟩ := hF
  obtain ⟨Rd, R1, hv⟩ := R.rnd
  have hk := hv v rfl
  have hL : ∃ x, s.L v = some x := by
    cases R with
    | @step k s0 _ lt0 _ _ h =>
      -- the last one that was made greater has a length
      have : ∀ (D : List Dem) (q : WS × Option Int), (∀ w, q.2 = some w → ∃ x, q.1.L w = some x) → ∀ w, (D.foldl stepW q).2 = some w → ∃ x, (D.foldl stepW q).1.L w = some x := by
        intro D
        induction D with
        | nil => intro q h w hw; exact h w hw
        | cons d D ih =>
          intro q h w hw
          rw [List.foldl_cons] at hw ⊢
          refine ih _ ?_ w hw
          intro w' hw'
          cases ha : asks q.1 d with
          | none =>
            have e1 : stepW q d = q := by unfold stepW; simp [ha]
            rw [e1] at hw' ⊢
            exact h w' hw'
          | some z =>
            have e1 : stepW q d = (q.1.put d z, some d.1) := by unfold stepW; simp [ha]
            rw [e1] at hw' ⊢
            cases hw'
            exact ⟨z, by simp [WS.put]⟩
      have h1 := this D (s0, none) (fun w hw => by cases hw) v
      have e1 : D.foldl stepW (s0, none) = (s, some v) := h
      rw [e1] at h1
      exact h1 rfl
  obtain ⟨x, hx⟩ := hL
  obtain ⟨W, h1, h2, _, h4⟩ := R1.g.wit v x hx
  have hp := Way.pts hD hS h1
  have := pts_len (h4 f m) fun y hy => by
    rcases List.mem_cons.mp hy with e | hy
    · rw [e]; exact hp.1
    · exact hp.2 y hy
  rw [List.length_cons, List.length_map] at this
  omega

/-! ### the ring behind the last one -/
def WS.nx (s : WS) (p : Int) : Int := match s.P p with
  | some e => e.2.1
  | none => 0
def WS.back (s : WS) : Nat → Int → Int
  | 0, p => p
  | k + 1, p => s.nx (s.back k p)
theorem WS.back_add (s : WS) (a b : Nat) (p : Int) : s.back (a + b) p = s.back a (s.back b p) := by
  induction a with
  | zero => simp [WS.back]
  | succ a ih => rw [Nat.succ_add]; simp only [WS.back]; rw [ih]

/-- what the ring's finding needs: n + 1 steps back, then a round way of c steps -/
theorem Runs.ring {D : List Dem} {S : List Int} {n k : Nat} {s : WS} {v : Int} (hD : ∀ e ∈ D, Betw n e) (R : Runs D S k s (some v)) (hk : n + 2 ≤ k) :
    (∀ j, j ≤ n + 1 → ∃ e, s.P (s.back j v) = some e ∧ e ∈ D) ∧ ∃ c, 1 ≤ c ∧ c ≤ n + 1 ∧ s.back c (s.back (n + 1) v) = s.back (n + 1) v ∧ ∀ m, ∃ e, s.P (s.back m (s.back (n + 1) v)) = some e ∧ e ∈ D := by
  obtain ⟨Rd, R1, hv⟩ := R.rnd
  have hv := hv v rfl
  have lo : ∀ j, j ≤ n + 2 → k ≤ Rd (s.back j v) + j := by
    intro j
    induction j with
    | zero => intro _; simp only [WS.back]; omega
    | succ j ih =>
      intro hj
      have h1 := ih (by omega)
      obtain ⟨l, d, h2, _, h3⟩ := R1.g.pred (s.back j v) (by omega)
      have e : s.back (j + 1) v = l := by
        simp only [WS.back]
        unfold WS.nx
        rw [h2]
      rw [e]
      omega
  have has : ∀ j, j ≤ n + 1 → ∃ e, s.P (s.back j v) = some e ∧ e ∈ D ∧ e.1 = s.back j v := fun j hj => by
    have h1 := lo j (by omega)
    obtain ⟨l, d, h2, h3, _⟩ := R1.g.pred (s.back j v) (by omega)
    exact ⟨_, h2, h3, rfl⟩
  -- two of the points are the same
  obtain ⟨i, j, hij, hj, e⟩ : ∃ i j, i < j ∧ j ≤ n + 1 ∧ s.back i v = s.back j v := by
    apply Classical.byContradiction
    intro hno
    have nd : ((List.range (n + 2)).map fun j => s.back j v).Nodup := by
      unfold List.Nodup
      rw [List.pairwise_map]
      refine List.Pairwise.imp_of_mem (fun {a b} ha hb hab e => ?_) List.pairwise_lt_range
      exact hno ⟨a, b, hab, by have := List.mem_range.mp hb; omega, e⟩
    have := pts_len (n := n) nd fun x hx => by
      obtain ⟨j, hj, e⟩ := List.mem_map.mp hx
      obtain ⟨d, _, h2, h3⟩ := has j (by have := List.mem_range.mp hj; omega)
      rw [← e, ← h3]
      exact (hD d h2).1
    rw [List.length_map, List.length_range] at this
    omega
  have per : ∀ m, i ≤ m → s.back (m + (j - i)) v = s.back m v := fun m hm => by
    have e1 : m + (j - i) = (m - i) + j := by omega
    have e2 : m = (m - i) + i := by omega
    rw [e1, s.back_add, ← e, ← s.back_add, ← e2]
  have red : ∀ m, i ≤ m → ∃ m', m' ≤ n + 1 ∧ s.back m v = s.back m' v := by
    intro m
    induction m using Nat.strongRecOn with
    | _ m ih =>
      intro hm
      by_cases h : m ≤ n + 1
      · exact ⟨m, h, rfl⟩
      · obtain ⟨m', h1, h2⟩ := ih (m - (j - i)) (by omega) (by omega)
        refine ⟨m', h1, ?_⟩
        have := per (m - (j - i)) (by omega)
        have e2 : m - (j - i) + (j - i) = m := by omega
        rw [e2] at this
        rw [this, h2]
  refine ⟨fun j hj => ?_, j - i, by omega, by omega, ?_, fun m => ?_⟩
  · obtain ⟨d, h1, h2, _⟩ := has j hj
    exact ⟨d, h1, h2⟩
  · rw [← s.back_add, Nat.add_comm]
    exact per (n + 1) (by omega)
  · rw [← s.back_add]
    obtain ⟨m', h1, h2⟩ := red (m + (n + 1)) (by omega)
    rw [h2]
    obtain ⟨d, h3, h4, _⟩ := has m' h1
    exact ⟨d, h3, h4⟩

/-! ### what the lengths say -/
/-- x is the least difference of p over s -/
def MinD (D : List Dem) (s p x : Int) : Prop := (∀ f, Meets f D → x ≤ f p - f s) ∧ ∃ f, Meets f D ∧ f p - f s = x
theorem MinD.uniq {D : List Dem} {s p x y : Int} (h : MinD D s p x) (h' : MinD D s p y) : x = y := by
  obtain ⟨f, m, e⟩ := h.2
  obtain ⟨g, m', e'⟩ := h'.2
  have := h.1 g m'
  have := h'.1 f m
  omega
/-- each line is tied to the ground both ways -/
def Conn (n : Nat) (D : List Dem) : Prop := ∀ p : Int, 0 ≤ p → p < n → (∃ d, (p, -1, d) ∈ D) ∧ ∃ d, (-1, p, d) ∈ D

/-- when no length is made greater any more -/
theorem Runs.done {D : List Dem} {S : List Int} {k : Nat} {s s' : WS} {lt : Option Int} (R : Runs D S k s lt) (h : goOn D s = (s', none)) :
    s' = s ∧ (∀ e ∈ D, Tight s e) ∧ (∀ p ∈ S, ∃ y, s.L p = some y ∧ 0 ≤ y) ∧ ∀ p x, s.L p = some x → ∀ f, Meets f D → ∃ a ∈ S, x ≤ f p - f a := by
  obtain ⟨_, h2, h3⟩ := fold_late D s s' none h
  refine ⟨h2, h3, R.start, fun p x hx f m => ?_⟩
  obtain ⟨Rd, R1, _⟩ := R.rnd
  obtain ⟨W, hW, _⟩ := R1.g.wit p x hx
  exact (Way.meets m hW).2

/-- from one start: the least differences -/
theorem Runs.min {D : List Dem} {a : Int} {n k : Nat} {s s' : WS} {lt : Option Int} (hD : ∀ e ∈ D, Betw n e) (hC : Conn n D) (ha : IsPt n a) (R : Runs D [a] k s lt) (h : goOn D s = (s', none)) :
    ∀ p, IsPt n p → ∃ x, s.L p = some x ∧ MinD D a p x := by
  obtain ⟨_, tight, st, low⟩ := R.done h
  obtain ⟨ya, hya, h0⟩ := st a (by simp)
  have all : ∀ p, IsPt n p → ∃ x, s.L p = some x := by
    have hg : ∃ x, s.L (-1) = some x := by
      by_cases e : a = -1
      · rw [← e]; exact ⟨_, hya⟩
      · obtain ⟨d, hd⟩ := (hC a (by unfold IsPt at ha; omega) ha.2).2
        obtain ⟨y, hy, _⟩ := tight _ hd ya hya
        exact ⟨y, hy⟩
    intro p hp
    by_cases e : p = -1
    · rw [e]; exact hg
    · obtain ⟨x, hx⟩ := hg
      obtain ⟨d, hd⟩ := (hC p (by unfold IsPt at hp; omega) hp.2).1
      obtain ⟨y, hy, _⟩ := tight _ hd x hx
      exact ⟨y, hy⟩
  -- the lengths themselves meet the demands (those that are not told are of no point)
  intro p hp
  obtain ⟨x, hx⟩ := all p hp
  refine ⟨x, hx, fun f m => ?_, ?_⟩
  · obtain ⟨b, hb, h1⟩ := low p x hx f m
    rw [List.mem_singleton.mp hb] at h1
    exact h1
  · have hm : Meets (fun q => (s.L q).getD 0) D := fun e he => by
      obtain ⟨y, hl⟩ := all e.2.1 (hD e he).2
      obtain ⟨z, hz, hle⟩ := tight e he y hl
      simp only [hl, hz, Option.getD_some]
      exact hle
    refine ⟨_, hm, ?_⟩
    obtain ⟨b, hb, h1⟩ := low a ya hya _ hm
    rw [List.mem_singleton.mp hb] at h1
    simp only [hx, hya, Option.getD_some] at h1 ⊢
    omega
end K43

/-! Plain mathematics, second part: systems put together, fixed columns, matrices of least differences, sorted lists. -/
namespace K43

/-- the demands that each line has -/
def bnd (n : Nat) : List Dem := (List.range n).map (fun i : Nat => ((i : Int), (-1 : Int), (0 : Int))) ++ (List.range n).map fun i : Nat => ((-1 : Int), (i : Int), (-199 : Int))

theorem mem_bnd {n : Nat} {e : Dem} : e ∈ bnd n ↔ ∃ i : Nat, i < n ∧ (e = ((i : Int), -1, 0) ∨ e = (-1, (i : Int), -199)) := by
  unfold bnd
  rw [List.mem_append, List.mem_map, List.mem_map]
  constructor
  · rintro (⟨i, hi, h⟩ | ⟨i, hi, h⟩)
    · exact ⟨i, List.mem_range.mp hi, .inl h.symm⟩
    · exact ⟨i, List.mem_range.mp hi, .inr h.symm⟩
  · rintro ⟨i, hi, h | h⟩
    · exact .inl ⟨i, List.mem_range.mpr hi, h.symm⟩
    · exact .inr ⟨i, List.mem_range.mpr hi, h.symm⟩

theorem bnd_betw {n : Nat} {e : Dem} (h : e ∈ bnd n) : Betw n e := by
  obtain ⟨i, hi, h | h⟩ := mem_bnd.mp h <;> subst h <;> unfold Betw IsPt <;> simp only <;> omega

/-- all holds just the demands of dem and those that each line has -/
def Uni (n : Nat) (dem all : List Dem) : Prop := ∀ e, e ∈ all ↔ e ∈ dem ∨ e ∈ bnd n

theorem Uni.betw {n : Nat} {dem all : List Dem} (u : Uni n dem all) (h : ∀ e ∈ dem, Betw n e) : ∀ e ∈ all, Betw n e := fun e he => by
  rcases (u e).mp he with h1 | h1
  · exact h e h1
  · exact bnd_betw h1
theorem Uni.conn {n : Nat} {dem all : List Dem} (u : Uni n dem all) : Conn n all := fun p h0 h1 => by
  have hp : ((p.toNat : Nat) : Int) = p := by omega
  refine ⟨⟨0, (u _).mpr (.inr (mem_bnd.mpr ⟨p.toNat, by omega, .inl ?_⟩))⟩, ⟨-199, (u _).mpr (.inr (mem_bnd.mpr ⟨p.toNat, by omega, .inr ?_⟩))⟩⟩ <;> rw [hp]

/-- the same columns -/
def Alike (D E : List Dem) : Prop := ∀ f, Meets f D ↔ Meets f E
theorem Alike.symm {D E : List Dem} (h : Alike D E) : Alike E D := fun f => (h f).symm
theorem Alike.feas {D E : List Dem} (h : Alike D E) : Feas D ↔ Feas E := ⟨fun ⟨f, m⟩ => ⟨f, (h f).mp m⟩, fun ⟨f, m⟩ => ⟨f, (h f).mpr m⟩⟩
theorem Alike.min {D E : List Dem} (h : Alike D E) {s p x : Int} (m : MinD D s p x) : MinD E s p x :=
  ⟨fun f hf => m.1 f ((h f).mpr hf), let ⟨f, hf, e⟩ := m.2; ⟨f, (h f).mp hf, e⟩⟩

/-- a demand that all columns meet -/
def Impl (D : List Dem) (e : Dem) : Prop := ∀ f, Meets f D → f e.2.1 + e.2.2 ≤ f e.1

theorem impl_min {D : List Dem} {u l d x : Int} (m : MinD D l u x) : Impl D (u, l, d) ↔ d ≤ x := by
  constructor
  · intro h
    obtain ⟨f, hf, e⟩ := m.2
    have := h f hf
    simp only at this
    omega
  · intro h f hf
    have := m.1 f hf
    simp only
    omega
theorem impl_none {D : List Dem} (h : ¬ Feas D) (e : Dem) : Impl D e := fun f hf => (h ⟨f, hf⟩).elim

theorem meets_uni {n : Nat} {dem all : List Dem} (u : Uni n dem all) (f : Int → Int) : Meets f all ↔ Meets f dem ∧ Meets f (bnd n) := by
  unfold Meets
  constructor
  · intro h
    exact ⟨fun e he => h e ((u e).mpr (.inl he)), fun e he => h e ((u e).mpr (.inr he))⟩
  · rintro ⟨h1, h2⟩ e he
    rcases (u e).mp he with h | h
    · exact h1 e h
    · exact h2 e h
theorem meets_app (f : Int → Int) (D E : List Dem) : Meets f (D ++ E) ↔ Meets f D ∧ Meets f E := by
  unfold Meets
  constructor
  · intro h
    exact ⟨fun e he => h e (List.mem_append_left _ he), fun e he => h e (List.mem_append_right _ he)⟩
  · rintro ⟨h1, h2⟩ e he
    rcases List.mem_append.mp he with h | h
    · exact h1 e h
    · exact h2 e h
theorem meets_one (f : Int → Int) (e : Dem) : Meets f [e] ↔ f e.2.1 + e.2.2 ≤ f e.1 := by
  unfold Meets
  constructor
  · intro h
    exact h e (List.mem_singleton_self e)
  · intro h d hd
    rw [List.mem_singleton.mp hd]
    exact h

section
variable {n : Nat} {dem more all all' all2 : List Dem} {e : Dem}
/-- one demand more -/
theorem more_meets (u : Uni n dem all) (u' : Uni n (dem ++ [e]) all') (f : Int → Int) : Meets f all' ↔ Meets f all ∧ f e.2.1 + e.2.2 ≤ f e.1 := by
  rw [meets_uni u', meets_uni u, meets_app, meets_one]
  constructor
  · rintro ⟨⟨a, b⟩, c⟩; exact ⟨⟨a, c⟩, b⟩
  · rintro ⟨⟨a, c⟩, b⟩; exact ⟨⟨a, b⟩, c⟩
/-- a demand is implied exactly if its contrary leaves no columns -/
theorem impl_contrary {u l d : Int} (h : Uni n dem all) (h' : Uni n (dem ++ [(l, u, 1 - d)]) all') : Impl all (u, l, d) ↔ ¬ Feas all' := by
  constructor
  · rintro hi ⟨f, hf⟩
    have h1 := (more_meets h h' f).mp hf
    have h2 := hi f h1.1
    simp only at h1 h2
    omega
  · intro hn f hf
    apply Classical.byContradiction
    intro hc
    refine hn ⟨f, (more_meets h h' f).mpr ⟨hf, ?_⟩⟩
    simp only at hc ⊢
    omega
/-- .. and exactly if putting it in changes nothing -/
theorem impl_more (h : Uni n dem all) (h' : Uni n (dem ++ [e]) all') : Impl all e ↔ Alike all' all := by
  constructor
  · intro hi f
    rw [more_meets h h' f]
    exact ⟨fun x => x.1, fun x => ⟨x, hi f x⟩⟩
  · intro ha f hf
    exact ((more_meets h h' f).mp ((ha f).mpr hf)).2
theorem impl_self (h : Uni n dem all) (h' : Uni n (dem ++ [e]) all') : Impl all' e := fun f hf => ((more_meets h h' f).mp hf).2
/-- two systems are alike exactly if each implies the demands of the other one -/
theorem alike_iff : Alike all all2 ↔ (∀ e ∈ all2, Impl all e) ∧ ∀ e ∈ all, Impl all2 e := by
  constructor
  · intro h
    exact ⟨fun e he f hf => (h f).mp hf e he, fun e he f hf => (h f).mpr hf e he⟩
  · rintro ⟨h1, h2⟩ f
    exact ⟨fun hf e he => h1 e he f hf, fun hf e he => h2 e he f hf⟩
end

/-! ### the greatest differences, from the demands backward -/
def MaxD (D : List Dem) (s p x : Int) : Prop := (∀ f, Meets f D → f p - f s ≤ x) ∧ ∃ f, Meets f D ∧ f p - f s = x
def back (e : Dem) : Dem := (e.2.1, e.1, e.2.2)
theorem meets_back (f : Int → Int) (D : List Dem) : Meets f (D.map back) ↔ Meets (fun p => - f p) D := by
  unfold Meets
  constructor
  · intro h e he
    have := h (back e) (List.mem_map.mpr ⟨e, he, rfl⟩)
    simp only [back] at this ⊢
    omega
  · intro h d hd
    obtain ⟨e, he, rfl⟩ := List.mem_map.mp hd
    have := h e he
    simp only [back] at this ⊢
    omega
theorem feas_back {D : List Dem} (h : Feas D) : Feas (D.map back) := by
  obtain ⟨f, hf⟩ := h
  refine ⟨fun p => - f p, (meets_back _ D).mpr ?_⟩
  intro e he
  have := hf e he
  simp only
  omega
theorem min_back {D : List Dem} {s p x : Int} (m : MinD (D.map back) s p x) : MaxD D s p (-x) := by
  refine ⟨fun f hf => ?_, ?_⟩
  · have := m.1 (fun p => - f p) ((meets_back _ D).mpr fun e he => by
      have := hf e he
      dsimp only
      omega)
    omega
  · obtain ⟨g, hg, e⟩ := m.2
    refine ⟨fun p => - g p, (meets_back g D).mp hg, ?_⟩
    dsimp only
    omega
theorem conn_back {n : Nat} {D : List Dem} (h : Conn n D) : Conn n (D.map back) := fun p h0 h1 => by
  obtain ⟨⟨d, hd⟩, ⟨d', hd'⟩⟩ := h p h0 h1
  exact ⟨⟨d', List.mem_map.mpr ⟨_, hd', rfl⟩⟩, ⟨d, List.mem_map.mpr ⟨_, hd, rfl⟩⟩⟩
theorem betw_back {n : Nat} {D : List Dem} (h : ∀ e ∈ D, Betw n e) : ∀ e ∈ D.map back, Betw n e := fun e he => by
  obtain ⟨d, hd, rfl⟩ := List.mem_map.mp he
  exact ⟨(h d hd).2, (h d hd).1⟩

/-! ### a line fixed -/
theorem meets_shift {f : Int → Int} {D : List Dem} (h : Meets f D) (c : Int) : Meets (fun p => f p + c) D := fun e he => by
  have := h e he
  simp only
  omega
theorem meets_max {f g : Int → Int} {D : List Dem} (h : Meets f D) (h' : Meets g D) : Meets (fun p => max (f p) (g p)) D := fun e he => by
  have := h e he
  have := h' e he
  simp only
  omega
section
variable {n : Nat} {dem all all' : List Dem} {line c lo hi : Int}
theorem fix_meets (u : Uni n dem all) (u' : Uni n (dem ++ [(line, -1, c), (-1, line, -c)]) all') (f : Int → Int) : Meets f all' ↔ Meets f all ∧ f line - f (-1) = c := by
  rw [meets_uni u', meets_uni u, meets_app]
  have e : Meets f [(line, -1, c), (-1, line, -c)] ↔ f line - f (-1) = c := by
    rw [show ([(line, -1, c), (-1, line, -c)] : List Dem) = [(line, -1, c)] ++ [(-1, line, -c)] from rfl, meets_app, meets_one, meets_one]
    simp only
    omega
  rw [e]
  constructor
  · rintro ⟨⟨a, b⟩, c⟩; exact ⟨⟨a, c⟩, b⟩
  · rintro ⟨⟨a, c⟩, b⟩; exact ⟨⟨a, b⟩, c⟩
/-- a column can be fixed exactly if it is in the line's range -/
theorem fix_feas (u : Uni n dem all) (u' : Uni n (dem ++ [(line, -1, c), (-1, line, -c)]) all') (hl : MinD all (-1) line lo) (hh : MaxD all (-1) line hi) : Feas all' ↔ lo ≤ c ∧ c ≤ hi := by
  constructor
  · rintro ⟨f, hf⟩
    have h := (fix_meets u u' f).mp hf
    have := hl.1 f h.1
    have := hh.1 f h.1
    omega
  · rintro ⟨h1, h2⟩
    obtain ⟨f, hf, ef⟩ := hl.2
    obtain ⟨g, hg, eg⟩ := hh.2
    refine ⟨_, (fix_meets u u' _).mpr ⟨meets_max (meets_shift hf (- f (-1))) (meets_shift hg (- g (-1) - (hi - c))), ?_⟩⟩
    omega
theorem fix_none (u : Uni n dem all) (u' : Uni n (dem ++ [(line, -1, c), (-1, line, -c)]) all') (h : ¬ Feas all) : ¬ Feas all' := fun ⟨f, hf⟩ => h ⟨f, ((fix_meets u u' f).mp hf).1⟩
theorem fix_min {x : Int} (u : Uni n dem all) (u' : Uni n (dem ++ [(line, -1, c), (-1, line, -c)]) all') (m : MinD all' (-1) line x) : x = c := by
  obtain ⟨f, hf, e⟩ := m.2
  have := ((fix_meets u u' f).mp hf).2
  omega
theorem fix_max {x : Int} (u : Uni n dem all) (u' : Uni n (dem ++ [(line, -1, c), (-1, line, -c)]) all') (m : MaxD all' (-1) line x) : x = c := by
  obtain ⟨f, hf, e⟩ := m.2
  have := ((fix_meets u u' f).mp hf).2
  omega
theorem fix_impl (u : Uni n dem all) (u' : Uni n (dem ++ [(line, -1, c), (-1, line, -c)]) all') : Impl all' (line, -1, c) := fun f hf => by
  have := ((fix_meets u u' f).mp hf).2
  simp only
  omega
end

/-! ### the matrix of least differences -/
def IsMat (n : Nat) (D : List Dem) (M : List (List Int)) : Prop :=
  (¬ Feas D ∧ M = []) ∨ (Feas D ∧ M.length = n + 1 ∧ ∀ (i : Nat) (r : List Int), M[i]? = some r → r.length = n + 1 ∧ ∀ (j : Nat) (x : Int), r[j]? = some x → MinD D ((i : Int) - 1) ((j : Int) - 1) x)

theorem mat_entry {n : Nat} {D : List Dem} {M : List (List Int)} (hF : Feas D) (h : IsMat n D M) {l u : Int} (hl : IsPt n l) (hu : IsPt n u) :
    ∃ r x, M[(l + 1).toNat]? = some r ∧ r[(u + 1).toNat]? = some x ∧ MinD D l u x := by
  rcases h with ⟨h, _⟩ | ⟨_, hM, h⟩
  · exact (h hF).elim
  · unfold IsPt at hl hu
    have h1 : (l + 1).toNat < M.length := by omega
    have h2 := h (l + 1).toNat _ (List.getElem?_eq_getElem h1)
    have h3 : (u + 1).toNat < (M[(l + 1).toNat]).length := by omega
    refine ⟨_, _, List.getElem?_eq_getElem h1, List.getElem?_eq_getElem h3, ?_⟩
    have h4 := h2.2 (u + 1).toNat _ (List.getElem?_eq_getElem h3)
    have e1 : (((l + 1).toNat : Nat) : Int) - 1 = l := by omega
    have e2 : (((u + 1).toNat : Nat) : Int) - 1 = u := by omega
    rw [e1, e2] at h4
    exact h4

theorem mat_le {n : Nat} {D E : List Dem} {M : List (List Int)} (hF : Feas D) (hG : Feas E) (h : IsMat n D M) (h' : IsMat n E M) (hE : ∀ e ∈ E, Betw n e) (f : Int → Int) (hf : Meets f D) : Meets f E := fun e he => by
  obtain ⟨hu, hl⟩ := hE e he
  obtain ⟨r, x, h1, h2, m⟩ := mat_entry hF h hl hu
  obtain ⟨r', x', h1', h2', m'⟩ := mat_entry hG h' hl hu
  rw [h1] at h1'
  cases h1'
  rw [h2] at h2'
  cases h2'
  have := m.1 f hf
  obtain ⟨g, hg, eg⟩ := m'.2
  have := hg e he
  omega

theorem mat_iff {n : Nat} {D E : List Dem} {M M' : List (List Int)} (h : IsMat n D M) (h' : IsMat n E M') (hD : ∀ e ∈ D, Betw n e) (hE : ∀ e ∈ E, Betw n e) : M = M' ↔ Alike D E := by
  constructor
  · intro e
    subst e
    by_cases hF : Feas D
    · have hG : Feas E := by
        rcases h' with ⟨_, e⟩ | ⟨hG, _⟩
        · rcases h with ⟨hn, _⟩ | ⟨_, hM, _⟩
          · exact (hn hF).elim
          · rw [e] at hM
            simp at hM
        · exact hG
      exact fun f => ⟨mat_le hF hG h h' hE f, mat_le hG hF h' h hD f⟩
    · have hG : ¬ Feas E := by
        rcases h with ⟨_, e⟩ | ⟨hF', _⟩
        · rcases h' with ⟨hn, _⟩ | ⟨_, hM, _⟩
          · exact hn
          · rw [e] at hM
            simp at hM
        · exact (hF hF').elim
      exact fun f => ⟨fun m => (hF ⟨f, m⟩).elim, fun m => (hG ⟨f, m⟩).elim⟩
  · intro a
    rcases h with ⟨hn, e⟩ | ⟨hF, hM, h⟩
    · rcases h' with ⟨_, e'⟩ | ⟨hG, _⟩
      · rw [e, e']
      · exact (hn (a.feas.mpr hG)).elim
    · rcases h' with ⟨hn, _⟩ | ⟨hG, hM', h'⟩
      · exact (hn (a.feas.mp hF)).elim
      · refine List.ext_getElem (by omega) fun i h1 h2 => ?_
        have a1 := h i _ (List.getElem?_eq_getElem h1)
        have a2 := h' i _ (List.getElem?_eq_getElem h2)
        refine List.ext_getElem (by omega) fun j h3 h4 => ?_
        exact (a.min (a1.2 j _ (List.getElem?_eq_getElem h3))).uniq (a2.2 j _ (List.getElem?_eq_getElem h4))

/-! ### sorted lists -/
def lt3 (a b : Dem) : Prop := a.1 < b.1 ∨ (a.1 = b.1 ∧ (a.2.1 < b.2.1 ∨ (a.2.1 = b.2.1 ∧ a.2.2 < b.2.2)))
theorem lt3_irr (a : Dem) : ¬ lt3 a a := by unfold lt3; omega
theorem lt3_asym {a b : Dem} (h : lt3 a b) : ¬ lt3 b a := by unfold lt3 at *; omega
theorem sorted_uniq : ∀ {l m : List Dem}, l.Pairwise lt3 → m.Pairwise lt3 → (∀ e, e ∈ l ↔ e ∈ m) → l = m
  | [], [], _, _, _ => rfl
  | [], b :: m, _, _, h => by
    have := (h b).mpr List.mem_cons_self
    cases this
  | a :: l, [], _, _, h => by
    have := (h a).mp List.mem_cons_self
    cases this
  | a :: l, b :: m, hl, hm, h => by
    obtain ⟨hl1, hl2⟩ := List.pairwise_cons.mp hl
    obtain ⟨hm1, hm2⟩ := List.pairwise_cons.mp hm
    have e : a = b := by
      rcases List.mem_cons.mp ((h a).mp List.mem_cons_self) with e | h1
      · exact e
      · rcases List.mem_cons.mp ((h b).mpr List.mem_cons_self) with e | h2
        · exact e.symm
        · exact (lt3_asym (hm1 a h1) (hl1 b h2)).elim
    subst e
    refine congrArg _ (sorted_uniq hl2 hm2 fun e => ?_)
    constructor
    · intro he
      rcases List.mem_cons.mp ((h e).mp (List.mem_cons_of_mem _ he)) with e' | h1
      · subst e'
        exact (lt3_irr _ (hl1 _ he)).elim
      · exact h1
    · intro he
      rcases List.mem_cons.mp ((h e).mpr (List.mem_cons_of_mem _ he)) with e' | h1
      · subst e'
        exact (lt3_irr _ (hm1 _ he)).elim
      · exact h1
end K43

/-! sorted({x: True for x in xs}), xs a list of tuples of ints. -/
namespace K43
open PySem PySem.Spec PyProof.Rows L2

/-- the keys of a dict that was filled from the first i of ks -/
structure Keys (ks : List (Addr × List Int)) (i : Nat) (xs : List (List Int × Addr × Value)) : Prop where
  sub : ∀ e ∈ xs, (e.2.1, e.1) ∈ ks
  all : ∀ p ∈ ks.take i, p.2 ∈ xs.map (·.1)
  few : xs.length ≤ i
theorem Keys.zero (ks : List (Addr × List Int)) : Keys ks 0 [] := ⟨fun e he => (by cases he), fun p hp => (by simp at hp), Nat.le_refl _⟩
theorem Keys.next {ks : List (Addr × List Int)} {i : Nat} {xs : List (List Int × Addr × Value)} (g : Keys ks i xs) {a : Addr} {k : List Int} (h : ks[i]? = some (a, k)) (v : Value) : Keys ks (i + 1) (storedH xs k a v) := by
  have tk : ks.take (i + 1) = ks.take i ++ [(a, k)] := by rw [List.take_add_one, h] <;> rfl
  cases q : atKey xs k with
  | none =>
    rw [storedH_new q]
    refine ⟨fun e he => ?_, fun p hp => ?_, ?_⟩
    · rcases List.mem_append.mp he with he | he
      · exact g.sub e he
      · rw [List.mem_singleton.mp he]
        exact List.mem_of_getElem? h
    · rw [List.map_append]
      rw [tk] at hp
      rcases List.mem_append.mp hp with hp | hp
      · exact List.mem_append_left _ (g.all p hp)
      · rw [List.mem_singleton.mp hp]
        exact List.mem_append_right _ (List.mem_singleton_self _)
    · rw [List.length_append, List.length_singleton]
      exact Nat.succ_le_succ g.few
  | some y =>
    rw [storedH_old q]
    have pf : ∀ e : List Int × Addr × Value, (putAt k v e).1 = e.1 ∧ (putAt k v e).2.1 = e.2.1 := fun e => by
      unfold putAt
      split <;> exact ⟨rfl, rfl⟩
    have em : (xs.map (putAt k v)).map (·.1) = xs.map (·.1) := by
      rw [List.map_map]
      exact List.map_congr_left fun e _ => (pf e).1
    refine ⟨fun e he => ?_, fun p hp => ?_, ?_⟩
    · obtain ⟨e0, h0, rfl⟩ := List.mem_map.mp he
      rw [(pf e0).1, (pf e0).2]
      exact g.sub e0 h0
    · rw [em]
      rw [tk] at hp
      rcases List.mem_append.mp hp with hp | hp
      · exact g.all p hp
      · rw [List.mem_singleton.mp hp]
        unfold atKey at q
        obtain ⟨e, he, _⟩ := Option.map_eq_some_iff.mp q
        have h1 := List.find?_some he
        have h2 := List.mem_of_find?_eq_some he
        exact List.mem_map.mpr ⟨e, h2, of_decide_eq_true h1⟩
    · rw [List.length_map]
      exact Nat.le_succ_of_le g.few

section
variable {prog : Program} {w : World} {A : Around} {E : Value → Shared → Prop} {env : Env} {s : Shared}
/-- the dict's own object -/
def DRaw (P : Program) (w : World) (h : Heap) (D : Addr) (xs : List (List Int × Addr × Value)) : Prop :=
  ∃ o es ep, h.get? D = some o ∧ o.ExactDict ∧ o.data = .dict es ep ∧ es.toList = xs.map (entryOfKey (TK P w)) ∧ (xs.map (·.1)).Nodup
theorem DRaw.full {h h0 : Heap} {D : Addr} {xs : List (List Int × Addr × Value)} {ks : List (Addr × List Int)} {i : Nat} (d : DRaw prog w h D xs) (g : Keys ks i xs) (hk : ∀ p ∈ ks, IsT prog w h0 p.2 p.1) (o0 : ∀ b o, h0.get? b = some o → h.get? b = some o) :
    h.DictOfH (TK prog w) D xs := by
  obtain ⟨o, es, ep, h1, h2, h3, h4, h5⟩ := d
  exact ⟨o, es, ep, h1, h2, h3, h4, fun e he => L2.isT_keep (hk _ (g.sub e he)) o0, h5⟩
theorem DRaw.of {h : Heap} {D : Addr} {xs : List (List Int × Addr × Value)} (d : h.DictOfH (TK prog w) D xs) : DRaw prog w h D xs := by
  obtain ⟨o, es, ep, h1, h2, h3, h4, _, h5⟩ := d
  exact ⟨o, es, ep, h1, h2, h3, h4, h5⟩

theorem dc_raw {iter : Expr} {scope : Scope} {cl : List (Str × Addr)} {x : Str} {pk pc pt pos : Pos} {j : Nat} {Q : Value → Shared → Prop} (hh : A.handled = none) (hu : A.units < cLine)
    (hclos : closureFor scope env = pure cl) (hcell : ∀ y ∈ scope.names, y.2 ≠ .cell) (hkind : scope.kind = .function) (hnames : ∀ y ∈ scope.names, y.2 = .local → scope.names.lookup y.1 = some .local)
    (hx : scope.names.lookup x = some .local) (hd : (x == ("__debug__" : Str)) = false) (hs : ∀ y, foldedSetIterable iter env y = pure y)
    (h : wpAny (model prog w) A (eval iter env) (fun v s1 => ∃ (l : Addr) (ks : List (Addr × List Int)), v = .ref l ∧ s1.heap.IsList l (ks.map fun p => Value.ref p.1).toArray ∧ (∀ p ∈ ks, IsT prog w s1.heap p.2 p.1) ∧ ks.length ≤ 1000 ∧
      ∀ D h' tk xs, s1.heap.objs.size ≤ D → h'.DictOfH (TK prog w) D xs → Keys ks ks.length xs → (∀ b o, s1.heap.get? b = some o → h'.get? b = some o) → Q (.ref D) { s1 with heap := h', toks := tk }) E s) :
    wpAny (model prog w) A (eval (.DictComp (.Name x pk) (.Constant (.bool true) j pc) [⟨.Name x pt, iter, [], 0⟩] scope pos) env) Q E s := by
  refine DictComp_goes hclos hcell hkind hnames (wpAny_mono h (fun v s1 ⟨l, ks, ev, hl, hk, hz, hq⟩ => ?_) fun _ _ e => e) hs
  subst ev
  have hlt : l < s1.heap.objs.size := by obtain ⟨o, ho, _⟩ := hl; exact Heap.lt_size ho
  refine wpAny_pyIter_list hl ?_
  refine ⟨_, _, _, _, _, _, rfl, .list (A := A) hh _ l (Nat.ne_of_lt hlt) _, ⟨⟨_, Heap.get?_push_size _ rfl, rfl, rfl⟩, hl.push _⟩, fun D C s3 hB hD => ?_⟩
  obtain ⟨⟨h3, tk3, rfl⟩, old, nD, nC, hDC, hnm⟩ := hB
  have nD' : s1.heap.objs.size + 1 ≤ D := by
    have := nD
    rw [Heap.size_push] at this
    exact this
  have nC' : s1.heap.objs.size + 1 ≤ C := by
    have := nC
    rw [Heap.size_push] at this
    exact this
  have kinds : ∀ y, scope.names.lookup y = some .local → (compEnvC scope cl C env).kindOf y = some .local := fun y hy => lookup_relabel_local hy
  have hp : ((compEnvC scope cl C env).scope.kind == .class || ((compEnvC scope cl C env).scope.kind == .module && (compEnvC scope cl C env).locals != (compEnvC scope cl C env).globals)) = false := by
    show (scope.kind == .class || (scope.kind == .module && _)) = false
    rw [hkind]; rfl
  refine ⟨fun i s' => ∃ h' tk m xs, s' = { s1 with heap := h', toks := tk } ∧ h'.Ns C m ∧ DRaw prog w h' D xs ∧ Keys ks i xs ∧ ∀ b o, s1.heap.get? b = some o → h'.get? b = some o,
    ⟨h3, tk3, _, [], rfl, hnm, ⟨_, #[], 0, hD, ⟨rfl, rfl, rfl⟩, rfl, rfl, List.nodup_nil⟩, Keys.zero ks, fun b o e => old b o (Heap.get?_push_of_some _ e)⟩, ?_, ?_, ?_⟩
  · rintro i s' h' tk ⟨h4, tk4, m, xs, rfl, n4, d4, k4, o4⟩ hk' _
    have off : ∀ b : Addr, b ≠ s1.heap.objs.size → b ∉ [s1.heap.objs.size] := fun b hb hm => hb (List.mem_singleton.mp hm)
    refine ⟨h', tk, m, xs, rfl, n4.at' fun o e => hk' _ o (off _ (Nat.ne_of_gt nC')) e, ?_, k4, fun b o e => hk' b o (off _ (Nat.ne_of_lt (Heap.lt_size e))) (o4 b o e)⟩
    obtain ⟨o, es, ep, z1, z2⟩ := d4
    exact ⟨o, es, ep, hk' _ o (off _ (Nat.ne_of_gt nD')) z1, z2⟩
  · rintro i v s' hi hv st ⟨h4, tk4, m, xs, rfl, n4, d4, k4, o4⟩
    obtain ⟨a, k, hp1, rfl⟩ : ∃ a k, ks[i]? = some (a, k) ∧ v = .ref a := by
      have hv' : (ks.map fun p => Value.ref p.1).toArray[i]? = some v := hv
      have q : (ks.map fun p => Value.ref p.1)[i]? = some v := by simpa using hv'
      rw [List.getElem?_map] at q
      obtain ⟨p, hp, e⟩ := Option.map_eq_some_iff.mp q
      exact ⟨p.1, p.2, hp, e.symm⟩
    refine wpAny_assign_Name (wpAny_storeName_local (kinds _ hx) n4 (fun h5 n5 s5 => ?_) hp)
    refine wpAny_tests_nil ?_
    show wpAny _ _ _ _ _ _
    rw [eval_Name _ _ _ hd]
    refine wpAny_bind (wpAny_standAt (wpAny_loadName_local hkind (kinds _ hx) n5 (v := .ref a) (by simp) ?_))
    refine Constant_bool ?_
    have up5 : ∀ b o, b ≠ C → h4.get? b = some o → h5.get? b = some o := fun b o hb e => s5.extBut _ _ hb e
    have offC : ∀ b : Addr, b < s1.heap.objs.size → b ≠ C := fun b hb => Nat.ne_of_lt (Nat.lt_of_lt_of_le hb (Nat.le_of_succ_le nC'))
    have o5 : ∀ b o, s1.heap.get? b = some o → h5.get? b = some o := fun b o e => up5 b o (offC b (Heap.lt_size e)) (o4 b o e)
    have d5 : DRaw prog w h5 D xs := by
      obtain ⟨o, es, ep, z1, z2⟩ := d4
      exact ⟨o, es, ep, up5 _ o hDC z1, z2⟩
    have hmem : (a, k) ∈ ks := List.mem_of_getElem? hp1
    have hlen : xs.length ≤ 1000 := Nat.le_trans k4.few (Nat.le_trans (Nat.le_of_lt (by simpa using hi)) hz)
    refine wpAny_dictSet_heap (knd := TK prog w) (hsz := Nat.le_of_lt (small1000 hlen)) hu (L2.isT_keep (hk _ hmem) o5) (d5.full k4 hk o5) fun h6 d6 s6 => ⟨⟨h6, _, _, _, rfl, n5.sameBut s6 (Ne.symm hDC), DRaw.of d6, k4.next hp1 _, fun b o e => ?_⟩, ?_⟩
    · exact s6.extBut b o (Nat.ne_of_lt (Nat.lt_of_lt_of_le (Heap.lt_size e) (Nat.le_of_succ_le nD'))) (o5 b o e)
    · obtain ⟨z1, z2⟩ := st
      have toI : ∀ o, h4.get? s1.heap.objs.size = some o → h6.get? s1.heap.objs.size = some o := fun o e => s6.extBut _ o (Nat.ne_of_lt nD') (up5 _ o (Nat.ne_of_lt nC') e)
      have toL : ∀ o, h4.get? l = some o → h6.get? l = some o := fun o e => s6.extBut _ o (Nat.ne_of_lt (Nat.lt_of_lt_of_le hlt (Nat.le_of_succ_le nD'))) (up5 _ o (offC l hlt) e)
      exact ⟨z1.at toI, z2.at toL⟩
  · rintro s' ⟨h4, tk4, m, xs, rfl, n4, d4, k4, o4⟩
    have k4' : Keys ks ks.length xs := by simpa using k4
    refine ⟨m, n4, fun h' hs' => ?_⟩
    have o' : ∀ b o, s1.heap.get? b = some o → h'.get? b = some o := fun b o e => hs'.extBut b o (Nat.ne_of_lt (Nat.lt_of_lt_of_le (Heap.lt_size e) (Nat.le_of_succ_le nC'))) (o4 b o e)
    have d' : DRaw prog w h' D xs := by
      obtain ⟨o, es, ep, z1, z2⟩ := d4
      exact ⟨o, es, ep, hs'.extBut _ o hDC z1, z2⟩
    exact hq D h' tk4 xs (Nat.le_of_succ_le nD') (d'.full k4' hk o') k4' o'
end
end K43

/-! sorted of a dict with tuple keys and of a set of tuples: triples of ints, in order. -/
namespace K43
open PySem PySem.Spec PyProof.Rows L2

/-- a demand as a list of ints, as data -/
def dl (e : Dem) : List Int := [e.1, e.2.1, e.2.2]
def dd (e : Dem) : PyData := .tuple [.int e.1, .int e.2.1, .int e.2.2]
theorem dl_inj {a b : Dem} (h : dl a = dl b) : a = b := by
  unfold dl at h
  injection h with h1 h2
  injection h2 with h2 h3
  injection h3 with h3 _
  exact Prod.ext h1 (Prod.ext h2 h3)

instance (a b : Dem) : Decidable (lt3 a b) := by unfold lt3; infer_instance
def le3 (a b : Dem) : Bool := decide (¬ lt3 b a)

theorem dataLt_dd (a b : Dem) : PySem.W.dataLt (dd a) (dd b) = decide (lt3 a b) := by
  have e0 : PyProof.Rows.lexLt PyProof.Rows.itemOrd (PySem.W.keyToksAll []) (PySem.W.keyToksAll []) = false := PyProof.Rows.lex_irrefl _
  unfold dd
  rw [PySem.W.dataLt_tuple, PySem.W.dataLt_cons (by simp [PySem.W.alike]), PySem.W.dataLt_cons (by simp [PySem.W.alike]), PySem.W.dataLt_cons (by simp [PySem.W.alike]), e0, PySem.W.dataLt_int, PySem.W.dataLt_int, PySem.W.dataLt_int]
  simp only [PyData.eqv, beq_iff_eq]
  unfold lt3
  by_cases h1 : a.1 = b.1 <;> by_cases h2 : a.2.1 = b.2.1 <;> by_cases h3 : a.2.2 = b.2.2 <;> simp [h1, h2, h3]

theorem dataLe_dd : PySem.W.dataLe false (fun b : Addr × Dem => dd b.2) = fun p q => le3 p.2 q.2 := by
  funext p q
  show (!PySem.W.dataLt (dd q.2) (dd p.2)) = _
  rw [dataLt_dd]
  unfold le3
  by_cases h : lt3 q.2 p.2 <;> simp [h]

/-- what sorting hands back: the same items, strictly rising where no demand stands twice -/
theorem sort_dems (bs : List (Addr × Dem)) (hn : (bs.map (·.2)).Nodup) : (bs.mergeSort fun p q => le3 p.2 q.2).Perm bs ∧ ((bs.mergeSort fun p q => le3 p.2 q.2).map (·.2)).Pairwise lt3 := by
  have hp := List.mergeSort_perm bs fun p q : Addr × Dem => le3 p.2 q.2
  refine ⟨hp, ?_⟩
  have hs : (bs.mergeSort fun p q => le3 p.2 q.2).Pairwise fun p q => le3 p.2 q.2 = true := by
    refine List.pairwise_mergeSort (fun a b c h1 h2 => ?_) (fun a b => ?_) bs
    · unfold le3 lt3 at *
      simp only [decide_eq_true_eq] at *
      omega
    · unfold le3 lt3
      simp only [Bool.or_eq_true, decide_eq_true_eq]
      omega
  have hnd : ((bs.mergeSort fun p q => le3 p.2 q.2).map (·.2)).Nodup := (hp.map (·.2)).nodup_iff.mpr hn
  have h2 := List.pairwise_map.mp hnd
  rw [List.pairwise_map]
  refine (hs.and h2).imp fun {p q} ⟨h, hne⟩ => ?_
  unfold le3 at h
  have h' := of_decide_eq_true h
  unfold lt3 at h' ⊢
  have : ¬ (p.2.1 = q.2.1 ∧ p.2.2.1 = q.2.2.1 ∧ p.2.2.2 = q.2.2.2) := fun ⟨a, b, c⟩ => hne (Prod.ext a (Prod.ext b c))
  omega

section
variable {prog : Program} {w : World} {A : Around} {E : Value → Shared → Prop} {s : Shared}
theorem isT_reads {h : Heap} {a : Addr} {e : Dem} (x : IsT prog w h (dl e) a) : Reads h (.ref a) (dd e) [] := by
  obtain ⟨o, items, n, ho, hc, hd, hi⟩ := x
  have hI := ints_of_items hi
  unfold dl at hI
  refine .tuple ho hc hd ?_
  generalize items.toList = l at hI
  cases hI with
  | cons _ t1 r1 => cases r1 with
    | cons _ t2 r2 => cases r2 with
      | cons _ t3 r3 =>
        cases r3
        exact .cons (as := []) (.int _ _) (.cons (as := []) (.int _ _) (.cons (as := []) (.int _ _) .nil))
theorem each_refs {h : Heap} : ∀ {bs : List (Addr × Dem)}, (∀ p ∈ bs, IsT prog w h (dl p.2) p.1) → ∀ a : Addr,
    PySem.W.EachIs (fun v (b : Addr × Dem) => ∃ as, Reads h v (dd b.2) as ∧ a ∉ as) (bs.map fun p => Value.ref p.1) bs
  | [], _, _ => .nil
  | p :: bs, hk, a => .cons ⟨[], isT_reads (hk p List.mem_cons_self), by simp⟩ (each_refs (fun q hq => hk q (List.mem_cons_of_mem _ hq)) a)
theorem each_self : ∀ bs : List (Addr × Dem), PySem.W.EachIs (fun v (b : Addr × Dem) => v = Value.ref b.1) (bs.map fun p => Value.ref p.1) bs
  | [] => .nil
  | _ :: bs => .cons rfl (each_self bs)
theorem each_out {out : List Value} : ∀ {bs : List (Addr × Dem)}, PySem.W.EachIs (fun v (b : Addr × Dem) => v = Value.ref b.1) out bs → out = bs.map fun p => Value.ref p.1
  | _, .nil => rfl
  | _, .cons h t => by rw [h, each_out t] <;> rfl

/-- the end of sorted(..), from the values that were collected -/
theorem sort_tail {α : Type} {f : Value → Sem α} {bs : List (Addr × Dem)} {Q : α → Shared → Prop} (hk : ∀ p ∈ bs, IsT prog w s.heap (dl p.2) p.1) (hz : bs.length ≤ 1000) (hn : (bs.map (·.2)).Nodup) (hu : A.units + 3 < cLine)
    (h : ∀ h' tk c (L : List (Addr × Dem)), L.Perm bs → (L.map (·.2)).Pairwise lt3 → (∀ b o, s.heap.get? b = some o → h'.get? b = some o) → h'.get? s.heap.objs.size = some (seqObj "list" (L.map fun p => Value.ref p.1).toArray c) →
      wpAny (model prog w) A (f (.ref s.heap.objs.size)) Q E { s with heap := h', toks := tk }) :
    wpAny (model prog w) A (do let l ← newList (bs.map fun p => Value.ref p.1); let _ ← holding [l] (call (.builtin "list.sort") [l] []); f l) Q E s := by
  have hl : (bs.map fun p => Value.ref p.1).length = bs.length := List.length_map _
  refine wpAny_bind (wpAny_newList ?_ (by rw [hl, sizeLine_eq]; omega))
  have hoL : (s.heap.push (seqObj "list" (bs.map fun p => Value.ref p.1).toArray 0)).get? s.heap.objs.size = some (seqObj "list" (bs.map fun p => Value.ref p.1).toArray 0) := Heap.get?_push_size _ rfl
  have hk' : ∀ p ∈ bs, IsT prog w (s.heap.push (seqObj "list" (bs.map fun p => Value.ref p.1).toArray 0)) (dl p.2) p.1 := fun p hp => L2.isT_keep (hk p hp) fun c o e => Heap.get?_push_of_some _ e
  refine wpAny_bind (wpAny_holding (PySem.W.list_sort_data (s := { s with heap := s.heap.push (seqObj "list" (bs.map fun p => Value.ref p.1).toArray 0) }) (enc := fun b : Addr × Dem => dd b.2) (bs := bs) (n := 0) hoL (each_self bs) (each_refs hk' _)
    (PySem.W.AllAlike.of fun b b' => by unfold dd; simp [PySem.W.alike, PySem.W.alikeAll]) (PySem.W.Sortable.tuples fun b => ⟨_, _, rfl⟩) (by rw [sizeLine_eq]; omega) (fun b _ => ?_) fun out ho he => ?_))
  · show A.units + 1 + (dd b.2).depth < cLine
    have : (dd b.2).depth ≤ 1 := by unfold dd; simp [PyData.depth, PyData.depthAll]
    omega
  · rw [dataLe_dd] at he
    obtain ⟨hp, hs⟩ := sort_dems bs hn
    have e := each_out he
    obtain ⟨c, hc⟩ := sortedHeap_at (vs := bs.map fun p => Value.ref p.1) (out := out.toArray) hoL
    refine h _ s.toks c _ hp hs (fun b o q => ?_) (by rw [hc, e])
    have hlt := Heap.lt_size q
    rw [sortedHeap_old (Nat.ne_of_lt hlt) (by rw [size_push']; exact Nat.lt_succ_of_lt hlt)]
    exact Heap.get?_push_of_some _ q
end
end K43

/-! The rules over the layer: {x: True for x in xs}, sorted of it, *range(n), set(tuple), sorted(set). -/
namespace K43
open PySem PySem.Spec PyProof.Rows L2

/-- the value v is the tuple of the demand e -/
def IsD3 (H : Hp) (v : V) (e : Dem) : Prop := ∃ a, v = .ref a ∧ H a = some (.tup [.int e.1, .int e.2.1, .int e.2.2])
/-- a list of tuples by addresses -/
def Tups (H : Hp) (ks : List (Addr × Dem)) : Prop := ∀ p ∈ ks, H p.1 = some (.tup [.int p.2.1, .int p.2.2.1, .int p.2.2.2])
def refs (ks : List (Addr × Dem)) : List V := ks.map fun p => V.ref p.1
def raws (ks : List (Addr × Dem)) : List (Addr × List Int) := ks.map fun p => (p.1, dl p.2)

theorem vals_refs' : ∀ (ks : List (Addr × Dem)), Vals (refs ks) (ks.map fun p => Value.ref p.1)
  | [] => .nil
  | _ :: ks => .cons rfl (vals_refs' ks)
theorem refs_vals' : ∀ {ks : List (Addr × Dem)} {us : List Value}, Vals (refs ks) us → us = ks.map fun p => Value.ref p.1
  | [], _, .nil => rfl
  | p :: ks, _, .cons r t => by
    cases r
    rw [refs_vals' t] <;> rfl

section
variable {X : Cx} {pins : List (Addr × Obj)} {σ : L2.St} {H : Hp} {s : Shared}
theorem isT_of (I : Inv X pins σ H s) {a : Addr} {e : Dem} (h : H a = some (.tup [.int e.1, .int e.2.1, .int e.2.2])) : IsT X.prog X.w s.heap (dl e) a :=
  I.isT (show SqT X.K H a ((dl e).map V.int) from SqT.of h)
end

/-! ### the dict -/
/-- an untracked dict's words: its own object -/
def DctO (P : Program) (w : World) (a : Addr) (xs : List (List Int × Addr × Value)) : HO := .ext fun h => DRaw P w h a xs
theorem dctO_ok {P : Program} {w : World} {H : Hp} {h : Heap} {a : Addr} {xs : List (List Int × Addr × Value)} (d : DRaw P w h a xs) : ObjOk P w H h a (DctO P w a xs) := by
  have d0 := d
  obtain ⟨o, es, ep, ho, r⟩ := d
  refine ⟨d0, ⟨o, ho⟩, fun h1 h2 p k => ?_⟩
  obtain ⟨o', es', ep', ho', r'⟩ := p
  exact ⟨o', es', ep', k o' ho', r'⟩

/-- {x: True for x in e}, e a list of tuples -/
def tDct (P : Program) (w : World) (K : PySem.W.Frag) (ti : TE) : TE := fun σ H Q => ti σ H fun v H1 => ∃ (l : Addr) (ks : List (Addr × Dem)), v = .ref l ∧ SqL K H1 l (refs ks) ∧ Tups H1 ks ∧ ks.length ≤ 1000 ∧
  ∀ D xs, H1 D = none → (D == sysModules) = false → Keys (raws ks) ks.length xs → Q (.ref D) (upd H1 D (DctO P w D xs))
section
variable {X : Cx}
theorem pe_dct {x : Str} {iter : Expr} {ti : TE} {scope : Scope} {pk pc pt pos : Pos} {j : Nat} (hc : X.calm = true) (hu : X.A.units < cLine) (hi : PE X iter ti)
    (hclos : closureFor scope X.env = pure [] := by rfl) (hcell : ∀ y ∈ scope.names, y.2 ≠ .cell := by decide +kernel) (hkind : scope.kind = .function := by rfl)
    (hnames : ∀ y ∈ scope.names, y.2 = .local → scope.names.lookup y.1 = some .local := by decide +kernel)
    (hx : scope.names.lookup x = some .local := by decide +kernel) (hd : (x == ("__debug__" : Str)) = false := by decide) (hs : ∀ y, foldedSetIterable iter X.env y = pure y := by intro _; rfl) :
    PE X (.DictComp (.Name x pk) (.Constant (.bool true) j pc) [⟨.Name x pt, iter, [], 0⟩] scope pos) (tDct X.prog X.w X.K ti) := by
  refine ⟨fun pins s σ H Q I h => ?_⟩
  refine dc_raw (I.ok.hd hc) hu hclos hcell hkind hnames hx hd hs (thn (hi.run pins s σ H _ I h) fun v s1 ⟨y, H1, I1, r1, l, ks, ey, hl, ht, hz, q⟩ => ?_)
  subst ey
  cases r1
  obtain ⟨its, rv, pl, _⟩ := I1.list hl
  have e1 : its = (raws ks).map fun p => Value.ref p.1 := by
    rw [refs_vals' rv]
    unfold raws
    rw [List.map_map] <;> rfl
  refine ⟨l, raws ks, rfl, by rw [← e1]; exact pl.isList, fun p hp => ?_, by unfold raws; rw [List.length_map]; exact hz, fun D h' tk xs hD d g o => ?_⟩
  · obtain ⟨p0, h0, rfl⟩ := List.mem_map.mp hp
    exact isT_of I1 (ht p0 h0)
  · have hn : H1 D = none := I1.hok.fresh hD
    have hD2 : (D == sysModules) = false := beq_eq_false_iff_ne.mpr (Nat.ne_of_gt (Nat.lt_of_lt_of_le I1.big hD))
    have g' : Keys (raws ks) ks.length xs := by
      have : (raws ks).length = ks.length := by unfold raws; rw [List.length_map]
      rw [← this]
      exact g
    exact ⟨.ref D, upd H1 D (DctO X.prog X.w D xs), I1.laid (t' := tk) o hD (dctO_ok (DRaw.of d)), rfl, q D xs hn hD2 g'⟩

/-- the keys, back as demands -/
theorem keys_dems {ks : List (Addr × Dem)} : ∀ {xs : List (List Int × Addr × Value)}, (∀ e ∈ xs, (e.2.1, e.1) ∈ raws ks) → ∃ bs : List (Addr × Dem), (∀ p ∈ bs, p ∈ ks) ∧ xs.map (fun e => (e.2.1, e.1)) = raws bs
  | [], _ => ⟨[], fun p hp => (by cases hp), rfl⟩
  | e :: xs, h => by
    obtain ⟨bs, h1, h2⟩ := keys_dems (xs := xs) fun d hd => h d (List.mem_cons_of_mem _ hd)
    obtain ⟨p, hp, ep⟩ := List.mem_map.mp (h e List.mem_cons_self)
    refine ⟨p :: bs, fun q hq => ?_, ?_⟩
    · rcases List.mem_cons.mp hq with e' | hq
      · rw [e']; exact hp
      · exact h1 q hq
    · rw [List.map_cons, h2, ← ep] <;> rfl

/-- sorted(d), d that dict -/
def rSortDct (P : Program) (w : World) : List V → Hp → VK → Prop := fun vs H Q => ∃ (D : Addr) (xs : List (List Int × Addr × Value)) (ks : List (Addr × Dem)), vs = [.ref D] ∧ H D = some (DctO P w D xs) ∧ (D == sysModules) = false ∧ Tups H ks ∧ ks.length ≤ 1000 ∧ Keys (raws ks) ks.length xs ∧
  ∀ (L : List (Addr × Dem)) (q : Addr), H q = none → (L.map (·.2)).Pairwise lt3 → (∀ p ∈ L, p ∈ ks) → (∀ p ∈ ks, p.2 ∈ L.map (·.2)) → L.length ≤ ks.length → Q (.ref q) (upd H q (.lst (refs L)))
theorem cr_sortDct (hc : X.calm = true) (hu : X.A.units + 8 < cLine) : CallR X (.builtin "sorted") (rSortDct X.prog X.w) := by
  intro pins s σ H vs us Q I r h
  obtain ⟨D, xs, ks, rfl, hD, hsys, ht, hz, g, q⟩ := h
  obtain ⟨u, rfl, rx⟩ := vals1 r
  cases rx
  have d0 : DRaw X.prog X.w s.heap D xs := (I.hok D _ hD).1
  obtain ⟨o, es, ep, ho, hex, hdat, hent, hnd⟩ := d0
  obtain ⟨bs, hsub, hbs⟩ := keys_dems g.sub
  have hlen : xs.length = bs.length := by
    have := congrArg List.length hbs
    unfold raws at this
    rw [List.length_map, List.length_map] at this
    exact this
  have hes : es.size = bs.length := by rw [size_of_entries hent, hlen]
  have hkeys : xs.map (·.1) = bs.map fun p => dl p.2 := by
    have := congrArg (List.map Prod.snd) hbs
    unfold raws at this
    rw [List.map_map, List.map_map] at this
    exact this
  have hadr : (xs.map fun e => Value.ref e.2.1) = bs.map fun p => Value.ref p.1 := by
    have := congrArg (List.map fun z : Addr × List Int => Value.ref z.1) hbs
    unfold raws at this
    rw [List.map_map, List.map_map] at this
    exact this
  have hndb : (bs.map (·.2)).Nodup := by
    have h1 : ((bs.map (·.2)).map dl).Nodup := by
      rw [List.map_map]
      have e : (dl ∘ fun p : Addr × Dem => p.2) = fun p : Addr × Dem => dl p.2 := rfl
      rw [e, ← hkeys]
      exact hnd
    exact List.Pairwise.of_map dl (fun _ _ hne e => hne (congrArg dl e)) h1
  have hle : bs.length ≤ ks.length := by
    rw [← hlen]
    exact g.few
  refine Calls.call_function_entry kind_sorted plain_sorted entry_sorted (args_sorted1 _) ?_
  unfold Builtin.«sorted»
  refine wpAny_bind (m := checkCount "sorted" 1 1 _) (wpAny_pure ?_)
  refine wpAny_bind (PySem.W.kdu_collect (A := X.A.in1) (L2.kdl_raw hsys hex hdat) (I.ok.hd hc) ho (by rw [hes, sizeLine_eq]; omega) fun h1 tk acc k1 hacc => ?_)
  have eacc : acc.toList = bs.map fun p => Value.ref p.1 := by
    rw [← hadr]
    apply List.ext_getElem?
    intro i
    cases q1 : acc.toList[i]? with
    | none =>
      have l1 := List.getElem?_eq_none_iff.mp q1
      rw [Array.length_toList, hacc.1, hes, ← hlen] at l1
      exact (List.getElem?_eq_none_iff.mpr (by rw [List.length_map]; exact l1)).symm
    | some v =>
      obtain ⟨en, h2, h3⟩ := hacc.2 i v (by rw [← Array.getElem?_toList]; exact q1)
      have h4 := entry_at hent i
      rw [h2] at h4
      obtain ⟨e, he, ee⟩ := Option.map_eq_some_iff.mp h4.symm
      rw [List.getElem?_map, he, h3, ← ee] <;> rfl
  have I1 : Inv X pins σ H { s with heap := h1, toks := tk } := I.kept k1
  rw [eacc]
  have kk : ∀ p ∈ bs, IsT X.prog X.w h1 (dl p.2) p.1 := fun p hp => isT_of I1 (ht p (hsub p hp))
  refine sort_tail (A := X.A.in1) (s := { s with heap := h1, toks := tk }) kk (by omega) hndb (by show X.A.units + 1 + 3 < cLine; omega) fun h2 tk2 c L hp hs k2 ho2 => wpAny_pure ?_
  · have hlL : (refs L).length ≤ sizeLine := by
      unfold refs
      rw [List.length_map, hp.length_eq, sizeLine_eq]
      omega
    refine ⟨_, rfl, .ref h1.objs.size, upd H h1.objs.size (.lst (refs L)), I1.laid (t' := tk2) k2 (Nat.le_refl _) ⟨hlL, _, c, vals_refs' L, ho2⟩, rfl, q L _ (I1.hok.fresh (Nat.le_refl _)) hs (fun p hp' => hsub p (hp.mem_iff.mp hp')) (fun p hp' => ?_) (by rw [hp.length_eq]; exact hle)⟩
    have hm : (p.1, dl p.2) ∈ (raws ks).take ks.length := by
      have e : (raws ks).length = ks.length := by unfold raws; rw [List.length_map]
      rw [← e, List.take_length]
      exact List.mem_map.mpr ⟨p, hp', rfl⟩
    have h5 := g.all _ hm
    rw [hkeys] at h5
    obtain ⟨b, hb, eb⟩ := List.mem_map.mp h5
    have := dl_inj eb
    exact List.mem_map.mpr ⟨b, hp.mem_iff.mpr hb, this⟩
end
end K43

/-! *range(n) in a display; set(t) of a tuple of triples; sorted of such a set. -/
namespace K43
open PySem PySem.Spec PyProof.Rows L2

/-! ### *range(..) -/
section
variable {X : Cx}
theorem pa_starRg {e : Expr} {es : List Expr} {te : L2.St → Hp → (Int → Int → Hp → Prop) → Prop} {t : TA} {p : Pos} (hc : X.calm = true) (he : PRg X e te) (hr : PA X es t)
    (hs : starEach (.Starred e p :: es) X.env = (true, eval e X.env) :: starEach es X.env := by rfl) :
    PA X (.Starred e p :: es) (fun σ H Q => te σ H fun a b H1 => RgOk a b ∧ t σ H1 fun ys H2 => Q (rgV a b ++ ys) H2) := by
  refine ⟨fun pos pins s σ H Q I h => ?_⟩
  refine PySem.W.items_star (thn (he pins s σ H _ I h) fun x s1 ⟨r, a, b, t1, u1, v1, H1, ex, hrg, I1, ok, q⟩ => ?_) hs
  subst ex
  obtain ⟨b1, b2, b3, b4, b5⟩ := ok
  have hT : s1.TypeIs (.ref r) "range" := ⟨_, hrg, rfl⟩
  unfold PySem.W.StarOf notIterableAtAll
  refine wpAny_bind (wpAny_specialOf hT PySem.F.slot_range_iter.lookup (wpAny_pure ⟨rfl, ?_⟩))
  refine L2.collect_range (n := (b - a).toNat) (I1.ok.hd hc) hrg (small_one b1 b2 b3 b4) (rangeSize_nat a b) b5 fun h' tk acc hk hi => ?_
  have I2 := I1.kept (t' := tk) hk
  exact thn (hr.run pos pins _ σ H1 _ I2 q) fun ws s3 ⟨vs, H3, I3, r3, q3⟩ => ⟨rgV a b ++ vs, H3, I3, (vals_rg hi).append r3, q3⟩
end

/-! ### set(t) -/
section
variable {P : Program} {w : World} {A : Around} {E : Value → Shared → Prop} {s : Shared}
/-- the empty set, as it is made -/
abbrev eS (w : World) : Obj := { cls := .type "set", dict := none, data := .set #[] 0 (.fresh 0 0 (!w.params.followText "set-order")) }
abbrev withS (w : World) (s : Shared) : Shared := { s with heap := s.heap.push (eS w) }
/-- what is behind the filling -/
def Filled (P : Program) (w : World) (s : Shared) (ks : List (Addr × List Int)) (s2 : Shared) : Prop :=
  ∃ h' tk L es ep t, s2 = { s with heap := h', toks := tk } ∧ SetTR P w h' s.heap.objs.size L es ep t ∧ Got ks ks.length L ∧ ∀ b o, s.heap.get? b = some o → h'.get? b = some o

theorem set_init {l : Addr} {items : Array Value} (ks : List (Addr × List Int)) (hh : A.handled = none) (hl : s.heap.IsTuple l items) (hit : items.toList = ks.map fun p => Value.ref p.1)
    (hk : ∀ p ∈ ks, IsT P w s.heap p.2 p.1) (hfew : ks.length < 64) (hu : A.units + 3 < cLine) :
    wpAny (model P w) A.in1.in1 (Builtin.«set.__init__» ⟨[.ref s.heap.objs.size, .ref l], []⟩)
      (fun fin s' => match fin with
        | .done f => wants (fun r s2 => r = .none ∧ Filled P w s ks s2) E (.ok f) s'
        | .again c' => c'.quiet = true ∧ codeAny (model P w) A.in1 c' (wants (fun r s2 => r = .none ∧ Filled P w s ks s2) E) s')
      (fun e s' => wants (fun r s2 => r = .none ∧ Filled P w s ks s2) E (.error e) s') (withS w s) := by
  have hisz : items.size = ks.length := by
    have := congrArg List.length hit
    rwa [Array.length_toList, List.length_map] at this
  obtain ⟨⟨oc, od, ot, osl⟩, hol, hcl, nl, hdl⟩ := hl
  simp only at hcl hdl
  subst hcl
  subst hdl
  have hS : (s.heap.push (eS w)).get? s.heap.objs.size = some (eS w) := Heap.get?_push_size _ rfl
  have hlS : l < s.heap.objs.size := Heap.lt_size hol
  have hol' : (s.heap.push (eS w)).get? l = some ⟨.type "tuple", od, .seq items nl, osl⟩ := Heap.get?_push_of_some _ hol
  have hl1 : (s.heap.push (eS w)).IsTuple l items := ⟨_, hol', rfl, nl, rfl⟩
  have f1 := F.sub_tuple_set
  have f2 := F.sub_tuple_frozenset
  have f3 : (Value.type "tuple" == Value.type "dict") = false := by decide
  have sz : (s.heap.push (eS w)).objs.size = s.heap.objs.size + 1 := Heap.size_push _ _
  unfold Builtin.«set.__init__» noKeywords Builtin.Frozenset.updateFrom
  generalize hPI : pyIter = PI
  wp_walk
  subst hPI
  refine wpAny_pyIter_tuple hl1 (wpAny_bind (wpAny_runValue ?_))
  have neI : l ≠ (s.heap.push (eS w)).objs.size := by
    rw [sz]
    exact Nat.ne_of_lt (Nat.lt_succ_of_lt hlS)
  have none_ : ∀ b, s.heap.objs.size ≤ b → s.heap.get? b = none := fun b hb => by
    cases q : s.heap.get? b with
    | none => rfl
    | some o => exact absurd (Heap.lt_size q) (Nat.not_lt.mpr hb)
  have hval : ∀ (i : Nat) (v : Value), items[i]? = some v → ∃ p, ks[i]? = some p ∧ v = .ref p.1 := fun i v hv => by
    have q : (ks.map fun p => Value.ref p.1)[i]? = some v := by rw [← hit, Array.getElem?_toList, hv]
    rw [List.getElem?_map] at q
    obtain ⟨p, hp, e⟩ := Option.map_eq_some_iff.mp q
    exact ⟨p, hp, e.symm⟩
  have hh3 : A.in1.in1.in1.handled = none := hh
  refine set_update_tups ((Walks.tuple hh3 _ l neI items).toS) s.heap.objs.size ?c1 ks hisz hfew hval s.heap hk (none_ _ (Nat.le_refl _)) (fun b hb => none_ b ?c2) hu items.size 0 _ (Nat.sub_zero _) (Nat.zero_le _)
    ⟨⟨_, Heap.get?_push_size _ rfl, rfl, rfl⟩, hl1.push _⟩ (fun b o e => Heap.get?_push_of_some _ (Heap.get?_push_of_some _ e)) ?c3 ?c4
  case c1 =>
    rw [sz]
    intro hm
    rcases List.mem_cons.mp hm with e | hm
    · exact absurd e (Nat.ne_of_lt (Nat.lt_succ_self _))
    · exact absurd (List.mem_singleton.mp hm) (Nat.ne_of_gt hlS)
  case c2 =>
    rw [List.mem_singleton.mp hb, sz]
    exact Nat.le_succ _
  case c3 => exact ⟨[], #[], 0, _, setTR_fresh (Heap.get?_push_of_some _ hS), Got.zero ks⟩
  case c4 =>
    rintro ⟨h', g2, d', tk', os'⟩ L es ep t hm hR g' hkp
    obtain rfl : g2 = s.gens := hm.gens
    obtain rfl : d' = s.drawn := hm.drawn
    obtain rfl : os' = s.os := hm.os
    show wpAny _ _ _ _ _ _
    refine wpAny_pure ?_
    show wpAny _ _ (ret Value.none) _ _ _
    rw [hisz] at g'
    exact wpAny_pure ⟨rfl, h', tk', L, es, ep, t, rfl, hR, g', hkp⟩

/-- set(t), t a tuple of tuples of ints -/
theorem set_tup {l : Addr} {items : Array Value} (ks : List (Addr × List Int)) {Q : Value → Shared → Prop} (hh : A.handled = none) (hl : s.heap.IsTuple l items) (hit : items.toList = ks.map fun p => Value.ref p.1)
    (hk : ∀ p ∈ ks, IsT P w s.heap p.2 p.1) (hfew : ks.length < 64) (hu : A.units + 3 < cLine) (h : ∀ s2, Filled P w s ks s2 → Q (.ref s.heap.objs.size) s2) :
    wpAny (model P w) A (call (.type "set") [.ref l]) Q E s := by
  obtain ⟨c, tl, hmro⟩ := F.called_set.mro
  have hmade := F.called_set.made
  have hsub := F.called_set.sub
  have hnt := F.called_set.notType
  have hcc := F.called_set.canCreate
  have hct := F.typeCall_set_1 (.ref l)
  refine wpAny_call (codeAny_of_tree ?_)
  show wpAny _ _ (callAny (.type "set") _) _ _ _
  refine wpAny_pure ⟨Code.quiet_builtin _ (by decide +kernel), codeAny_builtin F.entry_type_call ?_⟩
  rw [Around.under_plain (weight_type_call_type "set" [.ref l] []) rfl]
  repeat (any_goals (first | assumption | wp_step))
  refine codeAny_mono (code_set_led1 (.ref l) (E := E) (Q₁ := fun o1 s1 => o1 = .ref s.heap.objs.size ∧ s1 = withS w s) ⟨rfl, rfl⟩) fun r s1 hr => ?_
  cases r with
  | error e => exact hr
  | ok fl =>
    cases fl with
    | ret o1 =>
      obtain ⟨rfl, rfl⟩ := hr
      have hS : (s.heap.push (eS w)).get? s.heap.objs.size = some (eS w) := Heap.get?_push_size _ rfl
      have hT : Shared.TypeIs (withS w s) (.ref s.heap.objs.size) "set" := ⟨_, hS, rfl⟩
      have hlk := F.called_set.init.lookup
      have hbd := F.called_set.init.bind (.ref s.heap.objs.size)
      repeat (any_goals (first | assumption | wp_step))
      refine codeAny_mono (codeAny_call_builtin (R := wants (fun r s2 => r = .none ∧ Filled P w s ks s2) E) F.called_set.init.plain F.entry_set_init (check_set_init_1 hT (set_init ks hh hl hit hk hfew hu))) fun r2 s2 hr2 => ?_
      cases r2 with
      | error e => exact hr2
      | ok f2 =>
        cases f2 with
        | ret r =>
          obtain ⟨rfl, hf⟩ := hr2
          have hf' := hf
          obtain ⟨h', tk, L, es, ep, t, rfl, _⟩ := hf'
          repeat (any_goals (first | assumption | wp_step))
          exact h _ hf
        | _ => exact hr2.elim
    | _ => exact hr.elim
end
end K43

/-! The rules for set(t) and sorted(set). -/
namespace K43
open PySem PySem.Spec PyProof.Rows L2

theorem perm_map_inv {α β : Type} {f : α → β} {l1 l2 : List β} (h : l1.Perm l2) : ∀ m : List α, l2 = m.map f → ∃ m' : List α, m'.Perm m ∧ l1 = m'.map f := by
  induction h with
  | nil =>
    intro m e
    have : m = [] := by
      cases m with
      | nil => rfl
      | cons a r => cases e
    subst this
    exact ⟨[], .nil, rfl⟩
  | cons x _ ih =>
    intro m e
    cases m with
    | nil => cases e
    | cons a r =>
      injection e with e1 e2
      obtain ⟨m', h1, h2⟩ := ih r e2
      exact ⟨a :: m', h1.cons a, by rw [List.map_cons, ← h2, e1]⟩
  | swap x y l =>
    intro m e
    cases m with
    | nil => cases e
    | cons a r =>
      cases r with
      | nil => simp at e
      | cons b r =>
        injection e with e1 e2
        injection e2 with e2 e3
        exact ⟨b :: a :: r, .swap _ _ _, by rw [List.map_cons, List.map_cons, ← e1, ← e2, ← e3]⟩
  | trans _ _ ih1 ih2 =>
    intro m e
    obtain ⟨m1, h1, h2⟩ := ih2 m e
    obtain ⟨m2, h3, h4⟩ := ih1 m1 h2
    exact ⟨m2, h3.trans h1, h4⟩

theorem sub_raws {ks : List (Addr × Dem)} : ∀ {L : List (Addr × List Int)}, (∀ p ∈ L, p ∈ raws ks) → ∃ bs : List (Addr × Dem), (∀ p ∈ bs, p ∈ ks) ∧ L = raws bs
  | [], _ => ⟨[], fun p hp => (by cases hp), rfl⟩
  | e :: L, h => by
    obtain ⟨bs, h1, h2⟩ := sub_raws (L := L) fun d hd => h d (List.mem_cons_of_mem _ hd)
    obtain ⟨p, hp, ep⟩ := List.mem_map.mp (h e List.mem_cons_self)
    refine ⟨p :: bs, fun q hq => ?_, by rw [h2, ← ep] <;> rfl⟩
    rcases List.mem_cons.mp hq with e' | hq
    · rw [e']; exact hp
    · exact h1 q hq
theorem raws_snd (bs : List (Addr × Dem)) : (raws bs).map (·.2) = (bs.map (·.2)).map dl := by
  unfold raws
  rw [List.map_map, List.map_map] <;> rfl
theorem raws_nodup {bs : List (Addr × Dem)} (h : ((raws bs).map (·.2)).Nodup) : (bs.map (·.2)).Nodup := by
  rw [raws_snd] at h
  exact List.Pairwise.of_map dl (fun _ _ hne e => hne (congrArg dl e)) h
theorem raws_mem {bs : List (Addr × Dem)} {e : Dem} (h : dl e ∈ (raws bs).map (·.2)) : e ∈ bs.map (·.2) := by
  rw [raws_snd] at h
  obtain ⟨d, hd, ed⟩ := List.mem_map.mp h
  rw [← dl_inj ed]
  exact hd

/-- set(t), t a tuple of triples -/
def rSetTup (P : Program) (w : World) : List V → Hp → VK → Prop := fun vs H Q => ∃ (l : Addr) (ks : List (Addr × Dem)), vs = [.ref l] ∧ H l = some (.tup (refs ks)) ∧ Tups H ks ∧ ks.length < 64 ∧
  ∀ (a : Addr) (bs : List (Addr × Dem)), H a = none → (∀ p ∈ bs, p ∈ ks) → (∀ p ∈ ks, p.2 ∈ bs.map (·.2)) → Q (.ref a) (upd H a (SetTO P w a (raws bs)))
/-- sorted(s), s such a set -/
def rSortSet (P : Program) (w : World) : List V → Hp → VK → Prop := fun vs H Q => ∃ (a : Addr) (bs : List (Addr × Dem)), vs = [.ref a] ∧ H a = some (SetTO P w a (raws bs)) ∧ Tups H bs ∧
  ∀ (L : List (Addr × Dem)) (q : Addr), H q = none → (L.map (·.2)).Pairwise lt3 → L.Perm bs → Q (.ref q) (upd H q (.lst (refs L)))
section
variable {X : Cx}
theorem cr_setTup (hc : X.calm = true) (hu : X.A.units + 8 < cLine) : CallR X (.type "set") (rSetTup X.prog X.w) := by
  intro pins s σ H vs us Q I r h
  obtain ⟨l, ks, rfl, hl, ht, hz, q⟩ := h
  obtain ⟨u, rfl, rx⟩ := vals1 r
  cases rx
  obtain ⟨its, rv, pl, _⟩ := I.tuple (SqT.of (K := X.K) hl)
  have e1 : its = (raws ks).map fun p => Value.ref p.1 := by
    rw [refs_vals' rv]
    unfold raws
    rw [List.map_map] <;> rfl
  have hlen : (raws ks).length = ks.length := by unfold raws; rw [List.length_map]
  refine set_tup (raws ks) (I.ok.hd hc) (show s.heap.IsTuple l its.toArray from pl) (by rw [e1]) (fun p hp => ?_) (by rw [hlen]; exact hz) (by omega) fun s2 hf => ?_
  · obtain ⟨p0, h0, rfl⟩ := List.mem_map.mp hp
    exact isT_of I (ht p0 h0)
  · obtain ⟨h', tk, L, es, ep, t, rfl, R, g, o⟩ := hf
    have hn : H s.heap.objs.size = none := I.hok.fresh (Nat.le_refl _)
    obtain ⟨bs, h1, rfl⟩ := sub_raws (ks := ks) (L := L) fun p hp => List.mem_of_mem_take (g.sub p hp)
    refine ⟨.ref s.heap.objs.size, upd H s.heap.objs.size (SetTO X.prog X.w s.heap.objs.size (raws bs)), I.laid (t' := tk) o (Nat.le_refl _) (setTO_new R.t0), rfl, q _ bs hn h1 fun p hp => raws_mem (g.all (p.1, dl p.2) ?_)⟩
    rw [List.take_length]
    exact List.mem_map.mpr ⟨p, hp, rfl⟩

theorem cr_sortSet (hc : X.calm = true) (hu : X.A.units + 8 < cLine) : CallR X (.builtin "sorted") (rSortSet X.prog X.w) := by
  intro pins s σ H vs us Q I r h
  obtain ⟨a, bs, rfl, ha, ht, q⟩ := h
  obtain ⟨u, rfl, rx⟩ := vals1 r
  cases rx
  have R0 : SetT0 X.prog X.w s.heap a (raws bs) := (I.hok a _ ha).1
  obtain ⟨es, ep, t, R⟩ := R0.full fun p hp => by
    obtain ⟨p0, h0, rfl⟩ := List.mem_map.mp hp
    exact isT_of I (ht p0 h0)
  obtain ⟨o, ho, hex, hd⟩ := R.ob
  have hsz := R.size
  have hfew := R.few
  have hrl : (raws bs).length = bs.length := by unfold raws; rw [List.length_map]
  refine Calls.call_function_entry kind_sorted plain_sorted entry_sorted (args_sorted1 _) ?_
  unfold Builtin.«sorted»
  refine wpAny_bind (m := checkCount "sorted" 1 1 _) (wpAny_pure ?_)
  refine wpAny_bind (collect_set (A := X.A.in1) (I.ok.hd hc) ⟨o, ho, hex.1, hd⟩ R.fits (by unfold scanBound; omega) R.tab.ris R.led fun s1 out k1 _ g1 o1 pm => ?_)
  have hes : es.toList.map (·.2) = bs.map fun p => Value.ref p.1 := by
    rw [R.rows]
    unfold rowsOf raws
    rw [List.map_map, List.map_map] <;> rfl
  rw [hes] at pm
  obtain ⟨cs, hp, rfl⟩ := perm_map_inv pm bs rfl
  have I1 : Inv X pins σ H s1 := I.call' (ch := []) o1 (Un.kept k1) (I.hok.kept k1) (by rw [g1]; exact I.bare) fun _ z => nomatch z
  have kk : ∀ p ∈ cs, IsT X.prog X.w s1.heap (dl p.2) p.1 := fun p h => isT_of I1 (ht p (hp.mem_iff.mp h))
  refine sort_tail (A := X.A.in1) (s := s1) kk (by rw [hp.length_eq]; omega) ((hp.map (·.2)).nodup_iff.mpr (raws_nodup R.nd)) (by show X.A.units + 1 + 3 < cLine; omega) fun h2 tk2 c L hpL hs k2 ho2 => wpAny_pure ?_
  have hlL : (refs L).length ≤ sizeLine := by
    unfold refs
    rw [List.length_map, hpL.length_eq, hp.length_eq, sizeLine_eq]
    omega
  exact ⟨_, rfl, .ref s1.heap.objs.size, upd H s1.heap.objs.size (.lst (refs L)), I1.laid (t' := tk2) k2 (Nat.le_refl _) ⟨hlL, _, c, vals_refs' L, ho2⟩, rfl, q L _ (I1.hok.fresh (Nat.le_refl _)) hs (hpL.trans hp)⟩
end
end K43

/-! Promises that lean on it that no repr is under way (the machine's guards), the end of a law over such a promise; repr of three truth values; != by an own ==. -/
namespace K43
open PySem PySem.Spec PyProof.Rows L2

/-- a def's promise where no repr is under way -/
structure FnOkG (P : Program) (w : World) (K : PySem.W.Frag) (mg : Str → Option Value) (base : Heap) (CX : CXT) (k : Nat) (f : Addr) (fd : FuncData) (ps : List Str) (sp : Sp) : Prop where
  len : ∀ vs H Q E, sp vs H Q E → vs.length = ps.length
  run : ∀ (A : Around) (outer : List Env) (s : Shared) (H : Hp) (args : Args) (us : List Value) (vs : List V) (Q : VK) (E : XK), A.guards = some [] → Room k A → Env0 P w K mg base A outer s H →
    BindsTo s fd args (ps.zip us) → Vals vs us → sp vs H Q E → codeAny (model P w) A (.call (.ref f) args) (CR CX outer P w H s Q E) s

section
variable {CX : CXT} {P : Program} {w : World} {K : PySem.W.Frag} {mg : Str → Option Value} {base : Heap} {k : Nat} {f : Addr} {N ps : List Str} {sp : Sp}
/-- such a promise, by the def's body -/
theorem FnOkG.of {x qual : Str} {params : Arguments} {body : List Stmt} {scope : Scope} {dvs : List V} {kws : List (Str × V)} {fd : FuncData} (F : FunD K x qual params body scope dvs kws f fd) (S : FnScope N ps scope)
    (len : ∀ vs H Q E, sp vs H Q E → vs.length = ps.length)
    (hbody : ∀ (cdv : Value) (A : Around) (outer : List Env) (s : Shared) (H : Hp) (vs : List V) (Q : VK) (E : XK), A.guards = some [] → Room k (A.deeper (envOfC qual scope s.heap.objs.size f cdv)) → sp vs H Q E →
      ∃ t, PSs (cxOf CX P w K mg base N qual scope f cdv A outer s H E) body t ∧ t { nx := fun _ H' => Q .non H', rt := Q } (start N vs) H) : FnOkG P w K mg base CX (k + 1) f fd ps sp := by
  obtain ⟨oc, od, dV, kV, doc, pm, an, cdv, ct, osl, rfl, lk, hcd, _, _⟩ := F.ex
  refine ⟨len, fun A outer s H args us vs Q E hgd hr e0 hb r hsp => ?_⟩
  have kept : ∀ b o, base.get? b = some o → s.heap.get? b = some o := fun b o e => (e0.bs b o e).1
  have KX : K.In s.heap := e0.mod.kin.keeps kept
  have hkind : ∀ y ∈ ps.zip us, scope.names.lookup y.1 = some .local ∨ (scope.names.lookup y.1 = some .cell ∧ ((cellsFrom (s.heap.objs.size + 1) scope.names []).lookup y.1).isSome = true) := by
    rintro ⟨n, v⟩ hy
    exact (S.par n (List.of_mem_zip hy).1).imp id fun q => ⟨q, PySem.W.cellsFrom_some _ _ _ (.inl q)⟩
  refine codeAny_call_function hr.depth (KX _ _ lk) rfl S.co S.gen rfl (PySem.W.codeRec_of KX hcd) (hb _ _ _ _ (wpAny_newFunctionEnv_cells S.kind hkind fun env he s1 x => ?_))
  subst he
  refine ⟨(e0.mod.nolimit.keeps kept).keeps x.toInCall.keep, codeAny_func ?_⟩
  obtain ⟨t, ht, hq⟩ := hbody cdv A outer s H vs Q E hgd (hr.deeper _) hsp
  have I := inv_start (CX := CX) (f := f) (cd := cdv) (E := E) (qual := qual) S hr.hd e0 (len _ _ _ _ hsp) r x
  refine wpAny_mono (ht.run [] s1 _ H _ I hq) (fun fl s' hs => ?_) fun _ _ z => z
  cases fl with
  | ret u =>
    obtain ⟨v, σ', H', J, rv, q⟩ := hs
    exact ⟨v, H', J.os, J.bare, J.base, J.hok, rv, q⟩
  | next =>
    obtain ⟨σ', H', J, q⟩ := hs
    exact ⟨.non, H', J.os, J.bare, J.base, J.hok, rfl, q⟩
  | brk => exact hs.elim fun _ h => h.elim fun _ h => h.2.elim
  | cont => exact hs.elim fun _ h => h.elim fun _ h => h.2.elim
end

/-- a call of such a def -/
theorem pe_callG {X : Cx} {k : Nat} {f : Addr} {fd : FuncData} {ps : List Str} {sp : Sp} {x : Str} {p pos : Pos} {e : Expr} {es : List Expr} {t : TA} (F : FnOkG X.prog X.w X.K X.mg X.base CX0 k f fd ps sp) (hgd : X.A.guards = some []) (hr : Room k X.A) (hg : Gl X x)
    (hm : X.mg x = some (.ref f)) (hk : PySem.W.keepIn X.K (.ref f) = true) (hb : Binds X.K fd ps []) (ha : PA X (e :: es) t) (hdb : (x == ("__debug__" : Str)) = false := by decide)
    (he : starEach (e :: es) X.env = (false, eval e X.env) :: starEach es X.env := by rfl) (hpl : (backTo pos (starEach es X.env)).any (·.1) = false := by rfl) : PE X (.Call (.Name x p) (e :: es) [] pos) (tCall sp [] E0 t) := by
  refine ⟨fun pins s σ H Q I h => wpAny_Call_Name_kw (ld_glob I hg hm (PySem.W.callWith_K (h₀ := X.base) I.ok.mod.kin hk (thn (ha.run pos pins s σ H _ I h) fun us s1 ⟨vs, H1, I1, r, q⟩ => ⟨I1.kIn, ?_⟩) he hpl) hdb)⟩
  have q' : sp vs H1 Q E0 := by simpa using q
  have hl : us.length = ps.length := by rw [← r.length]; exact F.len _ _ _ _ q'
  have hb' := hb s1 us I1.kIn (by simpa using hl)
  rw [List.append_nil] at hb'
  refine wpAny_call (codeAny_mono (F.run X.A X.stack s1 H1 ⟨us, []⟩ us vs Q E0 hgd hr I1.env0 hb' r q') fun r' s' hq => ?_)
  cases r' with
  | error e => exact hq.elim
  | ok fl =>
    cases fl with
    | ret u => exact I1.after hq
    | _ => exact hq.elim

/-! ### the end of a law -/
/-- the script alone is tracked -/
def HS (a : Addr) (o : Obj) (xs : List V) : Hp := fun b => if b = a then some (.frz o (.lst xs)) else none
section
variable {P : Program} {w : World} {K : PySem.W.Frag} {mg mb : Str → Option Value} {k : Nat} {fa a : Addr} {fd : FuncData} {x : Str} {sp : Sp} {s1 : Shared} {vs : List Value} {ns : List Int}
/-- from a heap H in which nothing but the script is tracked -/
theorem law_from {H : Hp} (KX : K.In s1.heap) (hns : s1.heap.Ns mainGlobals mg) (hb : s1.heap.Ns builtinsNs mb) (hbb : ∀ x : Str, x ≠ "__name__" → mb x = bootBuiltins x) (hlim : s1.heap.NoLimit) (hg : s1.gens = #[])
    (ha : s1.heap.get? a = some { cls := .type "list", data := .seq vs.toArray }) (hr : Room k callerA)
    (F : ∀ base : Heap, K.In base → base.Ns mainGlobals mg → FnOkG P w K mg base CX0 k fa fd [x] sp) (hbind : BindsTo s1 fd ⟨[.ref a], []⟩ [(x, .ref a)])
    (hsp : sp [.ref a] H (fun v _ => v = .bl true) E0) (hok : HOk P w H s1.heap) (hA : ∀ b o, H b = some o → b = a ∧ K.lookup a = none ∧ ∃ ob xs, o = .frz ob (.lst xs)) :
    codeAny (model P w) callerA (.call (.ref fa) ⟨[.ref a], []⟩) (fun r s' => r = .ok (.ret (.bool true)) ∧ OldK s1.heap s'.heap ∧ s'.os = s1.os ∧ AllBare s'.gens) s1 := by
  have free : ∀ b o, s1.heap.get? b = some o → (∀ ob : Obj, o = ob → ob.data ≠ .seq vs.toArray) → H b = none := fun b o e hne => by
    cases q : H b with
    | none => rfl
    | some u =>
      obtain ⟨rfl, _⟩ := hA b u q
      rw [ha] at e
      cases e
      exact absurd rfl (hne _ rfl)
  have nsK : ∀ {b : Addr} {m : Str → Option Value}, s1.heap.Ns b m → (hidT s1.heap H).Ns b m := by
    rintro b m ⟨o, es, ep, e, d, r⟩
    exact ⟨o, es, ep, hidT_get e (free b o e fun ob eo => by rw [← eo, d]; exact fun z => nomatch z), d, r⟩
  have hKb : K.In (hidT s1.heap H) := fun b o e => hidT_get (KX b o e) (by
    cases q : H b with
    | none => rfl
    | some u =>
      obtain ⟨rfl, h2, _⟩ := hA b u q
      rw [h2] at e
      cases e)
  have hM : Mod K mg (hidT s1.heap H) := ⟨hKb, nsK hns, ⟨mb, nsK hb, hbb⟩, hlim.elim fun mc h => ⟨mc, nsK h.1, h.2⟩⟩
  have e0 : Env0 P w K mg (hidT s1.heap H) callerA [] s1 H := ⟨rfl, hM, fun b o e => of_hidT e, Nat.le_of_eq (hidT_size _ _), trivial, fun b z => (by cases z), hok, .of_eq hg⟩
  refine codeAny_mono ((F _ hKb (nsK hns)).run callerA [] s1 H ⟨[.ref a], []⟩ [.ref a] [.ref a] _ _ rfl hr e0 hbind (.cons rfl .nil) hsp) fun r s' h => ?_
  cases r with
  | error e => exact h.elim
  | ok fl =>
    cases fl with
    | ret u =>
      obtain ⟨v, H', os, bare, un, hok', r', q⟩ := h
      cases q
      cases r'
      refine ⟨rfl, OldK.of_keep fun b o e => ?_, os, bare⟩
      cases q : H b with
      | none => exact un.keep b o e q (fun z => by cases z) (fun z => by cases z)
      | some u =>
        obtain ⟨_, _, ob, xs, rfl⟩ := hA b u q
        have z1 := (hok b _ q).1
        have z2 := (hok' b _ (un.frzs b ob _ q)).1
        rw [e] at z1
        cases z1
        exact z2
    | _ => exact h.elim

theorem law_callG (KX : K.In s1.heap) (hns : s1.heap.Ns mainGlobals mg) (hb : s1.heap.Ns builtinsNs mb) (hbb : ∀ x : Str, x ≠ "__name__" → mb x = bootBuiltins x) (hlim : s1.heap.NoLimit) (hg : s1.gens = #[])
    (ha : s1.heap.get? a = some { cls := .type "list", data := .seq vs.toArray }) (hi : IntsAre vs ns) (hl : ns.length ≤ sizeLine) (hr : Room k callerA)
    (F : ∀ base : Heap, K.In base → base.Ns mainGlobals mg → FnOkG P w K mg base CX0 k fa fd [x] sp) (hbind : BindsTo s1 fd ⟨[.ref a], []⟩ [(x, .ref a)])
    (hsp : ∀ H : Hp, SqL K H a (ns.map V.int) → sp [.ref a] H (fun v _ => v = .bl true) E0) :
    codeAny (model P w) callerA (.call (.ref fa) ⟨[.ref a], []⟩) (fun r s' => r = .ok (.ret (.bool true)) ∧ OldK s1.heap s'.heap ∧ s'.os = s1.os ∧ AllBare s'.gens) s1 := by
  have rv := vals_ints hi
  have hlen := hi.length
  cases hk : K.lookup a with
  | some o =>
    have e := KX a o hk
    rw [ha] at e
    cases e
    have hS : SqL K (fun _ => none) a (ns.map V.int) := .inr ⟨_, vs.toArray, _, hk, rfl, rfl, rfl, by rw [List.size_toArray, hlen]; exact hl, by simpa using rv⟩
    exact law_from (H := fun _ => none) KX hns hb hbb hlim hg ha hr F hbind (hsp _ hS) (fun b u z => by cases z) fun b u z => by cases z
  | none =>
    have at_ : HS a { cls := .type "list", data := .seq vs.toArray } (ns.map V.int) a = some (.frz { cls := .type "list", data := .seq vs.toArray } (.lst (ns.map V.int))) := if_pos rfl
    have only : ∀ b u, HS a { cls := .type "list", data := .seq vs.toArray } (ns.map V.int) b = some u → b = a ∧ u = .frz { cls := .type "list", data := .seq vs.toArray } (.lst (ns.map V.int)) := fun b u z => by
      unfold HS at z
      by_cases e : b = a
      · rw [if_pos e] at z
        cases z
        exact ⟨e, rfl⟩
      · rw [if_neg e] at z
        cases z
    refine law_from KX hns hb hbb hlim hg ha hr F hbind (hsp _ (.inl (.inr ⟨_, at_⟩))) (fun b u z => ?_) fun b u z => ?_
    · obtain ⟨rfl, rfl⟩ := only b u z
      exact ⟨ha, by rw [List.length_map]; exact hl, vs, _, rv, ha⟩
    · obtain ⟨rfl, rfl⟩ := only b u z
      exact ⟨rfl, hk, _, _, rfl⟩
end

/-- what a head leaves, from the law's promise -/
theorem walk_G {l : PySem.W.OpenLaw} {n k : Nat} {q : Program} {loose : List Str} {XP : (Str → Option Value) → Heap → Prop} {YP : World → Heap → Prop} {d : DefRec} {x : Str} (hn : l.most = some n) (hn2 : n ≤ sizeLine) (hdf : d.params.defaults = []) (hr : Room k callerA)
    (F : ∀ (w : World) (mg : Str → Option Value) (fa : Addr) (h : Heap), YP w h → h.Ns mainGlobals mg → mg d.name = some (.ref fa) →
      ∃ (K : PySem.W.Frag) (fd : FuncData) (sp : Sp), K.In h ∧ (∀ (s : Shared) (u : Value), BindsTo s fd ⟨[u], []⟩ [(x, u)]) ∧
        (∀ (H : Hp) (a : Addr) (ns : List Int), ns.length ≤ n → SqL K H a (ns.map V.int) → sp [.ref a] H (fun v _ => v = .bl true) E0) ∧
        ∀ base : Heap, K.In base → base.Ns mainGlobals mg → FnOkG l.prog w K mg base CX0 k fa fd [x] sp) :
    PySem.W.WalkO q loose XP YP l.row.toRowW d [] (fun f vs => PySem.call f vs) := by
  refine Att.attach_call hn hdf fun w s0 s1 mg mb fa o pm cd doc a vs ns G Y ho hd hcd hmg hobj hints hlen hg => ?_
  obtain ⟨K, fd, sp, KX, hb, hsp, hF⟩ := F w mg fa _ Y G.T.g hmg
  exact law_callG KX G.T.g G.T.b G.T.builtins G.T.nolimit hg hobj hints (Nat.le_trans hlen hn2) hr hF (hb s1 _) fun H hS => hsp H a ns hlen hS

/-! ### repr of three truth values -/
def shown3 (a b c : Bool) : Str := PyData.shown (.list [.bool a, .bool b, .bool c])
theorem shown3_len (a b c : Bool) : (shown3 a b c).length ≤ sizeLine := by
  have : (shown3 a b c).length ≤ 100 := by cases a <;> cases b <;> cases c <;> decide +kernel
  exact Nat.le_trans this (by decide)
def rRepr3 : List V → Hp → VK → Prop := fun xs H Q => ∃ (l : Addr) (a b c : Bool), xs = [.ref l] ∧ H l = some (.lst [.bl a, .bl b, .bl c]) ∧ Q (.str (shown3 a b c)) H
theorem cr_repr3 {X : Cx} (hgd : X.A.guards = some []) (hu : X.A.units + 8 < cLine) : CallR X (.builtin "repr") rRepr3 := by
  intro pins s σ H xs us Q I r h
  obtain ⟨l, a, b, c, rfl, hl, q⟩ := h
  obtain ⟨u, rfl, rx⟩ := vals1 r
  cases rx
  obtain ⟨_, its, n, rv, e⟩ := (show ObjOk X.prog X.w H s.heap l (.lst [.bl a, .bl b, .bl c]) from I.hok l _ hl)
  have hit : its = [.bool a, .bool b, .bool c] := by
    cases rv with
    | cons r1 rv => cases rv with
      | cons r2 rv => cases rv with
        | cons r3 rv =>
          cases rv
          cases r1
          cases r2
          cases r3
          rfl
  subst hit
  have hread : Reads s.heap (.ref l) (.list [.bool a, .bool b, .bool c]) [l] := .list (as := []) e rfl rfl (.cons (as := []) (.bool _) (.cons (as := []) (.bool _) (.cons (as := []) (.bool _) .nil)))
  have hdp : (PyData.list [.bool a, .bool b, .bool c]).depth + 1 ≤ 4 := by simp [PyData.depth, PyData.depthAll]
  refine PySem.repr_of_reads' hread (by rfl) (fun z => by cases z) hgd (by omega) (fun _ _ z => z) (fun h' u tk k => ?_) (shown3_len a b c)
  exact ⟨.str (shown3 a b c), H, I.kept (t' := tk) k, ⟨u, rfl⟩, q⟩
end K43

/-! != of two instances with an own == and no own !=. -/
namespace K43
open PySem PySem.Spec PyProof.Rows L2

/-- what the written part says of such a class: its own == is the def at f -/
structure NeC (K : PySem.W.Frag) (C f : Addr) : Prop where
  cls : ∃ nm q N bs sn sub col dd k0 k1 k2 k3 k5, K.lookup C = some (excClassObj nm q C N bs [.type "object"] true sn sub false col dd k0 k1 k2 k3 k5 "object.__new__") ∧
    ∃ o es ep, K.lookup N = some o ∧ o.data = .dict es ep ∧ StrKeys es ∧ nsFind es "__eq__" = some (.ref f) ∧ nsFind es "__ne__" = none
  fn : ∃ o, K.lookup f = some o ∧ o.cls = .type "function"

def rNeIns (C : Addr) (sp : Sp) : R2 := fun x y H Q => ∃ a b dx dy fs gs, x = .ref a ∧ y = .ref b ∧ H a = some (.ins C dx fs) ∧ H b = some (.ins C dy gs) ∧ sp [.ref a, .ref b] H (fun v H' => ∃ r, v = .bl r ∧ Q (.bl (!r)) H') E0
theorem op_neIns {X : Cx} {C f : Addr} {fd : FuncData} {ps : List Str} {sp : Sp} {k : Nat} (nc : NeC X.K C f) (F : FnOk X.prog X.w X.K X.mg X.base CX0 k f fd ps sp) (hr : Room (k + 1) X.A) (hb : Binds X.K fd ps []) :
    OpR X (compareOp .NotEq) (rNeIns C sp) := by
  intro pins s σ H x y v u Q I rx ry h
  obtain ⟨a, b, dx, dy, fs, gs, rfl, rfl, ha, hb', q⟩ := h
  cases rx
  cases ry
  obtain ⟨nm, qn, N, bs, sn, sub, col, dd, k0, k1, k2, k3, k5, hC, oN, es, ep, hN, hd, hsk, heq, hne⟩ := nc.cls
  obtain ⟨oF, hF, hFc⟩ := nc.fn
  obtain ⟨_, J, _⟩ := ins_get I.hok ha
  obtain ⟨_, J', _⟩ := ins_get I.hok hb'
  obtain ⟨_, _, _, ea, _⟩ := (show ObjOk X.prog X.w H s.heap a (.ins C dx fs) from I.hok a _ ha)
  obtain ⟨_, _, _, eb, _⟩ := (show ObjOk X.prog X.w H s.heap b (.ins C dy gs) from I.hok b _ hb')
  obtain ⟨_, hB⟩ : ∃ z, typeLookup (.type "object") "__eq__" = pure z := ⟨_, PySem.F.cmp_object.eq.lookup⟩
  have Y : s.heap.OwnEqNoNe a C f "object" [.type "object"] :=
    ⟨_, _, nm, qn, N, bs, true, sn, sub, false, col, dd, k0, k1, k2, k3, k5, "object.__new__", fun x => nsFind es x, _, ea, rfl, I.kIn _ _ hC, ⟨oN, es, ep, I.kIn _ _ hN, hd, hsk, fun _ => rfl⟩, heq, I.kIn _ _ hF, hFc, PySem.F.mro_object, hB, hne⟩
  have hu := hr.units
  obtain ⟨hh, g, d, t, os⟩ := s
  refine compareOp_ne_ownEq PySem.F.cmp_object Y eb rfl (by omega) ?_
  have r2 : Vals [V.ref a, V.ref b] [Value.ref a, Value.ref b] := .cons rfl (.cons rfl .nil)
  have hl : [Value.ref a, Value.ref b].length = ps.length := F.len _ _ _ _ q
  have hb2 := hb ⟨hh, g, d, t, os⟩ [.ref a, .ref b] I.kIn (by simpa using hl)
  rw [List.append_nil] at hb2
  refine wpAny_call (codeAny_mono (F.run X.A.in1 X.stack ⟨hh, g, d, t, os⟩ H ⟨[.ref a, .ref b], []⟩ _ _ _ E0 hr.in1 I.env0.in1 hb2 r2 q) fun r s' hq => ?_)
  cases r with
  | error e => exact hq.elim
  | ok fl =>
    cases fl with
    | ret z =>
      obtain ⟨zv, H', I', rz, r', ez, qz⟩ := I.after hq
      subst ez
      cases rz
      exact ⟨r', rfl, .bl (!r'), H', I', rfl, qz⟩
    | _ => exact hq.elim
end K43

/-! The text by places, the head's facts. -/
namespace K43
open PySem PySem.Spec PyProof.Rows L2

/-! ### the text -/
def top (i : Nat) : Stmt := PySem.Challenge.pw_offside_k43_whole_systems_put_together.main.body.getD i (.Pass ⟨0, 0, 0, 0⟩)
abbrev sIsInteger : Stmt := top 5
abbrev sIsWithin : Stmt := top 6
abbrev sIsColumn : Stmt := top 7
abbrev sAreColumns : Stmt := top 17
abbrev sReqColumns : Stmt := top 18
abbrev sIsDemand : Stmt := top 21
abbrev sIsMet : Stmt := top 22
abbrev sBounds : Stmt := top 25
abbrev sPoints : Stmt := top 26
abbrev sWaysInit : Stmt := inClass (top 27) 0
abbrev sGoOn : Stmt := inClass (top 27) 1
abbrev sRing : Stmt := inClass (top 27) 2
abbrev sBackward : Stmt := top 28
abbrev sIsBetween : Stmt := top 29
abbrev sReqDemands : Stmt := top 30
abbrev sReqLike : Stmt := top 31
abbrev sReqPoint : Stmt := top 32
abbrev sReqLine : Stmt := top 33
abbrev sLengths : Stmt := top 34
abbrev sSysInit : Stmt := inClass (top 35) 0
abbrev sPropDemands : Stmt := inClass (top 35) 3
abbrev sPropAll : Stmt := inClass (top 35) 4
abbrev sPropPoss : Stmt := inClass (top 35) 5
abbrev sReqCols : Stmt := inClass (top 35) 9
abbrev sForced : Stmt := inClass (top 35) 10
abbrev sRange : Stmt := inClass (top 35) 12
abbrev sMet : Stmt := inClass (top 35) 15
abbrev sFixed : Stmt := inClass (top 35) 16
abbrev sWith : Stmt := inClass (top 35) 17
abbrev sImplies : Stmt := inClass (top 35) 18
abbrev sAlike : Stmt := inClass (top 35) 19
abbrev sJoined : Stmt := inClass (top 35) 20
abbrev sEq : Stmt := inClass (top 35) 23
abbrev sDice : Stmt := top 37
abbrev sRoll : Stmt := top 38
abbrev sPick : Stmt := top 39
abbrev sLDemands : Stmt := top 40
abbrev sLColumns : Stmt := top 41
abbrev sImplied : Stmt := top 42
abbrev sFixedR : Stmt := top 43
abbrev sRight : Stmt := top 44
abbrev sLaw : Stmt := top 45

abbrev FnP (K : PySem.W.Frag) (x q : Str) (st : Stmt) (f : Addr) (fd : FuncData) : Prop := FunD K x q (defArgs st) (defBody st) (defScope st) [] [] f fd

/-! ### the facts of the head -/
def gd (x : Str) (st : Stmt) : He.DefD := ⟨(x, none), x, x, defArgs st, defBody st, defScope st, [], []⟩
def md (C x q : Str) (st : Stmt) : He.DefD := ⟨(C, some x), x, q, defArgs st, defBody st, defScope st, [], []⟩
def fn : List He.DefD := [
  gd "is_integer" sIsInteger, gd "is_within" sIsWithin, gd "is_column" sIsColumn, gd "are_columns" sAreColumns,
  ⟨("require_columns_texts", none), "require_columns", "require_columns", defArgs sReqColumns, defBody sReqColumns, defScope sReqColumns, [], []⟩,
  gd "is_demand" sIsDemand, gd "is_demand_met" sIsMet, gd "bounds_of" sBounds, gd "points_of" sPoints,
  md "Ways" "__init__" "Ways.__init__" sWaysInit, md "Ways" "go_on" "Ways.go_on" sGoOn, md "Ways" "ring_behind" "Ways.ring_behind" sRing,
  gd "backward" sBackward, gd "is_demand_between" sIsBetween, gd "require_demands" sReqDemands, gd "require_like_system" sReqLike, gd "require_point" sReqPoint, gd "require_line" sReqLine, gd "lengths_in" sLengths,
  ⟨("System", some "__init__"), "__init__", "System.__init__", defArgs sSysInit, defBody sSysInit, defScope sSysInit, [.adr (He.dflAt ("System", some "__init__") 0)], []⟩,
  md "System" "require_columns" "System.require_columns" sReqCols, md "System" "forced" "System.forced" sForced, md "System" "range_of" "System.range_of" sRange, md "System" "is_met" "System.is_met" sMet,
  md "System" "fixed" "System.fixed" sFixed, md "System" "with_demands" "System.with_demands" sWith, md "System" "implies" "System.implies" sImplies, md "System" "is_alike" "System.is_alike" sAlike, md "System" "joined" "System.joined" sJoined,
  md "System" "__eq__" "System.__eq__" sEq,
  gd "_law_dice" sDice, gd "_law_roll" sRoll, gd "_law_pick" sPick, gd "_law_demands" sLDemands, gd "_law_drawn_columns" sLColumns, gd "_law_implied_right" sImplied, gd "_law_fixed_right" sFixedR, gd "_law_right" sRight, gd "law" sLaw]
def gnames : List Str := ["is_integer", "is_within", "is_column", "are_columns", "require_columns_texts", "is_demand", "is_demand_met", "bounds_of", "points_of", "Ways", "backward", "is_demand_between", "require_demands",
  "require_like_system", "require_point", "require_line", "lengths_in", "System", "_law_dice", "_law_roll", "_law_pick", "_law_demands", "_law_drawn_columns", "_law_implied_right", "_law_fixed_right", "_law_right", "law"]
def bnames : List Str := ["isinstance", "int", "bool", "tuple", "len", "all", "range", "sorted", "abs", "max", "min", "set", "list", "repr"]
def wfields : List Str := ["way_lengths", "way_demands", "way_ring"]
def sfields : List Str := ["own_many", "own_demands", "own_all", "own_key", "own_ring", "own_narrowest", "own_widest"]
def fa : List He.Fa := gnames.map He.Fa.glo ++ bnames.map He.Fa.free ++ [.int "MAX_COLUMN" 199, .int "GROUND" (-1), .int "LONGEST" (10 ^ 60), .int "MAX_LINES" 60, .int "MAX_DEMANDS" 600, .cls "Ways", .cls "System", .mkr "Ways", .mkr "System"] ++
  wfields.map (He.Fa.noat "Ways") ++ sfields.map (He.Fa.noat "System") ++ (["go_on", "ring_behind"] : List Str).map (He.Fa.meth "Ways") ++
  (["require_columns", "forced", "range_of", "is_met", "fixed", "with_demands", "implies", "is_alike", "joined", "__eq__"] : List Str).map (He.Fa.meth "System")

/-! ### properties -/
/-- the getter of System's property f -/
def pga (K : PySem.W.Frag) (f : Str) : Addr := match PySem.W.recIn K (He.ma K (He.ga K "System") f) "property" with
  | some (.ref g :: _) => g
  | _ => 0
def fnAt (K : PySem.W.Frag) (a : Addr) : He.FnW := match K.lookup a with
  | some ⟨_, _, .func d, _⟩ => some (d.name, d.qualname, d.params, d.body, d.scope, d.globals, d.closure, d.builtins)
  | _ => none
def prB (K : PySem.W.Frag) (f q : Str) : Bool := He.eqO (PySem.W.findIn K (.ref (He.ga K "System")) f) (some (some (.ref (He.ma K (He.ga K "System") f)))) &&
  (He.eqO (PySem.W.specialIn K (.ref (He.ma K (He.ga K "System") f)) "__get__") (some (some (.builtin "property.__get__"))) &&
  (decide (PySem.W.takesIn K (.ref (He.ma K (He.ga K "System") f)) = some true) && ((match PySem.W.recIn K (He.ma K (He.ga K "System") f) "property" with
    | some (.ref g :: _) => decide (g = pga K f)
    | _ => false) && (PySem.W.keepIn K (.ref (pga K f)) && (match K.lookup (pga K f) with
    | some ⟨_, _, .func d, _⟩ => PySem.W.codeIn K d.code q && (He.dflB K d.defaults [] && He.kwdB K d.kwdefaults [])
    | _ => false)))))
def prS : List (Str × Str × Stmt) := [("demands", "System.demands", sPropDemands), ("all_demands", "System.all_demands", sPropAll), ("is_possible", "System.is_possible", sPropPoss)]
def prV (p : Str × Str × Stmt) : He.FnW := some (p.1, p.2.1, defArgs p.2.2, .stmts (defBody p.2.2), defScope p.2.2, mainGlobals, [], builtinsNs)
/-- System's class object: its own == and no != -/
def nsB (K : PySem.W.Frag) (n f : Addr) : Bool := match K.lookup n with
  | some ⟨_, _, .dict es _, _⟩ => (es.toList.all fun e => match e.key with
      | .str _ _ => true
      | _ => false) && (decide (nsFind es "__eq__" = some (.ref f)) && decide (nsFind es "__ne__" = none))
  | _ => false
def clB (K : PySem.W.Frag) : Bool := match K.lookup (He.ga K "System") with
  | some ⟨.type t, _, .cls ⟨_, _, [.ref c, .type b], n, _, true, _, _, false, _, false⟩, sl⟩ => decide (t = "type") && (decide (b = "object") && (decide (c = He.ga K "System") &&
      (nsB K n (He.ma K (He.ga K "System") "__eq__") && (match sl.toList with
        | [_, _, _, _, some (.builtin m), _] => decide (m = "object.__new__")
        | _ => false))))
  | _ => false
def fcB (K : PySem.W.Frag) (f : Addr) : Bool := match K.lookup f with
  | some ⟨.type t, _, .func _, _⟩ => decide (t = "function")
  | _ => false
def isB (K : PySem.W.Frag) : Bool := He.eqO (PySem.W.findIn K (.ref (He.ga K "System")) "__class__") (some (some (.builtin "object.__class__"))) &&
  (He.eqO (PySem.W.specialIn K (.builtin "object.__class__") "__get__") (some (some (.builtin "getset_descriptor.__get__"))) && (decide (PySem.W.takesIn K (.builtin "object.__class__") = some true) &&
  (decide (PySem.W.mroIn K (He.ga K "System") (.type "object") = some true) && (decide (PySem.W.kitOne K (.ref (He.ga K "System")) (.ref (He.ga K "System")) = some true) &&
  decide (PySem.W.kitOne K (.type "NoneType") (.ref (He.ga K "System")) = some false)))))
def exB (K : PySem.W.Frag) : Bool := (prS.all fun p => prB K p.1 p.2.1) && (clB K && (isB K && fcB K (He.ma K (He.ga K "System") "__eq__")))

/-! ### the Hook -/
abbrev AlK : Type := He.AlD × (Bool × List He.FnW)
def obsK (K : PySem.W.Frag) : Bool × List He.FnW := (exB K, prS.map fun p => fnAt K (pga K p.1))
def valK : Bool × List He.FnW := (true, prS.map prV)
def obsAll (n : Nat) (g : Addr → Option Obj) : AlK := (He.obsDG n fa fn g, obsK (He.frG g (He.asD g n)))
def hookK (n : Nat) : PySem.W.Hook where
  α := AlK
  obs := fun s => obsAll n s.heap.get?
  val := fun _ => (He.valD fn, valK)
  says := fun _ h => ∃ K : PySem.W.Frag, K.In h ∧ He.SaysD fa fn K ∧ obsK K = valK
  of := fun _ _ e => ⟨_, He.frG_in, congrArg Prod.fst e, congrArg Prod.snd e⟩
  keeps := fun _ _ _ ⟨K, hK, c⟩ k => ⟨K, PySem.W.Frag.In.keeps hK k, c⟩
abbrev R : PySem.W.OpenRow := PySem.W.OpenLaw.row PySem.Challenge.rw_offside_k43_whole_systems_put_together
abbrev hk : PySem.W.Hook := hookK 6
def ob (s : PySem.W.SharedT) : AlK := obsAll 6 (HandSHeadRun.getT s)
theorem ob_eq (s : PySem.W.SharedT) : ob s = hk.obs s.abs := by
  have e : HandSHeadRun.getT s = s.abs.heap.get? := funext (HandSHeadRun.getT_eq s)
  show obsAll 6 (HandSHeadRun.getT s) = obsAll 6 s.abs.heap.get?
  rw [e]
def lse : List Str := (["_wall", "MAX_COLUMN", "GROUND", "LONGEST", "is_integer", "is_within", "is_column", "OffsideError", "InvalidText", "InvalidDemand", "InvalidOperation", "NoColumns", "InvalidNumber", "MAX_LINES", "are_columns", "require_columns", "require_columns_texts", "is_demand", "is_demand_met", "MAX_DEMANDS"] : List Str) ++ (["bounds_of", "points_of", "Ways", "backward", "is_demand_between", "require_demands", "require_like_system", "require_point", "require_line", "lengths_in", "System", "_law_dice", "_law_roll", "_law_pick", "_law_demands", "_law_drawn_columns", "_law_implied_right", "_law_fixed_right", "_law_right"] : List Str)
end K43

namespace K43
open PySem PySem.Spec PyProof.Rows L2
theorem run (w : World) : HandSHeadRun.RunEq R (PySem.W.view R.prog [45]) hk ob 5000 lse w := by
  intro os
  kernel_rfl
end K43

/-! The head's facts as a record; the defs as promises; how the objects lie in the heap. -/
namespace K43
open PySem PySem.Spec PyProof.Rows L2
open C8 (Cal Met Mak pe_c pe_mk pe_mt pe_mt0 pe_gc InsC call_isC)

abbrev CW (K : PySem.W.Frag) : Addr := He.ga K "Ways"
abbrev CS (K : PySem.W.Frag) : Addr := He.ga K "System"
def meths : List Str := ["require_columns", "forced", "range_of", "is_met", "fixed", "with_demands", "implies", "is_alike", "joined", "__eq__"]
/-- all that the walk leans on -/
structure Fx (K : PySem.W.Frag) (mg : Str → Option Value) : Prop where
  gl : ∀ x ∈ gnames, mg x = some (.ref (He.ga K x))
  bl : ∀ x ∈ bnames, mg x = none
  cw : Cls K (CW K)
  cs : Cls K (CS K)
  mw : Mk K (CW K) (He.ma K (CW K) "__init__")
  ms : Mk K (CS K) (He.ma K (CS K) "__init__")
  nw : ∀ f ∈ wfields, NoAttr K (CW K) f
  ns : ∀ f ∈ sfields, NoAttr K (CS K) f
  ew : ∀ m ∈ (["go_on", "ring_behind"] : List Str), Meth K (CW K) m (He.ma K (CW K) m)
  es : ∀ m ∈ meths, Meth K (CS K) m (He.ma K (CS K) m)
  iC : ∃ t, mg "MAX_COLUMN" = some (.int 199 t)
  iG : ∃ t, mg "GROUND" = some (.int (-1) t)
  iL : ∃ t, mg "LONGEST" = some (.int (10 ^ 60) t)
  iM : ∃ t, mg "MAX_LINES" = some (.int 60 t)
  iD : ∃ t, mg "MAX_DEMANDS" = some (.int 600 t)
  ic : InsC K (CS K)
  kn : PySem.W.kitOne K (.type "NoneType") (.ref (CS K)) = some false
  ne : NeC K (CS K) (He.ma K (CS K) "__eq__")
  fn : ∀ (i : Nat) (d : He.DefD), fn[i]? = some d → ∃ fd, FunD K d.name d.qual d.params d.body d.scope (d.dvs K) (d.kws K) (He.fAd K d.at_) fd
  pr : ∀ p ∈ prS, PropOf K (CS K) p.1 (He.ma K (CS K) p.1) (pga K p.1) ∧ ∃ fd, FunD K p.1 p.2.1 (defArgs p.2.2) (defBody p.2.2) (defScope p.2.2) [] [] (pga K p.1) fd

theorem mem_fa {f : He.Fa} (h : f ∈ fa) : ∃ i : Nat, fa[i]? = some f := List.getElem?_of_mem h
theorem fa_glo {x : Str} (h : x ∈ gnames) : He.Fa.glo x ∈ fa := by
  unfold fa
  simp only [List.mem_append]
  exact .inl (.inl (.inl (.inl (.inl (.inl (List.mem_map.mpr ⟨x, h, rfl⟩))))))
theorem fa_free {x : Str} (h : x ∈ bnames) : He.Fa.free x ∈ fa := by
  unfold fa
  simp only [List.mem_append]
  exact .inl (.inl (.inl (.inl (.inl (.inr (List.mem_map.mpr ⟨x, h, rfl⟩))))))
theorem fa_mid {f : He.Fa} (h : f ∈ ([.int "MAX_COLUMN" 199, .int "GROUND" (-1), .int "LONGEST" (10 ^ 60), .int "MAX_LINES" 60, .int "MAX_DEMANDS" 600, .cls "Ways", .cls "System", .mkr "Ways", .mkr "System"] : List He.Fa)) : f ∈ fa := by
  unfold fa
  simp only [List.mem_append]
  exact .inl (.inl (.inl (.inl (.inr h))))
theorem fa_nw {x : Str} (h : x ∈ wfields) : He.Fa.noat "Ways" x ∈ fa := by
  unfold fa
  simp only [List.mem_append]
  exact .inl (.inl (.inl (.inr (List.mem_map.mpr ⟨x, h, rfl⟩))))
theorem fa_ns {x : Str} (h : x ∈ sfields) : He.Fa.noat "System" x ∈ fa := by
  unfold fa
  simp only [List.mem_append]
  exact .inl (.inl (.inr (List.mem_map.mpr ⟨x, h, rfl⟩)))
theorem fa_mw {x : Str} (h : x ∈ (["go_on", "ring_behind"] : List Str)) : He.Fa.meth "Ways" x ∈ fa := by
  unfold fa
  simp only [List.mem_append]
  exact .inl (.inr (List.mem_map.mpr ⟨x, h, rfl⟩))
theorem fa_ms {x : Str} (h : x ∈ meths) : He.Fa.meth "System" x ∈ fa := by
  unfold fa
  simp only [List.mem_append]
  exact .inr (List.mem_map.mpr ⟨x, h, rfl⟩)

theorem ba' {a b : Bool} (h : (a && b) = true) : a = true ∧ b = true := Bool.and_eq_true_iff.mp h
theorem clB_ok {K : PySem.W.Frag} (h : clB K = true) (h2 : fcB K (He.ma K (CS K) "__eq__") = true) : NeC K (CS K) (He.ma K (CS K) "__eq__") := by
  refine ⟨?_, ?_⟩
  · unfold clB at h
    split at h
    · rename_i t dd nm bs c b n qn sn sub col sl hl
      obtain ⟨h1, h⟩ := ba' h
      obtain ⟨h3, h⟩ := ba' h
      obtain ⟨h4, h⟩ := ba' h
      obtain ⟨h5, h6⟩ := ba' h
      have e1 := of_decide_eq_true h1
      have e2 := of_decide_eq_true h3
      have e3 := of_decide_eq_true h4
      subst e1
      subst e2
      subst e3
      unfold nsB at h5
      split at h5
      · rename_i c1 d1 es ep s1 hn
        obtain ⟨g1, g2⟩ := ba' h5
        obtain ⟨g2, g3⟩ := ba' g2
        have hsk : StrKeys es := fun e he => by
          have g4 := List.all_eq_true.mp g1 e (Array.mem_toList_iff.mpr he)
          split at g4
          · rename_i x t ek
            exact ⟨x, t, ek⟩
          · cases g4
        split at h6
        · rename_i k0 k1 k2 k3 m k5 hsl
          have e4 := of_decide_eq_true h6
          subst e4
          have e5 : sl = #[k0, k1, k2, k3, some (.builtin "object.__new__"), k5] := by
            apply Array.toList_inj.mp
            rw [hsl]
          subst e5
          exact ⟨nm, qn, n, bs, sn, sub, col, dd, k0, k1, k2, k3, k5, hl, _, es, ep, hn, rfl, hsk, of_decide_eq_true g2, of_decide_eq_true g3⟩
        · cases h6
      · cases h5
    · cases h
  · unfold fcB at h2
    split at h2
    · rename_i t d f s hl
      have e := of_decide_eq_true h2
      subst e
      exact ⟨_, hl, rfl⟩
    · cases h2
theorem prB_ok {K : PySem.W.Frag} {f q : Str} {st : Stmt} (h : prB K f q = true) (e : fnAt K (pga K f) = prV (f, q, st)) : PropOf K (CS K) f (He.ma K (CS K) f) (pga K f) ∧ ∃ fd, FunD K f q (defArgs st) (defBody st) (defScope st) [] [] (pga K f) fd := by
  obtain ⟨h1, h⟩ := ba' h
  obtain ⟨h2, h⟩ := ba' h
  obtain ⟨h3, h⟩ := ba' h
  obtain ⟨h4, h⟩ := ba' h
  obtain ⟨h5, h6⟩ := ba' h
  refine ⟨⟨He.eqO_ok h1, He.eqO_ok h2, of_decide_eq_true h3, ?_⟩, ?_⟩
  · split at h4
    · rename_i g r hr
      have e := of_decide_eq_true h4
      subst e
      exact ⟨r, hr⟩
    · cases h4
  · unfold fnAt prV at e
    split at h6
    · rename_i oc od d osl hl
      rw [hl] at e
      obtain ⟨n1, n2, n3, n4, n5, n6, n7, n8, n9, n10, n11, n12, n13, n14, n15⟩ := d
      simp only [Option.some.injEq, Prod.mk.injEq] at e
      obtain ⟨e1, e2, e3, e4, e5, e6, e7, e8⟩ := e
      subst e1 e2 e3 e4 e5 e6 e7 e8
      obtain ⟨k1, k2⟩ := ba' h6
      obtain ⟨k3, k4⟩ := ba' k2
      exact ⟨_, ⟨oc, od, n8, n9, n10, n11, n12, n13, n14, osl, rfl, hl, k1, He.dflB_ok k3, He.kwdB_ok k4⟩, h5⟩
    · cases h6

theorem fx_of {K : PySem.W.Frag} {h : Heap} {mg : Str → Option Value} (X : K.In h) (G : h.Ns mainGlobals mg) (c : He.SaysD fa fn K) (o : obsK K = valK) : Fx K mg := by
  have fact : ∀ f ∈ fa, f.ok K = true := fun f hf => (mem_fa hf).elim fun i hi => c.fact i hi
  have hex : exB K = true := congrArg Prod.fst o
  have hpr : (prS.map fun p => fnAt K (pga K p.1)) = prS.map prV := congrArg Prod.snd o
  obtain ⟨x1, x2⟩ := ba' hex
  obtain ⟨x3, x4⟩ := ba' x2
  obtain ⟨x5, x6⟩ := ba' x4
  obtain ⟨y1, y⟩ := ba' x5
  obtain ⟨y2, y⟩ := ba' y
  obtain ⟨y3, y⟩ := ba' y
  obtain ⟨y4, y⟩ := ba' y
  obtain ⟨y5, y6⟩ := ba' y
  have cs : Cls K (CS K) := He.cls_ok (fact _ (fa_mid (by simp)))
  exact {
    gl := fun x hx => He.glo_ok X G (fact _ (fa_glo hx))
    bl := fun x hx => He.free_ok X G (fact _ (fa_free hx))
    cw := He.cls_ok (fact _ (fa_mid (by simp)))
    cs := cs
    mw := He.mkr_ok (fact _ (fa_mid (by simp)))
    ms := He.mkr_ok (fact _ (fa_mid (by simp)))
    nw := fun f hf => He.noat_ok (fact _ (fa_nw hf))
    ns := fun f hf => He.noat_ok (fact _ (fa_ns hf))
    ew := fun m hm => He.meth_ok (fact _ (fa_mw hm))
    es := fun m hm => He.meth_ok (fact _ (fa_ms hm))
    iC := He.int_ok X G (fact _ (fa_mid (by simp)))
    iG := He.int_ok X G (fact _ (fa_mid (by simp)))
    iL := He.int_ok X G (fact _ (fa_mid (by simp)))
    iM := He.int_ok X G (fact _ (fa_mid (by simp)))
    iD := He.int_ok X G (fact _ (fa_mid (by simp)))
    ic := ⟨cs, He.eqO_ok y1, He.eqO_ok y2, of_decide_eq_true y3, of_decide_eq_true y4, of_decide_eq_true y5⟩
    kn := of_decide_eq_true y6
    ne := clB_ok x3 x6
    fn := fun i d hi => c.def_ i hi
    pr := fun p hp => by
      obtain ⟨i, hi⟩ := List.getElem?_of_mem hp
      have e : (prS.map fun p => fnAt K (pga K p.1))[i]? = (prS.map prV)[i]? := by rw [hpr]
      rw [List.getElem?_map, List.getElem?_map, hi] at e
      exact prB_ok (st := p.2.2) (List.all_eq_true.mp x1 p hp) (Option.some.inj e) }
end K43

/-! Plain data: demands, rows of ints; when they are equal. -/
namespace K43
open PySem PySem.Spec PyProof.Rows L2

def d3 (e : Dem) : PyData := .tuple [.int e.1, .int e.2.1, .int e.2.2]
def dI (l : List Int) : List PyData := l.map PyData.int
theorem beq_dec {x y : Int} : (x == y) = decide (x = y) := by
  by_cases h : x = y
  · subst h; simp
  · simp [h]
theorem eqvI (x y : Int) : (PyData.int x).eqv (.int y) = decide (x = y) := by
  rw [PyData.eqv]
  exact beq_dec
theorem eqvAll_cons (a b : PyData) (l m : List PyData) : PyData.eqvAll (a :: l) (b :: m) = (a.eqv b && PyData.eqvAll l m) := by
  rw [PyData.eqvAll]
theorem dec_and {p q : Prop} [Decidable p] [Decidable q] {r : Prop} [Decidable r] (h : r ↔ p ∧ q) : (decide p && decide q) = decide r := by
  by_cases hp : p <;> by_cases hq : q <;> simp [hp, hq, h]
theorem eqv_ints : ∀ l m : List Int, PyData.eqvAll (dI l) (dI m) = decide (l = m)
  | [], [] => by rfl
  | [], _ :: _ => by rfl
  | _ :: _, [] => by rfl
  | a :: l, b :: m => by
    show PyData.eqvAll (.int a :: dI l) (.int b :: dI m) = _
    rw [eqvAll_cons, eqvI, eqv_ints l m]
    exact dec_and (by simp)
theorem eqv_d3 (e f : Dem) : (d3 e).eqv (d3 f) = decide (e = f) := by
  obtain ⟨a, b, c⟩ := e
  obtain ⟨a', b', c'⟩ := f
  show (PyData.tuple (dI [a, b, c])).eqv (.tuple (dI [a', b', c'])) = _
  rw [PyData.eqv, eqv_ints]
  congr 1
  simp
theorem eqv_d3s : ∀ l m : List Dem, PyData.eqvAll (l.map d3) (m.map d3) = decide (l = m)
  | [], [] => by rfl
  | [], _ :: _ => by rfl
  | _ :: _, [] => by rfl
  | a :: l, b :: m => by
    show PyData.eqvAll (d3 a :: l.map d3) (d3 b :: m.map d3) = _
    rw [eqvAll_cons, eqv_d3, eqv_d3s l m]
    exact dec_and (by simp)
theorem eqv_rows : ∀ l m : List (List Int), PyData.eqvAll (l.map fun r => .tuple (dI r)) (m.map fun r => .tuple (dI r)) = decide (l = m)
  | [], [] => by rfl
  | [], _ :: _ => by rfl
  | _ :: _, [] => by rfl
  | a :: l, b :: m => by
    show PyData.eqvAll (.tuple (dI a) :: l.map fun r => PyData.tuple (dI r)) (.tuple (dI b) :: m.map fun r => PyData.tuple (dI r)) = _
    rw [eqvAll_cons, eqv_rows l m, PyData.eqv, eqv_ints]
    exact dec_and (by simp)
theorem lay_all {l : List PyData} (h : ∀ d ∈ l, d.canLay0 = true) : PyData.canLayAll0 l = true := by
  induction l with
  | nil => rfl
  | cons d l ih =>
    rw [PyData.canLayAll0, h d (List.mem_cons_self ..), ih fun e he => h e (List.mem_cons_of_mem _ he)]
    rfl
theorem depth_all {l : List PyData} {n : Nat} (h : ∀ d ∈ l, d.depth ≤ n) : PyData.depthAll l ≤ n := by
  induction l with
  | nil => exact Nat.zero_le _
  | cons d l ih =>
    rw [PyData.depthAll]
    exact Nat.max_le.mpr ⟨h d (List.mem_cons_self ..), ih fun e he => h e (List.mem_cons_of_mem _ he)⟩
/-- plain, and at most n deep -/
def Pl (n : Nat) (d : PyData) : Prop := d.canLay0 = true ∧ d.depth ≤ n
theorem Pl.int (i : Int) : Pl 0 (.int i) := ⟨rfl, Nat.le_refl _⟩
theorem Pl.bool (i : Bool) : Pl 0 (.bool i) := ⟨rfl, Nat.le_refl _⟩
theorem Pl.list {n : Nat} {l : List PyData} (h : ∀ d ∈ l, Pl n d) : Pl (n + 1) (.list l) := ⟨by rw [PyData.canLay0]; exact lay_all fun d hd => (h d hd).1, by rw [PyData.depth]; exact Nat.succ_le_succ (depth_all fun d hd => (h d hd).2)⟩
theorem Pl.tup {n : Nat} {l : List PyData} (h : ∀ d ∈ l, Pl n d) : Pl (n + 1) (.tuple l) := ⟨by rw [PyData.canLay0]; exact lay_all fun d hd => (h d hd).1, by rw [PyData.depth]; exact Nat.succ_le_succ (depth_all fun d hd => (h d hd).2)⟩
theorem Pl.shaped {n : Nat} {d : PyData} (h : Pl n d) (hn : n ≤ 64) : SeqAt.shaped d = true := by
  unfold SeqAt.shaped
  rw [h.1, decide_eq_true (Nat.le_trans h.2 hn)]
  rfl
theorem Pl.mono {n m : Nat} {d : PyData} (h : Pl n d) (hn : n ≤ m) : Pl m d := ⟨h.1, Nat.le_trans h.2 hn⟩
theorem pl_ints (l : List Int) : ∀ d ∈ dI l, Pl 0 d := fun d hd => by
  obtain ⟨i, _, rfl⟩ := List.mem_map.mp hd
  exact .int i
theorem pl_d3 (e : Dem) : Pl 1 (d3 e) := .tup (pl_ints [e.1, e.2.1, e.2.2])
theorem pl_d3s (l : List Dem) : ∀ d ∈ l.map d3, Pl 1 d := fun d hd => by
  obtain ⟨i, _, rfl⟩ := List.mem_map.mp hd
  exact pl_d3 i
theorem pl_rows (l : List (List Int)) : ∀ d ∈ l.map fun r => PyData.tuple (dI r), Pl 1 d := fun d hd => by
  obtain ⟨i, _, rfl⟩ := List.mem_map.mp hd
  exact .tup (pl_ints i)
theorem dp_ints {K : PySem.W.Frag} {H : Hp} : ∀ l : List Int, DpAll K H (l.map V.int) (dI l)
  | [] => .nil
  | i :: l => .cons (.int i) (dp_ints l)
theorem dp_d3 {K : PySem.W.Frag} {H : Hp} {a : Addr} {e : Dem} (h : H a = some (.tup [.int e.1, .int e.2.1, .int e.2.2])) : Dp K H (.ref a) (d3 e) := .tup (SqT.of h) (dp_ints [e.1, e.2.1, e.2.2])
theorem dp_refs {K : PySem.W.Frag} {H : Hp} : ∀ {ks : List (Addr × Dem)}, Tups H ks → DpAll K H (refs ks) ((ks.map (·.2)).map d3)
  | [], _ => .nil
  | p :: ks, h => .cons (dp_d3 (h p (List.mem_cons_self ..))) (dp_refs fun q hq => h q (List.mem_cons_of_mem _ hq))
theorem eqv_nil : ∀ ds : List PyData, (PyData.list ds).eqv (.list []) = ds.isEmpty
  | [] => by rfl
  | _ :: _ => by rfl
theorem eqv_tup (l m : List PyData) : (PyData.tuple l).eqv (.tuple m) = PyData.eqvAll l m := by rw [PyData.eqv]
theorem eqv_lst (l m : List PyData) : (PyData.list l).eqv (.list m) = PyData.eqvAll l m := by rw [PyData.eqv]
end K43

/-! Heaps that grow; comprehensions whose turns keep a word; demands in the heap. -/
namespace K43
open PySem PySem.Spec PyProof.Rows L2

theorem sm_new {H : Hp} {p : Addr} {o : HO} (h : H p = none) : Same H (upd H p o) := fun b u e => by
  rw [upd_ne (ne_of_none e h)]
  exact e
theorem sm_upd {H H' : Hp} {p : Addr} {o : HO} (s : Same H H') (h : H p = none) : Same H (upd H' p o) := fun b u e => by
  rw [upd_ne (ne_of_none e h)]
  exact s b u e
theorem sm_then {H H1 : Hp} {p : Addr} {o : HO} (s : Same H H1) (h : H1 p = none) : Same H (upd H1 p o) := s.trans (sm_new h)

/-! ### comprehensions -/
section
variable {K : PySem.W.Frag} {g : TG} {tt : TT} {te : TE} {vs : List Nat} {σ : L2.St} {H1 : Hp} {D : Addr} {Qd : Hp → Prop} (Kp : Hp → Prop) (Ry : Nat → V → Hp → Prop)
/-- the list so far -/
def SoFar (D : Addr) (i : Nat) (H' : Hp) : Prop := Kp H' ∧ ∃ ys, H' D = some (.lst ys) ∧ ys.length = i ∧ ∀ j y, ys[j]? = some y → Ry j y H'
variable (k0 : Kp (upd H1 D (.lst []))) (kup : ∀ H' l, Kp H' → Kp (upd H' D (.lst l)))
  (rup : ∀ j y H' l l', H' D = some (.lst l) → Ry j y H' → Ry j y (upd H' D (.lst l')))
include kup rup in
theorem soFar_next {i : Nat} (hi : i < 1000) {H' : Hp} {l : List V} (hl : H' D = some (.lst l)) (s : SoFar Kp Ry D i H') {y : V} {H4 : Hp} (h1 : Kp H4) (h2 : H4 D = some (.lst l)) (h3 : ∀ j z, Ry j z H' → Ry j z H4) (h4 : Ry i y H4) :
    ∃ acc, H4 D = some (.lst acc) ∧ acc.length < sizeLine ∧ SoFar Kp Ry D (i + 1) (upd H4 D (.lst (acc ++ [y]))) := by
  obtain ⟨_, ys, e, el, er⟩ := s
  rw [hl] at e
  cases e
  refine ⟨l, h2, by rw [el]; exact small1000 (Nat.le_of_lt hi), kup _ _ h1, l ++ [y], upd_same, by rw [List.length_append, el] <;> rfl, fun j z hz => ?_⟩
  refine rup _ _ _ _ _ h2 ?_
  rcases Nat.lt_or_ge j l.length with c | c
  · rw [List.getElem?_append_left c] at hz
    exact h3 j z (er j z hz)
  · rw [List.getElem?_append_right c] at hz
    have : j = i := by
      cases q : j - l.length with
      | zero => omega
      | succ m => rw [q] at hz; simp at hz
    subst this
    rw [el, Nat.sub_self] at hz
    cases hz
    exact h4
theorem soFar_zero {Kp : Hp → Prop} {Ry : Nat → V → Hp → Prop} {H1 : Hp} {D : Addr} (k0 : Kp (upd H1 D (.lst []))) : SoFar Kp Ry D 0 (upd H1 D (.lst [])) := ⟨k0, [], upd_same, rfl, fun j y h => by simp at h⟩
include k0 kup rup in
theorem lcT {a : Addr} {xs : List V} (hz : xs.length ≤ 1000) (ha : ∀ H', Kp H' → SqT K H' a xs)
    (hs : ∀ i x H' l (Fin : V → Hp → Prop) (No : Hp → Prop), xs[i]? = some x → Kp H' → H' D = some (.lst l) → (∀ y H4, Kp H4 → H4 D = some (.lst l) → (∀ j z, Ry j z H' → Ry j z H4) → Ry i y H4 → Fin y H4) →
      g x (wipe σ vs) H' fun σ2 H2 => wipe σ2 vs = wipe σ vs ∧ tt σ2 H2 fun b H3 => if b = true then te σ2 H3 Fin else No H3)
    (hd : ∀ H' ys, Kp H' → H' D = some (.lst ys) → ys.length = xs.length → (∀ j y, ys[j]? = some y → Ry j y H') → Qd H') :
    ∃ W : Nat → Nat → Hp → Prop, (∃ m, W 0 m (upd H1 D (.lst []))) ∧ ∀ i m H, W i m H →
      ((Itt K a).stop i H ∧ Qd H) ∨ ((Itt K a).go i H ∧ ∃ Nx : Hp → Prop, (∀ H', Nx H' → ∃ m', m' < m ∧ W (i + 1) m' H') ∧ ∀ x H', (Itt K a).yld i H x H' → g x (wipe σ vs) H' fun σ2 H2 => wipe σ2 vs = wipe σ vs ∧ tt σ2 H2 fun b H3 =>
        if b = true then te σ2 H3 fun y H4 => ∃ acc, H4 D = some (.lst acc) ∧ acc.length < sizeLine ∧ Nx (upd H4 D (.lst (acc ++ [y]))) else Nx H3) := by
  refine lc_tup (SoFar Kp Ry D) (soFar_zero k0) (fun i H _ s => ha _ s.1) (fun i x H hx s => ?_) (fun H ⟨h1, ys, h2, h3, h4⟩ => hd H ys h1 h2 h3 h4)
  obtain ⟨h1, l, h2, _⟩ := id s
  have hi : i < 1000 := Nat.lt_of_lt_of_le (List.getElem?_eq_some_iff.mp hx).1 hz
  exact hs i x H l _ _ hx h1 h2 fun y H4 a1 a2 a3 a4 => soFar_next Kp Ry kup rup hi h2 s a1 a2 a3 a4
include k0 kup rup in
theorem lcL {a : Addr} {xs : List V} (hz : xs.length ≤ 1000) (ha : ∀ H', Kp H' → SqL K H' a xs)
    (hs : ∀ i x H' l (Fin : V → Hp → Prop) (No : Hp → Prop), xs[i]? = some x → Kp H' → H' D = some (.lst l) → (∀ y H4, Kp H4 → H4 D = some (.lst l) → (∀ j z, Ry j z H' → Ry j z H4) → Ry i y H4 → Fin y H4) →
      g x (wipe σ vs) H' fun σ2 H2 => wipe σ2 vs = wipe σ vs ∧ tt σ2 H2 fun b H3 => if b = true then te σ2 H3 Fin else No H3)
    (hd : ∀ H' ys, Kp H' → H' D = some (.lst ys) → ys.length = xs.length → (∀ j y, ys[j]? = some y → Ry j y H') → Qd H') :
    ∃ W : Nat → Nat → Hp → Prop, (∃ m, W 0 m (upd H1 D (.lst []))) ∧ ∀ i m H, W i m H →
      ((Itl K a).stop i H ∧ Qd H) ∨ ((Itl K a).go i H ∧ ∃ Nx : Hp → Prop, (∀ H', Nx H' → ∃ m', m' < m ∧ W (i + 1) m' H') ∧ ∀ x H', (Itl K a).yld i H x H' → g x (wipe σ vs) H' fun σ2 H2 => wipe σ2 vs = wipe σ vs ∧ tt σ2 H2 fun b H3 =>
        if b = true then te σ2 H3 fun y H4 => ∃ acc, H4 D = some (.lst acc) ∧ acc.length < sizeLine ∧ Nx (upd H4 D (.lst (acc ++ [y]))) else Nx H3) := by
  refine lc_list (SoFar Kp Ry D) (soFar_zero k0) (fun i H _ s => ha _ s.1) (fun i x H hx s => ?_) (fun H ⟨h1, ys, h2, h3, h4⟩ => hd H ys h1 h2 h3 h4)
  obtain ⟨h1, l, h2, _⟩ := id s
  have hi : i < 1000 := Nat.lt_of_lt_of_le (List.getElem?_eq_some_iff.mp hx).1 hz
  exact hs i x H l _ _ hx h1 h2 fun y H4 a1 a2 a3 a4 => soFar_next Kp Ry kup rup hi h2 s a1 a2 a3 a4
include k0 kup rup in
theorem lcR {lo : Int} {n : Nat} (hz : n ≤ 1000)
    (hs : ∀ (i : Nat) H' l (Fin : V → Hp → Prop) (No : Hp → Prop), i < n → Kp H' → H' D = some (.lst l) → (∀ y H4, Kp H4 → H4 D = some (.lst l) → (∀ j z, Ry j z H' → Ry j z H4) → Ry i y H4 → Fin y H4) →
      g (.int (lo + i)) (wipe σ vs) H' fun σ2 H2 => wipe σ2 vs = wipe σ vs ∧ tt σ2 H2 fun b H3 => if b = true then te σ2 H3 Fin else No H3)
    (hd : ∀ H' ys, Kp H' → H' D = some (.lst ys) → ys.length = n → (∀ j y, ys[j]? = some y → Ry j y H') → Qd H') :
    ∃ W : Nat → Nat → Hp → Prop, (∃ m, W 0 m (upd H1 D (.lst []))) ∧ ∀ i m H, W i m H →
      ((Itr lo n).stop i H ∧ Qd H) ∨ ((Itr lo n).go i H ∧ ∃ Nx : Hp → Prop, (∀ H', Nx H' → ∃ m', m' < m ∧ W (i + 1) m' H') ∧ ∀ x H', (Itr lo n).yld i H x H' → g x (wipe σ vs) H' fun σ2 H2 => wipe σ2 vs = wipe σ vs ∧ tt σ2 H2 fun b H3 =>
        if b = true then te σ2 H3 fun y H4 => ∃ acc, H4 D = some (.lst acc) ∧ acc.length < sizeLine ∧ Nx (upd H4 D (.lst (acc ++ [y]))) else Nx H3) := by
  refine lc_range (SoFar Kp Ry D) (soFar_zero k0) (fun i H hi s => ?_) (fun H ⟨h1, ys, h2, h3, h4⟩ => hd H ys h1 h2 h3 h4)
  obtain ⟨h1, l, h2, _⟩ := id s
  exact hs i H l _ _ hi h1 h2 fun y H4 a1 a2 a3 a4 => soFar_next Kp Ry kup rup (Nat.lt_of_lt_of_le hi hz) h2 s a1 a2 a3 a4
end

/-! ### demands in the heap -/
theorem IsD3.same {H H' : Hp} {v : V} {e : Dem} (s : Same H H') (h : IsD3 H v e) : IsD3 H' v e := by
  obtain ⟨a, rfl, h⟩ := h
  exact ⟨a, rfl, s _ _ h⟩
theorem Tups.same {H H' : Hp} {ks : List (Addr × Dem)} (s : Same H H') (h : Tups H ks) : Tups H' ks := fun p hp => s _ _ (h p hp)
/-- a sequence of demands stands at a -/
def DSeq (mk : List V → HO) (H : Hp) (a : Addr) (ds : List Dem) : Prop := ∃ ks, H a = some (mk (refs ks)) ∧ Tups H ks ∧ ks.map (·.2) = ds
abbrev DTup := DSeq .tup
abbrev DLst := DSeq .lst
theorem DSeq.same {mk : List V → HO} {H H' : Hp} {a : Addr} {ds : List Dem} (s : Same H H') (h : DSeq mk H a ds) : DSeq mk H' a ds := by
  obtain ⟨ks, h1, h2, h3⟩ := h
  exact ⟨ks, s _ _ h1, h2.same s, h3⟩
theorem refs_len (ks : List (Addr × Dem)) : (refs ks).length = ks.length := by unfold refs; rw [List.length_map]
theorem refs_get {ks : List (Addr × Dem)} {i : Nat} {v : V} (h : (refs ks)[i]? = some v) : ∃ p, ks[i]? = some p ∧ v = .ref p.1 := by
  unfold refs at h
  rw [List.getElem?_map] at h
  obtain ⟨p, hp, e⟩ := Option.map_eq_some_iff.mp h
  exact ⟨p, hp, e.symm⟩
/-- values that stand for demands are references to their tuples -/
theorem refs_of : ∀ {H : Hp} {ys : List V} {ds : List Dem}, ys.length = ds.length → (∀ (j : Nat) y e, ys[j]? = some y → ds[j]? = some e → IsD3 H y e) → ∃ ks, ys = refs ks ∧ Tups H ks ∧ ks.map (·.2) = ds
  | _, [], [], _, _ => ⟨[], rfl, fun p hp => (by cases hp), rfl⟩
  | _, [], _ :: _, h, _ => by simp at h
  | _, _ :: _, [], h, _ => by simp at h
  | H, y :: ys, e :: ds, h, hj => by
    obtain ⟨a, rfl, ha⟩ := hj 0 y e rfl rfl
    obtain ⟨ks, h1, h2, h3⟩ := refs_of (H := H) (ys := ys) (ds := ds) (by simpa using h) fun j z d hz hd => hj (j + 1) z d (by simpa using hz) (by simpa using hd)
    refine ⟨(a, e) :: ks, by rw [h1] <;> rfl, fun p hp => ?_, by rw [List.map_cons, h3]⟩
    rcases List.mem_cons.mp hp with rfl | hp
    · exact ha
    · exact h2 p hp
end K43

/-! The small defs: integers, columns, demands as values. -/
namespace K43
open PySem PySem.Spec PyProof.Rows L2
open C8 (Cal Met Mak pe_c pe_mk pe_mt pe_mt0 pe_gc InsC call_isC)

section
variable {P : Program} {w : World} {K : PySem.W.Frag} {mg : Str → Option Value} {base : Heap}
/-- a def of the module keeps its promise -/
theorem mkCal {x : Str} {st : Stmt} {N ps : List Str} {k : Nat} {sp : Sp} (T : Fx K mg) (i : Nat) (hi : fn[i]? = some (gd x st)) (hx : x ∈ gnames) (S : FnScope N ps (defScope st)) (len : ∀ vs H Q E, sp vs H Q E → vs.length = ps.length)
    (hb : ∀ (kV doc pm : Value) (an : Option Addr) (cdv ct : Value) (us : List Value), us.length = ps.length → bindArgs (PySem.W.fnOf x x (defArgs st) (defBody st) (defScope st) .none kV doc pm an cdv ct) ⟨us, []⟩ = pure (ps.zip us))
    (hbody : ∀ (cdv : Value) (A : Around) (outer : List Env) (s : Shared) (H : Hp) (vs : List V) (Q : VK) (E : XK), Room k (A.deeper (envOfC x (defScope st) s.heap.objs.size (He.ga K x) cdv)) → sp vs H Q E →
      ∃ t, PSs (cxOf CX0 P w K mg base N x (defScope st) (He.ga K x) cdv A outer s H E).nox (defBody st) t ∧ t { nx := fun _ H' => Q .non H', rt := Q } (start N vs) H) : Cal P w K mg base (k + 1) x sp [] := by
  obtain ⟨fd, F⟩ := T.fn i _ hi
  have F' : FunD K x x (defArgs st) (defBody st) (defScope st) [] [] (He.ga K x) fd := F
  refine ⟨He.ga K x, fd, ps, [], F'.ok S len (fun cdv A outer s H vs Q E hr h => ?_), T.gl x hx, F'.kp, F'.bindsN hb, .nil⟩
  obtain ⟨t, h1, h2⟩ := hbody cdv A outer s H vs Q E hr h
  exact ⟨t, h1.nox, h2⟩
/-- a method of System | Ways -/
theorem mkMet {C m q : Str} {st : Stmt} {N ps : List Str} {k : Nat} {sp : Sp} (T : Fx K mg) (i : Nat) (hi : fn[i]? = some (md C m q st)) (hc : Cls K (He.ga K C)) (hm : Meth K (He.ga K C) m (He.ma K (He.ga K C) m)) (S : FnScope N ps (defScope st))
    (len : ∀ vs H Q E, sp vs H Q E → vs.length = ps.length)
    (hb : ∀ (kV doc pm : Value) (an : Option Addr) (cdv ct : Value) (us : List Value), us.length = ps.length → bindArgs (PySem.W.fnOf m q (defArgs st) (defBody st) (defScope st) .none kV doc pm an cdv ct) ⟨us, []⟩ = pure (ps.zip us))
    (hbody : ∀ (cdv : Value) (A : Around) (outer : List Env) (s : Shared) (H : Hp) (vs : List V) (Q : VK) (E : XK), Room k (A.deeper (envOfC q (defScope st) s.heap.objs.size (He.ma K (He.ga K C) m) cdv)) → sp vs H Q E →
      ∃ t, PSs (cxOf CX0 P w K mg base N q (defScope st) (He.ma K (He.ga K C) m) cdv A outer s H E).nox (defBody st) t ∧ t { nx := fun _ H' => Q .non H', rt := Q } (start N vs) H) : Met P w K mg base (k + 1) (He.ga K C) m sp [] := by
  obtain ⟨fd, F⟩ := T.fn i _ hi
  have F' : FunD K m q (defArgs st) (defBody st) (defScope st) [] [] (He.ma K (He.ga K C) m) fd := F
  refine ⟨He.ma K (He.ga K C) m, fd, ps, [], hc, hm, F'.ok S len (fun cdv A outer s H vs Q E hr h => ?_), F'.bindsN hb, .nil⟩
  obtain ⟨t, h1, h2⟩ := hbody cdv A outer s H vs Q E hr h
  exact ⟨t, h1.nox, h2⟩
end
theorem pgI {X : Cx} {x : Str} {i : Int} {pos : Pos} (hg : Gl X x) (h : ∃ t, X.mg x = some (.int i t)) (hd : (x == ("__debug__" : Str)) = false := by decide) : PE X (.Name x pos) (tC (.int i)) :=
  h.elim fun t e => pe_gc hg ⟨_, e, t, rfl⟩ hd
theorem bt {b c : Bool} {P : Prop} (e : b = c) (h : (if c = true then P else False)) : b = true ∧ P := by
  subst e
  cases b with
  | true => exact ⟨rfl, by simpa using h⟩
  | false => simp at h

/-! ### is_integer, is_within, is_column -/
/-- what these ask of: an int, a truth value -/
inductive IB : V → Prop where
  | int (i : Int) : IB (.int i)
  | bl (b : Bool) : IB (.bl b)
def isI : V → Bool
  | .int i => decide (-(10 ^ 60) < i) && decide (i < 10 ^ 60)
  | _ => false
def isW (v : V) (a b : Int) : Bool := isI v && (match v with
  | .int i => decide (a ≤ i) && decide (i ≤ b)
  | _ => false)
def spIsInteger : Sp := fun vs H Q _ => ∃ v, vs = [v] ∧ IB v ∧ Q (.bl (isI v)) H
def spIsWithin : Sp := fun vs H Q _ => ∃ v a b, vs = [v, .int a, .int b] ∧ IB v ∧ Q (.bl (isW v a b)) H
def spIsColumn : Sp := fun vs H Q _ => ∃ i : Int, vs = [.int i] ∧ Q (.bl (isW (.int i) 0 199)) H
theorem isW_int {i a b : Int} (ha : -(10 ^ 60) < a) (hb : b < 10 ^ 60) : isW (.int i) a b = (decide (a ≤ i) && decide (i ≤ b)) := by
  unfold isW isI
  have h1 : ∀ p q : Bool, (p = true → q = true) → (q && p) = p := fun p q h => by cases p <;> cases q <;> simp_all
  refine h1 _ _ fun h => ?_
  simp only [Bool.and_eq_true, decide_eq_true_eq] at h ⊢
  omega

section
variable {P : Program} {w : World} {K : PySem.W.Frag} {mg : Str → Option Value} {base : Heap}
theorem scIsInteger : FnScope ["value"] ["value"] (defScope sIsInteger) := ⟨rfl, rfl, rfl, by decide +kernel, rfl, by decide +kernel, by decide +kernel⟩
theorem c_is_integer (T : Fx K mg) : Cal P w K mg base 1 "is_integer" spIsInteger [] := by
  refine mkCal T 0 rfl (by decide +kernel) scIsInteger (fun vs H Q E h => ?_) (fun _ _ _ _ _ _ us hl => match us, hl with | [_], _ => rfl) fun cdv A outer s H vs Q E hr h => ?_
  · obtain ⟨v, rfl, _⟩ := h
    rfl
  · obtain ⟨v, rfl, hv, q⟩ := h
    refine ⟨_, pss_one (ps_ret (pe_and (pe_callB call_isi (by rfl) (T.bl "isinstance" (by decide +kernel)) (by decide +kernel) (pa_cons (pv 0) (pa_cons (pe_bltn (v := .ty "int") (by rfl) (T.bl "int" (by decide +kernel)) (by decide +kernel) rfl) pa_nil)))
      (pe_and (pe_not (pe_callB call_isi (by rfl) (T.bl "isinstance" (by decide +kernel)) (by decide +kernel) (pa_cons (pv 0) (pa_cons (pe_bltn (v := .ty "bool") (by rfl) (T.bl "bool" (by decide +kernel)) (by decide +kernel) rfl) pa_nil))))
      (pe_one (pe_chain op_lt op_lt (pe_un un_neg (pgI (by rfl) T.iL)) (pv 0) (pgI (by rfl) T.iL)))))), ?_⟩
    cases hv with
    | int i =>
      refine ⟨_, rfl, _, _, _, _, _, rfl, .ty _, .base (.int i), kit_ty (r := true) (by decide +kernel), true, rfl, iteT ?_⟩
      refine ⟨_, rfl, _, _, _, _, _, rfl, .ty _, .base (.int i), kit_ty (r := false) (by decide +kernel), false, rfl, true, rfl, iteT ?_⟩
      refine ⟨_, rfl, _, rfl, _, _, rfl, rfl, _, rfl, ?_⟩
      cases hd : decide (-(10 ^ 60) < i) with
      | true =>
        refine iteT ⟨_, _, rfl, rfl, ?_⟩
        have e : isI (.int i) = decide (i < 10 ^ 60) := by
          show (decide (-(10 ^ 60) < i) && decide (i < 10 ^ 60)) = _
          rw [hd, Bool.true_and]
        rw [e] at q
        exact q
      | false =>
        have e : isI (.int i) = false := by
          show (decide (-(10 ^ 60) < i) && decide (i < 10 ^ 60)) = _
          rw [hd, Bool.false_and]
        rw [e] at q
        exact iteF q
    | bl b =>
      refine ⟨_, rfl, _, _, _, _, _, rfl, .ty _, .base (.bl b), kit_ty (r := true) (by decide +kernel), true, rfl, iteT ?_⟩
      exact ⟨_, rfl, _, _, _, _, _, rfl, .ty _, .base (.bl b), kit_ty (r := true) (by decide +kernel), true, rfl, false, rfl, iteF q⟩
end
end K43

/-! Columns and demands as values. -/
namespace K43
open PySem PySem.Spec PyProof.Rows L2
open C8 (Cal Met Mak pe_c pe_mk pe_mt pe_mt0 pe_gc InsC call_isC)

section
variable {P : Program} {w : World} {K : PySem.W.Frag} {mg : Str → Option Value} {base : Heap}
theorem scIsWithin : FnScope ["value", "least", "most"] ["value", "least", "most"] (defScope sIsWithin) := ⟨rfl, rfl, rfl, by decide +kernel, rfl, by decide +kernel, by decide +kernel⟩
theorem c_is_within (T : Fx K mg) : Cal P w K mg base 2 "is_within" spIsWithin [] := by
  refine mkCal T 1 rfl (by decide +kernel) scIsWithin (fun vs H Q E h => ?_) (fun _ _ _ _ _ _ us hl => match us, hl with | [_, _, _], _ => rfl) fun cdv A outer s H vs Q E hr h => ?_
  · obtain ⟨v, a, b, rfl, _⟩ := h
    rfl
  · obtain ⟨v, a, b, rfl, hv, q⟩ := h
    refine ⟨_, pss_one (ps_ret (pe_and (pe_c (c_is_integer T) hr (by decide) (by rfl) (pa_cons (pv 0) pa_nil)) (pe_one (pe_chain op_le op_le (pv 1) (pv 0) (pv 2))))), ?_⟩
    refine ⟨_, rfl, v, rfl, hv, _, rfl, ?_⟩
    cases hv with
    | int i =>
      cases hi : isI (.int i) with
      | false =>
        have e : isW (.int i) a b = false := by unfold isW; rw [hi, Bool.false_and]
        rw [e] at q
        exact iteF q
      | true =>
        refine iteT ⟨_, rfl, _, rfl, _, _, rfl, rfl, _, rfl, ?_⟩
        have e : isW (.int i) a b = (decide (a ≤ i) && decide (i ≤ b)) := by unfold isW; rw [hi, Bool.true_and]
        rw [e] at q
        cases hd : decide (a ≤ i) with
        | true =>
          rw [hd, Bool.true_and] at q
          exact iteT ⟨_, rfl, _, _, rfl, rfl, q⟩
        | false =>
          rw [hd, Bool.false_and] at q
          exact iteF q
    | bl b' => exact iteF q
theorem scIsColumn : FnScope ["value"] ["value"] (defScope sIsColumn) := ⟨rfl, rfl, rfl, by decide +kernel, rfl, by decide +kernel, by decide +kernel⟩
theorem c_is_column (T : Fx K mg) : Cal P w K mg base 3 "is_column" spIsColumn [] := by
  refine mkCal T 2 rfl (by decide +kernel) scIsColumn (fun vs H Q E h => ?_) (fun _ _ _ _ _ _ us hl => match us, hl with | [_], _ => rfl) fun cdv A outer s H vs Q E hr h => ?_
  · obtain ⟨i, rfl, _⟩ := h
    rfl
  · obtain ⟨i, rfl, q⟩ := h
    refine ⟨_, pss_one (ps_ret (pe_c (c_is_within T) hr (by decide) (by rfl) (pa_cons (pv 0) (pa_cons pe_int (pa_cons (pgI (by rfl) T.iC) pa_nil))))), ?_⟩
    exact ⟨_, rfl, _, _, _, rfl, .int i, q⟩

/-! ### are_columns -/
def spAreColumns (K : PySem.W.Frag) : Sp := fun vs H Q _ => ∃ (a : Addr) (cs : List Int) (n : Nat), vs = [.ref a, .int n] ∧ H a = some (.tup (cs.map V.int)) ∧ cs.length = n ∧ n ≤ 60 ∧ (∀ c ∈ cs, 0 ≤ c ∧ c ≤ 199) ∧ ∀ H', Same H H' → Q (.bl true) H'
theorem all_true : ∀ {bs : List Bool}, (∀ b ∈ bs, b = true) → bs.all id = true
  | [], _ => rfl
  | b :: bs, h => by
    rw [List.all_cons, h b (List.mem_cons_self ..), all_true fun c hc => h c (List.mem_cons_of_mem _ hc)]
    rfl
/-- a list of truth values, all of them told -/
theorem bls {ys : List V} {n : Nat} {f : Nat → Bool} (hl : ys.length = n) (h : ∀ (j : Nat) (y : V), ys[j]? = some y → y = V.bl (f j)) : ys = ((List.range n).map f).map V.bl := by
  apply List.ext_getElem?
  intro j
  rw [List.getElem?_map, List.getElem?_map]
  by_cases c : j < n
  · rw [List.getElem?_range c, List.getElem?_eq_getElem (by omega)]
    exact congrArg some (h j _ (List.getElem?_eq_getElem (by omega)))
  · rw [List.getElem?_eq_none (by omega), List.getElem?_eq_none (by rw [List.length_range]; omega)]
    rfl
theorem scAreColumns : FnScope ["value", "many", "one"] ["value", "many"] (defScope sAreColumns) := ⟨rfl, rfl, rfl, by decide +kernel, rfl, by decide +kernel, by decide +kernel⟩
theorem c_are_columns (T : Fx K mg) : Cal P w K mg base 4 "are_columns" (spAreColumns K) [] := by
  refine mkCal T 3 rfl (by decide +kernel) scAreColumns (fun vs H Q E h => ?_) (fun _ _ _ _ _ _ us hl => match us, hl with | [_, _], _ => rfl) fun cdv A outer s H vs Q E hr h => ?_
  · obtain ⟨a, cs, n, rfl, _⟩ := h
    rfl
  · obtain ⟨a, cs, n, rfl, ha, hl, hn, hc, q⟩ := h
    refine ⟨_, pss_one (ps_ret (pe_and (pe_callB call_isi (by rfl) (T.bl "isinstance" (by decide +kernel)) (by decide +kernel) (pa_cons (pv 0) (pa_cons (pe_bltn (v := .ty "tuple") (by rfl) (T.bl "tuple" (by decide +kernel)) (by decide +kernel) rfl) pa_nil)))
      (pe_and (pe_cmpR op_eq (pe_callB call_len (by rfl) (T.bl "len" (by decide +kernel)) (by decide +kernel) (pa_cons (pv 0) pa_nil)) (pv 1) (nomark _))
      (pe_one (pe_callB (cr_all rfl) (by rfl) (T.bl "all" (by decide +kernel)) (by decide +kernel) (pa_cons (pe_lc (own := [("one", 2)]) (g := gName 2) (tt := tYes) rfl scAreColumns.nd (pi_tup (pv 0))
        (blkOk_by (own := [("one", 2)]) (N := ["value", "many", "one"]) (sc := defScope sAreColumns) (by decide +kernel)) (fun _ _ _ _ _ => pg_name (i := 2) scAreColumns.nd rfl (Or.inl rfl)) (fun _ _ _ _ _ => pts_nil)
        (fun _ _ _ _ _ => pe_c (c_is_column T) hr (by decide) (by rfl) (pa_cons (pv 2) pa_nil))) pa_nil)))))), ?_⟩
    refine ⟨_, rfl, _, _, _, _, _, rfl, .ty _, .base (.tup ha), kit_ty (r := true) (by decide +kernel), true, rfl, iteT ?_⟩
    refine ⟨_, rfl, _, _, rfl, .inr ⟨_, SqT.of ha, rfl⟩, _, rfl, rfl, _, rfl, ?_⟩
    rw [List.length_map, hl, show decide (V.int (n : Int) = V.int (n : Int)) = true from decide_eq_true rfl]
    refine iteT ⟨_, rfl, a, rfl, ⟨_, SqT.of ha⟩, fun D nD => ?_⟩
    refine lcT (Same H) (fun i y _ => y = .bl true) (sm_new nD) (fun H' l s => fun b u e => ?_) (fun _ _ _ _ _ _ h => h) (a := a) (xs := cs.map V.int) (by rw [List.length_map]; omega) (fun H' s => SqT.of (s _ _ ha)) (fun i x H' l Fin No hx s hD fin => ?_) (fun H' ys s hD hy hall => ?_)
    · rw [upd_ne (ne_of_none e nD)]
      exact s b u e
    · refine ⟨rfl, ?_⟩
      rw [List.getElem?_map] at hx
      obtain ⟨c, hcx, rfl⟩ := Option.map_eq_some_iff.mp hx
      obtain ⟨c0, c1⟩ := hc c (List.mem_of_getElem? hcx)
      refine ⟨_, rfl, c, rfl, ?_⟩
      rw [isW_int (by decide) (by decide), decide_eq_true c0, decide_eq_true c1]
      exact fin _ _ s hD (fun _ _ h => h) rfl
    · have e : ys = ((List.range cs.length).map fun _ => true).map V.bl := bls (by rw [hy, List.length_map]) hall
      refine ⟨D, _, rfl, SqL.of (by rw [hD, e]), ?_⟩
      rw [all_true fun b hb => (List.mem_map.mp hb).elim fun _ h => h.2.symm]
      exact q _ s
theorem scReqColumns : FnScope ["value", "many"] ["value", "many"] (defScope sReqColumns) := ⟨rfl, rfl, rfl, by decide +kernel, rfl, by decide +kernel, by decide +kernel⟩
def spReqColumns (K : PySem.W.Frag) : Sp := fun vs H Q _ => ∃ (a : Addr) (cs : List Int) (n : Nat), vs = [.ref a, .int n] ∧ H a = some (.tup (cs.map V.int)) ∧ cs.length = n ∧ n ≤ 60 ∧ (∀ c ∈ cs, 0 ≤ c ∧ c ≤ 199) ∧ ∀ H', Same H H' → Q .non H'
theorem c_req_columns (T : Fx K mg) : Cal P w K mg base 5 "require_columns_texts" (spReqColumns K) [] := by
  obtain ⟨fd, F⟩ := T.fn 4 _ rfl
  have F' : FunD K "require_columns" "require_columns" (defArgs sReqColumns) (defBody sReqColumns) (defScope sReqColumns) [] [] (He.ga K "require_columns_texts") fd := F
  refine ⟨He.ga K "require_columns_texts", fd, ["value", "many"], [], F'.ok scReqColumns (fun vs H Q E h => ?_) (fun cdv A outer s H vs Q E hr h => ?_), T.gl _ (by decide +kernel), F'.kp, F'.bindsN (fun _ _ _ _ _ _ us hl => match us, hl with | [_, _], _ => rfl), .nil⟩
  · obtain ⟨a, cs, n, rfl, _⟩ := h
    rfl
  · obtain ⟨a, cs, n, rfl, ha, hl, hn, hc, q⟩ := h
    refine ⟨_, (pss_one (ps_if (pt_not (pt_val (pe_c (c_are_columns T) hr (by decide) (by rfl) (pa_cons (pv 0) (pa_cons (pv 1) pa_nil))))) (pss_one ps_never) pss_nil)).nox, ?_⟩
    exact ⟨_, rfl, _, rfl, a, cs, n, rfl, ha, hl, hn, hc, fun H' s => ⟨true, rfl, q H' s⟩⟩

/-! ### is_demand -/
def isDem : List V → Bool
  | [u, l, d] => isW u (-1) 59 && isW l (-1) 59 && isW d (-199) 199
  | _ => false
/-- what is_demand tells of a value -/
def DemV (H : Hp) (v : V) (b : Bool) : Prop :=
  ((v = .non ∨ (∃ i, v = .int i) ∨ ∃ a xs, v = .ref a ∧ H a = some (.lst xs)) ∧ b = false) ∨ ∃ a xs, v = .ref a ∧ H a = some (.tup xs) ∧ (∀ x ∈ xs, IB x) ∧ xs.length ≤ 3 ∧ b = isDem xs
def spIsDemand : Sp := fun vs H Q _ => ∃ v b, vs = [v] ∧ DemV H v b ∧ ∀ H', Same H H' → Q (.bl b) H'
theorem scIsDemand : FnScope ["value", "line"] ["value"] (defScope sIsDemand) := ⟨rfl, rfl, rfl, by decide +kernel, rfl, by decide +kernel, by decide +kernel⟩
theorem c_is_demand (T : Fx K mg) : Cal P w K mg base 3 "is_demand" spIsDemand [] := by
  refine mkCal T 5 rfl (by decide +kernel) scIsDemand (fun vs H Q E h => ?_) (fun _ _ _ _ _ _ us hl => match us, hl with | [_], _ => rfl) fun cdv A outer s H vs Q E hr h => ?_
  · obtain ⟨v, b, rfl, _⟩ := h
    rfl
  · obtain ⟨v, b, rfl, hv, q⟩ := h
    refine ⟨_, pss_cons (ps_if (PW.pt (pw_or (pt_not (pt_val (pe_callB call_isi (by rfl) (T.bl "isinstance" (by decide +kernel)) (by decide +kernel) (pa_cons (pv 0) (pa_cons (pe_bltn (v := .ty "tuple") (by rfl) (T.bl "tuple" (by decide +kernel)) (by decide +kernel) rfl) pa_nil)))))
        (pw_or1 (pt_cmpR op_ne (pe_callB call_len (by rfl) (T.bl "len" (by decide +kernel)) (by decide +kernel) (pa_cons (pv 0) pa_nil)) pe_int (nomark _))))) (pss_one (ps_ret pe_bl)) pss_nil)
      (pss_cons (ps_if (pt_not (pt_val (pe_callB (cr_all rfl) (by rfl) (T.bl "all" (by decide +kernel)) (by decide +kernel) (pa_cons (pe_lc (own := [("line", 1)]) (g := gName 1) (tt := tYes) rfl scIsDemand.nd (pi_tup (pe_slice sl_tup (pv 0) po_none (po_some pe_int)))
        (blkOk_by (own := [("line", 1)]) (N := ["value", "line"]) (sc := defScope sIsDemand) (by decide +kernel)) (fun _ _ _ _ _ => pg_name (i := 1) scIsDemand.nd rfl (Or.inl rfl)) (fun _ _ _ _ _ => pts_nil)
        (fun _ _ _ _ _ => pe_c (c_is_within T) hr (by decide) (by rfl) (pa_cons (pv 1) (pa_cons (pgI (by rfl) T.iG) (pa_cons (pe_op op_sub (pgI (by rfl) T.iM) pe_int) pa_nil))))) pa_nil)))) (pss_one (ps_ret pe_bl)) pss_nil)
      (pss_one (ps_ret (pe_c (c_is_within T) hr (by decide) (by rfl) (pa_cons (pe_ix ix_tup (pv 0) pe_int (fun _ _ => rfl)) (pa_cons (pe_un un_neg (pgI (by rfl) T.iC)) (pa_cons (pgI (by rfl) T.iC) pa_nil))))))), ?_⟩
    rcases hv with ⟨hv, rfl⟩ | ⟨a, xs, rfl, ha, hx, h3, rfl⟩
    · rcases hv with rfl | ⟨i, rfl⟩ | ⟨a, xs, rfl, ha⟩
      · exact ⟨_, rfl, _, _, _, _, _, rfl, .ty _, .base .non, kit_ty (r := false) (by decide +kernel), false, rfl, q H fun _ _ h => h⟩
      · exact ⟨_, rfl, _, _, _, _, _, rfl, .ty _, .base (.int i), kit_ty (r := false) (by decide +kernel), false, rfl, q H fun _ _ h => h⟩
      · exact ⟨_, rfl, _, _, _, _, _, rfl, .ty _, .base (.lst ha), kit_ty (r := false) (by decide +kernel), false, rfl, q H fun _ _ h => h⟩
    · refine ⟨_, rfl, _, _, _, _, _, rfl, .ty _, .base (.tup ha), kit_ty (r := true) (by decide +kernel), true, rfl, ?_⟩
      refine ⟨_, rfl, _, _, rfl, .inr ⟨_, SqT.of ha, rfl⟩, rfl, _, rfl, ?_⟩
      match xs, hx, h3, ha, q with
      | [], _, _, _, q => exact q H fun _ _ h => h
      | [_], _, _, _, q => exact q H fun _ _ h => h
      | [_, _], _, _, _, q => exact q H fun _ _ h => h
      | [u, l, d], hx, _, ha, q =>
        have hu : IB u := hx u (by simp)
        have hl : IB l := hx l (by simp)
        have hd : IB d := hx d (by simp)
        refine ⟨_, rfl, _, rfl, a, _, rfl, SqT.of ha, (by show ¬ ((0 : Nat) = 0 ∧ 2 = 3); decide), fun p np => ⟨p, rfl, ⟨_, SqT.of upd_same⟩, fun D nD => ?_⟩⟩
        have s1 : Same H (upd H p (.tup [u, l])) := sm_new np
        have nDp : p ≠ D := fun e => by rw [← e, upd_same] at nD; cases nD
        refine lcT (fun H' => Same H H' ∧ H' p = some (.tup [u, l])) (fun i y _ => y = .bl (if i = 0 then isW u (-1) 59 else isW l (-1) 59)) ⟨sm_upd s1 ?_, ?_⟩ (fun H' l' ⟨s, hp⟩ => ⟨fun b u e => ?_, ?_⟩) (fun _ _ _ _ _ _ h => h) (a := p) (xs := [u, l]) (by show 2 ≤ 1000; decide) (fun H' s => SqT.of s.2) (fun i x H' l' Fin No hi s hD fin => ?_) (fun H' ys ⟨s, _⟩ hD hy hall => ?_)
        · have := nD
          rw [upd_ne (Ne.symm nDp)] at this
          exact this
        · rw [upd_ne nDp]
          exact upd_same
        · rw [upd_ne (fun c => by rw [c, ] at e; rw [upd_ne (Ne.symm nDp)] at nD; rw [nD] at e; cases e)]
          exact s b u e
        · rw [upd_ne nDp]
          exact hp
        · refine ⟨rfl, ?_⟩
          have hib : IB x ∧ isW x (-1) 59 = (if i = 0 then isW u (-1) 59 else isW l (-1) 59) := by
            match i, hi with
            | 0, hi => cases hi; exact ⟨hu, rfl⟩
            | 1, hi => cases hi; exact ⟨hl, rfl⟩
          refine ⟨_, rfl, _, _, rfl, rfl, x, -1, 59, rfl, hib.1, ?_⟩
          exact fin _ _ s hD (fun _ _ h => h) (by rw [hib.2])
        · have e := bls (n := 2) (f := fun i => if i = 0 then isW u (-1) 59 else isW l (-1) 59) hy hall
          refine ⟨D, _, rfl, SqL.of (by rw [hD, e]), _, rfl, ?_⟩
          have e2 : (((List.range 2).map fun i => if i = 0 then isW u (-1) 59 else isW l (-1) 59).all id) = (isW u (-1) 59 && isW l (-1) 59) := by
            show (isW u (-1) 59 && (isW l (-1) 59 && true)) = _
            rw [Bool.and_true]
          rw [e2]
          cases hb : isW u (-1) 59 && isW l (-1) 59 with
          | false =>
            have q1 := q H' s
            have e3 : isDem [u, l, d] = false := by show (isW u (-1) 59 && isW l (-1) 59 && isW d (-199) 199) = _; rw [hb, Bool.false_and]
            rw [e3] at q1
            exact q1
          | true =>
            have e3 : isDem [u, l, d] = isW d (-199) 199 := by show (isW u (-1) 59 && isW l (-1) 59 && isW d (-199) 199) = _; rw [hb, Bool.true_and]
            rw [e3] at q
            exact ⟨_, rfl, a, _, _, _, rfl, rfl, SqT.of (s _ _ ha), atI_nat (j := 2) rfl, _, rfl, d, -199, 199, rfl, hd, q _ s⟩
end
end K43

/-! Demands met, bounds, points, backward. -/
namespace K43
open PySem PySem.Spec PyProof.Rows L2
open C8 (Cal Met Mak pe_c pe_mk pe_mt pe_mt0 pe_gc InsC call_isC)

theorem IsD3.upd {H : Hp} {D : Addr} {l l' : List V} {y : V} {e : Dem} (h : H D = some (.lst l)) (i : IsD3 H y e) : IsD3 (L2.upd H D (.lst l')) y e := by
  obtain ⟨a, rfl, ha⟩ := i
  refine ⟨a, rfl, ?_⟩
  rw [upd_ne (ne_of ha h (by intro q; cases q))]
  exact ha
theorem same_upd {H H' : Hp} {D : Addr} {o : HO} (s : Same H H') (n : H D = none) : Same H (L2.upd H' D o) := fun b u e => by
  rw [upd_ne (ne_of_none e n)]
  exact s b u e
def colF (cs : List Int) (p : Int) : Int := if p = -1 then 0 else cs.getD p.toNat 0
def spMet (K : PySem.W.Frag) : Sp := fun vs H Q _ => ∃ (v : V) (e : Dem) (a : Addr) (cs : List Int), vs = [v, .ref a] ∧ IsD3 H v e ∧ H a = some (.tup (cs.map V.int)) ∧ Betw cs.length e ∧ Q (.bl (decide (colF cs e.2.1 + e.2.2 ≤ colF cs e.1))) H
def spBounds : Sp := fun vs H Q _ => ∃ n : Nat, vs = [.int n] ∧ n ≤ 60 ∧ ∀ H' p, Same H H' → H p = none → DLst H' p (bnd n) → Q (.ref p) H'
def ptsV (n : Nat) : List V := .int (-1) :: (List.range n).map fun (i : Nat) => V.int (i : Int)
def spPoints : Sp := fun vs H Q _ => ∃ n : Nat, vs = [.int n] ∧ n ≤ 60 ∧ ∀ H' p, Same H H' → H p = none → H' p = some (.lst (ptsV n)) → Q (.ref p) H'
def spBackward (K : PySem.W.Frag) : Sp := fun vs H Q _ => ∃ (a : Addr) (ds : List Dem), vs = [.ref a] ∧ DTup H a ds ∧ ds.length ≤ 1000 ∧ ∀ H' p, Same H H' → H p = none → DLst H' p (ds.map back) → Q (.ref p) H'

theorem isD3_tup {H : Hp} {v : V} {e : Dem} (h : IsD3 H v e) : ∃ a, v = .ref a ∧ H a = some (.tup [.int e.1, .int e.2.1, .int e.2.2]) := h
section
variable {P : Program} {w : World} {K : PySem.W.Frag} {mg : Str → Option Value} {base : Heap}
theorem scIsMet : FnScope ["demand", "columns", "upper", "lower", "least", "one", "other"] ["demand", "columns"] (defScope sIsMet) := ⟨rfl, rfl, rfl, by decide +kernel, rfl, by decide +kernel, by decide +kernel⟩
theorem col_get {cs : List Int} {p : Int} (h : IsPt cs.length p) (hn : ¬ p = -1) : atI (cs.map V.int) p = some (.int (colF cs p)) := by
  obtain ⟨h0, h1⟩ := h
  obtain ⟨j, rfl⟩ : ∃ j : Nat, p = j := ⟨p.toNat, by omega⟩
  refine atI_nat ?_
  rw [List.getElem?_map]
  unfold colF
  rw [if_neg hn]
  show _ = some (V.int (cs.getD j 0))
  rw [List.getElem?_eq_getElem (by omega), List.getD_eq_getElem?_getD, List.getElem?_eq_getElem (by omega)] <;> rfl
theorem colF_g {cs : List Int} : colF cs (-1) = 0 := rfl
theorem c_is_met (T : Fx K mg) : Cal P w K mg base 1 "is_demand_met" (spMet K) [] := by
  refine mkCal T 6 rfl (by decide +kernel) scIsMet (fun vs H Q E h => ?_) (fun _ _ _ _ _ _ us hl => match us, hl with | [_, _], _ => rfl) fun cdv A outer s H vs Q E hr h => ?_
  · obtain ⟨v, e, a, cs, rfl, _⟩ := h
    rfl
  · obtain ⟨v, ⟨u, l, d⟩, a, cs, rfl, ⟨b, rfl, hb⟩, ha, ⟨bu, bl⟩, q⟩ := h
    refine ⟨_, pss_cons (ps_asg (pv 0) (pg_tup rfl (pgs_cons (pg_name (i := 2) scIsMet.nd rfl (.inl rfl)) (pgs_cons (pg_name (i := 3) scIsMet.nd rfl (.inl rfl)) (pgs_cons (pg_name (i := 4) scIsMet.nd rfl (.inl rfl)) pgs_nil)))))
      (pss_cons (ps_set (i := 5) scIsMet.nd rfl (.inl rfl) (pe_ifExp (pt_cmpR op_eq (pv 2) (pgI (by rfl) T.iG) (nomark _)) pe_int (pe_ix ix_tup (pv 1) (pv 2) (fun _ _ => rfl))))
      (pss_cons (ps_set (i := 6) scIsMet.nd rfl (.inl rfl) (pe_ifExp (pt_cmpR op_eq (pv 3) (pgI (by rfl) T.iG) (nomark _)) pe_int (pe_ix ix_tup (pv 1) (pv 3) (fun _ _ => rfl))))
      (pss_one (ps_ret (pe_cmpR op_ge (pv 5) (pe_op op_add (pv 6) (pv 4)) (nomark _)))))), ?_⟩
    refine ⟨_, rfl, b, _, rfl, SqT.of hb, rfl, _, _, rfl, _, _, rfl, _, _, rfl, ?_⟩
    refine ⟨rfl, _, rfl, rfl, _, rfl, ?_⟩
    have ei : ∀ x y : Int, decide (V.int x = V.int y) = decide (x = y) := fun x y => by
      congr 1
      exact propext ⟨fun h => by cases h; rfl, fun h => by rw [h]⟩
    rw [ei]
    by_cases cu : u = -1
    · rw [decide_eq_true cu]
      refine iteT ⟨_, rfl, rfl, _, rfl, ?_⟩
      rw [ei]
      by_cases cl : l = -1
      · rw [decide_eq_true cl]
        refine iteT ⟨_, rfl, _, rfl, _, rfl, _, _, rfl, rfl, _, _, rfl, rfl, ?_⟩
        rw [cu, cl] at q
        exact q
      · rw [decide_eq_false cl]
        refine iteF ⟨_, rfl, _, rfl, a, _, _, _, rfl, rfl, SqT.of ha, col_get bl cl, _, rfl, _, rfl, _, rfl, _, _, rfl, rfl, _, _, rfl, rfl, ?_⟩
        rw [cu] at q
        exact q
    · rw [decide_eq_false cu]
      refine iteF ⟨_, rfl, _, rfl, a, _, _, _, rfl, rfl, SqT.of ha, col_get bu cu, _, rfl, rfl, _, rfl, ?_⟩
      rw [ei]
      by_cases cl : l = -1
      · rw [decide_eq_true cl]
        refine iteT ⟨_, rfl, _, rfl, _, rfl, _, _, rfl, rfl, _, _, rfl, rfl, ?_⟩
        rw [cl] at q
        exact q
      · rw [decide_eq_false cl]
        exact iteF ⟨_, rfl, _, rfl, a, _, _, _, rfl, rfl, SqT.of ha, col_get bl cl, _, rfl, _, rfl, _, rfl, _, _, rfl, rfl, _, _, rfl, rfl, q⟩
theorem scBounds : FnScope ["many", "found", "line"] ["many"] (defScope sBounds) := ⟨rfl, rfl, rfl, by decide +kernel, rfl, by decide +kernel, by decide +kernel⟩
theorem c_bounds (T : Fx K mg) : Cal P w K mg base 1 "bounds_of" spBounds [] := by
  refine mkCal T 7 rfl (by decide +kernel) scBounds (fun vs H Q E h => ?_) (fun _ _ _ _ _ _ us hl => match us, hl with | [_], _ => rfl) fun cdv A outer s H vs Q E hr h => ?_
  · obtain ⟨n, rfl, _⟩ := h
    rfl
  · obtain ⟨n, rfl, hn, q⟩ := h
    refine ⟨_, pss_cons (ps_setLc (i := 1) (own := [("line", 2)]) (g := gName 2) (tt := tYes) rfl scBounds.nd rfl rfl (sw_true rfl rfl rfl (by decide +kernel)) (pi_range1 (by rfl) (T.bl "range" (by decide +kernel)) (pa_cons (pv 0) pa_nil))
        (blkOk_by (own := [("line", 2)]) (N := ["many", "found", "line"]) (sc := defScope sBounds) (by decide +kernel)) (fun _ _ _ _ _ => pg_name (i := 2) scBounds.nd rfl (Or.inl rfl)) (fun _ _ _ _ _ => pts_nil)
        (fun _ _ _ _ _ => pe_tup (pa_cons (pv 2) (pa_cons (pgI (by rfl) T.iG) (pa_cons pe_int pa_nil)))))
      (pss_one (ps_ret (pe_op op_cat (pv 1) (pe_lc (own := [("line", 2)]) (g := gName 2) (tt := tYes) rfl scBounds.nd (pi_range1 (by rfl) (T.bl "range" (by decide +kernel)) (pa_cons (pv 0) pa_nil))
        (blkOk_by (own := [("line", 2)]) (N := ["many", "found", "line"]) (sc := defScope sBounds) (by decide +kernel)) (fun _ _ _ _ _ => pg_name (i := 2) scBounds.nd rfl (Or.inl rfl)) (fun _ _ _ _ _ => pts_nil)
        (fun _ _ _ _ _ => pe_tup (pa_cons (pgI (by rfl) T.iG) (pa_cons (pv 2) (pa_cons (pe_un un_neg (pgI (by rfl) T.iC)) pa_nil)))))))), ?_⟩
    refine ⟨_, rfl, (n : Int), rfl, by omega, by omega, fun D nD => ?_⟩
    refine lcR (Same H) (fun i y H' => IsD3 H' y ((i : Int), -1, 0)) (sm_new nD) (fun H' l s => same_upd s nD) (fun _ _ _ _ _ hl h => h.upd hl) (n := (n : Int).toNat) (by omega) (fun i H' l Fin No hi s hD fin => ?_) (fun H' ys sA hD hy hall => ?_)
    · refine ⟨rfl, _, rfl, by show 3 ≤ sizeLine; decide, fun t nt => ?_⟩
      have s2 : Same H' (upd H' t (.tup [.int (0 + (i : Int)), .int (-1), .int 0])) := sm_new nt
      refine fin _ _ (s.trans s2) (s2 _ _ hD) (fun j z hz => hz.same s2) ⟨t, rfl, ?_⟩
      rw [upd_same, Int.zero_add]
    · refine ⟨_, rfl, _, rfl, (n : Int), rfl, by omega, by omega, fun D2 nD2 => ?_⟩
      refine lcR (fun H2 => Same H H2 ∧ Same H' H2) (fun i y H' => IsD3 H' y (-1, (i : Int), -199)) ⟨same_upd sA (sA.free nD2), sm_new nD2⟩ (fun H' l s => ⟨same_upd s.1 (sA.free nD2), same_upd s.2 nD2⟩) (fun _ _ _ _ _ hl h => h.upd hl) (n := (n : Int).toNat) (by omega) (fun i H2 l Fin No hi s hD fin => ?_) (fun H2 zs s2 hD2 hz hall2 => ?_)
      · refine ⟨rfl, _, rfl, _, rfl, by show 3 ≤ sizeLine; decide, fun t nt => ?_⟩
        have s2 : Same H2 (upd H2 t (.tup [.int (-1), .int (0 + (i : Int)), .int (-199)])) := sm_new nt
        refine fin _ _ ⟨s.1.trans s2, s.2.trans s2⟩ (s2 _ _ hD) (fun j z hz => hz.same s2) ⟨t, rfl, ?_⟩
        rw [upd_same, Int.zero_add]
      · refine ⟨D, D2, ys, zs, rfl, rfl, s2.2 _ _ hD, hD2, Nat.le_of_lt (small1000 (by rw [hy, hz]; omega)), fun p np => ?_⟩
        have s3 := sm_then (o := .lst (ys ++ zs)) s2.1 np
        have s4 := sm_then (o := .lst (ys ++ zs)) s2.2 np
        obtain ⟨k1, e1, t1, m1⟩ := refs_of (H := upd H2 p (.lst (ys ++ zs))) (ys := ys) (ds := (List.range n).map fun i : Nat => ((i : Int), (-1 : Int), (0 : Int))) (by rw [hy, List.length_map, List.length_range]; omega) (fun j y e hj he => by
          rw [List.getElem?_map] at he
          obtain ⟨i, hi, rfl⟩ := Option.map_eq_some_iff.mp he
          have : j = i := by
            have := List.getElem?_eq_some_iff.mp hi
            obtain ⟨h1, h2⟩ := this
            rw [List.getElem_range] at h2
            exact h2
          subst this
          exact (hall _ _ hj).same s4)
        obtain ⟨k2, e2, t2, m2⟩ := refs_of (H := upd H2 p (.lst (ys ++ zs))) (ys := zs) (ds := (List.range n).map fun i : Nat => ((-1 : Int), (i : Int), (-199 : Int))) (by rw [hz, List.length_map, List.length_range]; omega) (fun j y e hj he => by
          rw [List.getElem?_map] at he
          obtain ⟨i, hi, rfl⟩ := Option.map_eq_some_iff.mp he
          have : j = i := by
            have := List.getElem?_eq_some_iff.mp hi
            obtain ⟨h1, h2⟩ := this
            rw [List.getElem_range] at h2
            exact h2
          subst this
          exact (hall2 _ _ hj).same (sm_new np))
        refine q _ p s3 (s2.1.free np) ⟨k1 ++ k2, ?_, ?_, ?_⟩
        · rw [upd_same, e1, e2]
          unfold refs
          rw [List.map_append]
        · intro r hr
          rcases List.mem_append.mp hr with hr | hr
          · exact t1 r hr
          · exact t2 r hr
        · rw [List.map_append, m1, m2]
          rfl
theorem scPoints : FnScope ["many"] ["many"] (defScope sPoints) := ⟨rfl, rfl, rfl, by decide +kernel, rfl, by decide +kernel, by decide +kernel⟩
theorem c_points (T : Fx K mg) : Cal P w K mg base 1 "points_of" spPoints [] := by
  refine mkCal T 8 rfl (by decide +kernel) scPoints (fun vs H Q E h => ?_) (fun _ _ _ _ _ _ us hl => match us, hl with | [_], _ => rfl) fun cdv A outer s H vs Q E hr h => ?_
  · obtain ⟨n, rfl, _⟩ := h
    rfl
  · obtain ⟨n, rfl, hn, q⟩ := h
    refine ⟨_, pss_one (ps_ret (pe_lst (pa_cons (pgI (by rfl) T.iG) (pa_starRg rfl (prg_1 (by rfl) (T.bl "range" (by decide +kernel)) (pv 0)) pa_nil)))), ?_⟩
    have hg : rgV 0 (n : Int) = (List.range n).map fun (i : Nat) => V.int (i : Int) := by
      unfold rgV
      rw [Int.sub_zero, Int.toNat_natCast]
      exact List.map_congr_left fun i _ => by rw [Int.zero_add]
    refine ⟨_, rfl, (n : Int), rfl, ⟨by decide, by decide, by omega, by omega, by omega⟩, ?_, fun p np => ?_⟩
    · rw [hg, List.append_nil, List.length_cons, List.length_map, List.length_range]
      exact small1000 (by omega)
    · rw [hg, List.append_nil]
      exact q _ p (sm_new np) np upd_same
theorem scBackward : FnScope ["demands", "upper", "lower", "least"] ["demands"] (defScope sBackward) := ⟨rfl, rfl, rfl, by decide +kernel, rfl, by decide +kernel, by decide +kernel⟩
theorem c_backward (T : Fx K mg) : Cal P w K mg base 1 "backward" (spBackward K) [] := by
  refine mkCal T 12 rfl (by decide +kernel) scBackward (fun vs H Q E h => ?_) (fun _ _ _ _ _ _ us hl => match us, hl with | [_], _ => rfl) fun cdv A outer s H vs Q E hr h => ?_
  · obtain ⟨a, ds, rfl, _⟩ := h
    rfl
  · obtain ⟨a, ds, rfl, ⟨ks, ha, ht, rfl⟩, hl, q⟩ := h
    refine ⟨_, pss_one (ps_ret (pe_lc (own := [("upper", 1), ("lower", 2), ("least", 3)]) (g := gTup K 3 (gCons (gName 1) (gCons (gName 2) (gCons (gName 3) gNil)))) (tt := tYes) rfl scBackward.nd (pi_tup (pv 0))
        (blkOk_by (own := [("upper", 1), ("lower", 2), ("least", 3)]) (N := ["demands", "upper", "lower", "least"]) (sc := defScope sBackward) (by decide +kernel))
        (fun _ _ _ _ _ => pg_tup rfl (pgs_cons (pg_name (i := 1) scBackward.nd rfl (.inl rfl)) (pgs_cons (pg_name (i := 2) scBackward.nd rfl (.inl rfl)) (pgs_cons (pg_name (i := 3) scBackward.nd rfl (.inl rfl)) pgs_nil)))) (fun _ _ _ _ _ => pts_nil)
        (fun _ _ _ _ _ => pe_tup (pa_cons (pv 2) (pa_cons (pv 1) (pa_cons (pv 3) pa_nil)))))), ?_⟩
    refine ⟨_, rfl, a, rfl, ⟨_, SqT.of ha⟩, fun D nD => ?_⟩
    refine lcT (Same H) (fun i y H' => ∀ e, (ks.map (·.2))[i]? = some e → IsD3 H' y (back e)) (sm_new nD) (fun H' l s => same_upd s nD) (fun _ _ _ _ _ hl h => fun e he => (h e he).upd hl) (a := a) (xs := refs ks) (by rw [refs_len]; rw [List.length_map] at hl; exact hl) (fun H' s => SqT.of (s _ _ ha)) (fun i x H' l Fin No hi s hD fin => ?_) (fun H' ys s hD hy hall => ?_)
    · obtain ⟨p, hp, rfl⟩ := refs_get hi
      refine ⟨p.1, _, rfl, SqT.of (s _ _ (ht p (List.mem_of_getElem? hp))), rfl, _, _, rfl, _, _, rfl, _, _, rfl, rfl, ?_⟩
      refine ⟨rfl, _, rfl, _, rfl, _, rfl, by show 3 ≤ sizeLine; decide, fun t nt => ?_⟩
      refine fin _ _ (sm_then s nt) (sm_new nt _ _ hD) (fun j z hz e he => (hz e he).same (sm_new nt)) fun e he => ?_
      rw [List.getElem?_map, hp] at he
      cases he
      exact ⟨t, rfl, upd_same⟩
    · obtain ⟨k1, e1, t1, m1⟩ := refs_of (H := H') (ys := ys) (ds := (ks.map (·.2)).map back) (by rw [hy, refs_len, List.length_map, List.length_map]) (fun j y e hj he => by
        rw [List.getElem?_map] at he
        obtain ⟨d, hd, rfl⟩ := Option.map_eq_some_iff.mp he
        exact hall _ _ hj _ hd)
      refine q _ D s nD ⟨k1, ?_, t1, m1⟩
      rw [hD, e1]
end
end K43

/-! The ways: one round. -/
namespace K43
open PySem PySem.Spec PyProof.Rows L2
open C8 (Cal Met Mak pe_c pe_mk pe_mt pe_mt0 pe_gc InsC call_isC)

theorem putK_len {κ : Type} [DecidableEq κ] (kvs : List (κ × V)) (k : κ) (v : V) : (putK kvs k v).length ≤ kvs.length + 1 := by
  unfold putK
  split
  · rw [List.length_map]; omega
  · rw [List.length_append] <;> exact Nat.le_refl _
/-- the dict of lengths, the dict of demands -/
def LD (s : WS) (kl : List (Key × V)) : Prop := ∀ p : Int, valV kl (.inl p) = (s.L p).map V.int
def PD (H : Hp) (s : WS) (kd : List (Key × V)) : Prop := ∀ p e, s.P p = some e → ∃ v, valV kd (.inl p) = some v ∧ IsD3 H v e
theorem LD.put {s : WS} {kl : List (Key × V)} (h : LD s kl) (e : Dem) (z : Int) : LD (s.put e z) (putK kl (.inl e.1) (.int z)) := fun p => by
  rw [valV_put]
  unfold WS.put
  dsimp only
  by_cases c : p = e.1
  · rw [if_pos c, if_pos (by rw [c])] <;> rfl
  · rw [if_neg c, if_neg (fun q => c (by cases q; rfl))]
    exact h p
theorem PD.put {H : Hp} {s : WS} {kd : List (Key × V)} (h : PD H s kd) {e : Dem} (z : Int) {v : V} (hv : IsD3 H v e) : PD H (s.put e z) (putK kd (.inl e.1) v) := fun p d hd => by
  rw [valV_put]
  unfold WS.put at hd
  dsimp only at hd
  by_cases c : p = e.1
  · rw [if_pos c] at hd
    cases hd
    rw [if_pos (by rw [c])]
    exact ⟨v, rfl, hv⟩
  · rw [if_neg c] at hd
    rw [if_neg (fun q => c (by cases q; rfl))]
    exact h p d hd
theorem PD.mono {H H' : Hp} {s : WS} {kd : List (Key × V)} (h : PD H s kd) (k : ∀ v e, IsD3 H v e → IsD3 H' v e) : PD H' s kd := fun p e hp => by
  obtain ⟨v, h1, h2⟩ := h p e hp
  exact ⟨v, h1, k v e h2⟩
/-- all but two dicts stand -/
def Two (d1 d2 : Addr) (H H' : Hp) : Prop := ∀ b o, b ≠ d1 → b ≠ d2 → H b = some o → H' b = some o
theorem IsD3.ne {H : Hp} {v : V} {e : Dem} (h : IsD3 H v e) {d : Addr} {k : List (Key × V)} (hd : H d = some (.dK k)) : ∀ a, v = V.ref a → a ≠ d := fun a ha => by
  obtain ⟨b, rfl, hb⟩ := h
  cases ha
  exact ne_of hb hd (by intro q; cases q)
theorem IsD3.two {H H' : Hp} {v : V} {e : Dem} {d1 d2 : Addr} {k1 k2 : List (Key × V)} (h : IsD3 H v e) (h1 : H d1 = some (.dK k1)) (h2 : H d2 = some (.dK k2)) (t : Two d1 d2 H H') : IsD3 H' v e := by
  obtain ⟨b, rfl, hb⟩ := id h
  exact ⟨b, rfl, t _ _ (h.ne h1 b rfl) (h.ne h2 b rfl) hb⟩
theorem sz {n : Nat} (h : n ≤ 200000) : n < sizeLine := Nat.lt_of_le_of_lt h (by decide)
def lateV : Option Int → V
  | none => .non
  | some v => .int v
/-- the seven words of a round's promise -/
structure Rd1 (K : PySem.W.Frag) (H : Hp) (r d1 d2 : Addr) (kl kd : List (Key × V)) (s : WS) (b : Nat) : Prop where
  ins : ∃ dx fs, H r = some (.ins (CW K) dx fs) ∧ fs.lookup ("way_lengths" : Str) = some (V.ref d1) ∧ fs.lookup ("way_demands" : Str) = some (V.ref d2) ∧ (∀ m ∈ (["go_on", "ring_behind"] : List Str), fs.lookup m = none)
  hl : H d1 = some (.dK kl)
  hd : H d2 = some (.dK kd)
  ne : d1 ≠ d2
  ld : LD s kl
  pd : PD H s kd
  bl : kl.length ≤ b
  bd : kd.length ≤ b
def spGoOn (K : PySem.W.Frag) : Sp := fun vs H Q _ => ∃ (r a d1 d2 : Addr) (kl kd : List (Key × V)) (s : WS) (b : Nat) (ds : List Dem),
  vs = [.ref r, .ref a] ∧ Rd1 K H r d1 d2 kl kd s b ∧ b ≤ 100000 ∧ (DTup H a ds ∨ DLst H a ds) ∧ ds.length ≤ 1000 ∧
  ∀ H' kl' kd' s' lt, goOn ds s = (s', lt) → Rd1 K H' r d1 d2 kl' kd' s' (b + 1000) → Two d1 d2 H H' → Q (lateV lt) H'
/-- what one turn asks for: the demands' objects stand -/
structure GoI (K : PySem.W.Frag) (H0 H : Hp) (r a d1 d2 : Addr) (ks : List (Addr × Dem)) (s0 : WS) (b i : Nat) (σ : L2.St) : Prop where
  ex : ∃ kl kd s lt o3 o4 o5 o6 o7, σ = [some (.ref r), some (.ref a), some (lateV lt), o3, o4, o5, o6, o7] ∧ ((ks.take i).map (·.2)).foldl stepW (s0, none) = (s, lt) ∧ Rd1 K H r d1 d2 kl kd s (b + i)
  two : Two d1 d2 H0 H
theorem take_map {ks : List (Addr × Dem)} {i : Nat} {p : Addr × Dem} (h : ks[i]? = some p) : (ks.take (i + 1)).map (·.2) = (ks.take i).map (·.2) ++ [p.2] := by
  rw [List.take_add_one, h, List.map_append] <;> rfl
theorem step_at {ks : List (Addr × Dem)} {i : Nat} {p : Addr × Dem} (h : ks[i]? = some p) {q q' : WS × Option Int} {q0 : WS × Option Int} (hq : ((ks.take i).map (·.2)).foldl stepW q0 = q) (hs : stepW q p.2 = q') : ((ks.take (i + 1)).map (·.2)).foldl stepW q0 = q' := by
  rw [take_map h, List.foldl_append, hq]
  exact hs

theorem scGoOn : FnScope ["self", "demands", "late", "demand", "upper", "lower", "least", "length"] ["self", "demands"] (defScope sGoOn) := ⟨rfl, rfl, rfl, by decide +kernel, rfl, by decide +kernel, by decide +kernel⟩
section
variable {P : Program} {w : World} {K : PySem.W.Frag} {mg : Str → Option Value} {base : Heap}
theorem m_go_on (T : Fx K mg) : Met P w K mg base 1 (CW K) "go_on" (spGoOn K) [] := by
  refine mkMet T 10 rfl T.cw (T.ew _ (by decide +kernel)) scGoOn (fun vs H Q E h => ?_) (fun _ _ _ _ _ _ us hl => match us, hl with | [_, _], _ => rfl) fun cdv A outer s H vs Q E hr h => ?_
  · obtain ⟨r, a, d1, d2, kl, kd, s, b, ds, rfl, _⟩ := h
    rfl
  · obtain ⟨r, a, d1, d2, kl, kd, s0, b, ds, rfl, R, hb, ha, hl, q⟩ := h
    have hu := hu_of hr
    have nL := T.nw "way_lengths" (by decide +kernel)
    have nD := T.nw "way_demands" (by decide +kernel)
    rcases ha with ha | ha
    · obtain ⟨ks, ha, ht, rfl⟩ := ha
      refine ⟨_, pss_cons (ps_set (i := 2) scGoOn.nd rfl (.inl rfl) pe_non) (pss_cons (ps_for PassesOwn.never rfl (pi_tup (pv 1)) (pg_name (i := 3) scGoOn.nd rfl (.inl rfl))
        (pss_cons (ps_asg (pv 3) (pg_tup rfl (pgs_cons (pg_name (i := 4) scGoOn.nd rfl (.inl rfl)) (pgs_cons (pg_name (i := 5) scGoOn.nd rfl (.inl rfl)) (pgs_cons (pg_name (i := 6) scGoOn.nd rfl (.inl rfl)) pgs_nil)))))
        (pss_cons (ps_set (i := 7) scGoOn.nd rfl (.inl rfl) (pe_ifExp (pt_cmp (pc_dnotin hu (pv 5) (pe_fld (pv 0) rfl))) pe_non (pe_op op_add (pe_dget hu (pe_fld (pv 0) rfl) (pv 5) (fun _ _ => rfl)) (pv 6))))
        (pss_one (ps_if (PW.pt (pw_and (pt_cmpR op_notN (pv 7) pe_non (nomark _)) (pw_and1 (PW.pt (pw_or (pt_cmp (pc_dnotin hu (pv 4) (pe_fld (pv 0) rfl))) (pw_or1 (pt_cmpR op_lt (pe_dget hu (pe_fld (pv 0) rfl) (pv 4) (fun _ _ => rfl)) (pv 7) (nomark _))))))))
          (pss_cons (ps_dput hu (pe_fld (pv 0) rfl) (pv 4) (pv 7) rfl) (pss_cons (ps_dput hu (pe_fld (pv 0) rfl) (pv 4) (pv 3) rfl) (pss_one (ps_set (i := 2) scGoOn.nd rfl (.inl rfl) (pv 4))))) pss_nil)))))
        (pss_one (ps_ret (pv 2)))), ?_⟩
      refine ⟨_, rfl, a, rfl, ⟨_, SqT.of ha⟩, ?_⟩
      have hks : ∀ H', Two d1 d2 H H' → H' a = some (.tup (refs ks)) := fun H' t => t _ _ (ne_of ha R.hl (by intro q; cases q)) (ne_of ha R.hd (by intro q; cases q)) ha
      have htk : ∀ H', Two d1 d2 H H' → ∀ p ∈ ks, IsD3 H' (V.ref p.1) p.2 := fun H' t p hp => IsD3.two ⟨p.1, rfl, ht p hp⟩ R.hl R.hd t
      refine for_tup (K := K) (a := a) (xs := refs ks) (fun i σ H' => GoI K H H' r a d1 d2 ks s0 b i σ) ⟨⟨kl, kd, s0, none, none, none, none, none, none, rfl, rfl, R⟩, fun b o _ _ h => h⟩ (fun i σ H' _ I => SqT.of (hks _ I.two)) (fun i x σ H' hx I => ?_) (fun σ H' I => ?_)
      · obtain ⟨p, hp, rfl⟩ := refs_get hx
        obtain ⟨kl1, kd1, s1, lt, o3, o4, o5, o6, o7, rfl, hf, R1⟩ := I.ex
        obtain ⟨⟨dx, fs, hr1, f1, f2, f3⟩, hl1, hd1, ne, ld, pd, bl, bd⟩ := id R1
        have hi : i < 1000 := Nat.lt_of_lt_of_le (List.getElem?_eq_some_iff.mp hp).1 (by rw [List.length_map] at hl; exact hl)
        have hv : IsD3 H' (V.ref p.1) p.2 := htk _ I.two p (List.mem_of_getElem? hp)
        obtain ⟨pa, u, l, d⟩ := p
        obtain ⟨_, hpa, hpt⟩ := id hv
        cases hpa
        refine ⟨_, rfl, pa, _, rfl, SqT.of hpt, rfl, _, _, rfl, _, _, rfl, _, _, rfl, rfl, ?_⟩
        have gl : ∀ y : Int, DGet H' d1 (.int y) ((s1.L y).map V.int) := fun y => by
          have := DGet.k (k := Sum.inl y) hl1
          rw [ld y] at this
          exact this
        refine ⟨_, rfl, _, rfl, r, _, dx, _, _, rfl, hr1, T.cw, nL, f1, d1, _, rfl, gl l, _, rfl, ?_⟩
        cases hL : s1.L l with
        | none =>
          have hst : stepW (s1, lt) (u, l, d) = (s1, lt) := by unfold stepW asks; simp only [hL]
          refine iteT ⟨_, rfl, rfl, _, rfl, iteF ?_⟩
          exact ⟨⟨kl1, kd1, s1, lt, _, _, _, _, _, rfl, step_at hp hf hst, ⟨dx, fs, hr1, f1, f2, f3⟩, hl1, hd1, ne, ld, pd, by omega, by omega⟩, I.two⟩
        | some x =>
          have gx := gl l
          rw [hL] at gx
          refine iteF ⟨_, rfl, r, _, dx, _, _, rfl, hr1, T.cw, nL, f1, _, rfl, d1, _, rfl, gx, _, rfl, _, _, rfl, rfl, ?_⟩
          refine ⟨_, rfl, rfl, _, rfl, iteT ?_⟩
          refine ⟨_, rfl, _, rfl, r, _, dx, _, _, rfl, hr1, T.cw, nL, f1, d1, _, rfl, gl u, _, rfl, ?_⟩
          have nrd1 : r ≠ d1 := ne_of hr1 hl1 (by intro q; cases q)
          have nrd2 : r ≠ d2 := ne_of hr1 hd1 (by intro q; cases q)
          have put : ∀ z, asks s1 (u, l, d) = some z → ∃ kl2 kd2, putK kl1 (.inl u) (.int z) = kl2 ∧ putK kd1 (.inl u) (.ref pa) = kd2 ∧
              GoI K H (upd (upd H' d1 (.dK kl2)) d2 (.dK kd2)) r a d1 d2 ks s0 b (i + 1) [some (.ref r), some (.ref a), some (.int u), some (.ref pa), some (.int u), some (.int l), some (.int d), some (.int z)] := fun z hz => by
            refine ⟨_, _, rfl, rfl, ⟨_, _, s1.put (u, l, d) z, some u, _, _, _, _, _, rfl, step_at hp hf ?_, ⟨dx, fs, ?_, f1, f2, f3⟩, ?_, upd_same, ne, ld.put (u, l, d) z, ?_, ?_, ?_⟩, fun c o n1 n2 h => ?_⟩
            · unfold stepW
              simp only [hz]
            · rw [upd_ne nrd2, upd_ne nrd1]
              exact hr1
            · rw [upd_ne ne]
              exact upd_same
            · refine (pd.put (e := (u, l, d)) z ⟨pa, rfl, hpt⟩).mono fun v e hv => ?_
              obtain ⟨c, rfl, hc⟩ := id hv
              refine ⟨c, rfl, ?_⟩
              rw [upd_ne (hv.ne hd1 c rfl), upd_ne (hv.ne hl1 c rfl)]
              exact hc
            · exact Nat.le_trans (putK_len _ _ _) (by omega)
            · exact Nat.le_trans (putK_len _ _ _) (by omega)
            · rw [upd_ne n2, upd_ne n1]
              exact I.two c o n1 n2 h
          have go : ∀ (D : Ends), (∀ σ H', GoI K H H' r a d1 d2 ks s0 b (i + 1) σ → D.nx σ H') → ∀ z, asks s1 (u, l, d) = some z → tSeq (sDPut (tFld K (tVar 0) "way_lengths") (tVar 4) (tVar 7)) (tSeq (sDPut (tFld K (tVar 0) "way_demands") (tVar 4) (tVar 3)) (tAsg (tVar 4) (gName 2)))
              D [some (.ref r), some (.ref a), some (lateV lt), some (.ref pa), some (.int u), some (.int l), some (.int d), some (.int z)] H' := fun D hD z hz => by
            obtain ⟨kl2, kd2, rfl, rfl, I2⟩ := put z hz
            refine ⟨_, rfl, _, rfl, r, _, dx, _, _, rfl, hr1, T.cw, nL, f1, _, rfl, d1, _, rfl, DPut.k (k := Sum.inl u) hl1 (sz (by omega)), ?_⟩
            refine ⟨_, rfl, _, rfl, r, _, dx, _, _, rfl, (by rw [upd_ne nrd1]; exact hr1), T.cw, nD, f2, _, rfl, d2, _, rfl, DPut.k (k := Sum.inl u) (by rw [upd_ne ne.symm]; exact hd1) (sz (by omega)), ?_⟩
            exact ⟨_, rfl, hD _ _ I2⟩
          cases hU : s1.L u with
          | none => exact go _ (fun σ H' h => h) (x + d) (by unfold asks; simp only [hL, hU])
          | some y =>
            have gy := gl u
            rw [hU] at gy
            refine ⟨_, rfl, r, _, dx, _, _, rfl, hr1, T.cw, nL, f1, _, rfl, d1, _, rfl, gy, _, rfl, _, _, rfl, rfl, _, rfl, ?_⟩
            by_cases c : y < x + d
            · rw [decide_eq_true c]
              exact go _ (fun σ H' h => h) (x + d) (by unfold asks; simp only [hL, hU, if_pos c])
            · rw [decide_eq_false c]
              have hst : stepW (s1, lt) (u, l, d) = (s1, lt) := by unfold stepW asks; simp only [hL, hU, if_neg c]
              exact ⟨⟨kl1, kd1, s1, lt, _, _, _, _, _, rfl, step_at hp hf hst, ⟨dx, fs, hr1, f1, f2, f3⟩, hl1, hd1, ne, ld, pd, by omega, by omega⟩, I.two⟩
      · obtain ⟨kl1, kd1, s1, lt, o3, o4, o5, o6, o7, rfl, hf, R1⟩ := I.ex
        rw [refs_len, List.take_length] at hf
        refine ⟨_, rfl, q H' kl1 kd1 s1 lt hf ?_ I.two⟩
        rw [refs_len] at R1
        rw [List.length_map] at hl
        exact { R1 with bl := by have := R1.bl; omega, bd := by have := R1.bd; omega }
    · obtain ⟨ks, ha, ht, rfl⟩ := ha
      refine ⟨_, pss_cons (ps_set (i := 2) scGoOn.nd rfl (.inl rfl) pe_non) (pss_cons (ps_for PassesOwn.never rfl (pi_list (pv 1)) (pg_name (i := 3) scGoOn.nd rfl (.inl rfl))
        (pss_cons (ps_asg (pv 3) (pg_tup rfl (pgs_cons (pg_name (i := 4) scGoOn.nd rfl (.inl rfl)) (pgs_cons (pg_name (i := 5) scGoOn.nd rfl (.inl rfl)) (pgs_cons (pg_name (i := 6) scGoOn.nd rfl (.inl rfl)) pgs_nil)))))
        (pss_cons (ps_set (i := 7) scGoOn.nd rfl (.inl rfl) (pe_ifExp (pt_cmp (pc_dnotin hu (pv 5) (pe_fld (pv 0) rfl))) pe_non (pe_op op_add (pe_dget hu (pe_fld (pv 0) rfl) (pv 5) (fun _ _ => rfl)) (pv 6))))
        (pss_one (ps_if (PW.pt (pw_and (pt_cmpR op_notN (pv 7) pe_non (nomark _)) (pw_and1 (PW.pt (pw_or (pt_cmp (pc_dnotin hu (pv 4) (pe_fld (pv 0) rfl))) (pw_or1 (pt_cmpR op_lt (pe_dget hu (pe_fld (pv 0) rfl) (pv 4) (fun _ _ => rfl)) (pv 7) (nomark _))))))))
          (pss_cons (ps_dput hu (pe_fld (pv 0) rfl) (pv 4) (pv 7) rfl) (pss_cons (ps_dput hu (pe_fld (pv 0) rfl) (pv 4) (pv 3) rfl) (pss_one (ps_set (i := 2) scGoOn.nd rfl (.inl rfl) (pv 4))))) pss_nil)))))
        (pss_one (ps_ret (pv 2)))), ?_⟩
      refine ⟨_, rfl, a, rfl, ⟨_, SqL.of ha⟩, ?_⟩
      have hks : ∀ H', Two d1 d2 H H' → H' a = some (.lst (refs ks)) := fun H' t => t _ _ (ne_of ha R.hl (by intro q; cases q)) (ne_of ha R.hd (by intro q; cases q)) ha
      have htk : ∀ H', Two d1 d2 H H' → ∀ p ∈ ks, IsD3 H' (V.ref p.1) p.2 := fun H' t p hp => IsD3.two ⟨p.1, rfl, ht p hp⟩ R.hl R.hd t
      refine for_list (K := K) (a := a) (xs := refs ks) (fun i σ H' => GoI K H H' r a d1 d2 ks s0 b i σ) ⟨⟨kl, kd, s0, none, none, none, none, none, none, rfl, rfl, R⟩, fun b o _ _ h => h⟩ (fun i σ H' _ I => SqL.of (hks _ I.two)) (fun i x σ H' hx I => ?_) (fun σ H' I => ?_)
      · obtain ⟨p, hp, rfl⟩ := refs_get hx
        obtain ⟨kl1, kd1, s1, lt, o3, o4, o5, o6, o7, rfl, hf, R1⟩ := I.ex
        obtain ⟨⟨dx, fs, hr1, f1, f2, f3⟩, hl1, hd1, ne, ld, pd, bl, bd⟩ := id R1
        have hi : i < 1000 := Nat.lt_of_lt_of_le (List.getElem?_eq_some_iff.mp hp).1 (by rw [List.length_map] at hl; exact hl)
        have hv : IsD3 H' (V.ref p.1) p.2 := htk _ I.two p (List.mem_of_getElem? hp)
        obtain ⟨pa, u, l, d⟩ := p
        obtain ⟨_, hpa, hpt⟩ := id hv
        cases hpa
        refine ⟨_, rfl, pa, _, rfl, SqT.of hpt, rfl, _, _, rfl, _, _, rfl, _, _, rfl, rfl, ?_⟩
        have gl : ∀ y : Int, DGet H' d1 (.int y) ((s1.L y).map V.int) := fun y => by
          have := DGet.k (k := Sum.inl y) hl1
          rw [ld y] at this
          exact this
        refine ⟨_, rfl, _, rfl, r, _, dx, _, _, rfl, hr1, T.cw, nL, f1, d1, _, rfl, gl l, _, rfl, ?_⟩
        cases hL : s1.L l with
        | none =>
          have hst : stepW (s1, lt) (u, l, d) = (s1, lt) := by unfold stepW asks; simp only [hL]
          refine iteT ⟨_, rfl, rfl, _, rfl, iteF ?_⟩
          exact ⟨⟨kl1, kd1, s1, lt, _, _, _, _, _, rfl, step_at hp hf hst, ⟨dx, fs, hr1, f1, f2, f3⟩, hl1, hd1, ne, ld, pd, by omega, by omega⟩, I.two⟩
        | some x =>
          have gx := gl l
          rw [hL] at gx
          refine iteF ⟨_, rfl, r, _, dx, _, _, rfl, hr1, T.cw, nL, f1, _, rfl, d1, _, rfl, gx, _, rfl, _, _, rfl, rfl, ?_⟩
          refine ⟨_, rfl, rfl, _, rfl, iteT ?_⟩
          refine ⟨_, rfl, _, rfl, r, _, dx, _, _, rfl, hr1, T.cw, nL, f1, d1, _, rfl, gl u, _, rfl, ?_⟩
          have nrd1 : r ≠ d1 := ne_of hr1 hl1 (by intro q; cases q)
          have nrd2 : r ≠ d2 := ne_of hr1 hd1 (by intro q; cases q)
          have put : ∀ z, asks s1 (u, l, d) = some z → ∃ kl2 kd2, putK kl1 (.inl u) (.int z) = kl2 ∧ putK kd1 (.inl u) (.ref pa) = kd2 ∧
              GoI K H (upd (upd H' d1 (.dK kl2)) d2 (.dK kd2)) r a d1 d2 ks s0 b (i + 1) [some (.ref r), some (.ref a), some (.int u), some (.ref pa), some (.int u), some (.int l), some (.int d), some (.int z)] := fun z hz => by
            refine ⟨_, _, rfl, rfl, ⟨_, _, s1.put (u, l, d) z, some u, _, _, _, _, _, rfl, step_at hp hf ?_, ⟨dx, fs, ?_, f1, f2, f3⟩, ?_, upd_same, ne, ld.put (u, l, d) z, ?_, ?_, ?_⟩, fun c o n1 n2 h => ?_⟩
            · unfold stepW
              simp only [hz]
            · rw [upd_ne nrd2, upd_ne nrd1]
              exact hr1
            · rw [upd_ne ne]
              exact upd_same
            · refine (pd.put (e := (u, l, d)) z ⟨pa, rfl, hpt⟩).mono fun v e hv => ?_
              obtain ⟨c, rfl, hc⟩ := id hv
              refine ⟨c, rfl, ?_⟩
              rw [upd_ne (hv.ne hd1 c rfl), upd_ne (hv.ne hl1 c rfl)]
              exact hc
            · exact Nat.le_trans (putK_len _ _ _) (by omega)
            · exact Nat.le_trans (putK_len _ _ _) (by omega)
            · rw [upd_ne n2, upd_ne n1]
              exact I.two c o n1 n2 h
          have go : ∀ (D : Ends), (∀ σ H', GoI K H H' r a d1 d2 ks s0 b (i + 1) σ → D.nx σ H') → ∀ z, asks s1 (u, l, d) = some z → tSeq (sDPut (tFld K (tVar 0) "way_lengths") (tVar 4) (tVar 7)) (tSeq (sDPut (tFld K (tVar 0) "way_demands") (tVar 4) (tVar 3)) (tAsg (tVar 4) (gName 2)))
              D [some (.ref r), some (.ref a), some (lateV lt), some (.ref pa), some (.int u), some (.int l), some (.int d), some (.int z)] H' := fun D hD z hz => by
            obtain ⟨kl2, kd2, rfl, rfl, I2⟩ := put z hz
            refine ⟨_, rfl, _, rfl, r, _, dx, _, _, rfl, hr1, T.cw, nL, f1, _, rfl, d1, _, rfl, DPut.k (k := Sum.inl u) hl1 (sz (by omega)), ?_⟩
            refine ⟨_, rfl, _, rfl, r, _, dx, _, _, rfl, (by rw [upd_ne nrd1]; exact hr1), T.cw, nD, f2, _, rfl, d2, _, rfl, DPut.k (k := Sum.inl u) (by rw [upd_ne ne.symm]; exact hd1) (sz (by omega)), ?_⟩
            exact ⟨_, rfl, hD _ _ I2⟩
          cases hU : s1.L u with
          | none => exact go _ (fun σ H' h => h) (x + d) (by unfold asks; simp only [hL, hU])
          | some y =>
            have gy := gl u
            rw [hU] at gy
            refine ⟨_, rfl, r, _, dx, _, _, rfl, hr1, T.cw, nL, f1, _, rfl, d1, _, rfl, gy, _, rfl, _, _, rfl, rfl, _, rfl, ?_⟩
            by_cases c : y < x + d
            · rw [decide_eq_true c]
              exact go _ (fun σ H' h => h) (x + d) (by unfold asks; simp only [hL, hU, if_pos c])
            · rw [decide_eq_false c]
              have hst : stepW (s1, lt) (u, l, d) = (s1, lt) := by unfold stepW asks; simp only [hL, hU, if_neg c]
              exact ⟨⟨kl1, kd1, s1, lt, _, _, _, _, _, rfl, step_at hp hf hst, ⟨dx, fs, hr1, f1, f2, f3⟩, hl1, hd1, ne, ld, pd, by omega, by omega⟩, I.two⟩
      · obtain ⟨kl1, kd1, s1, lt, o3, o4, o5, o6, o7, rfl, hf, R1⟩ := I.ex
        rw [refs_len, List.take_length] at hf
        refine ⟨_, rfl, q H' kl1 kd1 s1 lt hf ?_ I.two⟩
        rw [refs_len] at R1
        rw [List.length_map] at hl
        exact { R1 with bl := by have := R1.bl; omega, bd := by have := R1.bd; omega }
end
end K43

/-! The ways: the ring, the making. -/
namespace K43
open PySem PySem.Spec PyProof.Rows L2
open C8 (Cal Met Mak pe_c pe_mk pe_mt pe_mt0 pe_gc InsC call_isC)

theorem room64 {k : Nat} {A : Around} (hr : Room k A) : A.units + 64 < cLine := hr.units
def spRing (K : PySem.W.Frag) : Sp := fun vs H Q _ => ∃ (r d2 dx : Addr) (fs : List (Str × V)) (kd : List (Key × V)) (s : WS) (v : Int) (n c : Nat),
  vs = [.ref r, .int v, .int n] ∧ H r = some (.ins (CW K) dx fs) ∧ fs.lookup ("way_demands" : Str) = some (V.ref d2) ∧ H d2 = some (.dK kd) ∧ PD H s kd ∧ n ≤ 60 ∧
  (∀ j, j ≤ n + 1 → ∃ e, s.P (s.back j v) = some e) ∧ 1 ≤ c ∧ c ≤ n + 1 ∧ s.back c (s.back (n + 1) v) = s.back (n + 1) v ∧ (∀ m, ∃ e, s.P (s.back m (s.back (n + 1) v)) = some e) ∧
  ∀ H' p, Same H H' → Q (.ref p) H'
theorem back_nx {s : WS} {k : Nat} {p : Int} {e : Dem} (h : s.P (s.back k p) = some e) : s.back (k + 1) p = e.2.1 := by
  show s.nx (s.back k p) = _
  unfold WS.nx
  rw [h]
theorem scRing : FnScope ["self", "point", "many", "turn", "found", "at"] ["self", "point", "many"] (defScope sRing) := ⟨rfl, rfl, rfl, by decide +kernel, rfl, by decide +kernel, by decide +kernel⟩
section
variable {P : Program} {w : World} {K : PySem.W.Frag} {mg : Str → Option Value} {base : Heap}
theorem m_ring (T : Fx K mg) : Met P w K mg base 1 (CW K) "ring_behind" (spRing K) [] := by
  refine mkMet T 11 rfl T.cw (T.ew _ (by decide +kernel)) scRing (fun vs H Q E h => ?_) (fun _ _ _ _ _ _ us hl => match us, hl with | [_, _, _], _ => rfl) fun cdv A outer s H vs Q E hr h => ?_
  · obtain ⟨r, d2, dx, fs, kd, s, v, n, c, rfl, _⟩ := h
    rfl
  · obtain ⟨r, d2, dx, fs, kd, s, v, n, c, rfl, hr1, f2, hd, pd, hn, hb, c1, cn, hc, hm, q⟩ := h
    have hu := hu_of hr
    have nD := T.nw "way_demands" (by decide +kernel)
    refine ⟨_, pss_cons (ps_for PassesOwn.never rfl (pi_range1 (by rfl) (T.bl "range" (by decide +kernel)) (pa_cons (pe_op op_add (pv 2) pe_int) pa_nil)) (pg_name (i := 3) scRing.nd rfl (.inl rfl))
        (pss_one (ps_set (i := 1) scRing.nd rfl (.inl rfl) (pe_ix ix_tup (pe_dget hu (pe_fld (pv 0) rfl) (pv 1) (fun _ _ => rfl)) pe_int (fun _ _ => rfl)))))
      (pss_cons (ps_par (i := 4) (j := 5) (by rfl) scRing.nd rfl rfl (by decide) rfl rfl (pa_cons (pe_lst pa_nil) (pa_cons (pv 1) pa_nil)) (by rfl))
      (pss_cons (ps_while PassesOwn.never (PW.pt (pw_or (pt_cmpR (op_eqD (room64 hr)) (pv 4) (pe_lst pa_nil) (nomark _)) (pw_or1 (pt_cmpR op_ne (pv 5) (pv 1) (nomark _)))))
        (pss_cons (ps_expr (pe_bm PySem.F.plainAttrs_list PySem.F.slot_list_append PySem.F.type_list_append mt_append (pv 4) (pa_cons (pe_dget hu (pe_fld (pv 0) rfl) (pv 5) (fun _ _ => rfl)) pa_nil)))
        (pss_one (ps_set (i := 5) scRing.nd rfl (.inl rfl) (pe_ix ix_tup (pe_dget hu (pe_fld (pv 0) rfl) (pv 5) (fun _ _ => rfl)) pe_int (fun _ _ => rfl))))))
      (pss_one (ps_ret (pe_callTy call_tuple_of (by rfl) (T.bl "tuple" (by decide +kernel)) (by decide +kernel) (pa_cons (pe_revL (pv 4)) pa_nil)))))), ?_⟩
    have get : ∀ H', Same H H' → ∀ p e, s.P p = some e → ∃ a, DGet H' d2 (.int p) (some (.ref a)) ∧ H' a = some (.tup [.int e.1, .int e.2.1, .int e.2.2]) := fun H' sm p e he => by
      obtain ⟨u, hu1, a, rfl, ha⟩ := pd p e he
      have := DGet.k (k := Sum.inl p) (sm _ _ hd)
      rw [hu1] at this
      exact ⟨a, this, sm _ _ ha⟩
    refine ⟨_, rfl, _, _, rfl, rfl, _, rfl, by omega, by omega, ?_⟩
    refine for_range (lo := 0) (n := ((n : Int) + 1).toNat) (fun i σ H' => H' = H ∧ ∃ t, σ = [some (.ref r), some (.int (s.back i v)), some (.int n), t, none, none]) ⟨rfl, none, rfl⟩ (fun i σ H' hi ⟨e, t, e2⟩ => ?_) (fun σ H' ⟨e, t, e2⟩ => ?_)
    · subst e e2
      obtain ⟨e, he⟩ := hb i (by omega)
      obtain ⟨a, g, ha⟩ := get _ (fun _ _ h => h) _ e he
      refine ⟨_, rfl, r, _, dx, _, _, rfl, hr1, T.cw, nD, f2, _, rfl, d2, _, rfl, g, a, _, _, _, rfl, rfl, SqT.of ha, atI_nat (j := 1) rfl, rfl, some (.int (0 + (i : Int))), ?_⟩
      rw [back_nx he]
      rfl
    · subst e e2
      have en : ((n : Int) + 1).toNat = n + 1 := by omega
      rw [en]
      refine ⟨Nat.zero_le _, fun fa nf => ⟨_, rfl, _, _, rfl, ?_⟩⟩
      refine ⟨fun μ σ H2 => ∃ m ks t, σ = [some (.ref r), some (.int (s.back (n + 1) v)), some (.int n), t, some (.ref fa), some (.int (s.back m (s.back (n + 1) v)))] ∧ Same H' H2 ∧ H2 fa = some (.lst (refs ks)) ∧ Tups H2 ks ∧ ks.length = m ∧ m + μ = c, ⟨c, 0, [], t, rfl, sm_new nf, upd_same, fun p hp => (by cases hp), rfl, by omega⟩, fun μ σ H2 ⟨m, ks, t', e, sm, hf, ht, hl, hmc⟩ => ?_⟩
      subst e
      have ekl : (PyData.list ((ks.map (·.2)).map d3)).eqv (.list []) = ks.isEmpty := by
        rw [eqv_nil]
        cases ks <;> rfl
      obtain ⟨e, he⟩ := hm m
      refine ⟨_, rfl, Nat.zero_le _, fun z nz => ?_⟩
      have sz2 : Same H2 (upd H2 z (.lst [])) := sm_new nz
      refine ⟨_, _, .lst (SqL.of (sz2 _ _ hf)) (dp_refs fun p hp => sz2 _ _ (ht p hp)), .lst (SqL.of upd_same) .nil, (Pl.list (pl_d3s _)).shaped (by decide), by rfl, _, rfl, ?_⟩
      rw [ekl]
      have body : ∀ D : Ends, ∀ c1 : m < c, (∀ σ' H3, (∃ m', m' < μ ∧ ∃ m2 ks t, σ' = [some (.ref r), some (.int (s.back (n + 1) v)), some (.int n), t, some (.ref fa), some (.int (s.back m2 (s.back (n + 1) v)))] ∧ Same H' H3 ∧ H3 fa = some (.lst (refs ks)) ∧ Tups H3 ks ∧ ks.length = m2 ∧ m2 + m' = c) → D.nx σ' H3) →
          tSeq (tDrop (tBM K "list" rAppend (tVar 4) (tCons (tDGet (tFld K (tVar 0) "way_demands") (tVar 5)) tNil))) (tAsg (tOp (rIxT K) (tDGet (tFld K (tVar 0) "way_demands") (tVar 5)) (tC (.int 1))) (gName 5)) D
          [some (.ref r), some (.int (s.back (n + 1) v)), some (.int n), t', some (.ref fa), some (.int (s.back m (s.back (n + 1) v)))] (upd H2 z (.lst [])) := fun D c1 hD => by
        have s3 : Same H' (upd H2 z (.lst [])) := sm.trans sz2
        obtain ⟨a, g, ha⟩ := get _ s3 _ e he
        have s4 : Same H' (upd (upd H2 z (.lst [])) fa (.lst (refs ks ++ [.ref a]))) := same_upd s3 nf
        obtain ⟨a', g', ha'⟩ := get _ s4 _ e he
        refine ⟨_, rfl, .inl ⟨rfl, _, SqL.of (sz2 _ _ hf)⟩, _, rfl, r, _, dx, _, _, rfl, s3 _ _ hr1, T.cw, nD, f2, _, rfl, d2, _, rfl, g, fa, _, _, rfl, rfl, sz2 _ _ hf, by rw [refs_len]; exact sz (by omega), ?_⟩
        refine ⟨_, rfl, r, _, dx, _, _, rfl, s4 _ _ hr1, T.cw, nD, f2, _, rfl, d2, _, rfl, g', a', _, _, _, rfl, rfl, SqT.of ha', atI_nat (j := 1) rfl, hD _ _ ⟨μ - 1, by omega, m + 1, ks ++ [(a, e)], t', ?_, s4, ?_, fun p hp => ?_, ?_, by omega⟩⟩
        · rw [back_nx (s := s) (k := m) (by exact he)]
          rfl
        · rw [upd_same]
          unfold refs
          rw [List.map_append] <;> rfl
        · rcases List.mem_append.mp hp with hp | hp
          · have h1 := sz2 _ _ (ht p hp)
            rw [upd_ne (ne_of h1 (sz2 _ _ hf) (by intro q; cases q))]
            exact h1
          · cases List.mem_singleton.mp hp
            rw [upd_ne (ne_of ha (sz2 _ _ hf) (by intro q; cases q))]
            exact ha
        · rw [List.length_append, hl] <;> rfl
      have out : tRet (tCB (fun xs H Q => ∃ p ys, xs = [V.ref p] ∧ ((SqL K H p ys ∧ ∀ (l : Addr), H l = none → Q (V.ref l) (upd H l (HO.tup ys))) ∨ SqT K H p ys ∧ Q (V.ref p) H)) (tCons (tRevL K (tVar 4)) tNil)) { nx := fun _ H' => Q .non H', rt := Q }
          [some (.ref r), some (.int (s.back (n + 1) v)), some (.int n), t', some (.ref fa), some (.int (s.back m (s.back (n + 1) v)))] (upd H2 z (.lst [])) := by
        have s3 : Same H' (upd H2 z (.lst [])) := sm.trans sz2
        refine ⟨_, rfl, fa, _, rfl, SqL.of (sz2 _ _ hf), fun p np => ⟨p, _, rfl, .inl ⟨SqL.of upd_same, fun l nl => ?_⟩⟩⟩
        exact q _ l ((s3.trans (sm_new np)).trans (sm_new nl))
      cases ks with
      | nil => exact iteT (iteT ⟨_, fun _ _ h => h, body _ (by have : m = 0 := hl.symm; omega) fun σ' H3 h => h⟩)
      | cons p ks =>
        refine iteF ⟨_, rfl, _, rfl, rfl, _, rfl, ?_⟩
        by_cases c3 : s.back m (s.back (n + 1) v) = s.back (n + 1) v
        · rw [show (!decide (V.int (s.back m (s.back (n + 1) v)) = V.int (s.back (n + 1) v))) = false by rw [c3, decide_eq_true rfl]; rfl]
          exact iteF out
        · rw [show (!decide (V.int (s.back m (s.back (n + 1) v)) = V.int (s.back (n + 1) v))) = true by rw [decide_eq_false (fun h => c3 (V.int.inj h))]; rfl]
          exact iteT ⟨_, fun _ _ h => h, body _ (Nat.lt_of_le_of_ne (by omega) fun h => c3 (by rw [h]; exact hc)) fun σ' H3 h => h⟩
end
end K43

/-! The ways: the making. -/
namespace K43
open PySem PySem.Spec PyProof.Rows L2
open C8 (Cal Met Mak pe_c pe_mk pe_mt pe_mt0 pe_gc InsC call_isC)

/-- a dict comprehension's turns over a list -/
theorem dcL {K : PySem.W.Frag} {a : Addr} {xs : List V} {g : TG} {tt : TT} {tk tv : TE} {vs : List Nat} {σ : L2.St} {H1 : Hp} {D : Addr} {Qd : Hp → Prop} (Pv : Nat → Hp → Prop)
    (h0 : Pv 0 (upd H1 D (.dK []))) (hl : ∀ i H, i ≤ xs.length → Pv i H → SqL K H a xs)
    (hs : ∀ (i : Nat) x H, xs[i]? = some x → Pv i H → g x (wipe σ vs) H fun σ2 H2 => wipe σ2 vs = wipe σ vs ∧ tt σ2 H2 fun b H3 => if b = true then tk σ2 H3 fun y H4 => tv σ2 H4 fun z H5 =>
      ∃ kvs k, y = kV k ∧ H5 D = some (.dK kvs) ∧ kvs.length < sizeLine ∧ Pv (i + 1) (upd H5 D (.dK (putK kvs k z))) else Pv (i + 1) H3)
    (hd : ∀ H, Pv xs.length H → Qd H) :
    ∃ W : Nat → Nat → Hp → Prop, (∃ m, W 0 m (upd H1 D (.dK []))) ∧ ∀ i m H, W i m H →
      ((Itl K a).stop i H ∧ Qd H) ∨ ((Itl K a).go i H ∧ ∃ Nx : Hp → Prop, (∀ H', Nx H' → ∃ m', m' < m ∧ W (i + 1) m' H') ∧ ∀ x H', (Itl K a).yld i H x H' → g x (wipe σ vs) H' fun σ2 H2 => wipe σ2 vs = wipe σ vs ∧ tt σ2 H2 fun b H3 =>
        if b = true then tk σ2 H3 fun y H4 => tv σ2 H4 fun z H5 => ∃ kvs k, y = kV k ∧ H5 D = some (.dK kvs) ∧ kvs.length < sizeLine ∧ Nx (upd H5 D (.dK (putK kvs k z))) else Nx H3) := by
  obtain ⟨W, h1, h2⟩ := for_list (K := K) (a := a) (xs := xs) (g := g) (tb := fun (D' : Ends) σ2 H2 => wipe σ2 vs = wipe σ vs ∧ tt σ2 H2 fun b H3 => if b = true then tk σ2 H3 fun y H4 => tv σ2 H4 fun z H5 =>
      ∃ kvs k, y = kV k ∧ H5 D = some (.dK kvs) ∧ kvs.length < sizeLine ∧ D'.nx (wipe σ vs) (upd H5 D (.dK (putK kvs k z))) else D'.nx (wipe σ vs) H3) (D := { nx := fun _ H => Qd H, rt := fun _ _ => True }) (σ := wipe σ vs) (H := upd H1 D (.dK []))
    (fun i σ' H => σ' = wipe σ vs ∧ Pv i H) ⟨rfl, h0⟩ (fun i σ' H hi h => hl i H hi h.2) (fun i x σ' H hx h => by
      obtain ⟨rfl, h⟩ := h
      have := hs i x H hx h
      have e : ∀ Z : Prop, (wipe σ vs = wipe σ vs ∧ Z) = Z := fun Z => propext ⟨fun h => h.2, fun h => ⟨rfl, h⟩⟩
      simp only [e, true_and]
      exact this) (fun σ' H h => hd H h.2)
  refine ⟨fun i m H => W i m (wipe σ vs) H, h1, fun i m H hW => ?_⟩
  rcases h2 i m _ H hW with ⟨a, b⟩ | ⟨a, N, n1, n2⟩
  · exact .inl ⟨a, b⟩
  · exact .inr ⟨a, fun H' => N (wipe σ vs) H', fun H' h => n1 _ _ h, fun x H' y => n2 x H' y⟩

/-- what a Ways object tells -/
def WaysR (K : PySem.W.Frag) (H : Hp) (r : Addr) (ds : List Dem) (S : List Int) : Prop := ∃ (dx d1 : Addr) (fs : List (Str × V)) (kl : List (Key × V)) (ring : V) (s : WS),
  H r = some (.ins (CW K) dx fs) ∧ fs.lookup ("way_lengths" : Str) = some (V.ref d1) ∧ H d1 = some (.dK kl) ∧ LD s kl ∧ fs.lookup ("way_ring" : Str) = some ring ∧
  ((ring = .non ∧ ∃ k lt, Runs ds S k s lt ∧ goOn ds s = (s, none)) ∨ ((∃ p, ring = .ref p) ∧ ¬ Feas ds))
/-- all but the object itself stands -/
def Bar (r : Addr) (H H' : Hp) : Prop := ∀ b o, H b = some o → b ≠ r → H' b = some o
def spWays (K : PySem.W.Frag) : Sp := fun vs H Q _ => ∃ (r dx a st : Addr) (n : Nat) (ds : List Dem) (S : List Int),
  vs = [.ref r, .int n, .ref a, .ref st] ∧ H r = some (.ins (CW K) dx []) ∧ (DTup H a ds ∨ DLst H a ds) ∧ ds.length ≤ 1000 ∧ (∀ e ∈ ds, Betw n e) ∧ H st = some (.lst (S.map V.int)) ∧ (∀ p ∈ S, IsPt n p) ∧ S.length ≤ 100 ∧ n ≤ 60 ∧
  ∀ H', Bar r H H' → WaysR K H' r ds S → Q .non H'
theorem putF_len (f : Str) (v : V) (fs : List (Str × V)) : (putF f v fs).length ≤ fs.length + 1 := by
  induction fs with
  | nil => exact Nat.le_refl _
  | cons p fs ih =>
    unfold putF
    split
    · exact Nat.le_succ _
    · exact Nat.succ_le_succ ih
theorem scWays : FnScope ["self", "many", "demands", "starts", "turn", "late", "point"] ["self", "many", "demands", "starts"] (defScope sWaysInit) := ⟨rfl, rfl, rfl, by decide +kernel, rfl, by decide +kernel, by decide +kernel⟩
def wf1 (d1 : Addr) : List (Str × V) := putF "way_lengths" (.ref d1) []
def wf2 (d1 d2 : Addr) : List (Str × V) := putF "way_demands" (.ref d2) (wf1 d1)
def wf3 (d1 d2 : Addr) (r : V) : List (Str × V) := putF "way_ring" r (wf2 d1 d2)
theorem wf3_l (d1 d2 : Addr) (r : V) : (wf3 d1 d2 r).lookup ("way_lengths" : Str) = some (V.ref d1) := by
  unfold wf3 wf2 wf1
  rw [lookup_putF, if_neg (by decide +kernel), lookup_putF, if_neg (by decide +kernel), lookup_putF, if_pos rfl]
theorem wf3_d (d1 d2 : Addr) (r : V) : (wf3 d1 d2 r).lookup ("way_demands" : Str) = some (V.ref d2) := by
  unfold wf3 wf2 wf1
  rw [lookup_putF, if_neg (by decide +kernel), lookup_putF, if_pos rfl]
theorem wf3_r (d1 d2 : Addr) (r : V) : (wf3 d1 d2 r).lookup ("way_ring" : Str) = some r := by
  unfold wf3 wf2 wf1
  rw [lookup_putF, if_pos rfl]
theorem wf3_no (d1 d2 : Addr) (r : V) {m : Str} (h1 : ¬ m = "way_ring") (h2 : ¬ m = "way_demands") (h3 : ¬ m = "way_lengths") : (wf3 d1 d2 r).lookup m = none := by
  unfold wf3 wf2 wf1
  rw [lookup_putF, if_neg h1, lookup_putF, if_neg h2, lookup_putF, if_neg h3] <;> rfl
theorem wf3_meth (d1 d2 : Addr) (r : V) : ∀ m ∈ (["go_on", "ring_behind"] : List Str), (wf3 d1 d2 r).lookup m = none := fun m hm => by
  have h : ∀ m ∈ (["go_on", "ring_behind"] : List Str), ¬ m = "way_ring" ∧ ¬ m = "way_demands" ∧ ¬ m = "way_lengths" := by decide +kernel
  exact wf3_no _ _ _ (h m hm).1 (h m hm).2.1 (h m hm).2.2
section
variable {P : Program} {w : World} {K : PySem.W.Frag} {mg : Str → Option Value} {base : Heap}
/-- the making of an object by its class -/
theorem mkMak {C q : Str} {st : Stmt} {N ps : List Str} {k : Nat} {sp : Sp} (T : Fx K mg) (i : Nat) (hi : fn[i]? = some (md C "__init__" q st)) (hC : C ∈ gnames) (hM : Mk K (He.ga K C) (He.ma K (He.ga K C) "__init__")) (S : FnScope N ps (defScope st))
    (len : ∀ vs H Q E, sp vs H Q E → vs.length = ps.length)
    (hb : ∀ (kV doc pm : Value) (an : Option Addr) (cdv ct : Value) (us : List Value), us.length = ps.length → bindArgs (PySem.W.fnOf "__init__" q (defArgs st) (defBody st) (defScope st) .none kV doc pm an cdv ct) ⟨us, []⟩ = pure (ps.zip us))
    (hbody : ∀ (cdv : Value) (A : Around) (outer : List Env) (s : Shared) (H : Hp) (vs : List V) (Q : VK) (E : XK), Room k (A.deeper (envOfC q (defScope st) s.heap.objs.size (He.ma K (He.ga K C) "__init__") cdv)) → sp vs H Q E →
      ∃ t, PSs (cxOf CX0 P w K mg base N q (defScope st) (He.ma K (He.ga K C) "__init__") cdv A outer s H E).nox (defBody st) t ∧ t { nx := fun _ H' => Q .non H', rt := Q } (start N vs) H) : Mak P w K mg base (k + 1) C (He.ga K C) sp [] := by
  obtain ⟨fd, F⟩ := T.fn i _ hi
  have F' : FunD K "__init__" q (defArgs st) (defBody st) (defScope st) [] [] (He.ma K (He.ga K C) "__init__") fd := F
  refine ⟨He.ma K (He.ga K C) "__init__", fd, ps, [], hM, F'.ok S len (fun cdv A outer s H vs Q E hr h => ?_), T.gl C hC, F'.bindsN hb, .nil⟩
  obtain ⟨t, h1, h2⟩ := hbody cdv A outer s H vs Q E hr h
  exact ⟨t, h1.nox, h2⟩
theorem k_ways (T : Fx K mg) : Mak P w K mg base 2 "Ways" (CW K) (spWays K) [] := by
  refine mkMak T 9 rfl (by decide +kernel) T.mw scWays (fun vs H Q E h => ?_) (fun _ _ _ _ _ _ us hl => match us, hl with | [_, _, _, _], _ => rfl) fun cdv A outer s H vs Q E hr h => ?_
  · obtain ⟨r, dx, a, st, n, ds, S, rfl, _⟩ := h
    rfl
  · obtain ⟨r, dx, a, st, n, ds, S, rfl, hr1, ha, hl, hB, hst, hS, hSl, hn, q⟩ := h
    have nL := T.nw "way_lengths" (by decide +kernel)
    have nD := T.nw "way_demands" (by decide +kernel)
    have nR := T.nw "way_ring" (by decide +kernel)
    refine ⟨_, pss_cons (ps_fld (pv 0) (pe_dc (own := [("point", 6)]) (g := gName 6) (tt := tYes) rfl scWays.nd (pi_list (pv 3)) (blkOk_by (own := [("point", 6)]) (N := ["self", "many", "demands", "starts", "turn", "late", "point"]) (sc := defScope sWaysInit) (by decide +kernel))
        (fun _ _ _ _ _ => pg_name (i := 6) scWays.nd rfl (Or.inl rfl)) (fun _ _ _ _ _ => pts_nil) (fun _ _ _ _ _ => pv 6) (fun _ _ _ _ _ => pe_int)) rfl)
      (pss_cons (ps_fld (pv 0) pe_dnewK rfl) (pss_cons (ps_fld (pv 0) pe_non rfl)
      (pss_cons (ps_for PassesOwn.never rfl (pi_range1 (by rfl) (T.bl "range" (by decide +kernel)) (pa_cons (pe_op op_add (pv 1) pe_int) pa_nil)) (pg_name (i := 4) scWays.nd rfl (.inl rfl))
        (pss_cons (ps_set (i := 5) scWays.nd rfl (.inl rfl) (pe_mt (m_go_on T) hr (by decide) (pv 0) (pa_cons (pv 2) pa_nil)))
        (pss_one (ps_if (pt_cmpR op_isN (pv 5) pe_non (nomark _)) (pss_one ps_retN) pss_nil))))
      (pss_one (ps_fld (pv 0) (pe_mt (m_ring T) hr (by decide) (pv 0) (pa_cons (pv 5) (pa_cons (pv 1) pa_nil))) rfl))))), ?_⟩
    refine ⟨_, rfl, st, rfl, ⟨_, SqL.of hst⟩, fun d1 n1 => ?_⟩
    refine dcL (xs := S.map V.int) (fun i H' => Same H H' ∧ ∃ kvs, H' d1 = some (.dK kvs) ∧ kvs.length ≤ i ∧ ∀ p : Int, valV kvs (.inl p) = if p ∈ S.take i then some (.int 0) else none) ⟨sm_new n1, [], upd_same, Nat.le_refl _, fun p => by simp [valV]⟩ (fun i H' _ h => SqL.of (h.1 _ _ hst)) (fun i x H' hx h => ?_) (fun H' h => ?_)
    · obtain ⟨s1, kvs, hk, hlen, hv⟩ := h
      rw [List.getElem?_map] at hx
      obtain ⟨p, hp, rfl⟩ := Option.map_eq_some_iff.mp hx
      have hi : i < 100 := Nat.lt_of_lt_of_le (List.getElem?_eq_some_iff.mp hp).1 hSl
      refine ⟨rfl, _, rfl, kvs, .inl p, rfl, hk, sz (by omega), same_upd s1 n1, _, upd_same, Nat.le_trans (putK_len _ _ _) (by omega), fun u => ?_⟩
      rw [valV_put, List.take_add_one, hp]
      by_cases c : u = p
      · subst c
        rw [if_pos rfl, if_pos (by simp)]
      · rw [if_neg (fun q => c (by cases q; rfl)), hv]
        have : (u ∈ List.take i S ++ (some p).toList) ↔ u ∈ List.take i S := by simp [c]
        simp only [this]
    · obtain ⟨s1, kvs, hk, hlen, hv⟩ := h
      rw [List.length_map, List.take_length] at hv
      rw [List.length_map] at hlen
      have nr1 : r ≠ d1 := ne_of_none hr1 n1
      refine ⟨_, rfl, r, _, dx, _, rfl, s1 _ _ hr1, T.cw, nL, by show 0 < 1000; decide, fun d2 n2 => ?_⟩
      have nrd2 : r ≠ d2 := fun e => by
        rw [← e, upd_same] at n2
        cases n2
      have n2' : H' d2 = none := by
        rw [upd_ne nrd2.symm] at n2
        exact n2
      have n12 : d1 ≠ d2 := ne_of_none hk n2'
      refine ⟨_, rfl, r, _, dx, _, rfl, (by rw [upd_ne nrd2]; exact upd_same), T.cw, nD, Nat.lt_of_le_of_lt (putF_len _ _ _) (by show 0 + 1 < 1000; decide), ?_⟩
      refine ⟨_, rfl, r, _, dx, _, rfl, upd_same, T.cw, nR, Nat.lt_of_le_of_lt (putF_len _ _ _) (Nat.lt_of_le_of_lt (Nat.succ_le_succ (putF_len _ _ _)) (by show 0 + 1 + 1 < 1000; decide)), ?_⟩
      generalize hHd : upd (upd (upd (upd H' r _) d2 _) r _) r _ = Hd
      have hdr : Hd r = some (.ins (CW K) dx (wf3 d1 d2 .non)) := by rw [← hHd]; exact upd_same
      have hd1 : Hd d1 = some (.dK kvs) := by rw [← hHd, upd_ne nr1.symm, upd_ne nr1.symm, upd_ne n12, upd_ne nr1.symm]; exact hk
      have hd2 : Hd d2 = some (.dK []) := by rw [← hHd, upd_ne nrd2.symm, upd_ne nrd2.symm]; exact upd_same
      have hbar : Bar r H Hd := fun b o e nb => by
        rw [← hHd, upd_ne nb, upd_ne nb, upd_ne (ne_of_none (s1 _ _ e) n2'), upd_ne nb]
        exact s1 _ _ e
      have R0 : Rd1 K Hd r d1 d2 kvs [] (WS.init S) 100 := {
        ins := ⟨dx, _, hdr, wf3_l _ _ _, wf3_d _ _ _, fun m hm => wf3_meth _ _ _ m hm⟩
        hl := hd1, hd := hd2, ne := n12, ld := (fun p => by rw [hv]; unfold WS.init; dsimp only; split <;> rfl), pd := (fun p e h => by cases h), bl := by omega, bd := Nat.zero_le _ }
      have ha' : ∀ H2, Bar r H H2 → DTup H2 a ds ∨ DLst H2 a ds := fun H2 bb => by
        rcases ha with ⟨ks, h1, h2, h3⟩ | ⟨ks, h1, h2, h3⟩
        · exact .inl ⟨ks, bb _ _ h1 (ne_of h1 hr1 (by intro q; cases q)), fun p hp => bb _ _ (h2 p hp) (ne_of (h2 p hp) hr1 (by intro q; cases q)), h3⟩
        · exact .inr ⟨ks, bb _ _ h1 (ne_of h1 hr1 (by intro q; cases q)), fun p hp => bb _ _ (h2 p hp) (ne_of (h2 p hp) hr1 (by intro q; cases q)), h3⟩
      refine ⟨_, rfl, _, _, rfl, rfl, _, rfl, by omega, by omega, ?_⟩
      have en : ((n : Int) + 2).toNat = n + 2 := by omega
      rw [en]
      refine for_range (lo := 0) (n := n + 2) (fun i σ H2 => ∃ t6 s lt t4 t5 kl kd, σ = [some (.ref r), some (.int n), some (.ref a), some (.ref st), t4, t5, t6] ∧ Runs ds S i s lt ∧ (∀ v, lt = some v → t5 = some (.int v)) ∧ (1 ≤ i → ∃ v, lt = some v) ∧
        Rd1 K H2 r d1 d2 kl kd s (100 + 1000 * i) ∧ Bar r H H2 ∧ ∃ dx, H2 r = some (.ins (CW K) dx (wf3 d1 d2 .non))) ⟨_, _, _, none, none, _, _, rfl, .zero, (fun v h => by cases h), (fun h => by omega), R0, hbar, dx, hdr⟩ (fun i σ H2 hi I => ?_) (fun σ H2 I => ?_)
      · obtain ⟨t6, s2, lt, t4, t5, kl, kd, rfl, runs, hlt, _, R1, bb, dx2, hr2⟩ := I
        refine ⟨_, rfl, r, dx2, _, rfl, hr2, wf3_no _ _ _ (by decide +kernel) (by decide +kernel) (by decide +kernel), _, rfl, r, a, d1, d2, kl, kd, s2, 100 + 1000 * i, ds, rfl, R1, by omega, ha' _ bb, hl, fun H3 kl' kd' s' lt' hgo R2 two => ?_⟩
        have bb3 : Bar r H H3 := fun b o e nb => by
          exact two b o (ne_of_none e n1) (ne_of_none e (s1.free n2')) (bb b o e nb)
        have hr3 := two r _ nr1 nrd2 hr2
        cases lt' with
        | none =>
          obtain ⟨_, e2, _⟩ := fold_late ds s2 s' none hgo
          subst e2
          exact ⟨_, rfl, rfl, _, rfl, q H3 bb3 ⟨dx2, d1, _, kl', .non, s', hr3, wf3_l _ _ _, R2.hl, R2.ld, wf3_r _ _ _, .inl ⟨rfl, i, lt, runs, hgo⟩⟩⟩
        | some v =>
          exact ⟨_, rfl, rfl, _, rfl, t6, s', some v, _, _, kl', kd', rfl, .step runs hgo, fun u hu => by cases hu; rfl, fun _ => ⟨v, rfl⟩, R2, bb3, dx2, hr3⟩
      · obtain ⟨t6, s2, lt, t4, t5, kl, kd, rfl, runs, hlt, hsome, R1, bb, dx2, hr2⟩ := I
        obtain ⟨v, rfl⟩ := hsome (by omega)
        cases hlt v rfl
        obtain ⟨hbk, c, c1, cn, hc, hm⟩ := Runs.ring (n := n) hB runs (Nat.le_refl _)
        refine ⟨_, rfl, r, dx2, _, rfl, hr2, wf3_no _ _ _ (by decide +kernel) (by decide +kernel) (by decide +kernel), _, rfl, _, rfl, r, d2, dx2, _, kd, s2, v, n, c, rfl, hr2, wf3_d _ _ _, R1.hd, R1.pd, hn,
          (fun j hj => (hbk j hj).elim fun e h => ⟨e, h.1⟩), c1, cn, hc, (fun m => (hm m).elim fun e h => ⟨e, h.1⟩), fun H3 p s3 => ?_⟩
        have hr3 := s3 _ _ hr2
        refine ⟨_, rfl, r, _, dx2, _, rfl, hr3, T.cw, nR, Nat.lt_of_le_of_lt (Nat.le_trans (putF_len _ _ _) (Nat.succ_le_succ (Nat.le_trans (putF_len _ _ _) (Nat.succ_le_succ (putF_len _ _ _))))) (by show 0 + 1 + 1 + 1 < 1000; decide), ?_⟩
        refine q _ (fun b o e nb => ?_) ⟨dx2, d1, _, kl, .ref p, s2, upd_same, ?_, ?_, R1.ld, ?_, .inr ⟨⟨p, rfl⟩, fun hF => ?_⟩⟩
        · rw [upd_ne nb]
          exact s3 _ _ (bb b o e nb)
        · rw [lookup_putF, if_neg (by decide +kernel)]
          exact wf3_l _ _ _
        · rw [upd_ne nr1.symm]
          exact s3 _ _ R1.hl
        · rw [lookup_putF, if_pos rfl]
        · have := Runs.few hB hS runs hF
          omega
end
end K43

/-! Systems in the heap; what the small defs ask of them. -/
namespace K43
open PySem PySem.Spec PyProof.Rows L2
open C8 (Cal Met Mak pe_c pe_mk pe_mt pe_mt0 pe_gc InsC call_isC)

def Ok (n : Nat) (e : Dem) : Prop := Betw n e ∧ -199 ≤ e.2.2 ∧ e.2.2 ≤ 199
def isBet (xs : List V) (n : Nat) : Bool := match xs with
  | [.int u, .int l, .int d] => isDem [.int u, .int l, .int d] && (decide (u < n) && decide (l < n))
  | _ => false
def BetV (H : Hp) (v : V) (n : Nat) (b : Bool) : Prop :=
  ((v = .non ∨ (∃ i, v = .int i) ∨ ∃ a xs, v = .ref a ∧ H a = some (.lst xs)) ∧ b = false) ∨ ∃ a xs, v = .ref a ∧ H a = some (.tup xs) ∧ (∀ x ∈ xs, IB x) ∧ xs.length ≤ 3 ∧ b = isBet xs n
def spBetween : Sp := fun vs H Q _ => ∃ v n b, vs = [v, .int (n : Nat)] ∧ BetV H v n b ∧ ∀ H', Same H H' → Q (.bl b) H'
theorem isDem_ints {u l d : Int} : isDem [.int u, .int l, .int d] = ((decide (-1 ≤ u) && decide (u ≤ 59)) && (decide (-1 ≤ l) && decide (l ≤ 59)) && (decide (-199 ≤ d) && decide (d ≤ 199))) := by
  show (isW (.int u) (-1) 59 && isW (.int l) (-1) 59 && isW (.int d) (-199) 199) = _
  rw [isW_int (by decide) (by decide), isW_int (by decide) (by decide), isW_int (by decide) (by decide)]
theorem isBet_ok {n : Nat} {e : Dem} (h : Ok n e) (hn : n ≤ 60) : isBet [.int e.1, .int e.2.1, .int e.2.2] n = true := by
  obtain ⟨u, l, d⟩ := e
  obtain ⟨⟨⟨h1, h2⟩, h3, h4⟩, h5, h6⟩ := h
  show (isDem [.int u, .int l, .int d] && (decide (u < (n : Int)) && decide (l < (n : Int)))) = true
  rw [isDem_ints]
  simp only [Bool.and_eq_true, decide_eq_true_eq]
  dsimp only at *
  omega
theorem betV_ok {H : Hp} {v : V} {n : Nat} {e : Dem} (i : IsD3 H v e) (h : Ok n e) (hn : n ≤ 60) : BetV H v n true := by
  obtain ⟨a, rfl, ha⟩ := i
  exact .inr ⟨a, _, rfl, ha, fun x hx => by
    simp only [List.mem_cons, List.not_mem_nil, or_false] at hx
    rcases hx with rfl | rfl | rfl <;> exact .int _, Nat.le_refl _, (isBet_ok h hn).symm⟩
section
variable {P : Program} {w : World} {K : PySem.W.Frag} {mg : Str → Option Value} {base : Heap}
theorem scBetween : FnScope ["value", "many"] ["value", "many"] (defScope sIsBetween) := ⟨rfl, rfl, rfl, by decide +kernel, rfl, by decide +kernel, by decide +kernel⟩
theorem isDem_three {xs : List V} (hx : ∀ x ∈ xs, IB x) (h : isDem xs = true) : ∃ u l d : Int, xs = [.int u, .int l, .int d] := by
  have hw : ∀ v a b, IB v → isW v a b = true → ∃ i, v = .int i := fun v a b hv hw => by
    cases hv with
    | int i => exact ⟨i, rfl⟩
    | bl c => cases hw
  match xs, hx, h with
  | [u, l, d], hx, h =>
    unfold isDem at h
    simp only [Bool.and_eq_true] at h
    obtain ⟨⟨h1, h2⟩, h3⟩ := h
    obtain ⟨i, rfl⟩ := hw _ _ _ (hx u (by simp)) h1
    obtain ⟨j, rfl⟩ := hw _ _ _ (hx l (by simp)) h2
    obtain ⟨k, rfl⟩ := hw _ _ _ (hx d (by simp)) h3
    exact ⟨i, j, k, rfl⟩
theorem isBet_no {xs : List V} {n : Nat} (h : isDem xs = false) : isBet xs n = false := by
  unfold isBet
  split
  · rw [h] <;> rfl
  · rfl
theorem c_between (T : Fx K mg) : Cal P w K mg base 4 "is_demand_between" spBetween [] := by
  refine mkCal T 13 rfl (by decide +kernel) scBetween (fun vs H Q E h => ?_) (fun _ _ _ _ _ _ us hl => match us, hl with | [_, _], _ => rfl) fun cdv A outer s H vs Q E hr h => ?_
  · obtain ⟨v, n, b, rfl, _⟩ := h
    rfl
  · obtain ⟨v, n, b, rfl, hv, q⟩ := h
    refine ⟨_, pss_one (ps_ret (pe_and (pe_c (c_is_demand T) hr (by decide) (by rfl) (pa_cons (pv 0) pa_nil)) (pe_and (pe_cmpR op_lt (pe_ix ix_tup (pv 0) pe_int (fun _ _ => rfl)) (pv 1) (nomark _)) (pe_one (pe_cmpR op_lt (pe_ix ix_tup (pv 0) pe_int (fun _ _ => rfl)) (pv 1) (nomark _)))))), ?_⟩
    rcases hv with ⟨hv, rfl⟩ | ⟨a, xs, rfl, ha, hx, h3, rfl⟩
    · exact ⟨_, rfl, v, false, rfl, .inl ⟨hv, rfl⟩, fun H' sm => ⟨_, rfl, iteF (q H' sm)⟩⟩
    · refine ⟨_, rfl, _, isDem xs, rfl, .inr ⟨a, xs, rfl, ha, hx, h3, rfl⟩, fun H' sm => ⟨_, rfl, ?_⟩⟩
      cases hd : isDem xs with
      | false =>
        rw [isBet_no hd] at q
        exact iteF (q H' sm)
      | true =>
        obtain ⟨u, l, d, rfl⟩ := isDem_three hx hd
        have e : isBet [.int u, .int l, .int d] n = (decide (u < (n : Int)) && decide (l < (n : Int))) := by
          show (isDem [.int u, .int l, .int d] && (decide (u < (n : Int)) && decide (l < (n : Int)))) = _
          rw [hd, Bool.true_and]
        rw [e] at q
        have q := q H' sm
        refine iteT ⟨_, rfl, a, _, _, _, rfl, rfl, SqT.of (sm _ _ ha), atI_nat (j := 0) rfl, _, rfl, _, _, rfl, rfl, _, rfl, ?_⟩
        cases hu : decide (u < (n : Int)) with
        | false =>
          rw [hu] at q
          exact iteF q
        | true =>
          rw [hu, Bool.true_and] at q
          exact iteT ⟨_, rfl, a, _, _, _, rfl, rfl, SqT.of (sm _ _ ha), atI_nat (j := 1) rfl, _, rfl, _, _, rfl, rfl, q⟩
def spReqDemands : Sp := fun vs H Q _ => ∃ (a : Addr) (ds : List Dem) (n : Nat), vs = [.ref a, .int n] ∧ DTup H a ds ∧ (∀ e ∈ ds, Ok n e) ∧ n ≤ 60 ∧ ds.length ≤ 600 ∧ ∀ H', Same H H' → Q .non H'
theorem scReqDemands : FnScope ["value", "many", "demand"] ["value", "many"] (defScope sReqDemands) := ⟨rfl, rfl, rfl, by decide +kernel, rfl, by decide +kernel, by decide +kernel⟩
theorem c_req_demands (T : Fx K mg) : Cal P w K mg base 5 "require_demands" spReqDemands [] := by
  refine mkCal T 14 rfl (by decide +kernel) scReqDemands (fun vs H Q E h => ?_) (fun _ _ _ _ _ _ us hl => match us, hl with | [_, _], _ => rfl) fun cdv A outer s H vs Q E hr h => ?_
  · obtain ⟨a, ds, n, rfl, _⟩ := h
    rfl
  · obtain ⟨a, ds, n, rfl, ⟨ks, ha, ht, rfl⟩, hok, hn, hl, q⟩ := h
    refine ⟨_, pss_cons (ps_if (PW.pt (pw_or (pt_not (pt_val (pe_callB call_isi (by rfl) (T.bl "isinstance" (by decide +kernel)) (by decide +kernel) (pa_cons (pv 0) (pa_cons (pe_bltn (v := .ty "tuple") (by rfl) (T.bl "tuple" (by decide +kernel)) (by decide +kernel) rfl) pa_nil)))))
        (pw_or1 (pt_not (pt_val (pe_callB (cr_all rfl) (by rfl) (T.bl "all" (by decide +kernel)) (by decide +kernel) (pa_cons (pe_lc (own := [("demand", 2)]) (g := gName 2) (tt := tYes) rfl scReqDemands.nd (pi_tup (pv 0))
          (blkOk_by (own := [("demand", 2)]) (N := ["value", "many", "demand"]) (sc := defScope sReqDemands) (by decide +kernel)) (fun _ _ _ _ _ => pg_name (i := 2) scReqDemands.nd rfl (Or.inl rfl)) (fun _ _ _ _ _ => pts_nil)
          (fun _ _ _ _ _ => pe_c (c_between T) hr (by decide) (by rfl) (pa_cons (pv 2) (pa_cons (pv 1) pa_nil)))) pa_nil))))))) (pss_one ps_never) pss_nil)
      (pss_one (ps_if (pt_cmpR op_gt (pe_callB call_len (by rfl) (T.bl "len" (by decide +kernel)) (by decide +kernel) (pa_cons (pv 0) pa_nil)) (pgI (by rfl) T.iD) (nomark _)) (pss_one ps_never) pss_nil)), ?_⟩
    refine ⟨_, rfl, _, _, _, _, _, rfl, .ty _, .base (.tup ha), kit_ty (r := true) (by decide +kernel), true, rfl, ?_⟩
    refine ⟨_, rfl, a, rfl, ⟨_, SqT.of ha⟩, fun D nD => ?_⟩
    refine lcT (Same H) (fun i y _ => y = .bl true) (sm_new nD) (fun H' l s => same_upd s nD) (fun _ _ _ _ _ _ h => h) (a := a) (xs := refs ks) (by rw [refs_len]; rw [List.length_map] at hl; omega) (fun H' s => SqT.of (s _ _ ha)) (fun i x H' l Fin No hx s hD fin => ?_) (fun H' ys s hD hy hall => ?_)
    · refine ⟨rfl, ?_⟩
      obtain ⟨p, hp, rfl⟩ := refs_get hx
      have hm := List.mem_of_getElem? hp
      exact ⟨_, rfl, _, rfl, _, n, true, rfl, betV_ok ⟨p.1, rfl, s _ _ (ht p hm)⟩ (hok _ (List.mem_map.mpr ⟨p, hm, rfl⟩)) hn, fun H2 s2 => fin _ _ (s.trans s2) (s2 _ _ hD) (fun _ _ h => h) rfl⟩
    · have e : ys = ((List.range ks.length).map fun _ => true).map V.bl := bls (by rw [hy, refs_len]) hall
      refine ⟨D, _, rfl, SqL.of (by rw [hD, e]), ?_⟩
      rw [all_true fun b hb => (List.mem_map.mp hb).elim fun _ h => h.2.symm]
      refine ⟨true, rfl, _, rfl, _, _, rfl, .inr ⟨_, SqT.of (s _ _ ha), rfl⟩, _, _, rfl, rfl, _, rfl, ?_⟩
      rw [refs_len]
      rw [List.length_map] at hl
      rw [decide_eq_false (by omega)]
      exact q _ s
end
end K43

/-! Systems in the heap. -/
namespace K43
open PySem PySem.Spec PyProof.Rows L2
open C8 (Cal Met Mak pe_c pe_mk pe_mt pe_mt0 pe_gc InsC call_isC)

structure SysP (n : Nat) (dem all : List Dem) : Prop where
  uni : Uni n dem all
  srt : all.Pairwise lt3
  ok : ∀ e ∈ dem, Ok n e
  n60 : n ≤ 60
  al : all.length ≤ 1000
  few : all.length ≤ dem.length + 2 * n
theorem SysP.betw {n : Nat} {dem all : List Dem} (h : SysP n dem all) : ∀ e ∈ all, Betw n e := h.uni.betw fun e he => (h.ok e he).1
theorem SysP.conn {n : Nat} {dem all : List Dem} (h : SysP n dem all) : Conn n all := h.uni.conn
structure SysF (fs : List (Str × V)) (n : Nat) (dm al ky : Addr) (rg nw wd : V) : Prop where
  many : fs.lookup ("own_many" : Str) = some (V.int n)
  dem : fs.lookup ("own_demands" : Str) = some (V.ref dm)
  all : fs.lookup ("own_all" : Str) = some (V.ref al)
  key : fs.lookup ("own_key" : Str) = some (V.ref ky)
  ring : fs.lookup ("own_ring" : Str) = some rg
  nar : fs.lookup ("own_narrowest" : Str) = some nw
  wid : fs.lookup ("own_widest" : Str) = some wd
  no : ∀ m ∈ meths, fs.lookup m = none
/-- a row of ints, each of them told -/
def RowP (H : Hp) (v : V) (n : Nat) (p : Nat → Int → Prop) : Prop := ∃ (a : Addr) (l : List Int), v = .ref a ∧ H a = some (.tup (l.map V.int)) ∧ l.length = n ∧ ∀ (i : Nat) x, l[i]? = some x → p i x
def Rgs (H : Hp) (n : Nat) (all : List Dem) (rg nw wd : V) : Prop :=
  (Feas all ∧ rg = .non ∧ RowP H nw n (fun i x => MinD all (-1) i x) ∧ RowP H wd n fun i x => MaxD all (-1) i x) ∨ (¬ Feas all ∧ ∃ q, rg = .ref q)
structure SysO (K : PySem.W.Frag) (H : Hp) (p : Addr) (n : Nat) (dem all : List Dem) (dx : Addr) (fs : List (Str × V)) (dm al ky : Addr) (rg nw wd : V) : Prop where
  pl : SysP n dem all
  ins : H p = some (.ins (CS K) dx fs)
  f : SysF fs n dm al ky rg nw wd
  hd : DTup H dm dem
  ha : DTup H al all
  hk : H ky = some (.tup [.int n, .ref al])
  hr : Rgs H n all rg nw wd
def SysAt (K : PySem.W.Frag) (H : Hp) (p : Addr) (n : Nat) (dem all : List Dem) : Prop := ∃ (dx : Addr) (fs : List (Str × V)) (dm al ky : Addr) (rg nw wd : V), SysO K H p n dem all dx fs dm al ky rg nw wd
theorem RowP.same {H H' : Hp} {v : V} {n : Nat} {p : Nat → Int → Prop} (s : Same H H') (h : RowP H v n p) : RowP H' v n p := by
  obtain ⟨a, l, h1, h2, h3⟩ := h
  exact ⟨a, l, h1, s _ _ h2, h3⟩
theorem Rgs.same {H H' : Hp} {n : Nat} {all : List Dem} {rg nw wd : V} (s : Same H H') (h : Rgs H n all rg nw wd) : Rgs H' n all rg nw wd := by
  rcases h with ⟨h1, h2, h3, h4⟩ | h
  · exact .inl ⟨h1, h2, h3.same s, h4.same s⟩
  · exact .inr h
theorem SysO.same {K : PySem.W.Frag} {H H' : Hp} {p : Addr} {n : Nat} {dem all : List Dem} {dx : Addr} {fs : List (Str × V)} {dm al ky : Addr} {rg nw wd : V} (s : Same H H') (h : SysO K H p n dem all dx fs dm al ky rg nw wd) : SysO K H' p n dem all dx fs dm al ky rg nw wd :=
  ⟨h.pl, s _ _ h.ins, h.f, h.hd.same s, h.ha.same s, s _ _ h.hk, h.hr.same s⟩
theorem SysAt.same {K : PySem.W.Frag} {H H' : Hp} {p : Addr} {n : Nat} {dem all : List Dem} (s : Same H H') (h : SysAt K H p n dem all) : SysAt K H' p n dem all := by
  obtain ⟨dx, fs, dm, al, ky, rg, nw, wd, h⟩ := h
  exact ⟨dx, fs, dm, al, ky, rg, nw, wd, h.same s⟩
theorem SysAt.pl {K : PySem.W.Frag} {H : Hp} {p : Addr} {n : Nat} {dem all : List Dem} (h : SysAt K H p n dem all) : SysP n dem all := by
  obtain ⟨dx, fs, dm, al, ky, rg, nw, wd, h⟩ := h
  exact h.pl
theorem nsF {K : PySem.W.Frag} {mg : Str → Option Value} (T : Fx K mg) {f : Str} (h : f ∈ sfields) : NoAttr K (CS K) f := T.ns f h

def spLike (K : PySem.W.Frag) : Sp := fun vs H Q _ => ∃ (p q : Addr) (n : Nat) (d a d' a' : List Dem), vs = [.ref p, .ref q] ∧ SysAt K H p n d a ∧ SysAt K H q n d' a' ∧ Q .non H
def spPoint (K : PySem.W.Frag) : Sp := fun vs H Q _ => ∃ (p : Addr) (i : Int) (n : Nat) (d a : List Dem), vs = [.ref p, .int i] ∧ SysAt K H p n d a ∧ IsPt n i ∧ Q .non H
def spLine (K : PySem.W.Frag) : Sp := fun vs H Q _ => ∃ (p : Addr) (i : Int) (n : Nat) (d a : List Dem), vs = [.ref p, .int i] ∧ SysAt K H p n d a ∧ 0 ≤ i ∧ i < n ∧ Q .non H
section
variable {P : Program} {w : World} {K : PySem.W.Frag} {mg : Str → Option Value} {base : Heap}
theorem scLike : FnScope ["one", "other"] ["one", "other"] (defScope sReqLike) := ⟨rfl, rfl, rfl, by decide +kernel, rfl, by decide +kernel, by decide +kernel⟩
theorem c_like (T : Fx K mg) : Cal P w K mg base 1 "require_like_system" (spLike K) [] := by
  refine mkCal T 15 rfl (by decide +kernel) scLike (fun vs H Q E h => ?_) (fun _ _ _ _ _ _ us hl => match us, hl with | [_, _], _ => rfl) fun cdv A outer s H vs Q E hr h => ?_
  · obtain ⟨p, q, n, d, a, d', a', rfl, _⟩ := h
    rfl
  · obtain ⟨p, q, n, d, a, d', a', rfl, ⟨dx, fs, dm, al, ky, rg, nw, wd, h1⟩, ⟨dx', fs', dm', al', ky', rg', nw', wd', h2⟩, q⟩ := h
    refine ⟨_, pss_one (ps_if (PW.pt (pw_or (pt_not (pt_val (pe_callB (call_isC T.ic) (by rfl) (T.bl "isinstance" (by decide +kernel)) (by decide +kernel) (pa_cons (pv 1) (pa_cons (pe_gc (v := .ref (CS K)) (by rfl) ⟨_, T.gl "System" (by decide +kernel), rfl⟩) pa_nil)))))
      (pw_or1 (pt_cmpR op_ne (pe_fld (pv 1) rfl) (pe_fld (pv 0) rfl) (nomark _))))) (pss_one ps_never) pss_nil), ?_⟩
    have nM := nsF T (f := "own_many") (by decide +kernel)
    refine ⟨_, rfl, _, dx', fs', rfl, h2.ins, true, rfl, _, rfl, _, _, dx', fs', _, rfl, h2.ins, T.cs, nM, h2.f.many, _, rfl, p, _, dx, fs, _, rfl, h1.ins, T.cs, nM, h1.f.many, rfl, _, rfl, ?_⟩
    rw [show (!decide (V.int (n : Int) = V.int (n : Int))) = false by rw [decide_eq_true rfl]; rfl]
    exact q
theorem scPoint : FnScope ["system", "point"] ["system", "point"] (defScope sReqPoint) := ⟨rfl, rfl, rfl, by decide +kernel, rfl, by decide +kernel, by decide +kernel⟩
theorem c_point (T : Fx K mg) : Cal P w K mg base 3 "require_point" (spPoint K) [] := by
  refine mkCal T 16 rfl (by decide +kernel) scPoint (fun vs H Q E h => ?_) (fun _ _ _ _ _ _ us hl => match us, hl with | [_, _], _ => rfl) fun cdv A outer s H vs Q E hr h => ?_
  · obtain ⟨p, i, n, d, a, rfl, _⟩ := h
    rfl
  · obtain ⟨p, i, n, d, a, rfl, ⟨dx, fs, dm, al, ky, rg, nw, wd, h1⟩, hi, q⟩ := h
    refine ⟨_, pss_one (ps_if (pt_not (pt_val (pe_c (c_is_within T) hr (by decide) (by rfl) (pa_cons (pv 1) (pa_cons (pgI (by rfl) T.iG) (pa_cons (pe_op op_sub (pe_fld (pv 0) rfl) pe_int) pa_nil)))))) (pss_one ps_never) pss_nil), ?_⟩
    have nM := nsF T (f := "own_many") (by decide +kernel)
    have h60 := h1.pl.n60
    refine ⟨_, rfl, _, rfl, p, _, dx, fs, _, rfl, h1.ins, T.cs, nM, h1.f.many, _, _, rfl, rfl, _, _, _, rfl, .int i, _, rfl, ?_⟩
    unfold IsPt at hi
    rw [isW_int (by decide) (by omega), decide_eq_true hi.1, decide_eq_true (by omega)]
    exact q
theorem scLine : FnScope ["system", "line"] ["system", "line"] (defScope sReqLine) := ⟨rfl, rfl, rfl, by decide +kernel, rfl, by decide +kernel, by decide +kernel⟩
theorem c_line (T : Fx K mg) : Cal P w K mg base 3 "require_line" (spLine K) [] := by
  refine mkCal T 17 rfl (by decide +kernel) scLine (fun vs H Q E h => ?_) (fun _ _ _ _ _ _ us hl => match us, hl with | [_, _], _ => rfl) fun cdv A outer s H vs Q E hr h => ?_
  · obtain ⟨p, i, n, d, a, rfl, _⟩ := h
    rfl
  · obtain ⟨p, i, n, d, a, rfl, ⟨dx, fs, dm, al, ky, rg, nw, wd, h1⟩, hi, hi2, q⟩ := h
    refine ⟨_, pss_one (ps_if (pt_not (pt_val (pe_c (c_is_within T) hr (by decide) (by rfl) (pa_cons (pv 1) (pa_cons pe_int (pa_cons (pe_op op_sub (pe_fld (pv 0) rfl) pe_int) pa_nil)))))) (pss_one ps_never) pss_nil), ?_⟩
    have nM := nsF T (f := "own_many") (by decide +kernel)
    have h60 := h1.pl.n60
    refine ⟨_, rfl, _, rfl, p, _, dx, fs, _, rfl, h1.ins, T.cs, nM, h1.f.many, _, _, rfl, rfl, _, _, _, rfl, .int i, _, rfl, ?_⟩
    rw [isW_int (by decide) (by omega), decide_eq_true hi, decide_eq_true (by omega)]
    exact q
end
end K43

/-! The rows of least differences. -/
namespace K43
open PySem PySem.Spec PyProof.Rows L2
open C8 (Cal Met Mak pe_c pe_mk pe_mt pe_mt0 pe_gc InsC call_isC)

theorem ways_len {K : PySem.W.Frag} {H : Hp} {r : Addr} {D : List Dem} {a : Int} {n : Nat} (h : WaysR K H r D [a]) (hF : Feas D) (hD : ∀ e ∈ D, Betw n e) (hC : Conn n D) (ha : IsPt n a) :
    ∃ (dx d1 : Addr) (fs : List (Str × V)) (kl : List (Key × V)), H r = some (.ins (CW K) dx fs) ∧ fs.lookup ("way_lengths" : Str) = some (V.ref d1) ∧ H d1 = some (.dK kl) ∧ ∀ p, IsPt n p → ∃ x, valV kl (.inl p) = some (V.int x) ∧ MinD D a p x := by
  obtain ⟨dx, d1, fs, kl, ring, s, h1, h2, h3, h4, h5, h6⟩ := h
  rcases h6 with ⟨_, k, lt, R, hg⟩ | ⟨_, hn⟩
  · refine ⟨dx, d1, fs, kl, h1, h2, h3, fun p hp => ?_⟩
    obtain ⟨x, hx, hm⟩ := Runs.min hD hC ha R hg p hp
    exact ⟨x, by rw [h4 p, hx] <;> rfl, hm⟩
  · exact (hn hF).elim
theorem ints_of : ∀ {ys : List V} {p : Nat → Int → Prop}, (∀ (j : Nat) y, ys[j]? = some y → ∃ x, y = V.int x ∧ p j x) → ∃ l : List Int, ys = l.map V.int ∧ ∀ (j : Nat) x, l[j]? = some x → p j x
  | [], p, _ => ⟨[], rfl, fun j x h => by simp at h⟩
  | y :: ys, p, h => by
    obtain ⟨x, rfl, hx⟩ := h 0 y rfl
    obtain ⟨l, h1, h2⟩ := ints_of (ys := ys) (p := fun j x => p (j + 1) x) fun j z hz => h (j + 1) z (by simpa using hz)
    refine ⟨x :: l, by rw [h1] <;> rfl, fun j z hz => ?_⟩
    cases j with
    | zero => simp at hz; subst hz; exact hx
    | succ j => exact h2 j z (by simpa using hz)
theorem pts_len' (n : Nat) : (ptsV n).length = n + 1 := by
  unfold ptsV
  rw [List.length_cons, List.length_map, List.length_range]
theorem pts_get {n i : Nat} {x : V} (h : (ptsV n)[i]? = some x) : i < n + 1 ∧ x = V.int ((i : Int) - 1) := by
  have hi : i < n + 1 := by
    have := (List.getElem?_eq_some_iff.mp h).1
    rw [pts_len'] at this
    exact this
  refine ⟨hi, ?_⟩
  unfold ptsV at h
  cases i with
  | zero => simp at h; rw [← h]; rfl
  | succ i =>
    rw [List.getElem?_cons_succ, List.getElem?_map, List.getElem?_range (by omega)] at h
    cases h
    have e : ((i + 1 : Nat) : Int) - 1 = (i : Int) := by omega
    rw [e]
theorem dget {H : Hp} {d : Addr} {kl : List (Key × V)} {p : Int} {v : V} (h : H d = some (.dK kl)) (e : valV kl (.inl p) = some v) : DGet H d (.int p) (some v) := by
  have := DGet.k (k := Sum.inl p) h
  rw [e] at this
  exact this
/-- a tuple of rows -/
def RowsAt (H : Hp) (p : Addr) (M : List (List Int)) : Prop := ∃ rms : List (Addr × List Int), H p = some (.tup (rms.map fun x => V.ref x.1)) ∧ (∀ x ∈ rms, H x.1 = some (.tup (x.2.map V.int))) ∧ rms.map (·.2) = M
theorem RowsAt.same {H H' : Hp} {p : Addr} {M : List (List Int)} (s : Same H H') (h : RowsAt H p M) : RowsAt H' p M := by
  obtain ⟨rms, h1, h2, h3⟩ := h
  exact ⟨rms, s _ _ h1, fun x hx => s _ _ (h2 x hx), h3⟩
theorem dp_rows {K : PySem.W.Frag} {H : Hp} : ∀ {rms : List (Addr × List Int)}, (∀ x ∈ rms, H x.1 = some (.tup (x.2.map V.int))) → DpAll K H (rms.map fun x => V.ref x.1) ((rms.map (·.2)).map fun r => .tuple (dI r))
  | [], _ => .nil
  | x :: rms, h => .cons (.tup (SqT.of (h x (List.mem_cons_self ..))) (dp_ints _)) (dp_rows fun y hy => h y (List.mem_cons_of_mem _ hy))
theorem Same.bar {H H' H0 : Hp} {x dx : Addr} {o : HO} (nx : H x = none) (ndx : H dx = none) (b : Bar x (L2.upd (L2.upd H dx (.own x)) x o) H') : Same H H' := fun c u e => by
  have n1 : c ≠ x := ne_of_none e nx
  exact b c u (by rw [upd_ne n1, upd_ne (ne_of_none e ndx)]; exact e) n1
def spLengths (K : PySem.W.Frag) : Sp := fun vs H Q _ => ∃ (p : Addr) (n : Nat) (d a : List Dem), vs = [.ref p] ∧ SysAt K H p n d a ∧ ∀ H' q M, Same H H' → IsMat n a M → RowsAt H' q M → Q (.ref q) H'
section
variable {P : Program} {w : World} {K : PySem.W.Frag} {mg : Str → Option Value} {base : Heap}
theorem scLengths : FnScope ["system", "rows", "start", "lengths", "point"] ["system"] (defScope sLengths) := ⟨rfl, rfl, rfl, by decide +kernel, rfl, by decide +kernel, by decide +kernel⟩
theorem c_lengths (T : Fx K mg) : Cal P w K mg base 4 "lengths_in" (spLengths K) [] := by
  refine mkCal T 18 rfl (by decide +kernel) scLengths (fun vs H Q E h => ?_) (fun _ _ _ _ _ _ us hl => match us, hl with | [_], _ => rfl) fun cdv A outer s H vs Q E hr h => ?_
  · obtain ⟨p, n, d, a, rfl, _⟩ := h
    rfl
  · obtain ⟨p, n, d, a, rfl, ⟨dx, fs, dm, al, ky, rg, nw, wd, h1⟩, q⟩ := h
    have hu := hu_of hr
    have nM := nsF T (f := "own_many") (by decide +kernel)
    have nA := nsF T (f := "own_all") (by decide +kernel)
    have nR := nsF T (f := "own_ring") (by decide +kernel)
    have nL := T.nw "way_lengths" (by decide +kernel)
    have h60 := h1.pl.n60
    refine ⟨_, pss_cons (ps_set (i := 1) scLengths.nd rfl (.inl rfl) (pe_lst pa_nil))
      (pss_cons (ps_for PassesOwn.never rfl (pi_list (pe_ifExp (pt_cmpR op_isN (pe_fld (pv 0) rfl) pe_non (nomark _)) (pe_c (c_points T) hr (by decide) (by rfl) (pa_cons (pe_fld (pv 0) rfl) pa_nil)) (pe_lst pa_nil))) (pg_name (i := 2) scLengths.nd rfl (.inl rfl))
        (pss_cons (ps_set (i := 3) scLengths.nd rfl (.inr rfl) (pe_fld (pe_mk (k_ways T) hr (by decide) (by rfl) (pa_cons (pe_fld (pv 0) rfl) (pa_cons (pe_fld (pv 0) rfl) (pa_cons (pe_lst (pa_cons (pv 2) pa_nil)) pa_nil)))) rfl))
        (pss_one (ps_expr (pe_bm PySem.F.plainAttrs_list PySem.F.slot_list_append PySem.F.type_list_append mt_append (pv 1) (pa_cons (pe_callTy call_tuple_of (by rfl) (T.bl "tuple" (by decide +kernel)) (by decide +kernel) (pa_cons
          (pe_lc (own := [("point", 4)]) (g := gName 4) (tt := tYes) rfl scLengths.nd (pi_list (pe_c (c_points T) hr (by decide) (by rfl) (pa_cons (pe_fld (pv 0) rfl) pa_nil)))
          (blkOk_by (own := [("point", 4)]) (N := ["system", "rows", "start", "lengths", "point"]) (sc := defScope sLengths) (by decide +kernel)) (fun _ _ _ _ _ => pg_name (i := 4) scLengths.nd rfl (Or.inl rfl)) (fun _ _ _ _ _ => pts_nil)
          (fun _ _ _ _ _ => pe_dget hu (pv 3) (pv 4) (fun _ _ => rfl))) pa_nil)) pa_nil))))))
      (pss_one (ps_ret (pe_callTy call_tuple_of (by rfl) (T.bl "tuple" (by decide +kernel)) (by decide +kernel) (pa_cons (pv 1) pa_nil))))), ?_⟩
    refine ⟨Nat.zero_le _, fun R nR' => ⟨_, rfl, p, _, dx, _, _, rfl, (sm_new nR') _ _ h1.ins, T.cs, nR, h1.f.ring, rfl, _, rfl, ?_⟩⟩
    have s1 : Same H (upd H R (.lst [])) := sm_new nR'
    rcases h1.hr with ⟨hF, rfl, _, _⟩ | ⟨hF, q0, rfl⟩
    · refine iteT ⟨_, rfl, p, _, dx, _, _, rfl, s1 _ _ h1.ins, T.cs, nM, h1.f.many, n, rfl, h60, fun H2 b s2 nb hb => ?_⟩
      refine ⟨b, rfl, ⟨_, SqL.of hb⟩, ?_⟩
      have nRb : R ≠ b := ne_of_none upd_same nb
      refine for_list (xs := ptsV n) (fun i σ H' => Same H H' ∧ H' b = some (.lst (ptsV n)) ∧ ∃ (rms : List (Addr × List Int)) (t2 t3 t4 : Option V), σ = [some (.ref p), some (.ref R), t2, t3, t4] ∧ H' R = some (.lst (rms.map fun x => V.ref x.1)) ∧ rms.length = i ∧
        (∀ x ∈ rms, H' x.1 = some (.tup (x.2.map V.int))) ∧ ∀ (j : Nat) x, rms[j]? = some x → x.2.length = n + 1 ∧ ∀ (k : Nat) z, x.2[k]? = some z → MinD a ((j : Int) - 1) ((k : Int) - 1) z) ⟨s1.trans s2, hb, [], none, none, none, rfl, s2 _ _ upd_same, rfl, fun x hx => (by cases hx), fun j x hx => (by simp at hx)⟩ (fun i σ H' _ I => SqL.of I.2.1) (fun i x σ H' hx I => ?_) (fun σ H' I => ?_)
      · obtain ⟨s3, hb3, rms, t2, t3, t4, rfl, hR, hlen, hrow, hmin⟩ := I
        obtain ⟨hi, rfl⟩ := pts_get hx
        have h3 := h1.same s3
        refine ⟨_, rfl, p, _, dx, _, _, rfl, h3.ins, T.cs, nM, h1.f.many, _, rfl, p, _, dx, _, _, rfl, h3.ins, T.cs, nA, h1.f.all, _, rfl, by show 1 ≤ sizeLine; decide, fun st nst => ?_⟩
        intro x dx' nx ndx nex
        have s4 := sm_new (o := .lst [.int ((i : Int) - 1)]) nst
        have nxst : st ≠ x := ne_of_none upd_same nx
        have s5 : Same H' (upd (upd (upd H' st (.lst [.int ((i : Int) - 1)])) dx' (.own x)) x (.ins (CW K) dx' [])) := same_upd (same_upd s4 (s4.free ndx)) (s4.free nx)
        have s45 : Same (upd H' st (.lst [.int ((i : Int) - 1)])) (upd (upd (upd H' st (.lst [.int ((i : Int) - 1)])) dx' (.own x)) x (.ins (CW K) dx' [])) := same_upd (same_upd (fun _ _ h => h) ndx) nx
        have hpt : IsPt n ((i : Int) - 1) := by unfold IsPt; omega
        refine ⟨x, dx', al, st, n, a, [(i : Int) - 1], rfl, upd_same, .inl (h3.ha.same s5), h1.pl.al, h1.pl.betw, s45 _ _ upd_same, fun z hz => (by cases List.mem_singleton.mp hz; exact hpt), by show 1 ≤ 100; decide, h60, fun H4 bar W => ⟨rfl, ?_⟩⟩
        obtain ⟨wdx, d1, wfs, kl, w1, w2, w3, w4⟩ := ways_len W hF h1.pl.betw h1.pl.conn hpt
        have s6 : Same H' H4 := s4.trans (Same.bar (H0 := H) nx ndx bar)
        refine ⟨x, _, wdx, _, _, rfl, w1, T.cw, nL, w2, ?_⟩
        have h4 := h3.same s6
        refine ⟨_, rfl, .inl ⟨rfl, _, SqL.of (s6 _ _ hR)⟩, _, rfl, p, _, dx, _, _, rfl, h4.ins, T.cs, nM, h1.f.many, n, rfl, h60, fun H5 b5 s7 nb5 hb5 => ⟨b5, rfl, ⟨_, SqL.of hb5⟩, fun D nD => ?_⟩⟩
        refine lcL (K := K) (fun H6 => Same H5 H6) (fun j y _ => ∃ x, y = V.int x ∧ MinD a ((i : Int) - 1) ((j : Int) - 1) x) (sm_new nD) (fun H' l s => same_upd s nD) (fun _ _ _ _ _ _ h => h) (a := b5) (xs := ptsV n) (by rw [pts_len']; omega) (fun H6 s8 => SqL.of (s8 _ _ hb5)) (fun j y H6 l Fin No hy s8 hD fin => ?_) (fun H6 ys s8 hD hy hall => ?_)
        · obtain ⟨hj, rfl⟩ := pts_get hy
          obtain ⟨z, hz, hm⟩ := w4 ((j : Int) - 1) (by unfold IsPt; omega)
          refine ⟨rfl, _, rfl, _, rfl, d1, _, rfl, dget (s8 _ _ (s7 _ _ w3)) hz, ?_⟩
          exact fin _ _ s8 hD (fun _ _ h => h) ⟨z, rfl, hm⟩
        · obtain ⟨row, e1, e2⟩ := ints_of hall
          subst e1
          refine ⟨D, _, rfl, .inl ⟨SqL.of hD, fun t nt => ?_⟩⟩
          have s9 : Same H' H6 := (s6.trans s7).trans s8
          have hR6 := s9 _ _ hR
          have ntR : R ≠ t := ne_of_none hR6 nt
          refine ⟨R, _, _, rfl, rfl, (by rw [upd_ne ntR]; exact hR6), by rw [List.length_map, hlen]; exact sz (by omega), ?_⟩
          have keep : ∀ c u, H' c = some u → c ≠ R → (upd (upd H6 t (.tup (row.map V.int))) R (.lst ((rms.map fun x => V.ref x.1) ++ [.ref t]))) c = some u := fun c u e ne => by
            rw [upd_ne ne, upd_ne (ne_of_none (s9 _ _ e) nt)]
            exact s9 _ _ e
          have nbR : b ≠ R := nRb.symm
          refine ⟨fun c u e => keep c u (s3 _ _ e) (ne_of_none e nR'), keep b _ hb3 nbR, rms ++ [(t, row)], _, _, _, rfl, ?_, by rw [List.length_append, hlen] <;> rfl, fun y hy2 => ?_, fun j y hy2 => ?_⟩
          · rw [upd_same, List.map_append] <;> rfl
          · rcases List.mem_append.mp hy2 with hy2 | hy2
            · have := hrow y hy2
              exact keep _ _ this (ne_of this hR (by intro q; cases q))
            · cases List.mem_singleton.mp hy2
              rw [upd_ne ntR.symm]
              exact upd_same
          · rcases Nat.lt_or_ge j rms.length with c | c
            · rw [List.getElem?_append_left c] at hy2
              exact hmin j y hy2
            · rw [List.getElem?_append_right c] at hy2
              have ej : j = i := by
                cases q2 : j - rms.length with
                | zero => omega
                | succ m => rw [q2] at hy2; simp at hy2
              subst ej
              rw [hlen, Nat.sub_self] at hy2
              cases hy2
              rw [List.length_map, pts_len'] at hy
              exact ⟨hy, e2⟩
      · obtain ⟨s3, hb3, rms, t2, t3, t4, rfl, hR, hlen, hrow, hmin⟩ := I
        refine ⟨_, rfl, R, _, rfl, .inl ⟨SqL.of hR, fun t nt => ?_⟩⟩
        refine q _ t (rms.map (·.2)) (sm_then s3 nt) (.inr ⟨hF, by rw [List.length_map, hlen, pts_len'], fun j r hj => ?_⟩) ⟨rms, upd_same, fun x hx => (sm_new nt) _ _ (hrow x hx), rfl⟩
        rw [List.getElem?_map] at hj
        obtain ⟨x, hx, rfl⟩ := Option.map_eq_some_iff.mp hj
        exact hmin j x hx
    · refine iteF ⟨Nat.zero_le _, fun b nb => ⟨b, rfl, ⟨_, SqL.of upd_same⟩, ?_⟩⟩
      refine for_list (xs := []) (fun i σ H' => σ = [some (.ref p), some (.ref R), none, none, none] ∧ Same (upd H R (.lst [])) H' ∧ H' b = some (.lst [])) ⟨rfl, sm_new nb, upd_same⟩ (fun i σ H' _ I => SqL.of I.2.2) (fun i x σ H' hx I => by simp at hx) (fun σ H' I => ?_)
      obtain ⟨rfl, s3, _⟩ := I
      refine ⟨_, rfl, R, [], rfl, .inl ⟨SqL.of (s3 _ _ upd_same), fun t nt => ?_⟩⟩
      exact q _ t [] (sm_then (s1.trans s3) nt) (.inl ⟨hF, rfl⟩) ⟨[], upd_same, fun x hx => (by cases hx), rfl⟩
end
end K43

/-! System's methods that ask. -/
namespace K43
open PySem PySem.Spec PyProof.Rows L2
open C8 (Cal Met Mak pe_c pe_mk pe_mt pe_mt0 pe_gc InsC call_isC)

theorem bools_of : ∀ {ys : List V} {p : Nat → Bool → Prop}, (∀ (j : Nat) y, ys[j]? = some y → ∃ x, y = V.bl x ∧ p j x) → ∃ l : List Bool, ys = l.map V.bl ∧ ∀ (j : Nat) x, l[j]? = some x → p j x
  | [], p, _ => ⟨[], rfl, fun j x h => by simp at h⟩
  | y :: ys, p, h => by
    obtain ⟨x, rfl, hx⟩ := h 0 y rfl
    obtain ⟨l, h1, h2⟩ := bools_of (ys := ys) (p := fun j x => p (j + 1) x) fun j z hz => h (j + 1) z (by simpa using hz)
    refine ⟨x :: l, by rw [h1] <;> rfl, fun j z hz => ?_⟩
    cases j with
    | zero => simp at hz; subst hz; exact hx
    | succ j => exact h2 j z (by simpa using hz)
def metB (cs : List Int) (a : List Dem) : Bool := a.all fun e => decide (colF cs e.2.1 + e.2.2 ≤ colF cs e.1)
theorem metB_iff {cs : List Int} {a : List Dem} : metB cs a = true ↔ Meets (colF cs) a := by
  unfold metB Meets
  rw [List.all_eq_true]
  simp only [decide_eq_true_eq]
theorem all_map {α : Type} {f : α → Bool} : ∀ {bs : List Bool} {a : List α}, bs.length = a.length → (∀ (j : Nat) b, bs[j]? = some b → ∀ e, a[j]? = some e → b = f e) → bs.all id = a.all f
  | [], [], _, _ => rfl
  | [], _ :: _, h, _ => by simp at h
  | _ :: _, [], h, _ => by simp at h
  | b :: bs, e :: a, h, hj => by
    rw [List.all_cons, List.all_cons, all_map (f := f) (bs := bs) (a := a) (by simpa using h) fun j b' hb e' he => hj (j + 1) b' (by simpa using hb) e' (by simpa using he), hj 0 b rfl e rfl]
    rfl
def spReqCols (K : PySem.W.Frag) : Sp := fun vs H Q _ => ∃ (p : Addr) (n : Nat) (d a : List Dem), vs = [.ref p] ∧ SysAt K H p n d a ∧ Feas a ∧ Q .non H
def spForced (K : PySem.W.Frag) : Sp := fun vs H Q _ => ∃ (p : Addr) (n : Nat) (d a : List Dem) (u l : Int), vs = [.ref p, .int u, .int l] ∧ SysAt K H p n d a ∧ Feas a ∧ IsPt n u ∧ IsPt n l ∧ ∀ H' x, Same H H' → MinD a l u x → Q (.int x) H'
def spRange (K : PySem.W.Frag) : Sp := fun vs H Q _ => ∃ (p : Addr) (n : Nat) (d a : List Dem) (i : Int), vs = [.ref p, .int i] ∧ SysAt K H p n d a ∧ Feas a ∧ 0 ≤ i ∧ i < n ∧ ∀ H' t lo hi, Same H H' → H' t = some (.tup [.int lo, .int hi]) → MinD a (-1) i lo → MaxD a (-1) i hi → Q (.ref t) H'
def spIsMet (K : PySem.W.Frag) : Sp := fun vs H Q _ => ∃ (p c : Addr) (n : Nat) (d a : List Dem) (cs : List Int), vs = [.ref p, .ref c] ∧ SysAt K H p n d a ∧ H c = some (.tup (cs.map V.int)) ∧ cs.length = n ∧ (∀ x ∈ cs, 0 ≤ x ∧ x ≤ 199) ∧ ∀ H', Same H H' → Q (.bl (metB cs a)) H'
def spImplies (K : PySem.W.Frag) : Sp := fun vs H Q _ => ∃ (p : Addr) (n : Nat) (d a : List Dem) (v : V), vs = [.ref p, v] ∧ SysAt K H p n d a ∧
  ((BetV H v n false ∧ ∀ H', Same H H' → Q (.bl false) H') ∨ ∃ e, IsD3 H v e ∧ Ok n e ∧ ∀ H' r, Same H H' → (r = true ↔ Impl a e) → Q (.bl r) H')
def spAlike (K : PySem.W.Frag) : Sp := fun vs H Q _ => ∃ (p : Addr) (n : Nat) (d a : List Dem) (v : V), vs = [.ref p, v] ∧ SysAt K H p n d a ∧
  ((v = .non ∧ Q (.bl false) H) ∨ ∃ q d' a', v = .ref q ∧ SysAt K H q n d' a' ∧ ∀ H' r, Same H H' → (r = true ↔ Alike a a') → Q (.bl r) H')
def spEq (K : PySem.W.Frag) : Sp := fun vs H Q _ => ∃ (p q : Addr) (n : Nat) (d a d' a' : List Dem), vs = [.ref p, .ref q] ∧ SysAt K H p n d a ∧ SysAt K H q n d' a' ∧ Q (.bl (decide (a = a'))) H
section
variable {P : Program} {w : World} {K : PySem.W.Frag} {mg : Str → Option Value} {base : Heap}
theorem scReqCols : FnScope ["self"] ["self"] (defScope sReqCols) := ⟨rfl, rfl, rfl, by decide +kernel, rfl, by decide +kernel, by decide +kernel⟩
theorem m_req_cols (T : Fx K mg) : Met P w K mg base 1 (CS K) "require_columns" (spReqCols K) [] := by
  refine mkMet T 20 rfl T.cs (T.es _ (by decide +kernel)) scReqCols (fun vs H Q E h => ?_) (fun _ _ _ _ _ _ us hl => match us, hl with | [_], _ => rfl) fun cdv A outer s H vs Q E hr h => ?_
  · obtain ⟨p, n, d, a, rfl, _⟩ := h
    rfl
  · obtain ⟨p, n, d, a, rfl, ⟨dx, fs, dm, al, ky, rg, nw, wd, h1⟩, hF, q⟩ := h
    have nR := nsF T (f := "own_ring") (by decide +kernel)
    refine ⟨_, pss_one (ps_if (pt_cmpR op_notN (pe_fld (pv 0) rfl) pe_non (nomark _)) (pss_one ps_never) pss_nil), ?_⟩
    refine ⟨_, rfl, p, _, dx, _, _, rfl, h1.ins, T.cs, nR, h1.f.ring, rfl, _, rfl, ?_⟩
    rcases h1.hr with ⟨_, rfl, _⟩ | ⟨hn, _⟩
    · exact q
    · exact (hn hF).elim
theorem scForced : FnScope ["self", "upper", "lower"] ["self", "upper", "lower"] (defScope sForced) := ⟨rfl, rfl, rfl, by decide +kernel, rfl, by decide +kernel, by decide +kernel⟩
theorem m_forced (T : Fx K mg) : Met P w K mg base 4 (CS K) "forced" (spForced K) [] := by
  refine mkMet T 21 rfl T.cs (T.es _ (by decide +kernel)) scForced (fun vs H Q E h => ?_) (fun _ _ _ _ _ _ us hl => match us, hl with | [_, _, _], _ => rfl) fun cdv A outer s H vs Q E hr h => ?_
  · obtain ⟨p, n, d, a, u, l, rfl, _⟩ := h
    rfl
  · obtain ⟨p, n, d, a, u, l, rfl, hs, hF, hu1, hl1, q⟩ := h
    obtain ⟨dx, fs, dm, al, ky, rg, nw, wd, h1⟩ := id hs
    have hu := hu_of hr
    have nM := nsF T (f := "own_many") (by decide +kernel)
    have nA := nsF T (f := "own_all") (by decide +kernel)
    have nL := T.nw "way_lengths" (by decide +kernel)
    refine ⟨_, pss_cons (ps_expr (pe_c (c_point T) hr (by decide) (by rfl) (pa_cons (pv 0) (pa_cons (pv 1) pa_nil))))
      (pss_cons (ps_expr (pe_c (c_point T) hr (by decide) (by rfl) (pa_cons (pv 0) (pa_cons (pv 2) pa_nil))))
      (pss_cons (ps_expr (pe_mt0 (m_req_cols T) hr (by decide) (pv 0)))
      (pss_one (ps_ret (pe_dget hu (pe_fld (pe_mk (k_ways T) hr (by decide) (by rfl) (pa_cons (pe_fld (pv 0) rfl) (pa_cons (pe_fld (pv 0) rfl) (pa_cons (pe_lst (pa_cons (pv 2) pa_nil)) pa_nil)))) rfl) (pv 1) (fun _ _ => rfl)))))), ?_⟩
    refine ⟨_, rfl, _, rfl, p, u, n, d, a, rfl, hs, hu1, _, rfl, _, rfl, p, l, n, d, a, rfl, hs, hl1, _, rfl, p, dx, fs, rfl, h1.ins, h1.f.no _ (by decide +kernel), p, n, d, a, rfl, hs, hF, ?_⟩
    refine ⟨_, rfl, p, _, dx, _, _, rfl, h1.ins, T.cs, nM, h1.f.many, _, rfl, p, _, dx, _, _, rfl, h1.ins, T.cs, nA, h1.f.all, _, rfl, by show 1 ≤ sizeLine; decide, fun st nst => ?_⟩
    intro x dx' nx ndx nex
    have s4 := sm_new (o := .lst [.int l]) nst
    have s45 : Same (upd H st (.lst [.int l])) (upd (upd (upd H st (.lst [.int l])) dx' (.own x)) x (.ins (CW K) dx' [])) := same_upd (same_upd (fun _ _ h => h) ndx) nx
    refine ⟨x, dx', al, st, n, a, [l], rfl, upd_same, .inl (h1.ha.same (s4.trans s45)), h1.pl.al, h1.pl.betw, s45 _ _ upd_same, fun z hz => (by cases List.mem_singleton.mp hz; exact hl1), by show 1 ≤ 100; decide, h1.pl.n60, fun H4 bar W => ⟨rfl, ?_⟩⟩
    obtain ⟨wdx, d1, wfs, kl, w1, w2, w3, w4⟩ := ways_len W hF h1.pl.betw h1.pl.conn hl1
    have s6 : Same H H4 := s4.trans (Same.bar (H0 := H) nx ndx bar)
    obtain ⟨z, hz, hm⟩ := w4 u hu1
    exact ⟨x, _, wdx, _, _, rfl, w1, T.cw, nL, w2, _, rfl, d1, _, rfl, dget w3 hz, q _ z s6 hm⟩
theorem scRange : FnScope ["self", "line"] ["self", "line"] (defScope sRange) := ⟨rfl, rfl, rfl, by decide +kernel, rfl, by decide +kernel, by decide +kernel⟩
theorem row_get {H : Hp} {v : V} {n : Nat} {p : Nat → Int → Prop} (h : RowP H v n p) {i : Nat} (hi : i < n) : ∃ a l x, v = .ref a ∧ H a = some (.tup l) ∧ atI l (i : Int) = some (V.int x) ∧ p i x := by
  obtain ⟨a, l, h1, h2, h3, h4⟩ := h
  have h5 : l[i]? = some l[i] := List.getElem?_eq_getElem (by omega)
  exact ⟨a, _, l[i], h1, h2, atI_nat (by rw [List.getElem?_map, h5] <;> rfl), h4 i _ h5⟩
theorem m_range (T : Fx K mg) : Met P w K mg base 4 (CS K) "range_of" (spRange K) [] := by
  refine mkMet T 22 rfl T.cs (T.es _ (by decide +kernel)) scRange (fun vs H Q E h => ?_) (fun _ _ _ _ _ _ us hl => match us, hl with | [_, _], _ => rfl) fun cdv A outer s H vs Q E hr h => ?_
  · obtain ⟨p, n, d, a, i, rfl, _⟩ := h
    rfl
  · obtain ⟨p, n, d, a, i, rfl, hs, hF, h0, h2, q⟩ := h
    obtain ⟨dx, fs, dm, al, ky, rg, nw, wd, h1⟩ := id hs
    have nN := nsF T (f := "own_narrowest") (by decide +kernel)
    have nW := nsF T (f := "own_widest") (by decide +kernel)
    refine ⟨_, pss_cons (ps_expr (pe_c (c_line T) hr (by decide) (by rfl) (pa_cons (pv 0) (pa_cons (pv 1) pa_nil))))
      (pss_cons (ps_expr (pe_mt0 (m_req_cols T) hr (by decide) (pv 0)))
      (pss_one (ps_ret (pe_tup (pa_cons (pe_ix ix_tup (pe_fld (pv 0) rfl) (pv 1) (fun _ _ => rfl)) (pa_cons (pe_ix ix_tup (pe_fld (pv 0) rfl) (pv 1) (fun _ _ => rfl)) pa_nil)))))), ?_⟩
    refine ⟨_, rfl, _, rfl, p, i, n, d, a, rfl, hs, h0, h2, _, rfl, p, dx, fs, rfl, h1.ins, h1.f.no _ (by decide +kernel), p, n, d, a, rfl, hs, hF, ?_⟩
    rcases h1.hr with ⟨_, rfl, hN, hW⟩ | ⟨hn, _⟩
    · obtain ⟨j, rfl⟩ : ∃ j : Nat, i = j := ⟨i.toNat, by omega⟩
      obtain ⟨a1, l1, lo, e1, k1, g1, m1⟩ := row_get hN (i := j) (by omega)
      obtain ⟨a2, l2, hi, e2, k2, g2, m2⟩ := row_get hW (i := j) (by omega)
      exact ⟨_, rfl, p, _, dx, _, _, rfl, h1.ins, T.cs, nN, h1.f.nar, _, rfl, a1, _, _, _, e1, rfl, SqT.of k1, g1, _, rfl, p, _, dx, _, _, rfl, h1.ins, T.cs, nW, h1.f.wid, _, rfl, a2, _, _, _, e2, rfl, SqT.of k2, g2, by show 2 ≤ sizeLine; decide,
        fun t nt => q _ t lo hi (sm_new nt) upd_same m1 m2⟩
    · exact (hn hF).elim
end
end K43

/-! System's methods that ask, further. -/
namespace K43
open PySem PySem.Spec PyProof.Rows L2
open C8 (Cal Met Mak pe_c pe_mk pe_mt pe_mt0 pe_gc InsC call_isC)

section
variable {P : Program} {w : World} {K : PySem.W.Frag} {mg : Str → Option Value} {base : Heap}
theorem scMet : FnScope ["self", "columns", "demand"] ["self", "columns"] (defScope sMet) := ⟨rfl, rfl, rfl, by decide +kernel, rfl, by decide +kernel, by decide +kernel⟩
theorem m_is_met (T : Fx K mg) : Met P w K mg base 6 (CS K) "is_met" (spIsMet K) [] := by
  refine mkMet T 23 rfl T.cs (T.es _ (by decide +kernel)) scMet (fun vs H Q E h => ?_) (fun _ _ _ _ _ _ us hl => match us, hl with | [_, _], _ => rfl) fun cdv A outer s H vs Q E hr h => ?_
  · obtain ⟨p, c, n, d, a, cs, rfl, _⟩ := h
    rfl
  · obtain ⟨p, c, n, d, a, cs, rfl, hs, hc, hl, hv, q⟩ := h
    obtain ⟨dx, fs, dm, al, ky, rg, nw, wd, h1⟩ := id hs
    have nM := nsF T (f := "own_many") (by decide +kernel)
    have nA := nsF T (f := "own_all") (by decide +kernel)
    obtain ⟨ks, ha, ht, hk⟩ := h1.ha
    have hkl : ks.length = a.length := by rw [← hk, List.length_map]
    have h1al := h1.pl.al
    refine ⟨_, pss_cons (ps_expr (pe_c (c_req_columns T) hr (by decide) (by rfl) (pa_cons (pv 1) (pa_cons (pe_fld (pv 0) rfl) pa_nil))))
      (pss_one (ps_ret (pe_callB (cr_all rfl) (by rfl) (T.bl "all" (by decide +kernel)) (by decide +kernel) (pa_cons (pe_lc (own := [("demand", 2)]) (g := gName 2) (tt := tYes) rfl scMet.nd (pi_tup (pe_fld (pv 0) rfl))
          (blkOk_by (own := [("demand", 2)]) (N := ["self", "columns", "demand"]) (sc := defScope sMet) (by decide +kernel)) (fun _ _ _ _ _ => pg_name (i := 2) scMet.nd rfl (Or.inl rfl)) (fun _ _ _ _ _ => pts_nil)
          (fun _ _ _ _ _ => pe_c (c_is_met T) hr (by decide) (by rfl) (pa_cons (pv 2) (pa_cons (pv 1) pa_nil)))) pa_nil)))), ?_⟩
    refine ⟨_, rfl, _, rfl, p, _, dx, _, _, rfl, h1.ins, T.cs, nM, h1.f.many, c, cs, n, rfl, hc, hl, h1.pl.n60, hv, fun H2 s2 => ?_⟩
    have h2 := h1.same s2
    refine ⟨_, rfl, p, _, dx, _, _, rfl, h2.ins, T.cs, nA, h2.f.all, al, rfl, ⟨_, SqT.of (s2 _ _ ha)⟩, fun D nD => ?_⟩
    refine lcT (fun H6 => Same H2 H6) (fun j y _ => ∃ b, y = V.bl b ∧ ∀ e, a[j]? = some e → b = decide (colF cs e.2.1 + e.2.2 ≤ colF cs e.1)) (sm_new nD) (fun H' l s => same_upd s nD) (fun _ _ _ _ _ _ h => h) (a := al) (xs := refs ks) (by rw [refs_len]; omega) (fun H6 s8 => SqT.of (s8 _ _ (s2 _ _ ha))) (fun j y H6 l Fin No hy s8 hD fin => ?_) (fun H6 ys s8 hD hy hall => ?_)
    · obtain ⟨pe, hp, rfl⟩ := refs_get hy
      have hm := List.mem_of_getElem? hp
      have hpa : a[j]? = some pe.2 := by rw [← hk, List.getElem?_map, hp] <;> rfl
      refine ⟨rfl, _, rfl, _, rfl, _, pe.2, c, cs, rfl, ⟨pe.1, rfl, s8 _ _ (s2 _ _ (ht pe hm))⟩, s8 _ _ (s2 _ _ hc), ?_, ?_⟩
      · rw [hl]
        exact h1.pl.betw _ (List.mem_of_getElem? hpa)
      · refine fin _ _ s8 hD (fun _ _ h => h) ⟨_, rfl, fun e he => ?_⟩
        rw [hpa] at he
        cases he
        rfl
    · obtain ⟨bs, e1, e2⟩ := bools_of hall
      subst e1
      rw [List.length_map, refs_len] at hy
      refine ⟨D, bs, rfl, SqL.of hD, ?_⟩
      rw [all_map (f := fun e => decide (colF cs e.2.1 + e.2.2 ≤ colF cs e.1)) (a := a) (by omega) e2]
      exact q _ (s2.trans s8)
theorem scImplies : FnScope ["self", "value"] ["self", "value"] (defScope sImplies) := ⟨rfl, rfl, rfl, by decide +kernel, rfl, by decide +kernel, by decide +kernel⟩
theorem m_implies (T : Fx K mg) : Met P w K mg base 5 (CS K) "implies" (spImplies K) [] := by
  refine mkMet T 26 rfl T.cs (T.es _ (by decide +kernel)) scImplies (fun vs H Q E h => ?_) (fun _ _ _ _ _ _ us hl => match us, hl with | [_, _], _ => rfl) fun cdv A outer s H vs Q E hr h => ?_
  · obtain ⟨p, n, d, a, v, rfl, _⟩ := h
    rfl
  · obtain ⟨p, n, d, a, v, rfl, hs, h⟩ := h
    obtain ⟨dx, fs, dm, al, ky, rg, nw, wd, h1⟩ := id hs
    have nM := nsF T (f := "own_many") (by decide +kernel)
    have nR := nsF T (f := "own_ring") (by decide +kernel)
    refine ⟨_, pss_cons (ps_if (pt_not (pt_val (pe_c (c_between T) hr (by decide) (by rfl) (pa_cons (pv 1) (pa_cons (pe_fld (pv 0) rfl) pa_nil))))) (pss_one (ps_ret pe_bl)) pss_nil)
      (pss_one (ps_ret (pe_or (pe_cmpR op_notN (pe_fld (pv 0) rfl) pe_non (nomark _)) (pe_one (pe_cmpR op_ge (pe_mt (m_forced T) hr (by decide) (pv 0) (pa_cons (pe_ix ix_tup (pv 1) pe_int (fun _ _ => rfl)) (pa_cons (pe_ix ix_tup (pv 1) pe_int (fun _ _ => rfl)) pa_nil))) (pe_ix ix_tup (pv 1) pe_int (fun _ _ => rfl)) (nomark _)))))), ?_⟩
    refine ⟨_, rfl, _, rfl, p, _, dx, _, _, rfl, h1.ins, T.cs, nM, h1.f.many, ?_⟩
    rcases h with ⟨hb, q⟩ | ⟨e, hv, hok, q⟩
    · exact ⟨v, n, false, rfl, hb, fun H' sm => ⟨false, rfl, q _ sm⟩⟩
    · refine ⟨v, n, true, rfl, betV_ok hv hok h1.pl.n60, fun H2 s2 => ⟨true, rfl, ?_⟩⟩
      have h2 := h1.same s2
      refine ⟨_, rfl, p, _, dx, _, _, rfl, h2.ins, T.cs, nR, h2.f.ring, rfl, ?_⟩
      obtain ⟨va, rfl, hva⟩ := hv.same s2
      obtain ⟨u, l, dd⟩ := e
      rcases h2.hr with ⟨hF, rfl, _⟩ | ⟨hF, q0, rfl⟩
      · refine ⟨_, rfl, iteF ?_⟩
        refine ⟨_, rfl, p, dx, fs, rfl, h2.ins, h2.f.no _ (by decide +kernel), _, rfl, va, _, _, _, rfl, rfl, SqT.of hva, atI_nat (j := 0) rfl, _, rfl, va, _, _, _, rfl, rfl, SqT.of hva, atI_nat (j := 1) rfl, ?_⟩
        refine ⟨p, n, d, a, u, l, rfl, hs.same s2, hF, hok.1.1, hok.1.2, fun H3 x s3 hm => ?_⟩
        refine ⟨_, rfl, va, _, _, _, rfl, rfl, SqT.of (s3 _ _ hva), atI_nat (j := 2) rfl, _, _, rfl, rfl, ?_⟩
        refine q _ _ (s2.trans s3) ?_
        rw [decide_eq_true_eq]
        exact (impl_min hm).symm
      · exact ⟨true, rfl, iteT (q _ _ s2 ⟨fun _ => impl_none hF _, fun _ => rfl⟩)⟩
theorem tyS {K : PySem.W.Frag} {mg : Str → Option Value} (T : Fx K mg) {H : Hp} {a dx : Addr} {fs : List (Str × V)} (h : H a = some (.ins (CS K) dx fs)) : TyX K H (.ref a) (.ref (CS K)) := .base (.ins h T.ic.cl T.ic.ha T.ic.hn T.ic.htk T.ic.hm)
theorem scAlike : FnScope ["self", "value"] ["self", "value"] (defScope sAlike) := ⟨rfl, rfl, rfl, by decide +kernel, rfl, by decide +kernel, by decide +kernel⟩
theorem m_alike (T : Fx K mg) : Met P w K mg base 5 (CS K) "is_alike" (spAlike K) [] := by
  refine mkMet T 27 rfl T.cs (T.es _ (by decide +kernel)) scAlike (fun vs H Q E h => ?_) (fun _ _ _ _ _ _ us hl => match us, hl with | [_, _], _ => rfl) fun cdv A outer s H vs Q E hr h => ?_
  · obtain ⟨p, n, d, a, v, rfl, _⟩ := h
    rfl
  · obtain ⟨p, n, d, a, v, rfl, hs, h⟩ := h
    obtain ⟨dx, fs, dm, al, ky, rg, nw, wd, h1⟩ := id hs
    have nM := nsF T (f := "own_many") (by decide +kernel)
    refine ⟨_, pss_cons (ps_if (PW.pt (pw_or (pt_not (pt_val (pe_callB call_isi (by rfl) (T.bl "isinstance" (by decide +kernel)) (by decide +kernel) (pa_cons (pv 1) (pa_cons (pe_gc (v := .ref (CS K)) (by rfl) ⟨_, T.gl "System" (by decide +kernel), rfl⟩) pa_nil)))))
        (pw_or1 (pt_cmpR op_ne (pe_fld (pv 1) rfl) (pe_fld (pv 0) rfl) (nomark _))))) (pss_one (ps_ret pe_bl)) pss_nil)
      (pss_one (ps_ret (pe_cmpR (op_eqD (room64 hr)) (pe_c (c_lengths T) hr (by decide) (by rfl) (pa_cons (pv 0) pa_nil)) (pe_c (c_lengths T) hr (by decide) (by rfl) (pa_cons (pv 1) pa_nil)) (nomark _)))), ?_⟩
    rcases h with ⟨rfl, q⟩ | ⟨q1, d', a', rfl, hs', q⟩
    · exact ⟨_, rfl, _, _, _, _, _, rfl, .own _, .base .non, T.kn, false, rfl, q⟩
    · obtain ⟨dx', fs', dm', al', ky', rg', nw', wd', h2⟩ := id hs'
      refine ⟨_, rfl, _, _, _, _, _, rfl, .own _, tyS T h2.ins, T.ic.me, true, rfl, ?_⟩
      refine ⟨_, rfl, _, _, dx', fs', _, rfl, h2.ins, T.cs, nM, h2.f.many, _, rfl, p, _, dx, fs, _, rfl, h1.ins, T.cs, nM, h1.f.many, rfl, _, rfl, ?_⟩
      rw [show (!decide (V.int (n : Int) = V.int (n : Int))) = false by rw [decide_eq_true rfl]; rfl]
      refine ⟨_, rfl, p, n, d, a, rfl, hs, fun H3 r1 M s3 hM hR => ?_⟩
      refine ⟨_, rfl, q1, n, d', a', rfl, hs'.same s3, fun H4 r2 M' s4 hM' hR' => ?_⟩
      obtain ⟨rms, r3, r4, rfl⟩ := hR.same s4
      obtain ⟨rms', r5, r6, rfl⟩ := hR'
      refine ⟨_, _, .tup (SqT.of r3) (dp_rows r4), .tup (SqT.of r5) (dp_rows r6), (Pl.tup (pl_rows _)).shaped (by decide), (Pl.tup (pl_rows _)).shaped (by decide), ?_⟩
      rw [eqv_tup, eqv_rows]
      refine q _ _ (s3.trans s4) ?_
      rw [decide_eq_true_eq]
      exact mat_iff hM hM' h1.pl.betw h2.pl.betw
theorem scEq : FnScope ["self", "other"] ["self", "other"] (defScope sEq) := ⟨rfl, rfl, rfl, by decide +kernel, rfl, by decide +kernel, by decide +kernel⟩
theorem m_eq (T : Fx K mg) : Met P w K mg base 1 (CS K) "__eq__" (spEq K) [] := by
  refine mkMet T 29 rfl T.cs (T.es _ (by decide +kernel)) scEq (fun vs H Q E h => ?_) (fun _ _ _ _ _ _ us hl => match us, hl with | [_, _], _ => rfl) fun cdv A outer s H vs Q E hr h => ?_
  · obtain ⟨p, q, n, d, a, d', a', rfl, _⟩ := h
    rfl
  · obtain ⟨p, q1, n, d, a, d', a', rfl, ⟨dx, fs, dm, al, ky, rg, nw, wd, h1⟩, ⟨dx', fs', dm', al', ky', rg', nw', wd', h2⟩, q⟩ := h
    have nK := nsF T (f := "own_key") (by decide +kernel)
    refine ⟨_, pss_one (ps_ret (pe_and (pe_callB call_isi (by rfl) (T.bl "isinstance" (by decide +kernel)) (by decide +kernel) (pa_cons (pv 1) (pa_cons (pe_gc (v := .ref (CS K)) (by rfl) ⟨_, T.gl "System" (by decide +kernel), rfl⟩) pa_nil)))
      (pe_one (pe_cmpR (op_eqD (room64 hr)) (pe_fld (pv 0) rfl) (pe_fld (pv 1) rfl) (nomark _))))), ?_⟩
    refine ⟨_, rfl, _, _, _, _, _, rfl, .own _, tyS T h2.ins, T.ic.me, true, rfl, iteT ?_⟩
    obtain ⟨ks, ha, ht, hk⟩ := h1.ha
    obtain ⟨ks', ha', ht', hk'⟩ := h2.ha
    refine ⟨_, rfl, p, _, dx, fs, _, rfl, h1.ins, T.cs, nK, h1.f.key, _, rfl, q1, _, dx', fs', _, rfl, h2.ins, T.cs, nK, h2.f.key, ?_⟩
    have pl : ∀ l : List Dem, ∀ d ∈ [PyData.int n, .tuple (l.map d3)], Pl 2 d := fun l d hd => by
      simp only [List.mem_cons, List.not_mem_nil, or_false] at hd
      rcases hd with rfl | rfl
      · exact (Pl.int _).mono (by decide)
      · exact .tup (pl_d3s l)
    refine ⟨_, _, .tup (SqT.of h1.hk) (.cons (.int _) (.cons (.tup (SqT.of ha) (dp_refs ht)) .nil)), .tup (SqT.of h2.hk) (.cons (.int _) (.cons (.tup (SqT.of ha') (dp_refs ht')) .nil)), (Pl.tup (pl _)).shaped (by decide), (Pl.tup (pl _)).shaped (by decide), ?_⟩
    rw [hk, hk']
    have e : (PyData.tuple [PyData.int n, .tuple (a.map d3)]).eqv (.tuple [PyData.int n, .tuple (a'.map d3)]) = decide (a = a') := by
      rw [eqv_tup, eqvAll_cons, eqvAll_cons, eqvI, eqv_tup, eqv_d3s, decide_eq_true rfl, Bool.true_and]
      show (decide (a = a') && true) = _
      rw [Bool.and_true]
    rw [e]
    exact q
end
end K43

/-! A system made: lemmas of heaps and fields. -/
namespace K43
open PySem PySem.Spec PyProof.Rows L2
open C8 (Cal Met Mak pe_c pe_mk pe_mt pe_mt0 pe_gc InsC call_isC)

theorem Bar.refl (r : Addr) (H : Hp) : Bar r H H := fun _ _ e _ => e
theorem Bar.upd {r : Addr} {H H' : Hp} {o : HO} (b : Bar r H H') : Bar r H (L2.upd H' r o) := fun c u e n => by
  rw [upd_ne n]
  exact b c u e n
theorem Bar.then {r : Addr} {H H' H2 : Hp} (b : Bar r H H') (s : Same H' H2) : Bar r H H2 := fun c u e n => s _ _ (b c u e n)
theorem Bar.trans {r : Addr} {H H' H2 : Hp} (b : Bar r H H') (s : Bar r H' H2) : Bar r H H2 := fun c u e n => s _ _ (b c u e n) n
theorem DTup.bar {r C dx : Addr} {fs : List (Str × V)} {H H' : Hp} {a : Addr} {ds : List Dem} (hr : H r = some (.ins C dx fs)) (b : Bar r H H') (h : DTup H a ds) : DTup H' a ds := by
  obtain ⟨ks, h1, h2, h3⟩ := h
  exact ⟨ks, b _ _ h1 (ne_of h1 hr (by intro q; cases q)), fun p hp => b _ _ (h2 p hp) (ne_of (h2 p hp) hr (by intro q; cases q)), h3⟩
theorem tup_bar {r C dx : Addr} {fs : List (Str × V)} {H H' : Hp} {a : Addr} {l : List V} (hr : H r = some (.ins C dx fs)) (b : Bar r H H') (h : H a = some (.tup l)) : H' a = some (.tup l) := b _ _ h (ne_of h hr (by intro q; cases q))
def ptsI (n : Nat) : List Int := -1 :: (List.range n).map fun (i : Nat) => (i : Int)
theorem ptsV_map (n : Nat) : ptsV n = (ptsI n).map V.int := by
  unfold ptsV ptsI
  rw [List.map_cons, List.map_map]
  rfl
theorem mem_ptsI {n : Nat} {p : Int} : p ∈ ptsI n ↔ IsPt n p := by
  unfold ptsI IsPt
  rw [List.mem_cons, List.mem_map]
  constructor
  · rintro (rfl | ⟨i, hi, rfl⟩)
    · omega
    · have := List.mem_range.mp hi
      omega
  · intro h
    by_cases c : p = -1
    · exact .inl c
    · exact .inr ⟨p.toNat, List.mem_range.mpr (by omega), by omega⟩
theorem ptsI_len (n : Nat) : (ptsI n).length = n + 1 := by
  unfold ptsI
  rw [List.length_cons, List.length_map, List.length_range]
theorem ways_ring {K : PySem.W.Frag} {H : Hp} {r : Addr} {D : List Dem} {S : List Int} {n : Nat} (h : WaysR K H r D S) (hS : ∀ p, IsPt n p → p ∈ S) (hD : ∀ e ∈ D, Betw n e) :
    ∃ (dx : Addr) (fs : List (Str × V)) (ring : V), H r = some (.ins (CW K) dx fs) ∧ fs.lookup ("way_ring" : Str) = some ring ∧ ((ring = .non ∧ Feas D) ∨ ((∃ p, ring = .ref p) ∧ ¬ Feas D)) := by
  obtain ⟨dx, d1, fs, kl, ring, s, h1, h2, h3, h4, h5, h6⟩ := h
  refine ⟨dx, fs, ring, h1, h5, ?_⟩
  rcases h6 with ⟨rfl, k, lt, R, hg⟩ | h6
  · refine .inl ⟨rfl, fun p => (s.L p).getD 0, fun e he => ?_⟩
    obtain ⟨_, tight, st, _⟩ := R.done hg
    obtain ⟨y, hy, _⟩ := st e.2.1 (hS _ (hD e he).2)
    obtain ⟨z, hz, hle⟩ := tight e he y hy
    show (s.L e.2.1).getD 0 + e.2.2 ≤ (s.L e.1).getD 0
    rw [hy, hz]
    exact hle
  · exact .inr h6
theorem fl {f : Str} {v : V} {fs : List (Str × V)} {k : Nat} (h : fs.length ≤ k) : (putF f v fs).length ≤ k + 1 := Nat.le_trans (putF_len f v fs) (Nat.succ_le_succ h)
theorem fl0 : ([] : List (Str × V)).length ≤ 0 := Nat.le_refl _
theorem lk_ne {f g : Str} {v : V} {fs : List (Str × V)} {o : Option V} (h : ¬ g = f) (e : fs.lookup g = o) : (putF f v fs).lookup g = o := by
  rw [lookup_putF, if_neg h]
  exact e
theorem lk_eq {f : Str} {v : V} {fs : List (Str × V)} : (putF f v fs).lookup f = some v := by
  rw [lookup_putF, if_pos rfl]
theorem meth_ne : ∀ m ∈ meths, ∀ f ∈ sfields, ¬ m = f := by decide +kernel
theorem SysF.narrow {fs : List (Str × V)} {n : Nat} {dm al ky : Addr} {rg nw wd : V} (h : SysF fs n dm al ky rg nw wd) (v : V) : SysF (putF "own_narrowest" v fs) n dm al ky rg v wd :=
  ⟨lk_ne (by decide +kernel) h.many, lk_ne (by decide +kernel) h.dem, lk_ne (by decide +kernel) h.all, lk_ne (by decide +kernel) h.key, lk_ne (by decide +kernel) h.ring, lk_eq, lk_ne (by decide +kernel) h.wid, fun m hm => lk_ne (meth_ne m hm _ (by decide +kernel)) (h.no m hm)⟩
theorem SysF.wide {fs : List (Str × V)} {n : Nat} {dm al ky : Addr} {rg nw wd : V} (h : SysF fs n dm al ky rg nw wd) (v : V) : SysF (putF "own_widest" v fs) n dm al ky rg nw v :=
  ⟨lk_ne (by decide +kernel) h.many, lk_ne (by decide +kernel) h.dem, lk_ne (by decide +kernel) h.all, lk_ne (by decide +kernel) h.key, lk_ne (by decide +kernel) h.ring, lk_ne (by decide +kernel) h.nar, lk_eq, fun m hm => lk_ne (meth_ne m hm _ (by decide +kernel)) (h.no m hm)⟩
def g1 (n : Nat) : List (Str × V) := putF "own_many" (.int n) []
def g2 (n : Nat) (dm : Addr) : List (Str × V) := putF "own_demands" (.ref dm) (g1 n)
def g3 (n : Nat) (dm al : Addr) : List (Str × V) := putF "own_all" (.ref al) (g2 n dm)
def g4 (n : Nat) (dm al ky : Addr) : List (Str × V) := putF "own_key" (.ref ky) (g3 n dm al)
def g5 (n : Nat) (dm al ky : Addr) (rg : V) : List (Str × V) := putF "own_ring" rg (g4 n dm al ky)
def g6 (n : Nat) (dm al ky : Addr) (rg nw : V) : List (Str × V) := putF "own_narrowest" nw (g5 n dm al ky rg)
def g7 (n : Nat) (dm al ky : Addr) (rg nw wd : V) : List (Str × V) := putF "own_widest" wd (g6 n dm al ky rg nw)
theorem g7_f (n : Nat) (dm al ky : Addr) (rg nw wd : V) : SysF (g7 n dm al ky rg nw wd) n dm al ky rg nw wd :=
  have ne : ∀ {f g : Str} {v : V} {fs : List (Str × V)} {o : Option V}, ¬ g = f → fs.lookup g = o → (putF f v fs).lookup g = o := fun h e => lk_ne h e
  { many := ne (by decide +kernel) (ne (by decide +kernel) (ne (by decide +kernel) (ne (by decide +kernel) (ne (by decide +kernel) (ne (by decide +kernel) lk_eq)))))
    dem := ne (by decide +kernel) (ne (by decide +kernel) (ne (by decide +kernel) (ne (by decide +kernel) (ne (by decide +kernel) lk_eq))))
    all := ne (by decide +kernel) (ne (by decide +kernel) (ne (by decide +kernel) (ne (by decide +kernel) lk_eq)))
    key := ne (by decide +kernel) (ne (by decide +kernel) (ne (by decide +kernel) lk_eq))
    ring := ne (by decide +kernel) (ne (by decide +kernel) lk_eq)
    nar := ne (by decide +kernel) lk_eq
    wid := lk_eq
    no := fun m hm => ne (meth_ne m hm _ (by decide +kernel)) (ne (meth_ne m hm _ (by decide +kernel)) (ne (meth_ne m hm _ (by decide +kernel)) (ne (meth_ne m hm _ (by decide +kernel)) (ne (meth_ne m hm _ (by decide +kernel)) (ne (meth_ne m hm _ (by decide +kernel)) (ne (meth_ne m hm _ (by decide +kernel)) rfl)))))) }
theorem g3_all (n : Nat) (dm al : Addr) : (g3 n dm al).lookup ("own_all" : Str) = some (V.ref al) := lk_eq
theorem g4_all (n : Nat) (dm al ky : Addr) : (g4 n dm al ky).lookup ("own_all" : Str) = some (V.ref al) := lk_ne (by decide +kernel) lk_eq
/-- the sorted list of a dict's keys, as demands -/
theorem uni_of {ks kb L : List (Addr × Dem)} {n : Nat} (hb : kb.map (·.2) = bnd n) (h1 : ∀ p ∈ L, p ∈ ks ++ kb) (h2 : ∀ p ∈ ks ++ kb, p.2 ∈ L.map (·.2)) : Uni n (ks.map (·.2)) (L.map (·.2)) := fun e => by
  constructor
  · intro h
    obtain ⟨p, hp, rfl⟩ := List.mem_map.mp h
    rcases List.mem_append.mp (h1 p hp) with h | h
    · exact .inl (List.mem_map.mpr ⟨p, h, rfl⟩)
    · exact .inr (by rw [← hb]; exact List.mem_map.mpr ⟨p, h, rfl⟩)
  · rintro (h | h)
    · obtain ⟨p, hp, rfl⟩ := List.mem_map.mp h
      exact h2 p (List.mem_append_left _ hp)
    · rw [← hb] at h
      obtain ⟨p, hp, rfl⟩ := List.mem_map.mp h
      exact h2 p (List.mem_append_right _ hp)
theorem bnd_len (n : Nat) : (bnd n).length = 2 * n := by
  unfold bnd
  rw [List.length_append, List.length_map, List.length_map, List.length_range]
  omega
theorem refs_app (a b : List (Addr × Dem)) : refs a ++ refs b = refs (a ++ b) := by
  unfold refs
  rw [List.map_append]
def spSys (K : PySem.W.Frag) : Sp := fun vs H Q _ => ∃ (r dx dm : Addr) (n : Nat) (dem : List Dem), vs = [.ref r, .int n, .ref dm] ∧ H r = some (.ins (CS K) dx []) ∧ DTup H dm dem ∧ (∀ e ∈ dem, Ok n e) ∧ n ≤ 60 ∧ dem.length ≤ 600 ∧
  ∀ H' all, Bar r H H' → SysAt K H' r n dem all → Q .non H'
end K43

/-! A system made. -/
namespace K43
open PySem PySem.Spec PyProof.Rows L2
open C8 (Cal Met Mak pe_c pe_mk pe_mt pe_mt0 pe_gc InsC call_isC)

theorem room8 {k : Nat} {A : Around} (hr : Room k A) : A.units + 8 < cLine := by have := room64 hr; omega
theorem room0 {k : Nat} {A : Around} (hr : Room k A) : A.units < cLine := by have := room64 hr; omega
section
variable {P : Program} {w : World} {K : PySem.W.Frag} {mg : Str → Option Value} {base : Heap}
theorem scSys : FnScope ["self", "many", "demands", "least", "most", "line"] ["self", "many", "demands"] (defScope sSysInit) := ⟨rfl, rfl, rfl, by decide +kernel, rfl, by decide +kernel, by decide +kernel⟩
theorem mkMakB {C q : Str} {st : Stmt} {N ps : List Str} {k : Nat} {sp : Sp} {dvs : List V} {fd : FuncData} (T : Fx K mg) (hC : C ∈ gnames) (hM : Mk K (He.ga K C) (He.ma K (He.ga K C) "__init__"))
    (F : FunD K "__init__" q (defArgs st) (defBody st) (defScope st) dvs [] (He.ma K (He.ga K C) "__init__") fd) (hb : L2.Binds K fd ps []) (S : FnScope N ps (defScope st)) (len : ∀ vs H Q E, sp vs H Q E → vs.length = ps.length)
    (hbody : ∀ (cdv : Value) (A : Around) (outer : List Env) (s : Shared) (H : Hp) (vs : List V) (Q : VK) (E : XK), Room k (A.deeper (envOfC q (defScope st) s.heap.objs.size (He.ma K (He.ga K C) "__init__") cdv)) → sp vs H Q E →
      ∃ t, PSs (cxOf CX0 P w K mg base N q (defScope st) (He.ma K (He.ga K C) "__init__") cdv A outer s H E).nox (defBody st) t ∧ t { nx := fun _ H' => Q .non H', rt := Q } (start N vs) H) : Mak P w K mg base (k + 1) C (He.ga K C) sp [] := by
  refine ⟨He.ma K (He.ga K C) "__init__", fd, ps, [], hM, F.ok S len (fun cdv A outer s H vs Q E hr h => ?_), T.gl C hC, hb, .nil⟩
  obtain ⟨t, h1, h2⟩ := hbody cdv A outer s H vs Q E hr h
  exact ⟨t, h1.nox, h2⟩
theorem k_sys (T : Fx K mg) : Mak P w K mg base 6 "System" (CS K) (spSys K) [] := by
  obtain ⟨fd, F⟩ := T.fn 19 _ rfl
  have F' : FunD K "__init__" "System.__init__" (defArgs sSysInit) (defBody sSysInit) (defScope sSysInit) [V.ref (He.dflAt ("System", some "__init__") 0 K)] [] (He.ma K (CS K) "__init__") fd := F
  obtain ⟨ds, hv, hb⟩ := F'.binds1 (ps := ["self", "many", "demands"]) 3 1 (by simp) rfl (fun T kV doc pm an cdv ct us its h1 h2 => match us, its, h1, h2 with | [_, _, _], [_], _, _ => ⟨_, rfl, rfl⟩)
  have hds : ds = [] := by
    cases hv
    rfl
  subst hds
  refine mkMakB T (by decide +kernel) T.ms F' hb scSys (fun vs H Q E h => ?_) fun cdv A outer s H vs Q E hr h => ?_
  · obtain ⟨r, dx, dm, n, dem, rfl, _⟩ := h
    rfl
  · obtain ⟨r, dx, dm, n, dem, rfl, hr0, hd, hok, hn, hl, q⟩ := h
    have hu := hu_of hr
    have nM := nsF T (f := "own_many") (by decide +kernel)
    have nD := nsF T (f := "own_demands") (by decide +kernel)
    have nA := nsF T (f := "own_all") (by decide +kernel)
    have nK := nsF T (f := "own_key") (by decide +kernel)
    have nR := nsF T (f := "own_ring") (by decide +kernel)
    have nN := nsF T (f := "own_narrowest") (by decide +kernel)
    have nW := nsF T (f := "own_widest") (by decide +kernel)
    have nL := T.nw "way_lengths" (by decide +kernel)
    have nWR := T.nw "way_ring" (by decide +kernel)
    refine ⟨_, pss_cons (ps_if (pt_not (pt_val (pe_c (c_is_within T) hr (by decide) (by rfl) (pa_cons (pv 1) (pa_cons pe_int (pa_cons (pgI (by rfl) T.iM) pa_nil)))))) (pss_one ps_never) pss_nil)
      (pss_cons (ps_expr (pe_c (c_req_demands T) hr (by decide) (by rfl) (pa_cons (pv 2) (pa_cons (pv 1) pa_nil))))
      (pss_cons (ps_fld (pv 0) (pv 1) rfl) (pss_cons (ps_fld (pv 0) (pv 2) rfl)
      (pss_cons (ps_fld (pv 0) (pe_callTy call_tuple_of (by rfl) (T.bl "tuple" (by decide +kernel)) (by decide +kernel) (pa_cons (pe_callB (cr_sortDct rfl (room8 hr)) (by rfl) (T.bl "sorted" (by decide +kernel)) (by decide +kernel)
        (pa_cons (pe_dct rfl (room0 hr) (pe_lst (StX.pa_star (pv 2) (StX.pa_star (pe_c (c_bounds T) hr (by decide) (by rfl) (pa_cons (pv 1) pa_nil)) pa_nil)))) pa_nil)) pa_nil)) rfl)
      (pss_cons (ps_fld (pv 0) (pe_tup (pa_cons (pv 1) (pa_cons (pe_fld (pv 0) rfl) pa_nil))) rfl)
      (pss_cons (ps_fld (pv 0) (pe_fld (pe_mk (k_ways T) hr (by decide) (by rfl) (pa_cons (pv 1) (pa_cons (pe_fld (pv 0) rfl) (pa_cons (pe_c (c_points T) hr (by decide) (by rfl) (pa_cons (pv 1) pa_nil)) pa_nil)))) rfl) rfl)
      (pss_cons (ps_fld (pv 0) pe_non rfl) (pss_cons (ps_fld (pv 0) pe_non rfl)
      (pss_one (ps_if (pt_cmpR op_isN (pe_fld (pv 0) rfl) pe_non (nomark _))
        (pss_cons (ps_set (i := 3) scSys.nd rfl (.inr rfl) (pe_fld (pe_mk (k_ways T) hr (by decide) (by rfl) (pa_cons (pv 1) (pa_cons (pe_fld (pv 0) rfl) (pa_cons (pe_lst (pa_cons (pgI (by rfl) T.iG) pa_nil)) pa_nil)))) rfl))
        (pss_cons (ps_set (i := 4) scSys.nd rfl (.inr rfl) (pe_fld (pe_mk (k_ways T) hr (by decide) (by rfl) (pa_cons (pv 1) (pa_cons (pe_c (c_backward T) hr (by decide) (by rfl) (pa_cons (pe_fld (pv 0) rfl) pa_nil)) (pa_cons (pe_lst (pa_cons (pgI (by rfl) T.iG) pa_nil)) pa_nil)))) rfl))
        (pss_cons (ps_fld (pv 0) (pe_callTy call_tuple_of (by rfl) (T.bl "tuple" (by decide +kernel)) (by decide +kernel) (pa_cons (pe_lc (own := [("line", 5)]) (g := gName 5) (tt := tYes) rfl scSys.nd (pi_range1 (by rfl) (T.bl "range" (by decide +kernel)) (pa_cons (pv 1) pa_nil))
          (blkOk_by (own := [("line", 5)]) (N := ["self", "many", "demands", "least", "most", "line"]) (sc := defScope sSysInit) (by decide +kernel)) (fun _ _ _ _ _ => pg_name (i := 5) scSys.nd rfl (Or.inl rfl)) (fun _ _ _ _ _ => pts_nil)
          (fun _ _ _ _ _ => pe_dget hu (pv 3) (pv 5) (fun _ _ => rfl))) pa_nil)) rfl)
        (pss_one (ps_fld (pv 0) (pe_callTy call_tuple_of (by rfl) (T.bl "tuple" (by decide +kernel)) (by decide +kernel) (pa_cons (pe_lc (own := [("line", 5)]) (g := gName 5) (tt := tYes) rfl scSys.nd (pi_range1 (by rfl) (T.bl "range" (by decide +kernel)) (pa_cons (pv 1) pa_nil))
          (blkOk_by (own := [("line", 5)]) (N := ["self", "many", "demands", "least", "most", "line"]) (sc := defScope sSysInit) (by decide +kernel)) (fun _ _ _ _ _ => pg_name (i := 5) scSys.nd rfl (Or.inl rfl)) (fun _ _ _ _ _ => pts_nil)
          (fun _ _ _ _ _ => pe_un un_neg (pe_dget hu (pv 4) (pv 5) (fun _ _ => rfl)))) pa_nil)) rfl))))) pss_nil)))))))))), ?_⟩
    refine ⟨_, rfl, _, _, _, rfl, .int _, _, rfl, ?_⟩
    rw [isW_int (by decide) (by decide), decide_eq_true (by omega), decide_eq_true (by omega)]
    refine ⟨_, rfl, _, rfl, dm, dem, n, rfl, hd, hok, hn, hl, fun H1 s1 => ?_⟩
    refine ⟨_, rfl, _, rfl, r, _, dx, _, rfl, s1 _ _ hr0, T.cs, nM, by show 0 < 1000; decide, ?_⟩
    refine ⟨_, rfl, _, rfl, r, _, dx, _, rfl, upd_same, T.cs, nD, Nat.lt_of_le_of_lt (fl fl0) (by decide), ?_⟩
    generalize hH3 : upd (upd H1 r _) r _ = H3
    have hr3 : H3 r = some (.ins (CS K) dx (g2 n dm)) := by rw [← hH3]; exact upd_same
    have b3 : Bar r H H3 := by rw [← hH3]; exact ((Bar.refl r H).then s1).upd.upd
    have hd3 : DTup H3 dm dem := DTup.bar hr0 b3 hd
    obtain ⟨ks, hk1, hk2, hk3⟩ := id hd3
    refine ⟨_, rfl, dm, _, rfl, .inl (SqT.of hk1), _, rfl, n, rfl, hn, fun H4 lb s4 nlb hb4 => ?_⟩
    obtain ⟨kb, hb1, hb2, hb3⟩ := hb4
    refine ⟨lb, _, rfl, .inr (SqL.of hb1), ?_, fun l nl => ?_⟩
    · rw [List.append_nil, refs_app, refs_len, List.length_append]
      have h1 : kb.length = 2 * n := by rw [← bnd_len, ← hb3, List.length_map]
      rw [← hk3, List.length_map] at hl
      exact Nat.le_of_lt (sz (by omega))
    · have hkb : kb.length = 2 * n := by rw [← bnd_len, ← hb3, List.length_map]
      have hks : ks.length ≤ 600 := by rw [← hk3, List.length_map] at hl; exact hl
      have e5 : refs ks ++ (refs kb ++ []) = refs (ks ++ kb) := by rw [List.append_nil, refs_app]
      rw [e5]
      have s5 : Same H4 (upd H4 l (.lst (refs (ks ++ kb)))) := sm_new nl
      have t5 : Tups (upd H4 l (.lst (refs (ks ++ kb)))) (ks ++ kb) := fun p hp => by
        rcases List.mem_append.mp hp with hp | hp
        · exact s5 _ _ (s4 _ _ (hk2 p hp))
        · exact s5 _ _ (hb2 p hp)
      refine ⟨l, ks ++ kb, rfl, SqL.of upd_same, t5, by rw [List.length_append]; omega, fun D xs nD0 hsys hkeys => ?_⟩
      have s6 := sm_new (o := DctO P w D xs) nD0
      refine ⟨D, xs, ks ++ kb, rfl, upd_same, hsys, t5.same s6, by rw [List.length_append]; omega, hkeys, fun L z nz hsrt hL1 hL2 hLl => ?_⟩
      have s7 := sm_new (o := .lst (refs L)) nz
      refine ⟨z, _, rfl, .inl ⟨SqL.of upd_same, fun al nal => ?_⟩⟩
      have s8 := sm_new (o := .tup (refs L)) nal
      have s38 := (((s4.trans s5).trans s6).trans s7).trans s8
      have hal : DTup (upd (upd (upd (upd H4 l (.lst (refs (ks ++ kb)))) D (DctO P w D xs)) z (.lst (refs L))) al (.tup (refs L))) al (L.map (·.2)) := ⟨L, upd_same, fun p hp => s8 _ _ (s7 _ _ (s6 _ _ (t5 p (hL1 p hp)))), rfl⟩
      generalize hH8 : upd (upd (upd (upd H4 l _) D _) z _) al _ = H8
      replace s38 : Same H3 H8 := by rw [← hH8]; exact s38
      replace hal : DTup H8 al (L.map (·.2)) := by rw [← hH8]; exact hal
      have hall : (L.map (·.2)).length ≤ 1000 := by rw [List.length_map]; rw [List.length_append] at hLl; omega
      have hpl : SysP n dem (L.map (·.2)) := ⟨by rw [← hk3]; exact uni_of hb3 hL1 hL2, hsrt, hok, hn, hall, by rw [List.length_map, ← hk3, List.length_map]; rw [List.length_append] at hLl; omega⟩
      generalize hA : L.map (·.2) = all at hal hpl hall
      refine ⟨_, rfl, r, _, dx, _, rfl, s38 _ _ hr3, T.cs, nA, Nat.lt_of_le_of_lt (fl (fl fl0)) (by decide), ?_⟩
      have b9 : Bar r H8 (upd H8 r (.ins (CS K) dx (putF "own_all" (.ref al) (g2 n dm)))) := (Bar.refl r H8).upd
      have hr8 := s38 _ _ hr3
      refine ⟨_, rfl, _, rfl, r, _, dx, _, _, rfl, upd_same, T.cs, nA, g3_all n dm al, by show 2 ≤ sizeLine; decide, fun ky nky => ?_⟩
      have nrk : r ≠ ky := ne_of_none upd_same nky
      refine ⟨_, rfl, r, _, dx, _, rfl, (by rw [upd_ne nrk]; exact upd_same), T.cs, nK, Nat.lt_of_le_of_lt (fl (fl (fl fl0))) (by decide), ?_⟩
      have nky8 : H8 ky = none := by rw [upd_ne nrk.symm] at nky; exact nky
      generalize hH9 : upd (upd (upd H8 r _) ky _) r _ = H9
      have hr9 : H9 r = some (.ins (CS K) dx (g4 n dm al ky)) := by rw [← hH9]; exact upd_same
      have hk9 : H9 ky = some (.tup [.int n, .ref al]) := by rw [← hH9, upd_ne nrk.symm]; exact upd_same
      have b89 : Bar r H8 H9 := fun b o e nb => by
        rw [← hH9, upd_ne nb, upd_ne (ne_of_none e nky8), upd_ne nb]
        exact e
      have hal9 : DTup H9 al all := DTup.bar hr8 b89 hal
      refine ⟨_, rfl, _, rfl, r, _, dx, _, _, rfl, hr9, T.cs, nA, g4_all n dm al ky, _, rfl, n, rfl, hn, fun H10 pl s10 npl hpt => ?_⟩
      intro x dx' nx ndx nex
      have s11 : Same H10 (upd (upd H10 dx' (.own x)) x (.ins (CW K) dx' [])) := same_upd (same_upd (fun _ _ h => h) ndx) nx
      refine ⟨x, dx', al, pl, n, all, ptsI n, rfl, upd_same, .inl ((hal9.same s10).same s11), hall, hpl.betw, s11 _ _ (by rw [hpt, ptsV_map]), fun z hz => mem_ptsI.mp hz, by rw [ptsI_len]; omega, hn, fun H11 bar W => ⟨rfl, ?_⟩⟩
      have s12 : Same H9 H11 := s10.trans (Same.bar (H0 := H) nx ndx bar)
      obtain ⟨wdx, wfs, rg, w1, w2, w3⟩ := ways_ring W (fun z hz => mem_ptsI.mpr hz) hpl.betw
      refine ⟨x, _, wdx, _, _, rfl, w1, T.cw, nWR, w2, ?_⟩
      have hr11 := s12 _ _ hr9
      refine ⟨_, rfl, r, _, dx, _, rfl, hr11, T.cs, nR, Nat.lt_of_le_of_lt (fl (fl (fl (fl fl0)))) (by decide), ?_⟩
      refine ⟨_, rfl, r, _, dx, _, rfl, upd_same, T.cs, nN, Nat.lt_of_le_of_lt (fl (fl (fl (fl (fl fl0))))) (by decide), ?_⟩
      refine ⟨_, rfl, r, _, dx, _, rfl, upd_same, T.cs, nW, Nat.lt_of_le_of_lt (fl (fl (fl (fl (fl (fl fl0)))))) (by decide), ?_⟩
      generalize hH12 : upd (upd (upd H11 r _) r _) r _ = H12
      have hr12 : H12 r = some (.ins (CS K) dx (g7 n dm al ky rg .non .non)) := by rw [← hH12]; exact upd_same
      have b12 : Bar r H9 H12 := by rw [← hH12]; exact (((Bar.refl r H9).then s12).upd.upd).upd
      have hal12 : DTup H12 al all := DTup.bar hr9 b12 hal9
      have hk12 := tup_bar hr9 b12 hk9
      have b0 : Bar r H H12 := ((b3.then s38).trans b89).trans b12
      have hd12 : DTup H12 dm dem := DTup.bar hr0 b0 hd
      have f7 := g7_f n dm al ky rg .non .non
      refine ⟨_, rfl, r, _, dx, _, _, rfl, hr12, T.cs, nR, f7.ring, rfl, _, rfl, ?_⟩
      rcases w3 with ⟨rfl, hF⟩ | ⟨⟨q0, rfl⟩, hF⟩
      · have hg : IsPt n (-1) := by unfold IsPt; omega
        have hb' := betw_back hpl.betw
        have hc' := conn_back hpl.conn
        have hF' := feas_back hF
        refine iteT ⟨_, rfl, _, rfl, r, _, dx, _, _, rfl, hr12, T.cs, nA, f7.all, by show 1 ≤ sizeLine; decide, fun st nst => ?_⟩
        intro x1 dx1 nx1 ndx1 nex1
        have s13 := sm_new (o := .lst [.int (-1)]) nst
        have s14 : Same (upd H12 st (.lst [.int (-1)])) (upd (upd (upd H12 st (.lst [.int (-1)])) dx1 (.own x1)) x1 (.ins (CW K) dx1 [])) := same_upd (same_upd (fun _ _ h => h) ndx1) nx1
        refine ⟨x1, dx1, al, st, n, all, [-1], rfl, upd_same, .inl (hal12.same (s13.trans s14)), hall, hpl.betw, s14 _ _ upd_same, fun z hz => (by cases List.mem_singleton.mp hz; exact hg), by show 1 ≤ 100; decide, hn, fun H14 bar1 W1 => ⟨rfl, ?_⟩⟩
        obtain ⟨wdx1, d1, wfs1, kl1, u1, u2, u3, u4⟩ := ways_len W1 hF hpl.betw hpl.conn hg
        have s15 : Same H12 H14 := s13.trans (Same.bar (H0 := H) nx1 ndx1 bar1)
        refine ⟨x1, _, wdx1, _, _, rfl, u1, T.cw, nL, u2, ?_⟩
        refine ⟨_, rfl, _, rfl, r, _, dx, _, _, rfl, s15 _ _ hr12, T.cs, nA, f7.all, al, all, rfl, hal12.same s15, hall, fun H15 bl s16 nbl hbl => ?_⟩
        refine ⟨by show 1 ≤ sizeLine; decide, fun st2 nst2 => ?_⟩
        intro x2 dx2 nx2 ndx2 nex2
        have s17 := sm_new (o := .lst [.int (-1)]) nst2
        have s18 : Same (upd H15 st2 (.lst [.int (-1)])) (upd (upd (upd H15 st2 (.lst [.int (-1)])) dx2 (.own x2)) x2 (.ins (CW K) dx2 [])) := same_upd (same_upd (fun _ _ h => h) ndx2) nx2
        refine ⟨x2, dx2, bl, st2, n, all.map back, [-1], rfl, upd_same, .inr (hbl.same (s17.trans s18)), by rw [List.length_map]; exact hall, hb', s18 _ _ upd_same, fun z hz => (by cases List.mem_singleton.mp hz; exact hg), by show 1 ≤ 100; decide, hn, fun H17 bar2 W2 => ⟨rfl, ?_⟩⟩
        obtain ⟨wdx2, d2, wfs2, kl2, v1, v2, v3, v4⟩ := ways_len W2 hF' hb' hc' hg
        have s19 : Same H15 H17 := s17.trans (Same.bar (H0 := H) nx2 ndx2 bar2)
        refine ⟨x2, _, wdx2, _, _, rfl, v1, T.cw, nL, v2, ?_⟩
        have sA := (s15.trans s16).trans s19
        have hd1 := s19 _ _ (s16 _ _ u3)
        refine ⟨_, rfl, n, rfl, by omega, by omega, fun D nD => ?_⟩
        refine lcR (fun H6 => Same H17 H6) (fun j y _ => ∃ z, y = V.int z ∧ MinD all (-1) (j : Int) z) (sm_new nD) (fun H' l s => same_upd s nD) (fun _ _ _ _ _ _ h => h) (n := (n : Int).toNat) (by omega) (fun j H6 l Fin No hj s8 hD fin => ?_) (fun H18 ys s20 hD hy hall2 => ?_)
        · obtain ⟨z, hz, hm⟩ := u4 (j : Int) (by unfold IsPt; omega)
          refine ⟨rfl, _, rfl, _, rfl, d1, _, rfl, dget (s8 _ _ hd1) (by rw [Int.zero_add]; exact hz), ?_⟩
          exact fin _ _ s8 hD (fun _ _ h => h) ⟨z, rfl, hm⟩
        · obtain ⟨lo, e1, e2⟩ := ints_of hall2
          subst e1
          rw [List.length_map] at hy
          refine ⟨D, _, rfl, .inl ⟨SqL.of hD, fun t nt => ?_⟩⟩
          have s21 := (sA.trans s20).trans (sm_new (o := .tup (lo.map V.int)) nt)
          refine ⟨_, rfl, r, _, dx, _, rfl, s21 _ _ hr12, T.cs, nN, Nat.lt_of_le_of_lt (fl (fl (fl (fl (fl (fl (fl fl0))))))) (by decide), ?_⟩
          have f8 := f7.narrow (.ref t)
          generalize hH20 : upd (upd H18 t _) r _ = H20
          have hr20 : H20 r = some (.ins (CS K) dx (putF "own_narrowest" (.ref t) (g7 n dm al ky .non .non .non))) := by rw [← hH20]; exact upd_same
          have b20 : Bar r H12 H20 := by rw [← hH20]; exact ((Bar.refl r H12).then s21).upd
          have ht20 : H20 t = some (.tup (lo.map V.int)) := by
            rw [← hH20, upd_ne (ne_of_none ((sA.trans s20) _ _ hr12) nt).symm]
            exact upd_same
          have hd2 : H20 d2 = some (.dK kl2) := by
            have n1 : d2 ≠ t := ne_of_none (s20 _ _ v3) nt
            have n2 : d2 ≠ r := ne_of v3 (sA _ _ hr12) (by intro q; cases q)
            rw [← hH20, upd_ne n2, upd_ne n1]
            exact s20 _ _ v3
          refine ⟨_, rfl, n, rfl, by omega, by omega, fun D2 nD2 => ?_⟩
          refine lcR (fun H6 => Same H20 H6) (fun j y _ => ∃ z, y = V.int z ∧ MaxD all (-1) (j : Int) z) (sm_new nD2) (fun H' l s => same_upd s nD2) (fun _ _ _ _ _ _ h => h) (n := (n : Int).toNat) (by omega) (fun j H6 l Fin No hj s8 hD fin => ?_) (fun H21 ys s22 hD2 hy2 hall3 => ?_)
          · obtain ⟨z, hz, hm⟩ := v4 (j : Int) (by unfold IsPt; omega)
            refine ⟨rfl, _, rfl, _, rfl, d2, _, rfl, dget (s8 _ _ hd2) (by rw [Int.zero_add]; exact hz), _, rfl, ?_⟩
            exact fin _ _ s8 hD (fun _ _ h => h) ⟨-z, rfl, min_back hm⟩
          · obtain ⟨hi, e3, e4⟩ := ints_of hall3
            subst e3
            rw [List.length_map] at hy2
            refine ⟨D2, _, rfl, .inl ⟨SqL.of hD2, fun t2 nt2 => ?_⟩⟩
            have s23 := s22.trans (sm_new (o := .tup (hi.map V.int)) nt2)
            refine ⟨_, rfl, r, _, dx, _, rfl, s23 _ _ hr20, T.cs, nW, Nat.lt_of_le_of_lt (fl (fl (fl (fl (fl (fl (fl (fl fl0)))))))) (by decide), ?_⟩
            have f9 := f8.wide (.ref t2)
            generalize hH22 : upd (upd H21 t2 _) r _ = H22
            have hr22 : H22 r = some (.ins (CS K) dx (putF "own_widest" (.ref t2) (putF "own_narrowest" (.ref t) (g7 n dm al ky .non .non .non)))) := by rw [← hH22]; exact upd_same
            have b22 : Bar r H20 H22 := by rw [← hH22]; exact ((Bar.refl r H20).then s23).upd
            have ht22 : H22 t2 = some (.tup (hi.map V.int)) := by
              rw [← hH22, upd_ne (ne_of_none (s22 _ _ hr20) nt2).symm]
              exact upd_same
            have bAll := b20.trans b22
            refine q _ all (b0.trans bAll) ⟨dx, _, dm, al, ky, _, _, _, ⟨hpl, hr22, f9, DTup.bar hr12 bAll hd12, DTup.bar hr12 bAll hal12, tup_bar hr12 bAll hk12, .inl ⟨hF, rfl, ⟨t, lo, rfl, tup_bar hr20 b22 ht20, ?_, e2⟩, t2, hi, rfl, ht22, ?_, e4⟩⟩⟩
            · rw [hy]; omega
            · rw [hy2]; omega
      · exact q _ all b0 ⟨dx, _, dm, al, ky, _, _, _, ⟨hpl, hr12, f7, hd12, hal12, hk12, .inr ⟨hF, q0, rfl⟩⟩⟩
end
end K43

/-! Systems made from systems. -/
namespace K43
open PySem PySem.Spec PyProof.Rows L2
open C8 (Cal Met Mak pe_c pe_mk pe_mt pe_mt0 pe_gc InsC call_isC)

theorem sys_end {K : PySem.W.Frag} {H1 : Hp} {t : Addr} {n : Nat} {dem : List Dem} {Q : VK} {E : XK} (h : DTup H1 t dem) (ok : ∀ e ∈ dem, Ok n e) (hn : n ≤ 60) (hl : dem.length ≤ 600)
    (q : ∀ H' x all, Same H1 H' → SysAt K H' x n dem all → Q (.ref x) H') : ∀ x dx, H1 x = none → H1 dx = none → dx ≠ x →
      spSys K [.ref x, .int n, .ref t] (upd (upd H1 dx (.own x)) x (.ins (CS K) dx [])) (fun v H2 => v = .non ∧ Q (.ref x) H2) E := fun x dx nx ndx _ =>
  ⟨x, dx, t, n, dem, rfl, upd_same, h.same (same_upd (same_upd (fun _ _ h => h) ndx) nx), ok, hn, hl, fun H' all bar hs => ⟨rfl, q H' x all (Same.bar (H0 := H1) nx ndx bar) hs⟩⟩
theorem dtup_mk {H : Hp} {t : Addr} {l : List V} {ks : List (Addr × Dem)} (e : l = refs ks) (h : H t = some (.tup l)) (ht : Tups H ks) : DTup H t (ks.map (·.2)) := ⟨ks, by rw [h, e], ht, rfl⟩
def spFixed (K : PySem.W.Frag) : Sp := fun vs H Q _ => ∃ (p : Addr) (n : Nat) (d a : List Dem) (i c : Int), vs = [.ref p, .int i, .int c] ∧ SysAt K H p n d a ∧ d.length ≤ 500 ∧ 0 ≤ i ∧ i < n ∧ 0 ≤ c ∧ c ≤ 199 ∧
  ∀ H' x a', Same H H' → SysAt K H' x n (d ++ [(i, -1, c), (-1, i, -c)]) a' → Q (.ref x) H'
def spJoined (K : PySem.W.Frag) : Sp := fun vs H Q _ => ∃ (p q : Addr) (n : Nat) (d a d' a' : List Dem), vs = [.ref p, .ref q] ∧ SysAt K H p n d a ∧ SysAt K H q n d' a' ∧ d.length ≤ 300 ∧ d'.length ≤ 300 ∧
  ∀ H' x b, Same H H' → SysAt K H' x n (d ++ d') b → Q (.ref x) H'
def spWith0 (K : PySem.W.Frag) : Sp := fun vs H Q _ => ∃ (p t : Addr) (n : Nat) (d a ds : List Dem), vs = [.ref p, .ref t] ∧ SysAt K H p n d a ∧ DTup H t ds ∧ (∀ e ∈ ds, Ok n e) ∧ d.length ≤ 300 ∧ ds.length ≤ 300 ∧
  ∀ H' x b, Same H H' → SysAt K H' x n (d ++ ds) b → Q (.ref x) H'
/-- system.with_demands(demand) -/
def spWith (K : PySem.W.Frag) : Sp := fun vs H Q _ => ∃ (p : Addr) (v : V) (n : Nat) (d a : List Dem) (e : Dem), vs = [.ref p, v] ∧ SysAt K H p n d a ∧ IsD3 H v e ∧ Ok n e ∧ d.length ≤ 300 ∧
  ∀ H' x b, Same H H' → SysAt K H' x n (d ++ [e]) b → Q (.ref x) H'
section
variable {P : Program} {w : World} {K : PySem.W.Frag} {mg : Str → Option Value} {base : Heap}
theorem scFixed : FnScope ["self", "line", "column"] ["self", "line", "column"] (defScope sFixed) := ⟨rfl, rfl, rfl, by decide +kernel, rfl, by decide +kernel, by decide +kernel⟩
theorem m_fixed (T : Fx K mg) : Met P w K mg base 8 (CS K) "fixed" (spFixed K) [] := by
  refine mkMet T 24 rfl T.cs (T.es _ (by decide +kernel)) scFixed (fun vs H Q E h => ?_) (fun _ _ _ _ _ _ us hl => match us, hl with | [_, _, _], _ => rfl) fun cdv A outer s H vs Q E hr h => ?_
  · obtain ⟨p, n, d, a, i, c, rfl, _⟩ := h
    rfl
  · obtain ⟨p, n, d, a, i, c, rfl, hs, hdl, hi0, hi1, hc0, hc1, q⟩ := h
    obtain ⟨dx, fs, dm, al, ky, rg, nw, wd, h1⟩ := id hs
    have nM := nsF T (f := "own_many") (by decide +kernel)
    have nD := nsF T (f := "own_demands") (by decide +kernel)
    refine ⟨_, pss_cons (ps_expr (pe_c (c_line T) hr (by decide) (by rfl) (pa_cons (pv 0) (pa_cons (pv 1) pa_nil))))
      (pss_cons (ps_if (pt_not (pt_val (pe_c (c_is_column T) hr (by decide) (by rfl) (pa_cons (pv 2) pa_nil)))) (pss_one ps_never) pss_nil)
      (pss_one (ps_ret (pe_mk (k_sys T) hr (by decide) (by rfl) (pa_cons (pe_fld (pv 0) rfl) (pa_cons (pe_tup (StX.pa_star (pe_fld (pv 0) rfl) (pa_cons (pe_tup (pa_cons (pv 1) (pa_cons (pgI (by rfl) T.iG) (pa_cons (pv 2) pa_nil)))) (pa_cons (pe_tup (pa_cons (pgI (by rfl) T.iG) (pa_cons (pv 1) (pa_cons (pe_un un_neg (pv 2)) pa_nil)))) pa_nil)))) pa_nil)))))), ?_⟩
    refine ⟨_, rfl, _, rfl, p, i, n, d, a, rfl, hs, hi0, hi1, _, rfl, c, rfl, ?_⟩
    rw [isW_int (by decide) (by decide), decide_eq_true hc0, decide_eq_true hc1]
    obtain ⟨ks, k1, k2, k3⟩ := h1.hd
    refine ⟨true, rfl, _, rfl, p, _, dx, _, _, rfl, h1.ins, T.cs, nM, h1.f.many, _, rfl, p, _, dx, _, _, rfl, h1.ins, T.cs, nD, h1.f.dem, dm, _, rfl, .inl (SqT.of k1), ?_⟩
    refine ⟨_, rfl, _, rfl, by show 3 ≤ sizeLine; decide, fun t1 n1 => ⟨_, rfl, _, rfl, _, rfl, by show 3 ≤ sizeLine; decide, fun t2 n2 => ⟨?_, fun t3 n3 => ?_⟩⟩⟩
    · rw [List.length_append, refs_len]
      rw [← k3, List.length_map] at hdl
      exact Nat.le_of_lt (sz (by show ks.length + 2 ≤ _; omega))
    · have s1 := sm_new (o := .tup [.int i, .int (-1), .int c]) n1
      have s2 := sm_new (o := .tup [.int (-1), .int i, .int (-c)]) n2
      have s3 := sm_new (o := .tup (refs ks ++ [.ref t1, .ref t2])) n3
      have hd := dtup_mk (ks := ks ++ [(t1, (i, -1, c)), (t2, (-1, i, -c))]) (l := refs ks ++ [.ref t1, .ref t2]) (by rw [← refs_app] <;> rfl) (upd_same (H := upd (upd H t1 (.tup [.int i, .int (-1), .int c])) t2 (.tup [.int (-1), .int i, .int (-c)])) (a := t3)) (fun r hr => by
          rcases List.mem_append.mp hr with hr | hr
          · exact s3 _ _ (s2 _ _ (s1 _ _ (k2 r hr)))
          · simp only [List.mem_cons, List.not_mem_nil, or_false] at hr
            rcases hr with rfl | rfl
            · exact s3 _ _ (s2 _ _ upd_same)
            · exact s3 _ _ upd_same)
      rw [List.map_append, k3] at hd
      refine sys_end (dem := d ++ [(i, -1, c), (-1, i, -c)]) hd (fun e he => ?_) h1.pl.n60 (by rw [List.length_append]; show d.length + 2 ≤ 600; omega) fun H' x a' s4 hs' => q H' x a' (((s1.trans s2).trans s3).trans s4) hs'
      rcases List.mem_append.mp he with he | he
      · exact h1.pl.ok e he
      · simp only [List.mem_cons, List.not_mem_nil, or_false] at he
        unfold Ok Betw IsPt
        rcases he with rfl | rfl <;> dsimp only <;> omega
theorem scJoined : FnScope ["self", "other"] ["self", "other"] (defScope sJoined) := ⟨rfl, rfl, rfl, by decide +kernel, rfl, by decide +kernel, by decide +kernel⟩
theorem m_joined (T : Fx K mg) : Met P w K mg base 8 (CS K) "joined" (spJoined K) [] := by
  refine mkMet T 28 rfl T.cs (T.es _ (by decide +kernel)) scJoined (fun vs H Q E h => ?_) (fun _ _ _ _ _ _ us hl => match us, hl with | [_, _], _ => rfl) fun cdv A outer s H vs Q E hr h => ?_
  · obtain ⟨p, q, n, d, a, d', a', rfl, _⟩ := h
    rfl
  · obtain ⟨p, q1, n, d, a, d', a', rfl, hs, hs', hdl, hdl', q⟩ := h
    obtain ⟨dx, fs, dm, al, ky, rg, nw, wd, h1⟩ := id hs
    obtain ⟨dx', fs', dm', al', ky', rg', nw', wd', h2⟩ := id hs'
    have nM := nsF T (f := "own_many") (by decide +kernel)
    have nD := nsF T (f := "own_demands") (by decide +kernel)
    refine ⟨_, pss_cons (ps_expr (pe_c (c_like T) hr (by decide) (by rfl) (pa_cons (pv 0) (pa_cons (pv 1) pa_nil))))
      (pss_one (ps_ret (pe_mk (k_sys T) hr (by decide) (by rfl) (pa_cons (pe_fld (pv 0) rfl) (pa_cons (pe_tup (StX.pa_star (pe_fld (pv 0) rfl) (StX.pa_star (pe_fld (pv 1) rfl) pa_nil))) pa_nil))))), ?_⟩
    refine ⟨_, rfl, _, rfl, p, q1, n, d, a, d', a', rfl, hs, hs', ?_⟩
    obtain ⟨ks, k1, k2, k3⟩ := h1.hd
    obtain ⟨ks', k1', k2', k3'⟩ := h2.hd
    refine ⟨_, rfl, p, _, dx, _, _, rfl, h1.ins, T.cs, nM, h1.f.many, _, rfl, p, _, dx, _, _, rfl, h1.ins, T.cs, nD, h1.f.dem, dm, _, rfl, .inl (SqT.of k1), _, rfl, q1, _, dx', _, _, rfl, h2.ins, T.cs, nD, h2.f.dem, dm', _, rfl, .inl (SqT.of k1'), ?_, fun t3 n3 => ?_⟩
    · rw [List.append_nil, refs_app, refs_len, List.length_append]
      rw [← k3, List.length_map] at hdl
      rw [← k3', List.length_map] at hdl'
      exact Nat.le_of_lt (sz (by omega))
    · have s3 := sm_new (o := .tup (refs ks ++ (refs ks' ++ []))) n3
      have hd := dtup_mk (ks := ks ++ ks') (l := refs ks ++ (refs ks' ++ [])) (by rw [List.append_nil, refs_app]) (upd_same (H := H) (a := t3)) (fun r hr => by
          rcases List.mem_append.mp hr with hr | hr
          · exact s3 _ _ (k2 r hr)
          · exact s3 _ _ (k2' r hr))
      rw [List.map_append, k3, k3'] at hd
      refine sys_end hd (fun e he => ?_) h1.pl.n60 (by rw [List.length_append]; omega) fun H' x a' s4 hs' => q H' x a' (s3.trans s4) hs'
      rcases List.mem_append.mp he with he | he
      · exact h1.pl.ok e he
      · exact h2.pl.ok e he
theorem scWith : FnScope ["self", "demands"] ((["self"] : List Str) ++ [("demands" : Str)]) (defScope sWith) := ⟨rfl, rfl, rfl, by decide +kernel, rfl, by decide +kernel, by decide +kernel⟩
theorem f_with (T : Fx K mg) : FnR P w K mg base CX0 8 (He.ma K (CS K) "with_demands") (spWith K) := by
  obtain ⟨fd, F⟩ := T.fn 25 _ rfl
  obtain ⟨oc, od, dV, kV, doc, pm, an, cdv, ct, osl, rfl, hlk, hcd, hdv, hkw⟩ := F.ex
  have hd0 : dV = .none := by
    rcases hdv with ⟨_, h⟩ | ⟨h, _⟩
    · exact h
    · exact (h rfl).elim
  subst hd0
  have G : FnR P w K mg base CX0 8 (He.ma K (CS K) "with_demands") (fun vs H Q E => ∃ ws rest, vs = ws ++ rest ∧ ws.length = (["self"] : List Str).length ∧ rest.length ≤ sizeLine ∧ ∀ (p : Addr), H p = none → spWith0 K (ws ++ [V.ref p]) (upd H p (HO.tup rest)) Q E) := by
    refine StX.fn_star (k := 7) (N := ["self", "demands"]) (ps := ["self"]) (pv := "demands") (sp := spWith0 K) hlk hcd scWith (fun _ _ _ _ _ _ _ _ _ _ _ h => h) (fun us rest h => ?_) (fun A outer s H vs Q E hr h => ?_)
    · exact StX.bind_star1 (p1 := "self") (pv := "demands") (B := fun l => bindArgs (PySem.W.fnOf "with_demands" "System.with_demands" (defArgs sWith) (defBody sWith) (defScope sWith) .none kV doc pm an cdv ct) ⟨l, []⟩) (fun a => rfl) (fun a r rs => rfl) us rest h
    · obtain ⟨p, t, n, d, a, ds, rfl, hs, ht, hok, hdl, hdl', q⟩ := h
      obtain ⟨dx, fs, dm, al, ky, rg, nw, wd, h1⟩ := id hs
      have nM := nsF T (f := "own_many") (by decide +kernel)
      have nD := nsF T (f := "own_demands") (by decide +kernel)
      suffices g : ∃ tt, PSs (cxOf CX0 P w K mg base ["self", "demands"] "System.with_demands" (defScope sWith) (He.ma K (CS K) "with_demands") cdv A outer s H E).nox (defBody sWith) tt ∧ tt { nx := fun _ H' => Q .non H', rt := Q } (L2.start ["self", "demands"] [V.ref p, V.ref t]) H from g.elim fun t h => ⟨t, h.1.nox, h.2⟩
      refine ⟨_, pss_cons (ps_expr (pe_c (c_req_demands T) hr (by decide) (by rfl) (pa_cons (pv 1) (pa_cons (pe_fld (pv 0) rfl) pa_nil))))
        (pss_one (ps_ret (pe_mk (k_sys T) hr (by decide) (by rfl) (pa_cons (pe_fld (pv 0) rfl) (pa_cons (pe_tup (StX.pa_star (pe_fld (pv 0) rfl) (StX.pa_star (pv 1) pa_nil))) pa_nil))))), ?_⟩
      refine ⟨_, rfl, _, rfl, p, _, dx, _, _, rfl, h1.ins, T.cs, nM, h1.f.many, t, ds, n, rfl, ht, hok, h1.pl.n60, by omega, fun H1 s1 => ?_⟩
      have g1 := h1.same s1
      obtain ⟨ks, k1, k2, k3⟩ := g1.hd
      obtain ⟨ks', k1', k2', k3'⟩ := ht.same s1
      refine ⟨_, rfl, p, _, dx, _, _, rfl, g1.ins, T.cs, nM, g1.f.many, _, rfl, p, _, dx, _, _, rfl, g1.ins, T.cs, nD, g1.f.dem, dm, _, rfl, .inl (SqT.of k1), _, rfl, t, _, rfl, .inl (SqT.of k1'), ?_, fun t3 n3 => ?_⟩
      · rw [List.append_nil, refs_app, refs_len, List.length_append]
        rw [← k3, List.length_map] at hdl
        rw [← k3', List.length_map] at hdl'
        exact Nat.le_of_lt (sz (by omega))
      · have s3 := sm_new (o := .tup (refs ks ++ (refs ks' ++ []))) n3
        have hd := dtup_mk (ks := ks ++ ks') (l := refs ks ++ (refs ks' ++ [])) (by rw [List.append_nil, refs_app]) (upd_same (H := H1) (a := t3)) (fun r hr => by
            rcases List.mem_append.mp hr with hr | hr
            · exact s3 _ _ (k2 r hr)
            · exact s3 _ _ (k2' r hr))
        rw [List.map_append, k3, k3'] at hd
        refine sys_end hd (fun e he => ?_) h1.pl.n60 (by rw [List.length_append]; omega) fun H' x a' s4 hs' => q H' x a' ((s1.trans s3).trans s4) hs'
        rcases List.mem_append.mp he with he | he
        · exact h1.pl.ok e he
        · exact hok e he
  intro A outer s H us vs Q E hr h0 hv h
  refine G A outer s H us vs Q E hr h0 hv ?_
  obtain ⟨p, v, n, d, a, e, rfl, hs, ⟨va, rfl, hva⟩, hok, hdl, q⟩ := h
  refine ⟨[.ref p], [.ref va], rfl, rfl, by show 1 ≤ sizeLine; decide, fun t nt => ?_⟩
  have s1 := sm_new (o := .tup [.ref va]) nt
  refine ⟨p, t, n, d, a, [e], rfl, hs.same s1, ⟨[(va, e)], upd_same, fun r hr => ?_, rfl⟩, fun f hf => ?_, hdl, by show 1 ≤ 300; decide, fun H' x b s2 hs' => q H' x b (s1.trans s2) hs'⟩
  · cases List.mem_singleton.mp hr
    exact s1 _ _ hva
  · cases List.mem_singleton.mp hf
    exact hok
end
end K43

/-! The law's dice. -/
namespace K43
open PySem PySem.Spec PyProof.Rows L2
open C8 (Cal Met Mak pe_c pe_mk pe_mt pe_mt0 pe_gc InsC call_isC)

/-- powers of greater ints -/
theorem op_powW {X : Cx} : OpR X (binaryOp .Pow) (rI (fun i j => 0 ≤ j ∧ ((Builtin.Int.intBits i : Nat) : Int) * j ≤ 2 ^ 27) fun i j => .int (i ^ j.toNat)) :=
  opI fun _ _ _ _ _ _ _ hc q => pow_int hc.1 hc.2 q
def DiceAt (H : Hp) (d : Addr) : Prop := ∃ x y z : Int, 0 ≤ x ∧ H d = some (.lst [.int x, .int y, .int z])
theorem DiceAt.lst {H : Hp} {d : Addr} (h : DiceAt H d) : ∃ l, H d = some (.lst l) := h.elim fun x h => h.elim fun y h => h.elim fun z h => ⟨_, h.2⟩
theorem DiceAt.same {H H' : Hp} {d : Addr} (s : Same H H') (h : DiceAt H d) : DiceAt H' d := by
  obtain ⟨x, y, z, h1, h2⟩ := h
  exact ⟨x, y, z, h1, s _ _ h2⟩
theorem toBar {H H' : Hp} (d : Addr) (s : Same H H') : Bar d H H' := fun b o e _ => s b o e
def spDice (K : PySem.W.Frag) : Sp := fun vs H Q _ => ∃ (a : Addr) (i : Int) (ns : List Int), vs = [.ref a, .int i] ∧ SqL K H a (ns.map V.int) ∧ 0 ≤ i ∧ i ≤ 1000 ∧ ns.length ≤ 1000 ∧ ∀ H' d, Same H H' → H d = none → DiceAt H' d → Q (.ref d) H'
def spRoll : Sp := fun vs H Q _ => ∃ (d : Addr) (t : Int), vs = [.ref d, .int t] ∧ DiceAt H d ∧ 1 ≤ t ∧ t ≤ 1000000 ∧ ∀ H' r, Bar d H H' → DiceAt H' d → 0 ≤ r → r < t → Q (.int r) H'
def spPick : Sp := fun vs H Q _ => ∃ (d a : Addr) (xs : List V), vs = [.ref d, .ref a] ∧ DiceAt H d ∧ a ≠ d ∧ H a = some (.lst xs) ∧ xs ≠ [] ∧ xs.length ≤ 1000000 ∧ ∀ H' (j : Nat) v, Bar d H H' → DiceAt H' d → xs[j]? = some v → Q v H'
section
variable {P : Program} {w : World} {K : PySem.W.Frag} {mg : Str → Option Value} {base : Heap}
theorem scDice : FnScope ["_law_script", "_law_spot", "_law_cell", "_law_great", "_law_blend"] ["_law_script", "_law_spot"] (defScope sDice) := ⟨rfl, rfl, rfl, by decide +kernel, rfl, by decide +kernel, by decide +kernel⟩
theorem c_dice (T : Fx K mg) : Cal P w K mg base 1 "_law_dice" (spDice K) [] := by
  refine mkCal T 30 rfl (by decide +kernel) scDice (fun vs H Q E h => ?_) (fun _ _ _ _ _ _ us hl => match us, hl with | [_, _], _ => rfl) fun cdv A outer s H vs Q E hr h => ?_
  · obtain ⟨a, i, ns, rfl, _⟩ := h
    rfl
  · obtain ⟨a, i, ns, rfl, ha, hi0, hi1, hns, q⟩ := h
    have bI := T.bl "int" (by decide +kernel)
    refine ⟨_, pss_cons (ps_set (i := 2) scDice.nd rfl (.inl rfl) (pe_op op_add (pe_op op_mul pe_int (pv 1)) pe_int))
      (pss_cons (ps_if (pt_cmpR op_lt (pv 1) (pe_callB call_len (by rfl) (T.bl "len" (by decide +kernel)) (by decide +kernel) (pa_cons (pv 0) pa_nil)) (nomark _)) (pss_one (ps_set (i := 2) scDice.nd rfl (.inl rfl) (pe_ix ix_list (pv 0) (pv 1) (fun _ _ => rfl)))) pss_nil)
      (pss_cons (ps_set (i := 3) scDice.nd rfl (.inl rfl) (pe_op op_mod (pe_callTy call_int1 (by rfl) bI (by decide +kernel) (pa_cons (pe_callB call_abs (by rfl) (T.bl "abs" (by decide +kernel)) (by decide +kernel) (pa_cons (pv 2) pa_nil)) pa_nil)) (pe_op op_powW (pe_op op_pow pe_int pe_int) pe_int)))
      (pss_cons (ps_set (i := 4) scDice.nd rfl (.inl rfl) (pe_op op_add (pe_op op_add (pe_op op_add (pe_op op_mul (pe_op op_mod (pe_callTy call_int1 (by rfl) bI (by decide +kernel) (pa_cons (pv 3) pa_nil)) pe_int) pe_int) (pe_op op_mul pe_int (pv 1))) (pe_op op_mul pe_int (pe_callTy call_int1 (by rfl) bI (by decide +kernel) (pa_cons (pe_cmpR op_lt (pv 2) pe_int (nomark _)) pa_nil)))) pe_int))
      (pss_one (ps_ret (pe_lst (pa_cons (pe_callB (call_max2 rfl) (by rfl) (T.bl "max" (by decide +kernel)) (by decide +kernel) (pa_cons pe_int (pa_cons (pe_op op_sub (pv 3) (pe_op op_pow pe_int pe_int)) pa_nil))) (pa_cons (pe_op op_mod (pe_callTy call_int1 (by rfl) bI (by decide +kernel) (pa_cons (pv 4) pa_nil)) pe_int) (pa_cons pe_int pa_nil))))))))), ?_⟩
    refine ⟨_, rfl, _, _, rfl, rfl, .inl ⟨by decide, by decide⟩, _, _, rfl, rfl, ?_⟩
    refine ⟨_, rfl, _, rfl, _, _, rfl, .inl ⟨_, ha, rfl⟩, _, _, rfl, rfl, _, rfl, ?_⟩
    have hq : ∀ x y z : Int, 0 ≤ x → ∀ p, H p = none → Q (.ref p) (upd H p (.lst [.int x, .int y, .int z])) := fun x y z hx p np => q _ p (sm_new np) np ⟨x, y, z, hx, upd_same⟩
    rw [List.length_map]
    have hpos : (0 : Int) < ((10 ^ (60 : Int).toNat) ^ (10 : Int).toNat) := by decide +kernel
    refine ite2 (fun c => ?w1) (fun c => ?w2)
    case' w1 =>
      have c := of_decide_eq_true c
      obtain ⟨j, rfl⟩ : ∃ j : Nat, i = j := ⟨i.toNat, by omega⟩
      have hj : j < ns.length := by omega
      refine ⟨_, rfl, _, rfl, a, _, _, V.int ns[j], rfl, rfl, ha, atI_nat (by rw [List.getElem?_map, List.getElem?_eq_getElem hj] <;> rfl), ?_⟩
    all_goals
      refine ⟨_, rfl, _, rfl, .inl ⟨_, rfl, _, _, rfl, rfl, ⟨by decide, by decide, by decide⟩, _, _, rfl, rfl, ⟨by decide, by decide +kernel⟩, _, _, rfl, rfl, hpos, ?_⟩⟩
      refine ⟨_, rfl, .inl ⟨_, rfl, _, _, rfl, rfl, (by show (0 : Int) < 2305843009213693871; decide), _, _, rfl, rfl, .inr ⟨by decide, by decide⟩, _, rfl, _, _, rfl, rfl, .inl ⟨by decide, by decide⟩, _, _, rfl, rfl, ?_⟩⟩
      refine ⟨_, rfl, _, _, rfl, rfl, .inr ⟨_, rfl, _, _, rfl, rfl, .inl ⟨by decide, by decide⟩, _, _, rfl, rfl, _, _, rfl, rfl, ?_⟩⟩
      refine ⟨_, rfl, _, _, rfl, rfl, ⟨by decide, by decide, by decide⟩, _, _, rfl, rfl, _, _, rfl, ?_⟩
      refine ⟨_, rfl, .inl ⟨_, rfl, _, _, rfl, rfl, (by show (0 : Int) < 2305843009213693871; decide), by show 3 ≤ sizeLine; decide, fun p np => hq _ _ _ ?_ p np⟩⟩
      split <;> omega
theorem scRoll : FnScope ["_law_dice_here", "_law_total", "_law_found", "_law_one", "_law_two"] ["_law_dice_here", "_law_total"] (defScope sRoll) := ⟨rfl, rfl, rfl, by decide +kernel, rfl, by decide +kernel, by decide +kernel⟩
theorem c_roll (T : Fx K mg) : Cal P w K mg base 1 "_law_roll" spRoll [] := by
  refine mkCal T 31 rfl (by decide +kernel) scRoll (fun vs H Q E h => ?_) (fun _ _ _ _ _ _ us hl => match us, hl with | [_, _], _ => rfl) fun cdv A outer s H vs Q E hr h => ?_
  · obtain ⟨d, t, rfl, _⟩ := h
    rfl
  · obtain ⟨d, t, rfl, ⟨x, y, z, hx, hd⟩, ht1, ht2, q⟩ := h
    have bI := T.bl "int" (by decide +kernel)
    refine ⟨_, pss_cons (ps_if (pt_cmpR op_gt (pe_ix ix_list (pv 0) pe_int (fun _ _ => rfl)) pe_int (nomark _))
        (pss_cons (ps_set (i := 2) scRoll.nd rfl (.inl rfl) (pe_op op_mod (pe_callTy call_int1 (by rfl) bI (by decide +kernel) (pa_cons (pe_ix ix_list (pv 0) pe_int (fun _ _ => rfl)) pa_nil)) (pv 1)))
        (pss_cons (ps_asg (pe_op op_fdivN (pe_ix ix_list (pv 0) pe_int (fun _ _ => rfl)) (pv 1)) (pg_sub (pv 0) pe_int set_list))
        (pss_one (ps_ret (pv 2))))) pss_nil)
      (pss_cons (ps_asg (pe_op op_add (pe_ix ix_list (pv 0) pe_int (fun _ _ => rfl)) pe_int) (pg_sub (pv 0) pe_int set_list))
      (pss_cons (ps_set (i := 3) scRoll.nd rfl (.inl rfl) (pe_op op_mod (pe_callTy call_int1 (by rfl) bI (by decide +kernel) (pa_cons (pe_op op_add (pe_ix ix_list (pv 0) pe_int (fun _ _ => rfl)) (pe_op op_mul pe_int (pe_ix ix_list (pv 0) pe_int (fun _ _ => rfl)))) pa_nil)) pe_int))
      (pss_cons (ps_set (i := 4) scRoll.nd rfl (.inl rfl) (pe_op op_add (pe_op op_mul (pe_op op_mod (pe_callTy call_int1 (by rfl) bI (by decide +kernel) (pa_cons (pe_op op_mul (pv 3) (pv 3)) pa_nil)) pe_int) (pv 3)) (pe_op op_mul pe_int (pe_ix ix_list (pv 0) pe_int (fun _ _ => rfl)))))
      (pss_cons (ps_set (i := 4) scRoll.nd rfl (.inl rfl) (pe_op op_mod (pe_callTy call_int1 (by rfl) bI (by decide +kernel) (pa_cons (pv 4) pa_nil)) pe_int))
      (pss_one (ps_ret (pe_op op_mod (pe_callTy call_int1 (by rfl) bI (by decide +kernel) (pa_cons (pe_op op_fdivN (pv 4) pe_int) pa_nil)) (pv 1)))))))), ?_⟩
    have g : ∀ (H' : Hp) (a b c : Int), H' d = some (.lst [.int a, .int b, .int c]) → ∀ (j : Nat) v, [V.int a, V.int b, V.int c][j]? = some v → ∀ Q : VK, Q v H' → rIxL K (.ref d) (.int (j : Int)) H' Q := fun H' a b c h j v hv Q q => ⟨d, _, _, v, rfl, rfl, SqL.of h, atI_nat hv, q⟩
    have gd : ∀ (H' : Hp) (c : Int), d = d ∧ True := fun _ _ => ⟨rfl, trivial⟩
    refine ⟨_, rfl, d, _, _, _, rfl, rfl, SqL.of hd, atI_nat (j := 0) rfl, _, _, rfl, rfl, _, rfl, ?_⟩
    refine ite2 (fun c => ?_) (fun c => ?_)
    · refine ⟨_, rfl, d, _, _, _, rfl, rfl, SqL.of hd, atI_nat (j := 0) rfl, .inl ⟨_, rfl, _, rfl, _, _, rfl, rfl, (by show (0 : Int) < t; omega), ?_⟩⟩
      refine ⟨_, rfl, d, _, _, _, rfl, rfl, SqL.of hd, atI_nat (j := 0) rfl, _, rfl, _, _, rfl, rfl, ⟨(by show t ≠ 0; omega), (by show t.natAbs < 1073741824; omega)⟩, ?_⟩
      refine ⟨_, rfl, d, _, _, 0, rfl, rfl, hd, rfl, _, rfl, ?_⟩
      refine q _ _ (Bar.refl d H).upd ⟨x.fdiv t, y, z, Int.fdiv_nonneg hx (by omega), upd_same⟩ (Int.emod_nonneg _ (by omega)) (Int.emod_lt_of_pos _ (by omega))
    · refine ⟨_, rfl, d, _, _, _, rfl, rfl, SqL.of hd, atI_nat (j := 2) rfl, _, _, rfl, rfl, _, rfl, d, _, _, 2, rfl, rfl, hd, rfl, ?_⟩
      have hd2 : (upd H d (.lst [.int x, .int y, .int (z + 1)])) d = some (.lst [.int x, .int y, .int (z + 1)]) := upd_same
      refine ⟨_, rfl, d, _, _, _, rfl, rfl, SqL.of hd2, atI_nat (j := 1) rfl, _, rfl, d, _, _, _, rfl, rfl, SqL.of hd2, atI_nat (j := 2) rfl, _, _, rfl, rfl, .inl ⟨by decide, by decide⟩, _, _, rfl, rfl, .inl ⟨_, rfl, _, _, rfl, rfl, (by show (0 : Int) < 2305843009213693951; decide), ?_⟩⟩
      have h0 := Int.emod_nonneg (y + 998244391 * (z + 1)) (b := 2305843009213693951) (by decide)
      have h1 := Int.emod_lt_of_pos (y + 998244391 * (z + 1)) (b := 2305843009213693951) (by decide)
      refine ⟨_, rfl, _, rfl, _, _, rfl, rfl, .inl ⟨(by show -(2 ^ 64 : Int) < (y + 998244391 * (z + 1)) % 2305843009213693951; omega), (by show (y + 998244391 * (z + 1)) % 2305843009213693951 < 2 ^ 64; omega)⟩, .inl ⟨_, rfl, _, _, rfl, rfl, (by show (0 : Int) < 2305843009213693907; decide), ?_⟩⟩
      refine ⟨_, rfl, _, _, rfl, rfl, .inr ⟨(by show -(2 ^ 64 : Int) < (y + 998244391 * (z + 1)) % 2305843009213693951; omega), (by show (y + 998244391 * (z + 1)) % 2305843009213693951 < 2 ^ 64; omega)⟩, _, rfl, d, _, _, _, rfl, rfl, SqL.of hd2, atI_nat (j := 2) rfl, _, _, rfl, rfl, .inl ⟨by decide, by decide⟩, _, _, rfl, rfl, ?_⟩
      refine ⟨_, rfl, .inl ⟨_, rfl, _, _, rfl, rfl, (by show (0 : Int) < 2305843009213693871; decide), ?_⟩⟩
      refine ⟨_, rfl, _, _, rfl, rfl, ⟨by decide, by decide⟩, .inl ⟨_, rfl, _, rfl, _, _, rfl, rfl, (by show (0 : Int) < t; omega), ?_⟩⟩
      exact q _ _ (Bar.refl d H).upd ⟨x, y, z + 1, hx, upd_same⟩ (Int.emod_nonneg _ (by omega)) (Int.emod_lt_of_pos _ (by omega))
theorem scPick : FnScope ["_law_dice_here", "_law_items"] ["_law_dice_here", "_law_items"] (defScope sPick) := ⟨rfl, rfl, rfl, by decide +kernel, rfl, by decide +kernel, by decide +kernel⟩
theorem c_pick (T : Fx K mg) : Cal P w K mg base 2 "_law_pick" spPick [] := by
  refine mkCal T 32 rfl (by decide +kernel) scPick (fun vs H Q E h => ?_) (fun _ _ _ _ _ _ us hl => match us, hl with | [_, _], _ => rfl) fun cdv A outer s H vs Q E hr h => ?_
  · obtain ⟨d, a, xs, rfl, _⟩ := h
    rfl
  · obtain ⟨d, a, xs, rfl, hd, hne, ha, hx, hl, q⟩ := h
    refine ⟨_, pss_one (ps_ret (pe_ix ix_list (pv 1) (pe_c (c_roll T) hr (by decide) (by rfl) (pa_cons (pv 0) (pa_cons (pe_callB call_len (by rfl) (T.bl "len" (by decide +kernel)) (by decide +kernel) (pa_cons (pv 1) pa_nil)) pa_nil))) (fun _ _ => rfl))), ?_⟩
    have hx1 : 1 ≤ xs.length := List.length_pos_iff.mpr hx
    refine ⟨_, rfl, _, rfl, _, rfl, _, _, rfl, .inl ⟨_, SqL.of ha, rfl⟩, d, _, rfl, hd, by omega, by omega, fun H' r hb hd' h0 h1 => ?_⟩
    obtain ⟨j, rfl⟩ : ∃ j : Nat, r = j := ⟨r.toNat, by omega⟩
    have hj : xs[j]? = some xs[j] := List.getElem?_eq_getElem (by omega)
    exact ⟨a, _, _, _, rfl, rfl, SqL.of (hb _ _ ha hne), atI_nat hj, q _ j _ hb hd' hj⟩
end
end K43

/-! The law's drawn demands and columns. -/
namespace K43
open PySem PySem.Spec PyProof.Rows L2
open C8 (Cal Met Mak pe_c pe_mk pe_mt pe_mt0 pe_gc InsC call_isC)

def Sm (n : Nat) (e : Dem) : Prop := Betw n e ∧ -5 ≤ e.2.2 ∧ e.2.2 ≤ 3
theorem map_get {l : List Int} {j : Nat} {v : V} (h : (l.map V.int)[j]? = some v) : ∃ i ∈ l, v = .int i := by
  rw [List.getElem?_map] at h
  obtain ⟨i, hi, e⟩ := Option.map_eq_some_iff.mp h
  exact ⟨i, List.mem_of_getElem? hi, e.symm⟩
theorem Bar.upd' {d D : Addr} {H H' : Hp} {o : HO} (b : Bar d H H') (n : H D = none) : Bar d H (L2.upd H' D o) := fun c u e nc => by
  rw [upd_ne (ne_of_none e n)]
  exact b c u e nc
theorem dice_upd {d D : Addr} {H : Hp} {o : HO} (h : DiceAt H d) (n : d ≠ D) : DiceAt (L2.upd H D o) d := by
  obtain ⟨x, y, z, h1, h2⟩ := h
  exact ⟨x, y, z, h1, by rw [upd_ne n]; exact h2⟩
def spLDem : Sp := fun vs H Q _ => ∃ (d : Addr) (n m : Nat), vs = [.ref d, .int n, .int m] ∧ DiceAt H d ∧ n ≤ 60 ∧ m ≤ 100 ∧ ∀ H' p ds, Bar d H H' → DiceAt H' d → H p = none → DLst H' p ds → ds.length ≤ m → (∀ e ∈ ds, Sm n e) → Q (.ref p) H'
def spLCol : Sp := fun vs H Q _ => ∃ (d : Addr) (n : Nat), vs = [.ref d, .int n] ∧ DiceAt H d ∧ n ≤ 60 ∧ ∀ H' t (cs : List Int), Bar d H H' → DiceAt H' d → H' t = some (.tup (cs.map V.int)) → cs.length = n → (∀ c ∈ cs, 0 ≤ c ∧ c ≤ 199) → Q (.ref t) H'
section
variable {P : Program} {w : World} {K : PySem.W.Frag} {mg : Str → Option Value} {base : Heap}
theorem scLDem : FnScope ["_law_dice_here", "_law_size", "_law_most", "_law_found", "_law_points", "_law_turn", "_law_upper", "_law_lower"] ["_law_dice_here", "_law_size", "_law_most"] (defScope sLDemands) := ⟨rfl, rfl, rfl, by decide +kernel, rfl, by decide +kernel, by decide +kernel⟩
theorem c_ldem (T : Fx K mg) : Cal P w K mg base 3 "_law_demands" spLDem [] := by
  refine mkCal T 33 rfl (by decide +kernel) scLDem (fun vs H Q E h => ?_) (fun _ _ _ _ _ _ us hl => match us, hl with | [_, _, _], _ => rfl) fun cdv A outer s H vs Q E hr h => ?_
  · obtain ⟨d, n, m, rfl, _⟩ := h
    rfl
  · obtain ⟨d, n, m, rfl, hd, hn, hm, q⟩ := h
    refine ⟨_, pss_cons (ps_par (i := 3) (j := 4) (by rfl) scLDem.nd rfl rfl (by decide) rfl rfl (pa_cons (pe_lst pa_nil) (pa_cons (pe_op op_cat (pe_lst (pa_cons (pe_un un_neg pe_int) pa_nil)) (pe_listRg rfl (by rfl) (T.bl "list" (by decide +kernel)) (prg_1 (by rfl) (T.bl "range" (by decide +kernel)) (pv 1)))) pa_nil)) (by rfl))
      (pss_cons (ps_for PassesOwn.never rfl (pi_range1 (by rfl) (T.bl "range" (by decide +kernel)) (pa_cons (pe_c (c_roll T) hr (by decide) (by rfl) (pa_cons (pv 0) (pa_cons (pe_op op_add (pv 2) pe_int) pa_nil))) pa_nil)) (pg_name (i := 5) scLDem.nd rfl (.inl rfl))
        (pss_cons (ps_par (i := 6) (j := 7) (by rfl) scLDem.nd rfl rfl (by decide) rfl rfl (pa_cons (pe_c (c_pick T) hr (by decide) (by rfl) (pa_cons (pv 0) (pa_cons (pv 4) pa_nil))) (pa_cons (pe_c (c_pick T) hr (by decide) (by rfl) (pa_cons (pv 0) (pa_cons (pv 4) pa_nil))) pa_nil)) (by rfl))
        (pss_one (ps_expr (pe_bm PySem.F.plainAttrs_list PySem.F.slot_list_append PySem.F.type_list_append mt_append (pv 3) (pa_cons (pe_tup (pa_cons (pv 6) (pa_cons (pv 7) (pa_cons (pe_c (c_pick T) hr (by decide) (by rfl) (pa_cons (pv 0) (pa_cons
          (pe_lst (pa_cons pe_int (pa_cons pe_int (pa_cons pe_int (pa_cons pe_int (pa_cons pe_int (pa_cons pe_int (pa_cons (pe_un un_neg pe_int) (pa_cons (pe_un un_neg pe_int) (pa_cons (pe_un un_neg pe_int) pa_nil)))))))))) pa_nil))) pa_nil)))) pa_nil))))))
      (pss_one (ps_ret (pv 3)))), ?_⟩
    refine ⟨Nat.zero_le _, fun f nf => ⟨_, rfl, by show 1 ≤ sizeLine; decide, fun l1 n1 => ⟨_, rfl, n, rfl, ⟨by decide, by decide, by omega, by omega, by omega⟩, fun l2 n2 => ?_⟩⟩⟩
    have s1 : Same H (upd (upd (upd H f (.lst [])) l1 (.lst [.int (-1)])) l2 (.lst (rgV 0 (n : Int)))) := ((sm_new nf).trans (sm_new n1)).trans (sm_new n2)
    have hg : rgV 0 (n : Int) = (List.range n).map fun (i : Nat) => V.int (i : Int) := by
      unfold rgV
      rw [Int.sub_zero, Int.toNat_natCast]
      exact List.map_congr_left fun i _ => by rw [Int.zero_add]
    refine ⟨l1, l2, _, _, rfl, rfl, (sm_new n2) _ _ upd_same, upd_same, ?_, fun pl npl => ?_⟩
    · rw [hg, List.length_map, List.length_range]
      exact Nat.le_of_lt (sz (by show 1 + n ≤ _; omega))
    · have ep : [V.int (-1)] ++ rgV 0 (n : Int) = ptsV n := by rw [hg]; rfl
      rw [ep]
      generalize hH1 : upd (upd (upd H f _) l1 _) l2 _ = H1 at npl
      have s1 : Same H H1 := by rw [← hH1]; exact s1
      have hf1 : H1 f = some (.lst []) := by rw [← hH1]; exact (sm_new n2) _ _ ((sm_new n1) _ _ upd_same)
      refine ⟨_, _, rfl, ?_⟩
      have s2 : Same H (upd H1 pl (.lst (ptsV n))) := s1.trans (sm_new npl)
      have npf : pl ≠ f := (ne_of_none hf1 npl).symm
      have hfd : f ≠ d := fun e => by
        obtain ⟨l, hl⟩ := hd.lst
        rw [e, hl] at nf
        cases nf
      have hpd : pl ≠ d := fun e => by
        obtain ⟨l, hl⟩ := hd.lst
        rw [e, s1 _ _ hl] at npl
        cases npl
      refine ⟨_, rfl, _, rfl, _, _, rfl, rfl, d, _, rfl, hd.same s2, by omega, by omega, fun H2 r b2 hd2 r0 r1 => ?_⟩
      refine ⟨r, rfl, by omega, by omega, ?_⟩
      refine for_range (lo := 0) (n := r.toNat) (fun i σ H' => Bar d H H' ∧ DiceAt H' d ∧ H' pl = some (.lst (ptsV n)) ∧ ∃ (ks : List (Addr × Dem)) (t5 t6 t7 : Option V), σ = [some (.ref d), some (.int n), some (.int m), some (.ref f), some (.ref pl), t5, t6, t7] ∧ H' f = some (.lst (refs ks)) ∧ Tups H' ks ∧ ks.length = i ∧ ∀ p ∈ ks, Sm n p.2)
        ⟨(toBar d s2).trans b2, hd2, b2 _ _ upd_same hpd, [], none, none, none, rfl, b2 _ _ (by rw [upd_ne npf.symm]; exact hf1) hfd, fun p hp => (by cases hp), rfl, fun p hp => (by cases hp)⟩ (fun i σ H' hi I => ?_) (fun σ H' I => ?_)
      · obtain ⟨b, hdi, hpl, ks, t5, t6, t7, rfl, hf, ht, hl, hsm⟩ := I
        have hpn : (ptsV n) ≠ [] := by unfold ptsV; simp
        have hpl1 : (ptsV n).length ≤ 1000000 := by rw [pts_len']; omega
        refine ⟨_, rfl, _, rfl, d, pl, _, rfl, hdi, hpd, hpl, hpn, hpl1, fun H3 j1 v1 b3 hd3 hv1 => ?_⟩
        refine ⟨_, rfl, _, rfl, d, pl, _, rfl, hd3, hpd, b3 _ _ hpl hpd, hpn, hpl1, fun H4 j2 v2 b4 hd4 hv2 => ⟨_, _, rfl, ?_⟩⟩
        obtain ⟨g1, rfl⟩ := pts_get hv1
        obtain ⟨g2, rfl⟩ := pts_get hv2
        have hf4 : H4 f = some (.lst (refs ks)) := b4 _ _ (b3 _ _ hf hfd) hfd
        refine ⟨_, rfl, .inl ⟨rfl, _, SqL.of hf4⟩, _, rfl, _, rfl, _, rfl, _, rfl, _, rfl, _, rfl, by show 9 ≤ sizeLine; decide, fun li nli => ?_⟩
        have hlid : li ≠ d := fun e => by
          obtain ⟨l, hl⟩ := hd4.lst
          rw [e, hl] at nli
          cases nli
        refine ⟨d, li, _, rfl, dice_upd hd4 hlid.symm, hlid, upd_same, by simp, by show 9 ≤ 1000000; decide, fun H5 j3 v3 b5 hd5 hv3 => ?_⟩
        obtain ⟨z, hz, rfl⟩ := map_get (l := [0, 0, 1, 1, 2, 3, -1, -2, -5]) hv3
        have hz2 : ∀ z ∈ ([0, 0, 1, 1, 2, 3, -1, -2, -5] : List Int), -5 ≤ z ∧ z ≤ 3 := by decide
        have b35 : Bar d H' H5 := ((b3.trans b4).trans (toBar d (sm_new nli))).trans b5
        refine ⟨by show 3 ≤ sizeLine; decide, fun t nt => ?_⟩
        have hf5 := b35 _ _ hf hfd
        have ntf : f ≠ t := ne_of_none hf5 nt
        have ntd : d ≠ t := fun e => by
          obtain ⟨l, hl⟩ := hd5.lst
          rw [← e, hl] at nt
          cases nt
        refine ⟨f, _, _, rfl, rfl, (by rw [upd_ne ntf]; exact hf5), by rw [refs_len]; exact sz (by omega), ?_⟩
        have keep : ∀ c u, H' c = some u → c ≠ d → c ≠ f → (upd (upd H5 t (.tup [.int ((j1 : Int) - 1), .int ((j2 : Int) - 1), .int z])) f (.lst (refs ks ++ [.ref t]))) c = some u := fun c u e nd nf => by
          rw [upd_ne nf, upd_ne (ne_of_none (b35 _ _ e nd) nt)]
          exact b35 _ _ e nd
        refine ⟨fun c u e nd => keep c u (b c u e nd) nd (ne_of_none e nf), dice_upd (dice_upd hd5 ntd) hfd.symm, keep _ _ hpl hpd npf, ks ++ [(t, ((j1 : Int) - 1, (j2 : Int) - 1, z))], _, _, _, rfl, ?_, fun p hp => ?_, by rw [List.length_append, hl] <;> rfl, fun p hp => ?_⟩
        · rw [upd_same, ← refs_app] <;> rfl
        · rcases List.mem_append.mp hp with hp | hp
          · have h1 := ht p hp
            obtain ⟨l, hl⟩ := hdi.lst
            exact keep _ _ h1 (ne_of h1 hl (by intro q; cases q)) (ne_of h1 hf (by intro q; cases q))
          · cases List.mem_singleton.mp hp
            rw [upd_ne ntf.symm]
            exact upd_same
        · rcases List.mem_append.mp hp with hp | hp
          · exact hsm p hp
          · cases List.mem_singleton.mp hp
            have := hz2 z hz
            unfold Sm Betw IsPt
            dsimp only
            omega
      · obtain ⟨b, hdi, hpl, ks, t5, t6, t7, rfl, hf, ht, hl, hsm⟩ := I
        refine ⟨_, rfl, q H' f (ks.map (·.2)) b hdi nf ⟨ks, hf, ht, rfl⟩ (by rw [List.length_map]; omega) fun e he => ?_⟩
        obtain ⟨p, hp, rfl⟩ := List.mem_map.mp he
        exact hsm p hp
theorem scLCol : FnScope ["_law_dice_here", "_law_size", "_law_line"] ["_law_dice_here", "_law_size"] (defScope sLColumns) := ⟨rfl, rfl, rfl, by decide +kernel, rfl, by decide +kernel, by decide +kernel⟩
theorem c_lcol (T : Fx K mg) : Cal P w K mg base 3 "_law_drawn_columns" spLCol [] := by
  refine mkCal T 34 rfl (by decide +kernel) scLCol (fun vs H Q E h => ?_) (fun _ _ _ _ _ _ us hl => match us, hl with | [_, _], _ => rfl) fun cdv A outer s H vs Q E hr h => ?_
  · obtain ⟨d, n, rfl, _⟩ := h
    rfl
  · obtain ⟨d, n, rfl, hd, hn, q⟩ := h
    refine ⟨_, pss_one (ps_ret (pe_callTy call_tuple_of (by rfl) (T.bl "tuple" (by decide +kernel)) (by decide +kernel) (pa_cons (pe_lc (own := [("_law_line", 2)]) (g := gName 2) (tt := tYes) rfl scLCol.nd (pi_range1 (by rfl) (T.bl "range" (by decide +kernel)) (pa_cons (pv 1) pa_nil))
          (blkOk_by (own := [("_law_line", 2)]) (N := ["_law_dice_here", "_law_size", "_law_line"]) (sc := defScope sLColumns) (by decide +kernel)) (fun _ _ _ _ _ => pg_name (i := 2) scLCol.nd rfl (Or.inl rfl)) (fun _ _ _ _ _ => pts_nil)
          (fun _ _ _ _ _ => pe_c (c_pick T) hr (by decide) (by rfl) (pa_cons (pv 0) (pa_cons (pe_lst (pa_cons pe_int (pa_cons pe_int (pa_cons pe_int (pa_cons pe_int (pa_cons pe_int (pa_cons pe_int (pa_cons pe_int (pa_cons pe_int pa_nil))))))))) pa_nil)))) pa_nil))), ?_⟩
    refine ⟨_, rfl, n, rfl, by omega, by omega, fun D nD => ?_⟩
    have hDd : D ≠ d := fun e => by
      obtain ⟨l, hl⟩ := hd.lst
      rw [e, hl] at nD
      cases nD
    refine lcR (fun H6 => Bar d H H6 ∧ DiceAt H6 d) (fun j y _ => ∃ z, y = V.int z ∧ 0 ≤ z ∧ z ≤ 199) ⟨toBar d (sm_new nD), hd.same (sm_new nD)⟩ (fun H' l s => ⟨s.1.upd' nD, dice_upd s.2 hDd.symm⟩) (fun _ _ _ _ _ _ h => h) (n := (n : Int).toNat) (by omega) (fun j H6 l Fin No hj s8 hD fin => ?_) (fun H6 ys s8 hD hy hall => ?_)
    · refine ⟨rfl, _, rfl, by show 8 ≤ sizeLine; decide, fun li nli => ?_⟩
      have hlid : li ≠ d := fun e => by
        obtain ⟨l, hl⟩ := s8.2.lst
        rw [e, hl] at nli
        cases nli
      refine ⟨d, li, _, rfl, dice_upd s8.2 hlid.symm, hlid, upd_same, by simp, by show 8 ≤ 1000000; decide, fun H5 j3 v3 b5 hd5 hv3 => ?_⟩
      obtain ⟨z, hz, rfl⟩ := map_get (l := [0, 0, 1, 1, 2, 3, 4, 6]) hv3
      have hz2 : ∀ z ∈ ([0, 0, 1, 1, 2, 3, 4, 6] : List Int), 0 ≤ z ∧ z ≤ 199 := by decide
      have b6 : Bar d H6 H5 := (toBar d (sm_new nli)).trans b5
      exact fin _ _ ⟨s8.1.trans b6, hd5⟩ (b6 _ _ hD hDd) (fun _ _ h => h) ⟨z, rfl, hz2 z hz⟩
    · obtain ⟨cs, e1, e2⟩ := ints_of hall
      subst e1
      rw [List.length_map] at hy
      refine ⟨D, _, rfl, .inl ⟨SqL.of hD, fun t nt => ?_⟩⟩
      refine q _ t cs (s8.1.trans (toBar d (sm_new nt))) (s8.2.same (sm_new nt)) upd_same (by omega) fun c hc => ?_
      obtain ⟨i, hi⟩ := List.getElem?_of_mem hc
      exact e2 i c hi
end
end K43

/-! System's properties; a system beside the dice; equal tuples of demands. -/
namespace K43
open PySem PySem.Spec PyProof.Rows L2
open C8 (Cal Met Mak pe_c pe_mk pe_mt pe_mt0 pe_gc InsC call_isC)

theorem DTup.barL {d : Addr} {l : List V} {H H' : Hp} {a : Addr} {ds : List Dem} (hd : H d = some (.lst l)) (b : Bar d H H') (h : DTup H a ds) : DTup H' a ds := by
  obtain ⟨ks, h1, h2, h3⟩ := h
  exact ⟨ks, b _ _ h1 (ne_of h1 hd (by intro q; cases q)), fun p hp => b _ _ (h2 p hp) (ne_of (h2 p hp) hd (by intro q; cases q)), h3⟩
theorem tup_barL {d : Addr} {l : List V} {H H' : Hp} {a : Addr} {xs : List V} (hd : H d = some (.lst l)) (b : Bar d H H') (h : H a = some (.tup xs)) : H' a = some (.tup xs) := b _ _ h (ne_of h hd (by intro q; cases q))
theorem IsD3.barL {d : Addr} {l : List V} {H H' : Hp} {v : V} {e : Dem} (hd : H d = some (.lst l)) (b : Bar d H H') (h : IsD3 H v e) : IsD3 H' v e := by
  obtain ⟨a, rfl, h⟩ := h
  exact ⟨a, rfl, tup_barL hd b h⟩
theorem RowP.barL {d : Addr} {l : List V} {H H' : Hp} {v : V} {n : Nat} {p : Nat → Int → Prop} (hd : H d = some (.lst l)) (b : Bar d H H') (h : RowP H v n p) : RowP H' v n p := by
  obtain ⟨a, r, h1, h2, h3⟩ := h
  exact ⟨a, r, h1, tup_barL hd b h2, h3⟩
theorem SysAt.barL {K : PySem.W.Frag} {d : Addr} {l : List V} {H H' : Hp} {p : Addr} {n : Nat} {dem all : List Dem} (hd : H d = some (.lst l)) (b : Bar d H H') (h : SysAt K H p n dem all) : SysAt K H' p n dem all := by
  obtain ⟨dx, fs, dm, al, ky, rg, nw, wd, h⟩ := h
  refine ⟨dx, fs, dm, al, ky, rg, nw, wd, ⟨h.pl, b _ _ h.ins (ne_of h.ins hd (by intro q; cases q)), h.f, h.hd.barL hd b, h.ha.barL hd b, tup_barL hd b h.hk, ?_⟩⟩
  rcases h.hr with ⟨h1, h2, h3, h4⟩ | h
  · exact .inl ⟨h1, h2, h3.barL hd b, h4.barL hd b⟩
  · exact .inr h
theorem SysAt.dice {K : PySem.W.Frag} {d : Addr} {H H' : Hp} {p : Addr} {n : Nat} {dem all : List Dem} (hd : DiceAt H d) (b : Bar d H H') (h : SysAt K H p n dem all) : SysAt K H' p n dem all := hd.lst.elim fun _ hl => h.barL hl b

def spPoss (K : PySem.W.Frag) : Sp := fun vs H Q _ => ∃ (p : Addr) (n : Nat) (d a : List Dem), vs = [.ref p] ∧ SysAt K H p n d a ∧ ∀ b : Bool, (b = true ↔ Feas a) → Q (.bl b) H
def spPDem (K : PySem.W.Frag) : Sp := fun vs H Q _ => ∃ (p : Addr) (n : Nat) (d a : List Dem), vs = [.ref p] ∧ SysAt K H p n d a ∧ ∀ t, DTup H t d → Q (.ref t) H
def spPAll (K : PySem.W.Frag) : Sp := fun vs H Q _ => ∃ (p : Addr) (n : Nat) (d a : List Dem), vs = [.ref p] ∧ SysAt K H p n d a ∧ ∀ t, DTup H t a → Q (.ref t) H
section
variable {P : Program} {w : World} {K : PySem.W.Frag} {mg : Str → Option Value} {base : Heap}
theorem scPoss : FnScope ["self"] ["self"] (defScope sPropPoss) := ⟨rfl, rfl, rfl, by decide +kernel, rfl, by decide +kernel, by decide +kernel⟩
theorem scPDem : FnScope ["self"] ["self"] (defScope sPropDemands) := ⟨rfl, rfl, rfl, by decide +kernel, rfl, by decide +kernel, by decide +kernel⟩
theorem scPAll : FnScope ["self"] ["self"] (defScope sPropAll) := ⟨rfl, rfl, rfl, by decide +kernel, rfl, by decide +kernel, by decide +kernel⟩
/-- a property of System, read -/
structure Prp (P : Program) (w : World) (K : PySem.W.Frag) (mg : Str → Option Value) (base : Heap) (x : Str) (sp : Sp) : Prop where
  ex : ∃ fd, PropOf K (CS K) x (He.ma K (CS K) x) (pga K x) ∧ FnOk P w K mg base CX0 1 (pga K x) fd ["self"] sp ∧ L2.Binds K fd ["self"] []
theorem mkPrp {x q : Str} {st : Stmt} {sp : Sp} (T : Fx K mg) (hx : (x, q, st) ∈ prS) (S : FnScope ["self"] ["self"] (defScope st)) (len : ∀ vs H Q E, sp vs H Q E → vs.length = 1)
    (hb : ∀ (kV doc pm : Value) (an : Option Addr) (cdv ct : Value) (us : List Value), us.length = (["self"] : List Str).length → bindArgs (PySem.W.fnOf x q (defArgs st) (defBody st) (defScope st) .none kV doc pm an cdv ct) ⟨us, []⟩ = pure ((["self"] : List Str).zip us))
    (hbody : ∀ (cdv : Value) (A : Around) (outer : List Env) (s : Shared) (H : Hp) (vs : List V) (Q : VK) (E : XK), Room 0 (A.deeper (envOfC q (defScope st) s.heap.objs.size (pga K x) cdv)) → sp vs H Q E →
      ∃ t, PSs (cxOf CX0 P w K mg base ["self"] q (defScope st) (pga K x) cdv A outer s H E).nox (defBody st) t ∧ t { nx := fun _ H' => Q .non H', rt := Q } (start ["self"] vs) H) : Prp P w K mg base x sp := by
  obtain ⟨O, fd, F⟩ := T.pr (x, q, st) hx
  refine ⟨fd, O, F.ok S len (fun cdv A outer s H vs Q E hr h => ?_), F.bindsN hb⟩
  obtain ⟨t, h1, h2⟩ := hbody cdv A outer s H vs Q E hr h
  exact ⟨t, h1.nox, h2⟩
theorem p_poss (T : Fx K mg) : Prp P w K mg base "is_possible" (spPoss K) := by
  refine mkPrp T (.tail _ (.tail _ (.head _))) scPoss (fun vs H Q E h => ?_) (fun _ _ _ _ _ _ us hl => match us, hl with | [_], _ => rfl) fun cdv A outer s H vs Q E hr h => ?_
  · obtain ⟨p, n, d, a, rfl, _⟩ := h
    rfl
  · obtain ⟨p, n, d, a, rfl, ⟨dx, fs, dm, al, ky, rg, nw, wd, h1⟩, q⟩ := h
    refine ⟨_, pss_one (ps_ret (pe_cmpR op_isN (pe_fld (pv 0) rfl) pe_non (nomark _))), ?_⟩
    refine ⟨_, rfl, p, _, dx, _, _, rfl, h1.ins, T.cs, nsF T (f := "own_ring") (by decide +kernel), h1.f.ring, rfl, ?_⟩
    rcases h1.hr with ⟨hF, rfl, _⟩ | ⟨hF, q0, rfl⟩
    · exact q _ ⟨fun _ => hF, fun _ => decide_eq_true rfl⟩
    · exact q _ ⟨fun h => (by cases of_decide_eq_true h), fun h => (hF h).elim⟩
theorem p_dem (T : Fx K mg) : Prp P w K mg base "demands" (spPDem K) := by
  refine mkPrp T (.head _) scPDem (fun vs H Q E h => ?_) (fun _ _ _ _ _ _ us hl => match us, hl with | [_], _ => rfl) fun cdv A outer s H vs Q E hr h => ?_
  · obtain ⟨p, n, d, a, rfl, _⟩ := h
    rfl
  · obtain ⟨p, n, d, a, rfl, ⟨dx, fs, dm, al, ky, rg, nw, wd, h1⟩, q⟩ := h
    refine ⟨_, pss_one (ps_ret (pe_fld (pv 0) rfl)), ?_⟩
    exact ⟨_, rfl, p, _, dx, _, _, rfl, h1.ins, T.cs, nsF T (f := "own_demands") (by decide +kernel), h1.f.dem, q _ h1.hd⟩
theorem p_all (T : Fx K mg) : Prp P w K mg base "all_demands" (spPAll K) := by
  refine mkPrp T (.tail _ (.head _)) scPAll (fun vs H Q E h => ?_) (fun _ _ _ _ _ _ us hl => match us, hl with | [_], _ => rfl) fun cdv A outer s H vs Q E hr h => ?_
  · obtain ⟨p, n, d, a, rfl, _⟩ := h
    rfl
  · obtain ⟨p, n, d, a, rfl, ⟨dx, fs, dm, al, ky, rg, nw, wd, h1⟩, q⟩ := h
    refine ⟨_, pss_one (ps_ret (pe_fld (pv 0) rfl)), ?_⟩
    exact ⟨_, rfl, p, _, dx, _, _, rfl, h1.ins, T.cs, nsF T (f := "own_all") (by decide +kernel), h1.f.all, q _ h1.ha⟩
theorem pe_pr {X : Cx} {k : Nat} {x : Str} {sp : Sp} {e : Expr} {pos : Pos} {ta : TE} (g : Prp X.prog X.w X.K X.mg X.base x sp) (hc : Cls X.K (CS X.K)) (hr : Room k X.A) (hk : 2 ≤ k) (he : PE X e ta) (hb : attributeBase e x X.env (eval e X.env) = eval e X.env := by rfl) :
    PE X (.Attribute e x pos) (tProp (CS X.K) sp [] E0 ta) := by
  obtain ⟨fd, O, F, B⟩ := g.ex
  exact pe_prop he hc O F (hr.mono hk) B .nil pass0 hb
end
theorem eqD {K : PySem.W.Frag} {H : Hp} {a b : Addr} {d d' : List Dem} {Q : VK} (h : DTup H a d) (h' : DTup H b d') (q : Q (.bl (decide (d = d'))) H) : rEqD K (.ref a) (.ref b) H Q := by
  obtain ⟨ks, k1, k2, k3⟩ := h
  obtain ⟨ks', k1', k2', k3'⟩ := h'
  refine ⟨_, _, .tup (SqT.of k1) (dp_refs k2), .tup (SqT.of k1') (dp_refs k2'), (Pl.tup (pl_d3s _)).shaped (by decide), (Pl.tup (pl_d3s _)).shaped (by decide), ?_⟩
  rw [eqv_tup, eqv_d3s, k3, k3']
  exact q
theorem neD {K : PySem.W.Frag} {H : Hp} {a b : Addr} {d d' : List Dem} {Q : VK} (h : DTup H a d) (h' : DTup H b d') (q : Q (.bl (!decide (d = d'))) H) : rNeD K (.ref a) (.ref b) H Q := by
  obtain ⟨ks, k1, k2, k3⟩ := h
  obtain ⟨ks', k1', k2', k3'⟩ := h'
  refine ⟨_, _, .tup (SqT.of k1) (dp_refs k2), .tup (SqT.of k1') (dp_refs k2'), (Pl.tup (pl_d3s _)).shaped (by decide), (Pl.tup (pl_d3s _)).shaped (by decide), ?_⟩
  rw [eqv_tup, eqv_d3s, k3, k3']
  exact q
theorem catD {K : PySem.W.Frag} {H : Hp} {a b : Addr} {d d' : List Dem} {Q : VK} (h : DTup H a d) (h' : DTup H b d') (hl : d.length + d'.length ≤ 2000) (q : ∀ H' p, Same H H' → DTup H' p (d ++ d') → Q (.ref p) H') : rCatA K (.ref a) (.ref b) H Q := by
  obtain ⟨ks, k1, k2, rfl⟩ := id h
  obtain ⟨ks', k1', k2', rfl⟩ := id h'
  rw [List.length_map, List.length_map] at hl
  refine ⟨a, b, _, _, rfl, rfl, SqT.of k1, SqT.of k1', by rw [refs_len, refs_len]; exact Nat.le_of_lt (sz (by omega)), fun e => ?_, fun e e' => ?_, fun e e' p np => ?_⟩
  · have : ks = [] := by
      cases ks with
      | nil => rfl
      | cons x l => cases e
    subst this
    exact q H b (fun _ _ h => h) h'
  · have : ks' = [] := by
      cases ks' with
      | nil => rfl
      | cons x l => cases e'
    subst this
    exact q H a (fun _ _ h => h) (by rw [List.map_nil, List.append_nil]; exact h)
  · have s1 := sm_new (o := .tup (refs ks ++ refs ks')) np
    refine q _ p s1 ⟨ks ++ ks', by rw [upd_same, refs_app], fun r hr => ?_, by rw [List.map_append]⟩
    rcases List.mem_append.mp hr with hr | hr
    · exact s1 _ _ (k2 r hr)
    · exact s1 _ _ (k2' r hr)
end K43

/-! The law's helpers that ask a system. -/
namespace K43
open PySem PySem.Spec PyProof.Rows L2
open C8 (Cal Met Mak pe_c pe_mk pe_mt pe_mt0 pe_gc InsC call_isC)

/-- a def of the module that wants no repr under way -/
structure CalG (P : Program) (w : World) (K : PySem.W.Frag) (mg : Str → Option Value) (base : Heap) (k : Nat) (x : Str) (sp : Sp) : Prop where
  ex : ∃ f fd ps, FnOkG P w K mg base CX0 k f fd ps sp ∧ mg x = some (.ref f) ∧ PySem.W.keepIn K (.ref f) = true ∧ L2.Binds K fd ps []
theorem pe_cG {X : Cx} {k j : Nat} {x : Str} {sp : Sp} {p pos : Pos} {e : Expr} {es : List Expr} {t : TA} (c : CalG X.prog X.w X.K X.mg X.base k x sp) (hgd : X.A.guards = some []) (hr : Room j X.A) (hk : k ≤ j) (hg : Gl X x) (ha : PA X (e :: es) t) (hdb : (x == ("__debug__" : Str)) = false := by decide)
    (he : starEach (e :: es) X.env = (false, eval e X.env) :: starEach es X.env := by rfl) (hpl : (backTo pos (starEach es X.env)).any (·.1) = false := by rfl) : PE X (.Call (.Name x p) (e :: es) [] pos) (tCall sp [] E0 t) := by
  obtain ⟨f, fd, ps, F, hm, hkp, hb⟩ := c.ex
  exact pe_callG F hgd (hr.mono hk) hg hm hkp hb ha hdb he hpl
section
variable {P : Program} {w : World} {K : PySem.W.Frag} {mg : Str → Option Value} {base : Heap}
theorem mkCalG {x : Str} {st : Stmt} {N ps : List Str} {k : Nat} {sp : Sp} (T : Fx K mg) (i : Nat) (hi : fn[i]? = some (gd x st)) (hx : x ∈ gnames) (S : FnScope N ps (defScope st)) (len : ∀ vs H Q E, sp vs H Q E → vs.length = ps.length)
    (hb : ∀ (kV doc pm : Value) (an : Option Addr) (cdv ct : Value) (us : List Value), us.length = ps.length → bindArgs (PySem.W.fnOf x x (defArgs st) (defBody st) (defScope st) .none kV doc pm an cdv ct) ⟨us, []⟩ = pure (ps.zip us))
    (hbody : ∀ (cdv : Value) (A : Around) (outer : List Env) (s : Shared) (H : Hp) (vs : List V) (Q : VK) (E : XK), A.guards = some [] → Room k (A.deeper (envOfC x (defScope st) s.heap.objs.size (He.ga K x) cdv)) → sp vs H Q E →
      ∃ t, PSs (cxOf CX0 P w K mg base N x (defScope st) (He.ga K x) cdv A outer s H E).nox (defBody st) t ∧ t { nx := fun _ H' => Q .non H', rt := Q } (start N vs) H) : CalG P w K mg base (k + 1) x sp := by
  obtain ⟨fd, F⟩ := T.fn i _ hi
  have F' : FunD K x x (defArgs st) (defBody st) (defScope st) [] [] (He.ga K x) fd := F
  refine ⟨He.ga K x, fd, ps, FnOkG.of F' S len (fun cdv A outer s H vs Q E hgd hr h => ?_), T.gl x hx, F'.kp, F'.bindsN hb⟩
  obtain ⟨t, h1, h2⟩ := hbody cdv A outer s H vs Q E hgd hr h
  exact ⟨t, h1.nox, h2⟩
end
def con (e : Dem) : Dem := (e.2.1, e.1, 1 - e.2.2)
def spImplied (K : PySem.W.Frag) : Sp := fun vs H Q _ => ∃ (d0 : V) (p : Addr) (v : V) (n : Nat) (d a : List Dem) (e : Dem), vs = [d0, .ref p, v] ∧ SysAt K H p n d a ∧ IsD3 H v e ∧ Ok n e ∧ Ok n (con e) ∧ d.length ≤ 100 ∧ ∀ H', Same H H' → Q (.bl true) H'
def spFixedR (K : PySem.W.Frag) : Sp := fun vs H Q _ => ∃ (d0 p : Addr) (i : Int) (n : Nat) (d a : List Dem), vs = [.ref d0, .ref p, .int i] ∧ DiceAt H d0 ∧ SysAt K H p n d a ∧ 0 ≤ i ∧ i < n ∧ d.length ≤ 100 ∧ ∀ H', Bar d0 H H' → DiceAt H' d0 → Q (.bl true) H'
theorem bool_eq {a b : Bool} {p q : Prop} (ha : a = true ↔ p) (hb : b = true ↔ q) (h : p ↔ q) : a = b := by
  cases a <;> cases b <;> simp_all
section
variable {P : Program} {w : World} {K : PySem.W.Frag} {mg : Str → Option Value} {base : Heap}
theorem scImplied : FnScope ["_law_dice_here", "_law_system", "_law_demand", "_law_more", "_law_upper", "_law_lower", "_law_least", "_law_contrary", "_law_due"] ["_law_dice_here", "_law_system", "_law_demand"] (defScope sImplied) := ⟨rfl, rfl, rfl, by decide +kernel, rfl, by decide +kernel, by decide +kernel⟩
theorem c_implied (T : Fx K mg) : CalG P w K mg base 9 "_law_implied_right" (spImplied K) := by
  refine mkCalG T 35 rfl (by decide +kernel) scImplied (fun vs H Q E h => ?_) (fun _ _ _ _ _ _ us hl => match us, hl with | [_, _, _], _ => rfl) fun cdv A outer s H vs Q E hgd hr h => ?_
  · obtain ⟨d0, p, v, n, d, a, e, rfl, _⟩ := h
    rfl
  · obtain ⟨d0, p, v, n, d, a, ⟨u, l, dd⟩, rfl, hs, hv, hok, hcon, hdl, q⟩ := h
    have MW : Meth K (CS K) "with_demands" (He.ma K (CS K) "with_demands") := T.es _ (by decide +kernel)
    refine ⟨_, pss_cons (ps_set (i := 3) scImplied.nd rfl (.inl rfl) (pe_methR (pv 1) T.cs MW (f_with T) (hr.mono (by decide)) pass0 (pa_cons (pv 2) pa_nil)))
      (pss_cons (ps_asg (pv 2) (pg_tup rfl (pgs_cons (pg_name (i := 4) scImplied.nd rfl (.inl rfl)) (pgs_cons (pg_name (i := 5) scImplied.nd rfl (.inl rfl)) (pgs_cons (pg_name (i := 6) scImplied.nd rfl (.inl rfl)) pgs_nil)))))
      (pss_cons (ps_set (i := 7) scImplied.nd rfl (.inl rfl) (pe_methR (pv 1) T.cs MW (f_with T) (hr.mono (by decide)) pass0 (pa_cons (pe_tup (pa_cons (pv 5) (pa_cons (pv 4) (pa_cons (pe_op op_sub pe_int (pv 6)) pa_nil)))) pa_nil)))
      (pss_cons (ps_set (i := 8) scImplied.nd rfl (.inl rfl) (pe_not (pe_pr (p_poss T) T.cs hr (by decide) (pv 7))))
      (pss_cons (ps_if (pt_cmpR op_ne (pe_callB (cr_repr3 hgd (room8 hr)) (by rfl) (T.bl "repr" (by decide +kernel)) (by decide +kernel) (pa_cons (pe_lst (pa_cons (pe_mt (m_implies T) hr (by decide) (pv 1) (pa_cons (pv 2) pa_nil)) (pa_cons (pe_mt (m_alike T) hr (by decide) (pv 3) (pa_cons (pv 1) pa_nil)) (pa_cons (pe_mt (m_alike T) hr (by decide) (pv 3) (pa_cons pe_non pa_nil)) pa_nil)))) pa_nil))
          (pe_callB (cr_repr3 hgd (room8 hr)) (by rfl) (T.bl "repr" (by decide +kernel)) (by decide +kernel) (pa_cons (pe_lst (pa_cons (pv 8) (pa_cons (pv 8) (pa_cons pe_bl pa_nil)))) pa_nil)) (nomark _)) (pss_one (ps_ret pe_bl)) pss_nil)
      (pss_one (ps_ret (pe_and (pe_cmpR op_isBl (pe_mt (m_implies T) hr (by decide) (pv 3) (pa_cons (pv 2) pa_nil)) pe_bl (nomark _))
        (pe_one (pe_cmpR (op_eqD (room64 hr)) (pe_pr (p_dem T) T.cs hr (by decide) (pv 3)) (pe_op op_catA (pe_pr (p_dem T) T.cs hr (by decide) (pv 1)) (pe_tup (pa_cons (pv 2) pa_nil))) (nomark _)))))))))), ?_⟩
    obtain ⟨dx, fs, dm, al, ky, rg, nw, wd, h1⟩ := id hs
    refine ⟨_, rfl, p, dx, fs, rfl, h1.ins, h1.f.no _ (by decide +kernel), _, rfl, p, v, n, d, a, (u, l, dd), rfl, hs, hv, hok, by omega, fun H1 more a1 s1 hm1 => ?_⟩
    obtain ⟨va, rfl, hva⟩ := hv.same s1
    refine ⟨_, rfl, va, _, rfl, SqT.of hva, rfl, _, _, rfl, _, _, rfl, _, _, rfl, rfl, ?_⟩
    refine ⟨_, rfl, p, dx, fs, rfl, s1 _ _ h1.ins, h1.f.no _ (by decide +kernel), _, rfl, _, rfl, _, rfl, _, _, rfl, rfl, by show 3 ≤ sizeLine; decide, fun t nt => ?_⟩
    have s2 := sm_new (o := .tup [.int l, .int u, .int (1 - dd)]) nt
    refine ⟨p, .ref t, n, d, a, (l, u, 1 - dd), rfl, (hs.same s1).same s2, ⟨t, rfl, upd_same⟩, hcon, by omega, fun H2 cn a2 s3 hc2 => ?_⟩
    have s13 : Same H1 H2 := s2.trans s3
    have s02 : Same H H2 := s1.trans s13
    have hm2 := hm1.same s13
    have hs2 := hs.same s02
    have hv2 : IsD3 H2 (.ref va) (u, l, dd) := ⟨va, rfl, s13 _ _ hva⟩
    obtain ⟨dx3, fs3, dm3, al3, ky3, rg3, nw3, wd3, h3⟩ := id hc2
    obtain ⟨dx4, fs4, dm4, al4, ky4, rg4, nw4, wd4, h4⟩ := id hm2
    have g1 := h1.same s02
    refine ⟨_, rfl, cn, dx3, fs3, rfl, h3.ins, cn, n, _, a2, rfl, hc2, fun b hb => ⟨b, rfl, ?_⟩⟩
    refine ⟨_, rfl, p, dx, fs, rfl, g1.ins, g1.f.no _ (by decide +kernel), _, rfl, p, n, d, a, _, rfl, hs2, .inr ⟨_, hv2, hok, fun H3 r1 s4 hr1 => ?_⟩⟩
    refine ⟨_, rfl, more, dx4, fs4, rfl, s4 _ _ h4.ins, h4.f.no _ (by decide +kernel), _, rfl, more, n, _, a1, _, rfl, hm2.same s4, .inr ⟨p, d, a, rfl, hs2.same s4, fun H4 r2 s5 hr2 => ?_⟩⟩
    have s45 := s4.trans s5
    refine ⟨_, rfl, more, dx4, fs4, rfl, s45 _ _ h4.ins, h4.f.no _ (by decide +kernel), more, n, _, a1, _, rfl, hm2.same s45, .inl ⟨rfl, ?_⟩⟩
    refine ⟨by show 3 ≤ sizeLine; decide, fun l1 n1 => ⟨l1, r1, r2, false, rfl, upd_same, ?_⟩⟩
    refine ⟨_, rfl, _, rfl, by show 3 ≤ sizeLine; decide, fun l2 n2 => ⟨l2, !b, !b, false, rfl, upd_same, ?_⟩⟩
    have e1 : r1 = !b := by
      have hi := impl_contrary hs.pl.uni hc2.pl.uni (u := u) (l := l) (d := dd)
      refine bool_eq hr1 (q := ¬ Feas a2) ?_ hi
      rw [← hb]
      cases b <;> simp
    have e2 : r2 = r1 := bool_eq hr2 hr1 (impl_more hs.pl.uni hm1.pl.uni).symm
    rw [e2, e1]
    refine ⟨rfl, _, rfl, ?_⟩
    rw [show (!decide (V.str (shown3 (!b) (!b) false) = V.str (shown3 (!b) (!b) false))) = false by rw [decide_eq_true rfl]; rfl]
    have s6 := (sm_new (o := .lst [.bl r1, .bl r2, .bl false]) n1)
    have s67 : Same H2 (upd (upd H4 l1 (.lst [.bl r1, .bl r2, .bl false])) l2 (.lst [.bl (!b), .bl (!b), .bl false])) := (s45.trans s6).trans (sm_new n2)
    rw [e2, e1] at s67
    refine ⟨_, rfl, more, dx4, fs4, rfl, s67 _ _ h4.ins, h4.f.no _ (by decide +kernel), _, rfl, more, n, _, a1, _, rfl, hm2.same s67, .inr ⟨_, hv2.same s67, hok, fun H5 r3 s8 hr3 => ?_⟩⟩
    have e3 : r3 = true := hr3.mpr (impl_self hs.pl.uni hm1.pl.uni)
    subst e3
    have s9 := s67.trans s8
    refine ⟨true, true, rfl, rfl, true, rfl, iteT ?_⟩
    refine ⟨_, rfl, more, dx4, fs4, rfl, s9 _ _ h4.ins, more, n, _, a1, rfl, hm2.same s9, fun t1 ht1 => ?_⟩
    refine ⟨_, rfl, p, dx, fs, rfl, s9 _ _ g1.ins, p, n, d, a, rfl, hs2.same s9, fun t2 ht2 => ?_⟩
    refine ⟨_, rfl, by show 1 ≤ sizeLine; decide, fun t3 n3 => ?_⟩
    have s10 := sm_new (o := .tup [.ref va]) n3
    refine catD (d' := [(u, l, dd)]) (ht2.same s10) ⟨[(va, (u, l, dd))], upd_same, fun r hr => (by cases List.mem_singleton.mp hr; exact s10 _ _ (s9 _ _ (s13 _ _ hva))), rfl⟩ (by show d.length + 1 ≤ 2000; omega) fun H6 t4 s11 ht4 => ?_
    refine eqD ((ht1.same s10).same s11) ht4 ?_
    rw [decide_eq_true rfl]
    exact q _ (((s02.trans s9).trans s10).trans s11)
end
end K43

/-! The law's helper that fixes a line. -/
namespace K43
open PySem PySem.Spec PyProof.Rows L2
open C8 (Cal Met Mak pe_c pe_mk pe_mt pe_mt0 pe_gc InsC call_isC)

section
variable {P : Program} {w : World} {K : PySem.W.Frag} {mg : Str → Option Value} {base : Heap}
theorem scFixedR : FnScope ["_law_dice_here", "_law_system", "_law_line", "_law_column", "_law_fixed", "_law_least", "_law_most"] ["_law_dice_here", "_law_system", "_law_line"] (defScope sFixedR) := ⟨rfl, rfl, rfl, by decide +kernel, rfl, by decide +kernel, by decide +kernel⟩
theorem bl_eq {a b : Bool} : decide (V.bl a = V.bl b) = decide (a = b) := by
  congr 1
  exact propext ⟨fun h => by cases h; rfl, fun h => by rw [h]⟩
theorem c_fixedR (T : Fx K mg) : Cal P w K mg base 9 "_law_fixed_right" (spFixedR K) [] := by
  refine mkCal T 36 rfl (by decide +kernel) scFixedR (fun vs H Q E h => ?_) (fun _ _ _ _ _ _ us hl => match us, hl with | [_, _, _], _ => rfl) fun cdv A outer s H vs Q E hr h => ?_
  · obtain ⟨d0, p, i, n, d, a, rfl, _⟩ := h
    rfl
  · obtain ⟨d0, p, i, n, d, a, rfl, hd, hs, hi0, hi1, hdl, q⟩ := h
    refine ⟨_, pss_cons (ps_set (i := 3) scFixedR.nd rfl (.inl rfl) (pe_c (c_pick T) hr (by decide) (by rfl) (pa_cons (pv 0) (pa_cons (pe_lst (pa_cons pe_int (pa_cons pe_int (pa_cons pe_int (pa_cons pe_int (pa_cons pe_int pa_nil)))))) pa_nil))))
      (pss_cons (ps_set (i := 4) scFixedR.nd rfl (.inl rfl) (pe_mt (m_fixed T) hr (by decide) (pv 1) (pa_cons (pv 2) (pa_cons (pv 3) pa_nil))))
      (pss_cons (ps_if (pt_not (pt_val (pe_pr (p_poss T) T.cs hr (by decide) (pv 1)))) (pss_one (ps_ret (pe_not (pe_pr (p_poss T) T.cs hr (by decide) (pv 4))))) pss_nil)
      (pss_cons (ps_asg (pe_mt (m_range T) hr (by decide) (pv 1) (pa_cons (pv 2) pa_nil)) (pg_tup rfl (pgs_cons (pg_name (i := 5) scFixedR.nd rfl (.inl rfl)) (pgs_cons (pg_name (i := 6) scFixedR.nd rfl (.inl rfl)) pgs_nil))))
      (pss_cons (ps_if (pt_cmpR op_ne (pe_pr (p_poss T) T.cs hr (by decide) (pv 4)) (pe_chain op_le op_le (pv 5) (pv 3) (pv 6)) (nomark _)) (pss_one (ps_ret pe_bl)) pss_nil)
      (pss_one (ps_ret (pe_or (pe_not (pe_pr (p_poss T) T.cs hr (by decide) (pv 4))) (pe_one (pe_and (pe_cmpR (op_eqD (room64 hr)) (pe_mt (m_range T) hr (by decide) (pv 4) (pa_cons (pv 2) pa_nil)) (pe_tup (pa_cons (pv 3) (pa_cons (pv 3) pa_nil))) (nomark _))
        (pe_one (pe_mt (m_implies T) hr (by decide) (pv 4) (pa_cons (pe_tup (pa_cons (pv 2) (pa_cons (pe_un un_neg pe_int) (pa_cons (pv 3) pa_nil)))) pa_nil)))))))))))), ?_⟩
    refine ⟨_, rfl, by show 5 ≤ sizeLine; decide, fun li nli => ?_⟩
    have hlid : li ≠ d0 := fun e => by
      obtain ⟨l, hl⟩ := hd.lst
      rw [e, hl] at nli
      cases nli
    refine ⟨d0, li, _, rfl, dice_upd hd hlid.symm, hlid, upd_same, by simp, by show 5 ≤ 1000000; decide, fun H1 j v b1 hd1 hv => ?_⟩
    obtain ⟨c, hc, rfl⟩ := map_get (l := [0, 1, 2, 5, 199]) hv
    have hc2 : ∀ z ∈ ([0, 1, 2, 5, 199] : List Int), 0 ≤ z ∧ z ≤ 199 := by decide
    obtain ⟨c0, c1⟩ := hc2 c hc
    have b01 : Bar d0 H H1 := (toBar d0 (sm_new nli)).trans b1
    have hs1 := hs.dice hd b01
    obtain ⟨dx, fs, dm, al, ky, rg, nw, wd, h1⟩ := id hs1
    refine ⟨_, rfl, p, dx, fs, rfl, h1.ins, h1.f.no _ (by decide +kernel), _, rfl, _, rfl, p, n, d, a, i, c, rfl, hs1, by omega, hi0, hi1, c0, c1, fun H2 x a' s2 hx => ?_⟩
    obtain ⟨dx', fs', dm', al', ky', rg', nw', wd', h2⟩ := id hx
    have g1 := h1.same s2
    have qq : ∀ H', Same H2 H' → Q (.bl true) H' := fun H' s => q H' (b01.trans (toBar d0 (s2.trans s))) (hd1.same (s2.trans s))
    refine ⟨_, rfl, p, dx, fs, rfl, g1.ins, p, n, d, a, rfl, hs1.same s2, fun bp hbp => ⟨bp, rfl, ?_⟩⟩
    cases bp with
    | false =>
      have hnf : ¬ Feas a := fun h => by cases hbp.mpr h
      refine ⟨_, rfl, x, dx', fs', rfl, h2.ins, x, n, _, a', rfl, hx, fun bf hbf => ⟨bf, rfl, ?_⟩⟩
      have : bf = false := by
        cases bf with
        | false => rfl
        | true => exact (fix_none hs.pl.uni hx.pl.uni hnf (hbf.mp rfl)).elim
      subst this
      exact qq _ fun _ _ h => h
    | true =>
      have hF : Feas a := hbp.mp rfl
      refine ⟨_, rfl, p, dx, fs, rfl, g1.ins, g1.f.no _ (by decide +kernel), _, rfl, p, n, d, a, i, rfl, hs1.same s2, hF, hi0, hi1, fun H3 t lo hi s3 ht hmin hmax => ?_⟩
      refine ⟨t, _, rfl, SqT.of ht, rfl, _, _, rfl, _, _, rfl, rfl, ?_⟩
      have hx3 := hx.same s3
      have g2 := h2.same s3
      refine ⟨_, rfl, x, dx', fs', rfl, g2.ins, x, n, _, a', rfl, hx3, fun bf hbf => ?_⟩
      have hff := fix_feas hs.pl.uni hx.pl.uni hmin hmax
      have rest : bf = (decide (lo ≤ c) && decide (c ≤ hi)) := bool_eq hbf (by rw [Bool.and_eq_true, decide_eq_true_eq, decide_eq_true_eq]) hff
      refine ⟨_, rfl, _, rfl, _, _, rfl, rfl, _, rfl, ?_⟩
      cases bf with
      | false =>
        have nf : ¬ Feas a' := fun h => by cases hbf.mpr h
        have b2f : ∀ b2 : Bool, (b2 = true ↔ Feas a') → b2 = false := fun b2 h => by
          cases b2 with
          | false => rfl
          | true => exact (nf (h.mp rfl)).elim
        cases hlo : decide (lo ≤ c) with
        | false =>
          refine iteF ⟨rfl, _, rfl, ?_⟩
          refine ⟨_, rfl, x, dx', fs', rfl, g2.ins, x, n, _, a', rfl, hx3, fun b2 hb2 => ?_⟩
          cases b2f b2 hb2
          exact ⟨false, rfl, true, rfl, iteT (qq _ s3)⟩
        | true =>
          rw [hlo, Bool.true_and] at rest
          refine iteT ⟨_, rfl, _, _, rfl, rfl, rfl, false, (by show V.bl (!decide (V.bl false = V.bl (decide (c ≤ hi)))) = V.bl false; rw [← rest]; rfl), ?_⟩
          refine ⟨_, rfl, x, dx', fs', rfl, g2.ins, x, n, _, a', rfl, hx3, fun b2 hb2 => ?_⟩
          cases b2f b2 hb2
          exact ⟨false, rfl, true, rfl, iteT (qq _ s3)⟩
      | true =>
        have hF' : Feas a' := hbf.mp rfl
        have hb := rest.symm
        rw [Bool.and_eq_true] at hb
        rw [hb.1]
        refine iteT ⟨_, rfl, _, _, rfl, rfl, rfl, false, (by show V.bl (!decide (V.bl true = V.bl (decide (c ≤ hi)))) = V.bl false; rw [hb.2]; rfl), ?_⟩
        refine ⟨_, rfl, x, dx', fs', rfl, g2.ins, x, n, _, a', rfl, hx3, fun b2 hb2 => ?_⟩
        cases hb2.mpr hF'
        refine ⟨true, rfl, false, rfl, iteF ?_⟩
        refine ⟨_, rfl, x, dx', fs', rfl, g2.ins, g2.f.no _ (by decide +kernel), _, rfl, x, n, _, a', i, rfl, hx3, hF', hi0, hi1, fun H4 t2 lo' hi' s4 ht2 hm2 hM2 => ?_⟩
        refine ⟨_, rfl, _, rfl, by show 2 ≤ sizeLine; decide, fun t3 n3 => ?_⟩
        have s5 := sm_new (o := .tup [.int c, .int c]) n3
        have e1 := fix_min hs.pl.uni hx.pl.uni hm2
        have e2 := fix_max hs.pl.uni hx.pl.uni hM2
        subst e1 e2
        refine ⟨_, _, .tup (SqT.of (s5 _ _ ht2)) (dp_ints [_, _]), .tup (SqT.of upd_same) (dp_ints [_, _]), (Pl.tup (pl_ints _)).shaped (by decide), (Pl.tup (pl_ints _)).shaped (by decide), ?_⟩
        rw [eqv_tup, eqv_ints, decide_eq_true rfl]
        have s35 := (s3.trans s4).trans s5
        refine ⟨true, rfl, iteT ?_⟩
        refine ⟨_, rfl, x, dx', fs', rfl, (s4.trans s5) _ _ g2.ins, g2.f.no _ (by decide +kernel), _, rfl, _, rfl, _, rfl, by show 3 ≤ sizeLine; decide, fun t4 n4 => ?_⟩
        have s6 := sm_new (o := .tup [.int i, .int (-1), .int hi']) n4
        refine ⟨x, n, _, a', _, rfl, (hx.same s35).same s6, .inr ⟨(i, -1, hi'), ⟨t4, rfl, upd_same⟩, ?_, fun H5 r s7 hr5 => ?_⟩⟩
        · unfold Ok Betw IsPt
          dsimp only
          omega
        · cases hr5.mpr (fix_impl hs.pl.uni hx.pl.uni)
          exact qq _ ((s35.trans s6).trans s7)
end
end K43

/-! The law's one round. -/
namespace K43
open PySem PySem.Spec PyProof.Rows L2
open C8 (Cal Met Mak pe_c pe_mk pe_mt pe_mt0 pe_gc InsC call_isC)

/-- a comprehension over demands that keeps those which are not good -/
theorem lcF {K : PySem.W.Frag} {g : TG} {tt : TT} {te : TE} {vs : List Nat} {σ : L2.St} {H1 : Hp} {D : Addr} {Qd : Hp → Prop} {a : Addr} {ks : List (Addr × Dem)} (Kp : Hp → Prop) (good : Dem → Prop)
    (k0 : Kp (upd H1 D (.lst []))) (kup : ∀ H' l, Kp H' → Kp (upd H' D (.lst l))) (ha : ∀ H', Kp H' → H' a = some (.tup (refs ks)) ∧ Tups H' ks) (hz : ks.length ≤ 1000)
    (hs : ∀ (i : Nat) (p : Addr × Dem) H' l (Fin : V → Hp → Prop) (No : Hp → Prop), ks[i]? = some p → Kp H' → H' D = some (.lst l) →
      (∀ H4, Kp H4 → H4 D = some (.lst l) → ¬ good p.2 → Fin (.ref p.1) H4) → (∀ H4, Kp H4 → H4 D = some (.lst l) → good p.2 → No H4) →
      g (.ref p.1) (wipe σ vs) H' fun σ2 H2 => wipe σ2 vs = wipe σ vs ∧ tt σ2 H2 fun b H3 => if b = true then te σ2 H3 Fin else No H3)
    (hd : ∀ H' ks', Kp H' → H' D = some (.lst (refs ks')) → Tups H' ks' → (ks' = [] ↔ ∀ p ∈ ks, good p.2) → Qd H') :
    ∃ W : Nat → Nat → Hp → Prop, (∃ m, W 0 m (upd H1 D (.lst []))) ∧ ∀ i m H, W i m H →
      ((Itt K a).stop i H ∧ Qd H) ∨ ((Itt K a).go i H ∧ ∃ Nx : Hp → Prop, (∀ H', Nx H' → ∃ m', m' < m ∧ W (i + 1) m' H') ∧ ∀ x H', (Itt K a).yld i H x H' → g x (wipe σ vs) H' fun σ2 H2 => wipe σ2 vs = wipe σ vs ∧ tt σ2 H2 fun b H3 =>
        if b = true then te σ2 H3 fun y H4 => ∃ acc, H4 D = some (.lst acc) ∧ acc.length < sizeLine ∧ Nx (upd H4 D (.lst (acc ++ [y]))) else Nx H3) := by
  refine lc_tup (xs := refs ks) (fun i H' => Kp H' ∧ ∃ ks', H' D = some (.lst (refs ks')) ∧ (∀ p ∈ ks', p ∈ ks) ∧ ks'.length ≤ i ∧ (ks' = [] ↔ ∀ p ∈ ks.take i, good p.2)) ⟨k0, [], upd_same, fun p hp => (by cases hp), Nat.le_refl _, by simp⟩ (fun i H' _ h => SqT.of (ha _ h.1).1) (fun i x H' hx h => ?_) (fun H' h => ?_)
  · obtain ⟨h1, ks', h2, h3, h4, h5⟩ := h
    obtain ⟨p, hp, rfl⟩ := refs_get hx
    have hi : i < 1000 := Nat.lt_of_lt_of_le (List.getElem?_eq_some_iff.mp hp).1 hz
    have ht : ∀ q : Addr × Dem, (∀ r ∈ ks.take (i + 1), good r.2) ↔ (∀ r ∈ ks.take i, good r.2) ∧ good p.2 := fun _ => by
      rw [List.take_add_one, hp]
      constructor
      · intro h
        exact ⟨fun r hr => h r (List.mem_append_left _ hr), h p (List.mem_append_right _ (by simp))⟩
      · rintro ⟨h, h'⟩ r hr
        rcases List.mem_append.mp hr with hr | hr
        · exact h r hr
        · simp at hr
          rw [hr]
          exact h'
    refine hs i p H' _ _ _ hp h1 h2 (fun H4 k4 hD hn => ⟨_, hD, by rw [refs_len]; exact sz (by omega), kup _ _ k4, ks' ++ [p], ?_, fun r hr => ?_, ?_, ?_⟩) (fun H4 k4 hD hg => ⟨k4, ks', hD, h3, by omega, ?_⟩)
    · rw [upd_same, ← refs_app] <;> rfl
    · rcases List.mem_append.mp hr with hr | hr
      · exact h3 r hr
      · cases List.mem_singleton.mp hr
        exact List.mem_of_getElem? hp
    · rw [List.length_append]
      exact Nat.succ_le_succ h4
    · rw [ht p]
      constructor
      · intro h
        simp at h
      · intro h
        exact (hn h.2).elim
    · rw [ht p, h5]
      exact ⟨fun h => ⟨h, hg⟩, fun h => h.1⟩
  · obtain ⟨h1, ks', h2, h3, h4, h5⟩ := h
    rw [refs_len, List.take_length] at h5
    exact hd H' ks' h1 h2 (fun p hp => (ha _ h1).2 p (h3 p hp)) h5
theorem BetV.same {H H' : Hp} {v : V} {n : Nat} {b : Bool} (s : Same H H') (h : BetV H v n b) : BetV H' v n b := by
  rcases h with ⟨h1, h2⟩ | ⟨a, xs, h1, h2, h3⟩
  · rcases h1 with h1 | h1 | ⟨a, xs, h1, h3⟩
    · exact .inl ⟨.inl h1, h2⟩
    · exact .inl ⟨.inr (.inl h1), h2⟩
    · exact .inl ⟨.inr (.inr ⟨a, xs, h1, s _ _ h3⟩), h2⟩
  · exact .inr ⟨a, xs, h1, s _ _ h2, h3⟩
theorem met_both {n : Nat} {d1 a1 d2 a2 ab : List Dem} (h1 : Uni n d1 a1) (h2 : Uni n d2 a2) (h : Uni n (d1 ++ d2) ab) (cs : List Int) : metB cs ab = (metB cs a1 && metB cs a2) := by
  refine bool_eq metB_iff (q := Meets (colF cs) a1 ∧ Meets (colF cs) a2) ?_ ?_
  · rw [Bool.and_eq_true, metB_iff, metB_iff]
  · rw [meets_uni h, meets_uni h1, meets_uni h2, meets_app]
    constructor
    · rintro ⟨⟨x, y⟩, z⟩
      exact ⟨⟨x, z⟩, y, z⟩
    · rintro ⟨⟨x, z⟩, y, _⟩
      exact ⟨⟨x, y⟩, z⟩
def spRight : Sp := fun vs H Q _ => ∃ (d : Addr), vs = [.ref d] ∧ DiceAt H d ∧ ∀ H', Bar d H H' → Q (.bl true) H'
theorem sm_ok {n : Nat} {e : Dem} (h : Sm n e) : Ok n e ∧ Ok n (con e) := by
  obtain ⟨⟨h1, h2⟩, h3, h4⟩ := h
  unfold Ok con Betw
  dsimp only
  exact ⟨⟨⟨h1, h2⟩, by omega, by omega⟩, ⟨h2, h1⟩, by omega, by omega⟩
theorem SysAt.op {K : PySem.W.Frag} {H : Hp} {p : Addr} {n : Nat} {d a : List Dem} (h : SysAt K H p n d a) : ∃ dx fs, H p = some (.ins (CS K) dx fs) ∧ ∀ m ∈ meths, fs.lookup m = none := by
  obtain ⟨dx, fs, dm, al, ky, rg, nw, wd, h⟩ := h
  exact ⟨dx, fs, h.ins, h.f.no⟩
theorem SysP.okA {n : Nat} {dem all : List Dem} (h : SysP n dem all) : ∀ e ∈ all, Ok n e := fun e he => by
  rcases (h.uni e).mp he with h1 | h1
  · exact h.ok e h1
  · have hb := bnd_betw h1
    obtain ⟨i, _, rfl | rfl⟩ := mem_bnd.mp h1
    · exact ⟨hb, by dsimp only; omega, by dsimp only; omega⟩
    · exact ⟨hb, by dsimp only; omega, by dsimp only; omega⟩
theorem uni_swap {n : Nat} {d1 d2 a b : List Dem} (h : Uni n (d1 ++ d2) a) (h' : Uni n (d2 ++ d1) b) : ∀ e, e ∈ b ↔ e ∈ a := fun e => by
  rw [h e, h' e, List.mem_append, List.mem_append]
  constructor
  · rintro ((h | h) | h)
    · exact .inl (.inr h)
    · exact .inl (.inl h)
    · exact .inr h
  · rintro ((h | h) | h)
    · exact .inl (.inr h)
    · exact .inl (.inl h)
    · exact .inr h
theorem uni_both {n : Nat} {d1 d2 a1 a2 ab : List Dem} (h1 : Uni n d1 a1) (h2 : Uni n d2 a2) (h : Uni n (d1 ++ d2) ab) : ∀ e, e ∈ ab ↔ e ∈ a1 ++ a2 := fun e => by
  rw [h e, List.mem_append, List.mem_append, h1 e, h2 e]
  constructor
  · rintro ((h | h) | h)
    · exact .inl (.inl h)
    · exact .inr (.inl h)
    · exact .inl (.inr h)
  · rintro ((h | h) | (h | h))
    · exact .inl (.inl h)
    · exact .inr h
    · exact .inl (.inr h)
    · exact .inr h
theorem uni_self {n : Nat} {d a b : List Dem} (h : Uni n d a) (h' : Uni n (d ++ d) b) : Alike a b := fun f => by
  rw [meets_uni h, meets_uni h', meets_app]
  exact ⟨fun h => ⟨⟨h.1, h.1⟩, h.2⟩, fun h => ⟨h.1.1, h.2⟩⟩
theorem sys_end2 {K : PySem.W.Frag} {H1 : Hp} {t : Addr} {n : Nat} {dem : List Dem} {Q : VK} {E : XK} {x dx : Addr} (nx : H1 x = none) (ndx : H1 dx = none) (h : DTup H1 t dem) (ok : ∀ e ∈ dem, Ok n e) (hn : n ≤ 60) (hl : dem.length ≤ 600)
    (q : ∀ H' all, Same H1 H' → SysAt K H' x n dem all → Q .non H') : spSys K [.ref x, .int n, .ref t] (upd (upd H1 dx (.own x)) x (.ins (CS K) dx [])) Q E :=
  ⟨x, dx, t, n, dem, rfl, upd_same, h.same (same_upd (same_upd (fun _ _ h => h) ndx) nx), ok, hn, hl, fun H' all bar hs => q H' all (Same.bar (H0 := H1) nx ndx bar) hs⟩
section
variable {P : Program} {w : World} {K : PySem.W.Frag} {mg : Str → Option Value} {base : Heap}
theorem eqF (T : Fx K mg) : ∃ fd ps, FnOk P w K mg base CX0 1 (He.ma K (CS K) "__eq__") fd ps (spEq K) ∧ L2.Binds K fd ps [] := by
  obtain ⟨f, fd, ps, ds, _, hm, F, hb, hv⟩ := (m_eq (P := P) (w := w) (base := base) T).ex
  have h0 := T.es "__eq__" (by decide +kernel)
  have e : f = He.ma K (CS K) "__eq__" := by
    have := hm.at_.symm.trans h0.at_
    cases this
    rfl
  cases hv
  subst e
  exact ⟨fd, ps, F, hb⟩
theorem scRight : FnScope ["_law_dice_here", "_law_size", "_law_one", "_law_other", "_law_both", "_law_turn", "_law_columns", "_law_demand", "_law_two", "_law_odd", "_law_value"] ["_law_dice_here"] (defScope sRight) := ⟨rfl, rfl, rfl, by decide +kernel, rfl, by decide +kernel, by decide +kernel⟩
theorem c_right (T : Fx K mg) : CalG P w K mg base 10 "_law_right" spRight := by
  refine mkCalG T 37 rfl (by decide +kernel) scRight (fun vs H Q E h => ?_) (fun _ _ _ _ _ _ us hl => match us, hl with | [_], _ => rfl) fun cdv A outer s H vs Q E hgd hr h => ?_
  · obtain ⟨d, rfl, _⟩ := h
    rfl
  · obtain ⟨dd, rfl, hd, q⟩ := h
    obtain ⟨fe, pe, FE, BE⟩ := eqF (P := P) (w := w) (base := base) T
    refine ⟨_, pss_cons (ps_set (i := 1) scRight.nd rfl (.inl rfl) (pe_op op_add pe_int (pe_c (c_roll T) hr (by decide) (by rfl) (pa_cons (pv 0) (pa_cons pe_int pa_nil)))))
      (pss_cons (ps_set (i := 2) scRight.nd rfl (.inr rfl) (pe_mk (k_sys T) hr (by decide) (by rfl) (pa_cons (pv 1) (pa_cons (pe_callTy call_tuple_of (by rfl) (T.bl "tuple" (by decide +kernel)) (by decide +kernel) (pa_cons (pe_c (c_ldem T) hr (by decide) (by rfl) (pa_cons (pv 0) (pa_cons (pv 1) (pa_cons pe_int pa_nil)))) pa_nil)) pa_nil))))
      (pss_cons (ps_set (i := 3) scRight.nd rfl (.inr rfl) (pe_mk (k_sys T) hr (by decide) (by rfl) (pa_cons (pv 1) (pa_cons (pe_callTy call_tuple_of (by rfl) (T.bl "tuple" (by decide +kernel)) (by decide +kernel) (pa_cons (pe_c (c_ldem T) hr (by decide) (by rfl) (pa_cons (pv 0) (pa_cons (pv 1) (pa_cons pe_int pa_nil)))) pa_nil)) pa_nil))))
      (pss_cons (ps_set (i := 4) scRight.nd rfl (.inl rfl) (pe_mt (m_joined T) hr (by decide) (pv 2) (pa_cons (pv 3) pa_nil)))
      (pss_cons (ps_for PassesOwn.never rfl (pi_range1 (by rfl) (T.bl "range" (by decide +kernel)) (pa_cons pe_int pa_nil)) (pg_name (i := 5) scRight.nd rfl (.inl rfl))
        (pss_cons (ps_set (i := 6) scRight.nd rfl (.inl rfl) (pe_c (c_lcol T) hr (by decide) (by rfl) (pa_cons (pv 0) (pa_cons (pv 1) pa_nil))))
        (pss_one (ps_if (pt_cmpR op_ne (pe_mt (m_is_met T) hr (by decide) (pv 4) (pa_cons (pv 6) pa_nil)) (pe_and (pe_mt (m_is_met T) hr (by decide) (pv 2) (pa_cons (pv 6) pa_nil)) (pe_one (pe_mt (m_is_met T) hr (by decide) (pv 3) (pa_cons (pv 6) pa_nil)))) (nomark _)) (pss_one (ps_ret pe_bl)) pss_nil))))
      (pss_cons (ps_if (PW.pt (pw_or (pt_cmpR (op_neD (room64 hr)) (pe_pr (p_all T) T.cs hr (by decide) (pv 4)) (pe_callTy call_tuple_of (by rfl) (T.bl "tuple" (by decide +kernel)) (by decide +kernel) (pa_cons (pe_callB (cr_sortSet rfl (room8 hr)) (by rfl) (T.bl "sorted" (by decide +kernel)) (by decide +kernel) (pa_cons
            (pe_callTy (cr_setTup rfl (room8 hr)) (by rfl) (T.bl "set" (by decide +kernel)) (by decide +kernel) (pa_cons (pe_op op_catA (pe_pr (p_all T) T.cs hr (by decide) (pv 2)) (pe_pr (p_all T) T.cs hr (by decide) (pv 3))) pa_nil)) pa_nil)) pa_nil)) (nomark _))
          (pw_or1 (pt_cmpR (op_neIns T.ne FE (hr.mono (by decide)) BE) (pe_mt (m_joined T) hr (by decide) (pv 3) (pa_cons (pv 2) pa_nil)) (pv 4) (nomark _))))) (pss_one (ps_ret pe_bl)) pss_nil)
      (pss_cons (ps_for PassesOwn.never rfl (pi_range1 (by rfl) (T.bl "range" (by decide +kernel)) (pa_cons pe_int pa_nil)) (pg_name (i := 5) scRight.nd rfl (.inl rfl))
        (pss_cons (ps_set (i := 7) scRight.nd rfl (.inl rfl) (pe_c (c_pick T) hr (by decide) (by rfl) (pa_cons (pv 0) (pa_cons (pe_op op_cat (pe_op op_cat (pe_c (c_ldem T) hr (by decide) (by rfl) (pa_cons (pv 0) (pa_cons (pv 1) (pa_cons pe_int pa_nil)))) (pe_callTy call_list_of (by rfl) (T.bl "list" (by decide +kernel)) (by decide +kernel) (pa_cons (pe_pr (p_dem T) T.cs hr (by decide) (pv 3)) pa_nil)))
            (pe_lst (pa_cons (pe_tup (pa_cons pe_int (pa_cons (pe_un un_neg pe_int) (pa_cons pe_int pa_nil)))) pa_nil))) pa_nil))))
        (pss_one (ps_if (PW.pt (pw_or (pt_not (pt_val (pe_cG (c_implied T) hgd hr (by decide) (by rfl) (pa_cons (pv 0) (pa_cons (pv 2) (pa_cons (pv 7) pa_nil)))))) (pw_or1 (pt_not (pt_val (pe_c (c_fixedR T) hr (by decide) (by rfl) (pa_cons (pv 0) (pa_cons (pv 2) (pa_cons (pe_c (c_roll T) hr (by decide) (by rfl) (pa_cons (pv 0) (pa_cons (pv 1) pa_nil))) pa_nil))))))))) (pss_one (ps_ret pe_bl)) pss_nil))))
      (pss_cons (ps_set (i := 8) scRight.nd rfl (.inl rfl) (pe_lst (pa_cons (pe_cmpR (op_eqD (room64 hr)) (pe_lc (own := [("_law_demand", 7)]) (g := gName 7) rfl scRight.nd (pi_tup (pe_pr (p_all T) T.cs hr (by decide) (pv 3)))
          (blkOk_by (own := [("_law_demand", 7)]) (N := ["_law_dice_here", "_law_size", "_law_one", "_law_other", "_law_both", "_law_turn", "_law_columns", "_law_demand", "_law_two", "_law_odd", "_law_value"]) (sc := defScope sRight) (by decide +kernel)) (fun _ _ _ _ _ => pg_name (i := 7) scRight.nd rfl (Or.inl rfl))
          (fun _ _ _ _ _ => pts_one (pt_not (pt_val (pe_mt (m_implies T) hr (by decide) (pv 2) (pa_cons (pv 7) pa_nil))))) (fun _ _ _ _ _ => pv 7)) (pe_lst pa_nil) (nomark _)) pa_nil)))
      (pss_cons (ps_expr (pe_bm PySem.F.plainAttrs_list PySem.F.slot_list_append PySem.F.type_list_append mt_append (pv 8) (pa_cons (pe_cmpR (op_eqD (room64 hr)) (pe_lc (own := [("_law_demand", 7)]) (g := gName 7) rfl scRight.nd (pi_tup (pe_pr (p_all T) T.cs hr (by decide) (pv 2)))
          (blkOk_by (own := [("_law_demand", 7)]) (N := ["_law_dice_here", "_law_size", "_law_one", "_law_other", "_law_both", "_law_turn", "_law_columns", "_law_demand", "_law_two", "_law_odd", "_law_value"]) (sc := defScope sRight) (by decide +kernel)) (fun _ _ _ _ _ => pg_name (i := 7) scRight.nd rfl (Or.inl rfl))
          (fun _ _ _ _ _ => pts_one (pt_not (pt_val (pe_mt (m_implies T) hr (by decide) (pv 3) (pa_cons (pv 7) pa_nil))))) (fun _ _ _ _ _ => pv 7)) (pe_lst pa_nil) (nomark _)) pa_nil)))
      (pss_cons (ps_if (PW.pt (pw_or (pt_cmpR op_ne (pe_mt (m_alike T) hr (by decide) (pv 2) (pa_cons (pv 3) pa_nil)) (pe_cmpR (op_eqD (room64 hr)) (pv 8) (pe_lst (pa_cons pe_bl (pa_cons pe_bl pa_nil))) (nomark _)) (nomark _))
          (pw_or1 (pt_cmpR op_isnot_bl (pe_mt (m_alike T) hr (by decide) (pv 2) (pa_cons (pe_mt (m_joined T) hr (by decide) (pv 2) (pa_cons (pv 2) pa_nil)) pa_nil)) pe_bl (nomark _))))) (pss_one (ps_ret pe_bl)) pss_nil)
      (pss_cons (ps_set (i := 9) scRight.nd rfl (.inl rfl) (pe_lst (pa_cons pe_non (pa_cons pe_int (pa_cons (pe_tup pa_nil) (pa_cons (pe_tup (pa_cons pe_int (pa_cons pe_int pa_nil))) (pa_cons (pe_tup (pa_cons (pv 1) (pa_cons pe_int (pa_cons pe_int pa_nil)))) (pa_cons (pe_tup (pa_cons pe_int (pa_cons (pv 1) (pa_cons pe_int pa_nil))))
          (pa_cons (pe_tup (pa_cons pe_int (pa_cons (pe_un un_neg pe_int) (pa_cons pe_int pa_nil)))) (pa_cons (pe_tup (pa_cons pe_bl (pa_cons pe_int (pa_cons pe_int pa_nil)))) (pa_cons (pe_lst (pa_cons pe_int (pa_cons pe_int (pa_cons pe_int pa_nil)))) pa_nil)))))))))))
      (pss_one (ps_ret (pe_cmpR (op_eqD (room64 hr)) (pe_lc (own := [("_law_value", 10)]) (g := gName 10) rfl scRight.nd (pi_list (pv 9))
          (blkOk_by (own := [("_law_value", 10)]) (N := ["_law_dice_here", "_law_size", "_law_one", "_law_other", "_law_both", "_law_turn", "_law_columns", "_law_demand", "_law_two", "_law_odd", "_law_value"]) (sc := defScope sRight) (by decide +kernel)) (fun _ _ _ _ _ => pg_name (i := 10) scRight.nd rfl (Or.inl rfl))
          (fun _ _ _ _ _ => pts_one (pt_cmpR op_isnot_bl (pe_mt (m_implies T) hr (by decide) (pv 2) (pa_cons (pv 10) pa_nil)) pe_bl (nomark _))) (fun _ _ _ _ _ => pv 10)) (pe_lst pa_nil) (nomark _)))))))))))))), ?_⟩
    refine ⟨_, rfl, dd, 4, rfl, hd, by decide, by decide, fun H1 r b1 hd1 r0 r1 => ?_⟩
    obtain ⟨j, rfl⟩ : ∃ j : Nat, r = j := ⟨r.toNat, by omega⟩
    refine ⟨_, _, rfl, rfl, ?_⟩
    refine ⟨_, rfl, _, rfl, _, rfl, dd, 1 + j, 5, rfl, hd1, by omega, by decide, fun H2 p1 d1 b2 hd2 np1 hp1 hl1 hs1 => ?_⟩
    obtain ⟨k1, g1, g2, g3⟩ := id hp1
    refine ⟨p1, _, rfl, .inl ⟨SqL.of g1, fun t1 nt1 => ?_⟩⟩
    have s1 := sm_new (o := .tup (refs k1)) nt1
    intro one dx1 nx1 ndx1 nex1
    refine sys_end2 (n := 1 + j) (dem := d1) nx1 ndx1 ⟨k1, upd_same, fun p hp => s1 _ _ (g2 p hp), g3⟩ (fun e he => (sm_ok (hs1 e he)).1) (by omega) (by omega) fun H3 a1 s2 hone => ⟨rfl, ?_⟩
    have b13 : Bar dd H1 H3 := b2.trans (toBar dd (s1.trans s2))
    have hd3 := hd2.same (s1.trans s2)
    refine ⟨_, rfl, _, rfl, _, rfl, dd, 1 + j, 5, rfl, hd3, by omega, by decide, fun H4 p2 d2 b4 hd4 np2 hp2 hl2 hs2 => ?_⟩
    obtain ⟨k2, g4, g5, g6⟩ := id hp2
    refine ⟨p2, _, rfl, .inl ⟨SqL.of g4, fun t2 nt2 => ?_⟩⟩
    have s3 := sm_new (o := .tup (refs k2)) nt2
    intro other dx2 nx2 ndx2 nex2
    refine sys_end2 (n := 1 + j) (dem := d2) nx2 ndx2 ⟨k2, upd_same, fun p hp => s3 _ _ (g5 p hp), g6⟩ (fun e he => (sm_ok (hs2 e he)).1) (by omega) (by omega) fun H5 a2 s4 hoth => ⟨rfl, ?_⟩
    have b35 : Bar dd H3 H5 := b4.trans (toBar dd (s3.trans s4))
    have hd5 := hd4.same (s3.trans s4)
    have hone5 := hone.dice hd3 b35
    obtain ⟨dx, fs, i1, f1⟩ := hone5.op
    refine ⟨_, rfl, one, dx, fs, rfl, i1, f1 _ (by decide +kernel), _, rfl, one, other, 1 + j, d1, a1, d2, a2, rfl, hone5, hoth, by omega, by omega, fun H8 both ab s8 hboth => ?_⟩
    have hone8 := hone5.same s8
    have hoth8 := hoth.same s8
    have hd8 := hd5.same s8
    have b08 : Bar dd H H8 := (b1.trans b13).trans (b35.trans (toBar dd s8))
    have kOne : ∀ H', Bar dd H8 H' → SysAt K H' one (1 + j) d1 a1 := fun H' b => hone8.dice hd8 b
    have kOth : ∀ H', Bar dd H8 H' → SysAt K H' other (1 + j) d2 a2 := fun H' b => hoth8.dice hd8 b
    have kBoth : ∀ H', Bar dd H8 H' → SysAt K H' both (1 + j) (d1 ++ d2) ab := fun H' b => hboth.dice hd8 b
    have u1 := hone8.pl.uni
    have u2 := hoth8.pl.uni
    have ub := hboth.pl.uni
    refine ⟨12, rfl, by decide, by decide, ?_⟩
    refine for_range (lo := 0) (n := 12) (fun i σ H' => Bar dd H8 H' ∧ DiceAt H' dd ∧ ∃ t5 t6 : Option V, σ = [some (.ref dd), some (.int ((1 + j : Nat) : Int)), some (.ref one), some (.ref other), some (.ref both), t5, t6, none, none, none, none]) ⟨Bar.refl _ _, hd8, none, none, rfl⟩ (fun i σ H' hi I => ?_) (fun σ H9 I => ?_)
    · obtain ⟨b9, hd9, t5, t6, rfl⟩ := I
      refine ⟨_, rfl, _, rfl, dd, 1 + j, rfl, hd9, by omega, fun H10 t cs b10 hd10 ht hcl hcv => ?_⟩
      have b810 := b9.trans b10
      obtain ⟨dx1, fs1, i3, f3⟩ := (kBoth _ b810).op
      refine ⟨_, rfl, both, dx1, fs1, rfl, i3, f3 _ (by decide +kernel), _, rfl, both, t, 1 + j, _, ab, cs, rfl, kBoth _ b810, ht, hcl, hcv, fun H11 s11 => ?_⟩
      have b811 := b810.trans (toBar dd s11)
      obtain ⟨dx2, fs2, i4, f4⟩ := (kOne _ b811).op
      refine ⟨_, rfl, one, dx2, fs2, rfl, i4, f4 _ (by decide +kernel), _, rfl, one, t, 1 + j, _, a1, cs, rfl, kOne _ b811, s11 _ _ ht, hcl, hcv, fun H12 s12 => ?_⟩
      have b812 := b811.trans (toBar dd s12)
      have hd12 := (hd10.same s11).same s12
      have hmb := met_both u1 u2 ub cs
      cases hm1 : metB cs a1 with
      | false =>
        exact ⟨false, rfl, iteF ⟨rfl, false, (by show V.bl (!decide (V.bl (metB cs ab) = V.bl false)) = V.bl false; rw [hmb, hm1]; rfl), b812, hd12, _, _, rfl⟩⟩
      | true =>
        obtain ⟨dx3, fs3, i5, f5⟩ := (kOth _ b812).op
        refine ⟨true, rfl, iteT ⟨_, rfl, other, dx3, fs3, rfl, i5, f5 _ (by decide +kernel), _, rfl, other, t, 1 + j, _, a2, cs, rfl, kOth _ b812, s12 _ _ (s11 _ _ ht), hcl, hcv, fun H13 s13 => ?_⟩⟩
        refine ⟨rfl, false, (by show V.bl (!decide (V.bl (metB cs ab) = V.bl (metB cs a2))) = V.bl false; rw [hmb, hm1, Bool.true_and, decide_eq_true rfl]; rfl), b812.trans (toBar dd s13), hd12.same s13, _, _, rfl⟩
    · obtain ⟨b9, hd9, t5, t6, rfl⟩ := I
      have hB := kBoth _ b9
      have hO := kOne _ b9
      have hT := kOth _ b9
      obtain ⟨dxb, fsb, ib, fb⟩ := hB.op
      obtain ⟨dxo, fso, io, fo⟩ := hO.op
      obtain ⟨dxt, fst, it, ft⟩ := hT.op
      have la1 := hO.pl.few
      have la2 := hT.pl.few
      refine ⟨_, rfl, both, dxb, fsb, rfl, ib, both, 1 + j, _, ab, rfl, hB, fun tb htb => ?_⟩
      refine ⟨_, rfl, one, dxo, fso, rfl, io, one, 1 + j, d1, a1, rfl, hO, fun to hto => ?_⟩
      refine ⟨_, rfl, other, dxt, fst, rfl, it, other, 1 + j, d2, a2, rfl, hT, fun tt htt => ?_⟩
      refine catD hto htt (by omega) fun H10 t4 s10 ht4 => ?_
      obtain ⟨k4, q1, q2, q3⟩ := id ht4
      have hk4 : k4.length = a1.length + a2.length := by rw [← List.length_append, ← q3, List.length_map]
      refine ⟨t4, k4, rfl, q1, q2, by omega, fun sa bs nsa hb1 hb2 => ?_⟩
      have s11 := sm_new (o := SetTO P w sa (raws bs)) nsa
      refine ⟨sa, bs, rfl, upd_same, fun p hp => s11 _ _ (q2 p (hb1 p hp)), fun L ql nql hLs hLp => ?_⟩
      have s12 := sm_new (o := .lst (refs L)) nql
      refine ⟨ql, _, rfl, .inl ⟨SqL.of upd_same, fun tl ntl => ?_⟩⟩
      have s13 := sm_new (o := .tup (refs L)) ntl
      have s9 := ((s10.trans s11).trans s12).trans s13
      have eL : ab = L.map (·.2) := sorted_uniq hB.pl.srt hLs fun e => by
        rw [uni_both u1 u2 ub e, ← q3]
        constructor
        · intro h
          obtain ⟨p, hp, rfl⟩ := List.mem_map.mp h
          obtain ⟨p', hp', e'⟩ := List.mem_map.mp (hb2 p hp)
          exact List.mem_map.mpr ⟨p', hLp.mem_iff.mpr hp', e'⟩
        · intro h
          obtain ⟨p, hp, rfl⟩ := List.mem_map.mp h
          exact List.mem_map.mpr ⟨p, hb1 p (hLp.mem_iff.mp hp), rfl⟩
      refine neD (htb.same s9) ⟨L, upd_same, fun p hp => s13 _ _ (s12 _ _ (s11 _ _ (q2 p (hb1 p (hLp.mem_iff.mp hp))))), rfl⟩ ?_
      rw [decide_eq_true eL]
      refine ⟨false, rfl, ?_⟩
      refine ⟨_, rfl, other, dxt, fst, rfl, s9 _ _ it, ft _ (by decide +kernel), _, rfl, other, one, 1 + j, d2, a2, d1, a1, rfl, hT.same s9, hO.same s9, by omega, by omega, fun H14 oo ao s14 hoo => ?_⟩
      obtain ⟨dxx, fsx, ix, fx⟩ := hoo.op
      have s914 := s9.trans s14
      have eA : ao = ab := sorted_uniq hoo.pl.srt hB.pl.srt (uni_swap ub hoo.pl.uni)
      refine ⟨_, rfl, oo, both, dxx, dxb, fsx, fsb, rfl, rfl, ix, s914 _ _ ib, oo, both, 1 + j, _, ao, _, ab, rfl, hoo, hB.same s914, true, by rw [decide_eq_true eA], false, rfl, ?_⟩
      have b14 := b9.trans (toBar dd s914)
      have hd14 := hd9.same s914
      refine ⟨5, rfl, by decide, by decide, ?_⟩
      refine for_range (lo := 0) (n := 5) (fun i σ H' => Bar dd H8 H' ∧ DiceAt H' dd ∧ ∃ t5 t6 t7 : Option V, σ = [some (.ref dd), some (.int ((1 + j : Nat) : Int)), some (.ref one), some (.ref other), some (.ref both), t5, t6, t7, none, none, none]) ⟨b14, hd14, t5, t6, none, rfl⟩ (fun i σ H' hi I => ?_) (fun σ H' I => ?_)
      · obtain ⟨c1, e1, t5, t6, t7, rfl⟩ := I
        refine ⟨_, rfl, _, rfl, _, rfl, dd, 1 + j, 3, rfl, e1, by omega, by decide, fun H15 p3 d3 b15 hd15 np3 hp3 hl3 hs3 => ?_⟩
        have c2 := c1.trans b15
        obtain ⟨dxu, fsu, iu, fu⟩ := (kOth _ c2).op
        refine ⟨_, rfl, other, dxu, fsu, rfl, iu, other, 1 + j, d2, a2, rfl, kOth _ c2, fun tq htq => ?_⟩
        obtain ⟨k3, m1, m2, m3⟩ := hp3
        obtain ⟨kq, w1, w2, w3⟩ := htq
        have lk3 : k3.length ≤ 3 := by rw [← m3, List.length_map] at hl3; exact hl3
        have lkq : kq.length ≤ 5 := by rw [← w3, List.length_map] at hl2; exact hl2
        refine ⟨tq, _, rfl, .inr (SqT.of w1), fun lq nlq => ?_⟩
        have z1 := sm_new (o := .lst (refs kq)) nlq
        refine ⟨p3, lq, _, _, rfl, rfl, z1 _ _ m1, upd_same, by rw [refs_len, refs_len]; exact Nat.le_of_lt (sz (by omega)), fun pc npc => ?_⟩
        have z2 := sm_new (o := .lst (refs k3 ++ refs kq)) npc
        refine ⟨_, rfl, by show 3 ≤ sizeLine; decide, fun tc ntc => ⟨by show 1 ≤ sizeLine; decide, fun lc nlc => ?_⟩⟩
        have z3 := sm_new (o := .tup [.int 0, .int (-1), .int 0]) ntc
        have z4 := sm_new (o := .lst [.ref tc]) nlc
        refine ⟨pc, lc, _, _, rfl, rfl, z4 _ _ (z3 _ _ upd_same), upd_same, by rw [List.length_append, refs_len, refs_len]; exact Nat.le_of_lt (sz (by show k3.length + kq.length + 1 ≤ _; omega)), fun pf npf => ?_⟩
        have z5 := sm_new (o := .lst (refs k3 ++ refs kq ++ [.ref tc])) npf
        have z15 := (((z1.trans z2).trans z3).trans z4).trans z5
        have ek : refs k3 ++ refs kq ++ [V.ref tc] = refs (k3 ++ kq ++ [(tc, ((0 : Int), (-1 : Int), (0 : Int)))]) := by rw [← refs_app, ← refs_app] <;> rfl
        have hpfd : pf ≠ dd := fun e => by
          obtain ⟨l, hl⟩ := hd15.lst
          rw [e, (((z1.trans z2).trans z3).trans z4) _ _ hl] at npf
          cases npf
        refine ⟨dd, pf, _, rfl, hd15.same z15, hpfd, upd_same, by rw [ek]; simp [refs], by rw [ek, refs_len, List.length_append, List.length_append]; show k3.length + kq.length + 1 ≤ _; omega, fun H16 jv v b16 hd16 hv => ?_⟩
        rw [ek] at hv
        obtain ⟨pv', hpv, rfl⟩ := refs_get hv
        have hmem := List.mem_of_getElem? hpv
        have c3 := (c2.trans (toBar dd z15)).trans b16
        have hd15' := hd15.same z15
        have hboth3 : IsD3 H16 (.ref pv'.1) pv'.2 ∧ Sm (1 + j) pv'.2 := by
          rcases List.mem_append.mp hmem with hm | hm
          · rcases List.mem_append.mp hm with hm | hm
            · refine ⟨?_, hs3 _ (by rw [← m3]; exact List.mem_map.mpr ⟨_, hm, rfl⟩)⟩
              obtain ⟨l, hl⟩ := hd15'.lst
              exact IsD3.barL hl b16 ⟨_, rfl, z15 _ _ (m2 _ hm)⟩
            · refine ⟨?_, hs2 _ (by rw [← w3]; exact List.mem_map.mpr ⟨_, hm, rfl⟩)⟩
              obtain ⟨l, hl⟩ := hd15'.lst
              exact IsD3.barL hl b16 ⟨_, rfl, z15 _ _ (w2 _ hm)⟩
          · cases List.mem_singleton.mp hm
            refine ⟨?_, ?_⟩
            · obtain ⟨l, hl⟩ := hd15'.lst
              exact IsD3.barL hl b16 ⟨_, rfl, z5 _ _ (z4 _ _ upd_same)⟩
            · unfold Sm Betw IsPt
              dsimp only
              omega
        refine ⟨_, rfl, _, rfl, _, rfl, _, one, _, 1 + j, d1, a1, pv'.2, rfl, kOne _ c3, hboth3.1, (sm_ok hboth3.2).1, (sm_ok hboth3.2).2, by omega, fun H17 s17 => ⟨true, rfl, ?_⟩⟩
        have c4 := c3.trans (toBar dd s17)
        have hd17 := hd16.same s17
        refine ⟨_, rfl, _, rfl, _, rfl, _, rfl, dd, ((1 + j : Nat) : Int), rfl, hd17, by omega, by omega, fun H18 r b18 hd18 r0 r1 => ?_⟩
        have c5 := c4.trans b18
        exact ⟨dd, one, r, 1 + j, d1, a1, rfl, hd18, kOne _ c5, r0, r1, by omega, fun H19 b19 hd19 => ⟨true, rfl, c5.trans b19, hd19, _, _, _, rfl⟩⟩
      · obtain ⟨c1, e1, t5, t6, t7, rfl⟩ := I
        have gO := kOne _ c1
        have gT := kOth _ c1
        obtain ⟨dxo, fso, io, fo⟩ := gO.op
        obtain ⟨dxt, fst, it, ft⟩ := gT.op
        have hal1 := gO.pl.al
        have hal2 := gT.pl.al
        refine ⟨_, rfl, other, dxt, fst, rfl, it, other, 1 + j, d2, a2, rfl, gT, fun tt htt => ?_⟩
        obtain ⟨kt, y1, y2, y3⟩ := htt
        refine ⟨tt, rfl, ⟨_, SqT.of y1⟩, fun D1 nD1 => ?_⟩
        refine lcF (ks := kt) (fun H6 => Same H' H6) (Impl a1) (sm_new nD1) (fun H6 l s => same_upd s nD1) (fun H6 s => ⟨s _ _ y1, y2.same s⟩) (by rw [← y3, List.length_map] at hal2; exact hal2) (fun i p H6 l Fin No hp s8 hD fin no => ?_) (fun H6 kr s8 hD hTr hiff => ?_)
        · refine ⟨rfl, ?_⟩
          have hm := List.mem_of_getElem? hp
          have hpa : p.2 ∈ a2 := by rw [← y3]; exact List.mem_map.mpr ⟨p, hm, rfl⟩
          refine ⟨_, rfl, one, dxo, fso, rfl, s8 _ _ io, fo _ (by decide +kernel), _, rfl, one, 1 + j, d1, a1, _, rfl, gO.same s8, .inr ⟨p.2, ⟨p.1, rfl, s8 _ _ (y2 p hm)⟩, gT.pl.okA _ hpa, fun H7 r s7 hr7 => ⟨r, rfl, ?_⟩⟩⟩
          cases r with
          | false => exact ⟨_, rfl, fin H7 (s8.trans s7) (s7 _ _ hD) (fun h => by cases hr7.mpr h)⟩
          | true => exact no H7 (s8.trans s7) (s7 _ _ hD) (hr7.mp rfl)
        · refine ⟨Nat.zero_le _, fun z nz => ?_⟩
          have sz1 := sm_new (o := .lst []) nz
          refine ⟨_, _, .lst (SqL.of (sz1 _ _ hD)) (dp_refs fun p hp => sz1 _ _ (hTr p hp)), .lst (SqL.of upd_same) .nil, (Pl.list (pl_d3s _)).shaped (by decide), by rfl, ?_⟩
          rw [eqv_nil]
          have hr1 : ((kr.map (·.2)).map d3).isEmpty = true ↔ ∀ e ∈ a2, Impl a1 e := by
            have h1 : ((kr.map (·.2)).map d3).isEmpty = true ↔ kr = [] := by cases kr <;> simp
            rw [h1, hiff, ← y3]
            constructor
            · intro h e he
              obtain ⟨p, hp, rfl⟩ := List.mem_map.mp he
              exact h p hp
            · intro h p hp
              exact h p.2 (List.mem_map.mpr ⟨p, hp, rfl⟩)
          generalize ((kr.map (·.2)).map d3).isEmpty = r1 at hr1
          refine ⟨by show 1 ≤ sizeLine; decide, fun two ntwo => ?_⟩
          have sA := s8.trans sz1
          have sB := sA.trans (sm_new (o := .lst [.bl r1]) ntwo)
          have ntwo' := sA.free ntwo
          refine ⟨_, rfl, .inl ⟨rfl, _, SqL.of upd_same⟩, ?_⟩
          refine ⟨_, rfl, one, dxo, fso, rfl, sB _ _ io, one, 1 + j, d1, a1, rfl, gO.same sB, fun to hto => ?_⟩
          obtain ⟨ko, v1, v2, v3⟩ := hto
          refine ⟨to, rfl, ⟨_, SqT.of v1⟩, fun D2 nD2 => ?_⟩
          refine lcF (ks := ko) (fun H6' => Same (upd (upd H6 z (.lst [])) two (.lst [.bl r1])) H6') (Impl a2) (sm_new nD2) (fun H6 l s => same_upd s nD2) (fun H6 s => ⟨s _ _ v1, v2.same s⟩) (by rw [← v3, List.length_map] at hal1; exact hal1) (fun i p H6' l Fin No hp s8' hD' fin no => ?_) (fun H9 kr2 s9 hD2 hTr2 hiff2 => ?_)
          · refine ⟨rfl, ?_⟩
            have hm := List.mem_of_getElem? hp
            have hpa : p.2 ∈ a1 := by rw [← v3]; exact List.mem_map.mpr ⟨p, hm, rfl⟩
            refine ⟨_, rfl, other, dxt, fst, rfl, (sB.trans s8') _ _ it, ft _ (by decide +kernel), _, rfl, other, 1 + j, d2, a2, _, rfl, gT.same (sB.trans s8'), .inr ⟨p.2, ⟨p.1, rfl, s8' _ _ (v2 p hm)⟩, gO.pl.okA _ hpa, fun H7 r s7 hr7 => ⟨r, rfl, ?_⟩⟩⟩
            cases r with
            | false => exact ⟨_, rfl, fin H7 (s8'.trans s7) (s7 _ _ hD') (fun h => by cases hr7.mpr h)⟩
            | true => exact no H7 (s8'.trans s7) (s7 _ _ hD') (hr7.mp rfl)
          · refine ⟨Nat.zero_le _, fun z2 nz2 => ?_⟩
            have sz2 := sm_new (o := .lst []) nz2
            refine ⟨_, _, .lst (SqL.of (sz2 _ _ hD2)) (dp_refs fun p hp => sz2 _ _ (hTr2 p hp)), .lst (SqL.of upd_same) .nil, (Pl.list (pl_d3s _)).shaped (by decide), by rfl, ?_⟩
            rw [eqv_nil]
            have hr2 : ((kr2.map (·.2)).map d3).isEmpty = true ↔ ∀ e ∈ a1, Impl a2 e := by
              have h1 : ((kr2.map (·.2)).map d3).isEmpty = true ↔ kr2 = [] := by cases kr2 <;> simp
              rw [h1, hiff2, ← v3]
              constructor
              · intro h e he
                obtain ⟨p, hp, rfl⟩ := List.mem_map.mp he
                exact h p hp
              · intro h p hp
                exact h p.2 (List.mem_map.mpr ⟨p, hp, rfl⟩)
            generalize ((kr2.map (·.2)).map d3).isEmpty = r2 at hr2
            have sC := s9.trans sz2
            refine ⟨two, _, _, rfl, rfl, sC _ _ upd_same, by show 1 < sizeLine; decide, ?_⟩
            have sD : Same H' (upd (upd H9 z2 (.lst [])) two (.lst ([.bl r1] ++ [.bl r2]))) := same_upd (sB.trans sC) ntwo'
            refine ⟨_, rfl, one, dxo, fso, rfl, sD _ _ io, fo _ (by decide +kernel), _, rfl, one, 1 + j, d1, a1, _, rfl, gO.same sD, .inr ⟨other, d2, a2, rfl, gT.same sD, fun H10 r s10 hr => ?_⟩⟩
            refine ⟨_, rfl, by show 2 ≤ sizeLine; decide, fun z3 nz3 => ?_⟩
            have sz3 := sm_new (o := .lst [.bl true, .bl true]) nz3
            have plb : ∀ x y : Bool, Pl 1 (.list [.bool x, .bool y]) := fun x y => .list fun d hd => by
              simp only [List.mem_cons, List.not_mem_nil, or_false] at hd
              rcases hd with rfl | rfl <;> exact .bool _
            have er : r = (r1 && r2) := bool_eq hr (by rw [Bool.and_eq_true, hr1, hr2]) alike_iff
            refine ⟨_, _, .lst (SqL.of (sz3 _ _ (s10 _ _ upd_same))) (.cons (.bl r1) (.cons (.bl r2) .nil)), .lst (SqL.of upd_same) (.cons (.bl true) (.cons (.bl true) .nil)), (plb _ _).shaped (by decide), (plb _ _).shaped (by decide), ?_⟩
            have eb : (PyData.list [.bool r1, .bool r2]).eqv (.list [.bool true, .bool true]) = (r1 && r2) := by cases r1 <;> cases r2 <;> rfl
            rw [eb, ← er]
            refine ⟨rfl, false, (by show V.bl (!decide (V.bl r = V.bl r)) = V.bl false; rw [decide_eq_true rfl]; rfl), ?_⟩
            have sE := (sD.trans s10).trans sz3
            refine ⟨_, rfl, one, dxo, fso, rfl, sE _ _ io, fo _ (by decide +kernel), ?_⟩
            refine ⟨_, rfl, one, dxo, fso, rfl, sE _ _ io, fo _ (by decide +kernel), _, rfl, one, one, 1 + j, d1, a1, d1, a1, rfl, gO.same sE, gO.same sE, by omega, by omega, fun H11 oo aoo s11 hoo => ?_⟩
            have sF := sE.trans s11
            refine ⟨one, 1 + j, d1, a1, _, rfl, gO.same sF, .inr ⟨oo, _, aoo, rfl, hoo, fun H12 rs s12 hrs => ?_⟩⟩
            cases hrs.mpr (uni_self u1 hoo.pl.uni)
            refine ⟨true, true, rfl, rfl, false, rfl, ?_⟩
            have sG := sF.trans s12
            refine ⟨Nat.zero_le _, fun w0 nw0 => ⟨by show 2 ≤ sizeLine; decide, fun w1 nw1 => ⟨_, rfl, by show 3 ≤ sizeLine; decide, fun w2 nw2 => ⟨_, rfl, by show 3 ≤ sizeLine; decide, fun w3 nw3 => ⟨_, rfl, by show 3 ≤ sizeLine; decide, fun w4 nw4 =>
              ⟨by show 3 ≤ sizeLine; decide, fun w5 nw5 => ⟨by show 3 ≤ sizeLine; decide, fun w6 nw6 => ⟨by show 9 ≤ sizeLine; decide, fun od nod => ?_⟩⟩⟩⟩⟩⟩⟩⟩
            have x0 := sm_new (o := .tup []) nw0
            have x1 := sm_new (o := .tup [.int 0, .int 1]) nw1
            have x2 := sm_new (o := .tup [.int ((1 + j : Nat) : Int), .int 0, .int 0]) nw2
            have x3 := sm_new (o := .tup [.int 0, .int ((1 + j : Nat) : Int), .int 0]) nw3
            have x4 := sm_new (o := .tup [.int 0, .int (-1), .int 200]) nw4
            have x5 := sm_new (o := .tup [.bl true, .int 0, .int 0]) nw5
            have x6 := sm_new (o := .lst [.int 0, .int 0, .int 0]) nw6
            have x7 := sm_new (o := .lst [.non, .int 0, .ref w0, .ref w1, .ref w2, .ref w3, .ref w4, .ref w5, .ref w6]) nod
            have y67 := x6.trans x7
            have y57 := x5.trans y67
            have y47 := x4.trans y57
            have y37 := x3.trans y47
            have y27 := x2.trans y37
            have y17 := x1.trans y27
            have sH := sG.trans (x0.trans y17)
            have odd : ∀ Hq : Hp, Hq w0 = some (.tup []) → Hq w1 = some (.tup [.int 0, .int 1]) → Hq w2 = some (.tup [.int ((1 + j : Nat) : Int), .int 0, .int 0]) → Hq w3 = some (.tup [.int 0, .int ((1 + j : Nat) : Int), .int 0]) → Hq w4 = some (.tup [.int 0, .int (-1), .int 200]) → Hq w5 = some (.tup [.bl true, .int 0, .int 0]) →
                Hq w6 = some (.lst [.int 0, .int 0, .int 0]) → ∀ x ∈ [V.non, .int 0, .ref w0, .ref w1, .ref w2, .ref w3, .ref w4, .ref w5, .ref w6], BetV Hq x (1 + j) false := fun Hq z0 z1 z2 z3 z4 z5 z6 x hx => by
              simp only [List.mem_cons, List.not_mem_nil, or_false] at hx
              rcases hx with rfl | rfl | rfl | rfl | rfl | rfl | rfl | rfl | rfl
              · exact .inl ⟨.inl rfl, rfl⟩
              · exact .inl ⟨.inr (.inl ⟨0, rfl⟩), rfl⟩
              · exact .inr ⟨w0, _, rfl, z0, fun y hy => (by cases hy), by decide, rfl⟩
              · exact .inr ⟨w1, _, rfl, z1, fun y hy => (by simp only [List.mem_cons, List.not_mem_nil, or_false] at hy; rcases hy with rfl | rfl <;> exact .int _), by show 2 ≤ 3; decide, rfl⟩
              · refine .inr ⟨w2, _, rfl, z2, fun y hy => (by simp only [List.mem_cons, List.not_mem_nil, or_false] at hy; rcases hy with rfl | rfl | rfl <;> exact .int _), by show 3 ≤ 3; decide, ?_⟩
                show false = (isDem [.int ((1 + j : Nat) : Int), .int 0, .int 0] && (decide (((1 + j : Nat) : Int) < ((1 + j : Nat) : Int)) && decide ((0 : Int) < ((1 + j : Nat) : Int))))
                rw [decide_eq_false (by omega), Bool.false_and, Bool.and_false]
              · refine .inr ⟨w3, _, rfl, z3, fun y hy => (by simp only [List.mem_cons, List.not_mem_nil, or_false] at hy; rcases hy with rfl | rfl | rfl <;> exact .int _), by show 3 ≤ 3; decide, ?_⟩
                show false = (isDem [.int 0, .int ((1 + j : Nat) : Int), .int 0] && (decide ((0 : Int) < ((1 + j : Nat) : Int)) && decide (((1 + j : Nat) : Int) < ((1 + j : Nat) : Int))))
                rw [decide_eq_false (p := ((1 + j : Nat) : Int) < ((1 + j : Nat) : Int)) (by omega), Bool.and_false, Bool.and_false]
              · refine .inr ⟨w4, _, rfl, z4, fun y hy => (by simp only [List.mem_cons, List.not_mem_nil, or_false] at hy; rcases hy with rfl | rfl | rfl <;> exact .int _), by show 3 ≤ 3; decide, ?_⟩
                show false = (isDem [.int 0, .int (-1), .int 200] && (decide ((0 : Int) < ((1 + j : Nat) : Int)) && decide ((-1 : Int) < ((1 + j : Nat) : Int))))
                rw [show isDem [.int 0, .int (-1), .int 200] = false by rfl, Bool.false_and]
              · exact .inr ⟨w5, _, rfl, z5, fun y hy => (by simp only [List.mem_cons, List.not_mem_nil, or_false] at hy; rcases hy with rfl | rfl | rfl <;> first | exact .int _ | exact .bl _), by show 3 ≤ 3; decide, rfl⟩
              · exact .inl ⟨.inr (.inr ⟨w6, _, rfl, z6⟩), rfl⟩
            refine ⟨_, rfl, od, rfl, ⟨_, SqL.of upd_same⟩, fun D3 nD3 => ?_⟩
            refine lc_list (xs := [V.non, .int 0, .ref w0, .ref w1, .ref w2, .ref w3, .ref w4, .ref w5, .ref w6]) (fun i H6 => Same _ H6 ∧ H6 D3 = some (.lst [])) ⟨sm_new nD3, upd_same⟩ (fun i H6 _ h => SqL.of (h.1 _ _ upd_same)) (fun i x H6 hx h => ?_) (fun H6 h => ?_)
            · refine ⟨rfl, ?_⟩
              have bx := (odd _ (y17 _ _ upd_same) (y27 _ _ upd_same) (y37 _ _ upd_same) (y47 _ _ upd_same) (y57 _ _ upd_same) (y67 _ _ upd_same) (x7 _ _ upd_same) x (List.mem_of_getElem? hx)).same h.1
              refine ⟨_, rfl, one, dxo, fso, rfl, (sH.trans h.1) _ _ io, fo _ (by decide +kernel), _, rfl, one, 1 + j, d1, a1, x, rfl, gO.same (sH.trans h.1), .inl ⟨bx, fun H7 s7 => ?_⟩⟩
              exact ⟨false, false, rfl, rfl, false, rfl, h.1.trans s7, s7 _ _ h.2⟩
            · refine ⟨Nat.zero_le _, fun z9 nz9 => ?_⟩
              have sz9 := sm_new (o := .lst []) nz9
              refine ⟨_, _, .lst (SqL.of (sz9 _ _ h.2)) .nil, .lst (SqL.of upd_same) .nil, by rfl, by rfl, ?_⟩
              exact q _ (b08.trans (c1.trans (toBar dd ((sH.trans h.1).trans sz9))))
end
end K43

/-! The law. -/
namespace K43
open PySem PySem.Spec PyProof.Rows L2
open C8 (Cal Met Mak pe_c pe_mk pe_mt pe_mt0 pe_gc InsC call_isC)

def spLaw (K : PySem.W.Frag) : Sp := fun vs H Q _ => ∃ (a : Addr) (ns : List Int), vs = [.ref a] ∧ SqL K H a (ns.map V.int) ∧ ns.length ≤ 63 ∧ ∀ H', Q (.bl true) H'
theorem scLaw : FnScope ["_law_script", "_law_spot"] ["_law_script"] (defScope sLaw) := ⟨rfl, rfl, rfl, by decide +kernel, rfl, by decide +kernel, by decide +kernel⟩
section
variable {P : Program} {w : World} {K : PySem.W.Frag} {mg : Str → Option Value}
theorem law_ok (T : Fx K mg) : ∃ fd : FuncData, (∀ (s : Shared) (v : Value), BindsTo s fd ⟨[v], []⟩ [("_law_script", v)]) ∧ ∀ base : Heap, FnOkG P w K mg base CX0 11 (He.ga K "law") fd ["_law_script"] (spLaw K) := by
  obtain ⟨fd, F⟩ := T.fn 38 _ rfl
  have F' : FunD K "law" "law" (defArgs sLaw) (defBody sLaw) (defScope sLaw) [] [] (He.ga K "law") fd := F
  have b := FunD.bindsA (ps := ["_law_script"]) F' fun _ _ _ _ _ _ us hl => match us, hl with | [_], _ => rfl
  refine ⟨fd, fun s v => b s [v] rfl, fun base => FnOkG.of F' scLaw (fun vs H Q E h => ?_) (fun cdv A outer s H vs Q E hgd hr h => ?_)⟩
  · obtain ⟨a, ns, rfl, _⟩ := h
    rfl
  · obtain ⟨a, ns, rfl, ha, hl, q⟩ := h
    suffices g : ∃ tt, PSs (cxOf CX0 P w K mg base ["_law_script", "_law_spot"] "law" (defScope sLaw) (He.ga K "law") cdv A outer s H E).nox (defBody sLaw) tt ∧ tt { nx := fun _ H' => Q .non H', rt := Q } (L2.start ["_law_script", "_law_spot"] [V.ref a]) H from g.elim fun t h => ⟨t, h.1.nox, h.2⟩
    refine ⟨_, pss_cons (ps_for PassesOwn.never rfl (pi_range1 (by rfl) (T.bl "range" (by decide +kernel)) (pa_cons (pe_callB (call_max2 rfl) (by rfl) (T.bl "max" (by decide +kernel)) (by decide +kernel) (pa_cons pe_int (pa_cons (pe_callB (call_min2 rfl) (by rfl) (T.bl "min" (by decide +kernel)) (by decide +kernel) (pa_cons pe_int (pa_cons (pe_callB call_len (by rfl) (T.bl "len" (by decide +kernel)) (by decide +kernel) (pa_cons (pv 0) pa_nil)) pa_nil))) pa_nil))) pa_nil)) (pg_name (i := 1) scLaw.nd rfl (.inl rfl))
        (pss_one (ps_if (pt_not (pt_val (pe_cG (c_right T) hgd hr (by decide) (by rfl) (pa_cons (pe_c (c_dice T) hr (by decide) (by rfl) (pa_cons (pv 0) (pa_cons (pv 1) pa_nil))) pa_nil)))) (pss_one (ps_ret pe_bl)) pss_nil)))
      (pss_one (ps_ret pe_bl)), ?_⟩
    refine ⟨_, rfl, _, _, rfl, .inl ⟨_, ha, rfl⟩, _, _, rfl, _, _, rfl, ?_⟩
    generalize hm : (if (if ((List.map V.int ns).length : Int) < 8 then ((List.map V.int ns).length : Int) else 8) > 1 then (if ((List.map V.int ns).length : Int) < 8 then ((List.map V.int ns).length : Int) else 8) else 1) = m
    have m0 : 0 ≤ m ∧ m ≤ 8 := by
      rw [← hm]
      constructor
      · split <;> (try split) <;> omega
      · split <;> (try split) <;> omega
    refine ⟨m, rfl, by omega, by omega, ?_⟩
    refine for_range (lo := 0) (n := m.toNat) (fun i σ H' => Same H H' ∧ ∃ t1 : Option V, σ = [some (.ref a), t1]) ⟨fun _ _ h => h, none, rfl⟩ (fun i σ H' hi I => ?_) (fun σ H' I => ?_)
    · obtain ⟨s1, t1, rfl⟩ := I
      refine ⟨_, rfl, _, rfl, a, _, ns, rfl, s1.seq ha, by omega, by omega, by omega, fun H1 d s2 nd hd => ?_⟩
      refine ⟨d, rfl, hd, fun H2 b2 => ⟨true, rfl, fun c u e => ?_, _, rfl⟩⟩
      exact b2 c u (s2 _ _ (s1 _ _ e)) (ne_of_none (s1 _ _ e) nd)
    · exact q H'
end
end K43

open PySem PySem.W PySem.Calls PyProof.Rows
theorem PySem.Challenge.cw_offside_k43_whole_systems_put_together_holds : PySem.Challenge.rw_offside_k43_whole_systems_put_together.Holds := by
  w_on; o_law
  refine HandSHeadRun.head_any (r := K43.R) (q := view (K43.R).prog [45]) (H := K43.hk) (ob := K43.ob) (M := 5000) (loose := K43.lse) (d := HandSHeadRun.topDef (K43.R).prog 45) (kwd := []) K43.ob_eq
    (by kernel_rfl) (fun s => by kernel_rfl) K43.run (by kernel_rfl) (by kernel_rfl) (by kernel_rfl) (by rfl) (by first | assumption | decide +kernel) (by decide +kernel) ⟨rfl, rfl, rfl, rfl, rfl, by decide +kernel⟩ ?hw ?hc
  case hw => w_witness2
  case hc =>
    refine K43.walk_G (l := PySem.Challenge.rw_offside_k43_whole_systems_put_together) (n := 63) (k := 11) (x := "_law_script") rfl (by decide) (by kernel_rfl) ⟨rfl, by decide, by decide⟩ ?F
    intro w mg fa h Y G hmg0
    obtain ⟨K, KX, c, o⟩ := Y
    have hmg : mg ("law" : PySem.Str) = some (.ref fa) := by
      have e : (HandSHeadRun.topDef (K43.R).prog 45).name = ("law" : PySem.Str) := by kernel_rfl
      rw [← e]
      exact hmg0
    have T : K43.Fx K mg := K43.fx_of KX G c o
    have e := hmg.symm.trans (T.gl "law" (by decide +kernel))
    cases e
    obtain ⟨fd, hb, hF⟩ := K43.law_ok (P := (PySem.Challenge.rw_offside_k43_whole_systems_put_together).prog) (w := w) T
    exact ⟨K, fd, K43.spLaw K, KX, hb, fun H a ns hl hS => ⟨a, ns, rfl, hS, hl, fun _ => rfl⟩, fun base _ _ => hF base⟩
